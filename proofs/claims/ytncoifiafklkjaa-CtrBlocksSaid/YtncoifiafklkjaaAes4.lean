import Derived.Test.YtncoifiafklkjaaFx
import Derived.Test.YtncoifiafklkjaaSxL
import Derived.Test.YtncoifiafklkjaaAes3
namespace Go.Proofs.Ytncoifiafklkjaa
open Go Go.Sx
set_option linter.unusedVariables false
set_option linter.unusedSimpArgs false
set_option maxRecDepth 100000

theorem wsIn_len (ws : List UInt8) (i : Nat) (w : List UInt8) : ∀ j, (wsIn ws i w j).length = ws.length
  | 0 => rfl
  | j + 1 => by simp [wsIn, wsIn_len ws i w j]
theorem wsN_len (key : List UInt8) (hk : key.length = 16) : ∀ i, (wsN key i).2.length = 176
  | 0 => zr8_len 176
  | i + 1 => by
    have h := wsN_len key hk i
    rw [wsN]; unfold wsStep
    split
    · show (spl _ _ _).length = _
      rw [spl_len]; exact h
      rw [mid_len (by omega), h]; omega
    · dsimp only; split <;> simp [wsIn_len, h]
theorem ksN_len (ws : List UInt8) (h : ws.length = 176) : ∀ j, j ≤ 44 → (ksN ws j).length = 176
  | 0, _ => zr8_len 176
  | j + 1, hj => by
    have h1 := ksN_len ws h j (by omega)
    rw [ksN, spl_len]; exact h1
    rw [mid_len (by omega), h1]; omega
theorem rkL_len (key : List UInt8) (hk : key.length = 16) : (rkL key).length = 176 := ksN_len _ (wsN_len key hk 44) 44 (by omega)
def addN (a b : List UInt8) : Nat → List UInt8
  | 0 => a
  | k + 1 => (addN a b k).set k (g8 (addN a b k) k ^^^ g8 b k)
def addL (a b : List UInt8) : List UInt8 := addN a b 16
theorem addN_len (a b : List UInt8) : ∀ k, (addN a b k).length = a.length
  | 0 => rfl
  | k + 1 => by simp [addN, addN_len a b k]
theorem addL_len {a b : List UInt8} (h : a.length = 16) : (addL a b).length = 16 := by rw [addL, addN_len, h]
def sh1N (tb b : List UInt8) : Nat → List UInt8
  | 0 => zr8 16
  | k + 1 => (sh1N tb b k).set k (g8 tb (g8 b (4*((k % 4 + k / 4) % 4) + k % 4)).toNat)
def sh1L (tb b : List UInt8) : List UInt8 := sh1N tb b 16
theorem sh1N_len (tb b : List UInt8) : ∀ k, (sh1N tb b k).length = 16
  | 0 => zr8_len 16
  | k + 1 => by simp [sh1N, sh1N_len tb b k]
theorem sh1L_len (tb b : List UInt8) : (sh1L tb b).length = 16 := sh1N_len tb b 16
def sh3N (tb b : List UInt8) : Nat → List UInt8
  | 0 => zr8 16
  | k + 1 => (sh3N tb b k).set k (g8 tb (g8 b (4*((3*(k % 4) + k / 4) % 4) + k % 4)).toNat)
def sh3L (tb b : List UInt8) : List UInt8 := sh3N tb b 16
theorem sh3N_len (tb b : List UInt8) : ∀ k, (sh3N tb b k).length = 16
  | 0 => zr8_len 16
  | k + 1 => by simp [sh3N, sh3N_len tb b k]
theorem sh3L_len (tb b : List UInt8) : (sh3L tb b).length = 16 := sh3N_len tb b 16
def mixIn (b by_ o : List UInt8) (i : Nat) : Nat → List UInt8
  | 0 => o
  | j + 1 => (mixIn b by_ o i j).set i (g8 (mixIn b by_ o i j) i ^^^ gmul (g8 by_ j) (g8 b ((j + i % 4) % 4 + 4*(i / 4))))
def mixN (b by_ : List UInt8) : Nat → List UInt8
  | 0 => zr8 16
  | i + 1 => mixIn b by_ (mixN b by_ i) i 4
def mixL (b by_ : List UInt8) : List UInt8 := mixN b by_ 16
theorem mixIn_len (b by_ o : List UInt8) (i : Nat) : ∀ j, (mixIn b by_ o i j).length = o.length
  | 0 => rfl
  | j + 1 => by simp [mixIn, mixIn_len b by_ o i j]
theorem mixN_len (b by_ : List UInt8) : ∀ i, (mixN b by_ i).length = 16
  | 0 => zr8_len 16
  | i + 1 => by rw [mixN, mixIn_len, mixN_len b by_ i]
theorem mixL_len (b by_ : List UInt8) : (mixL b by_).length = 16 := mixN_len b by_ 16
theorem ofsome_c (c : Nat) (w : World) : Calls Try.prog 72 #[Ptr c 0] w (Post w [] (fun v L => v = Ptr c 0 ∧ L = [])) := by
  refine enter w [] 8 [] [Ptr c 0] Try.func72 rfl rfl (by simp) (Hp.start (by simp) (by simp) (by simp)) ?_
  show JC _ _ _ [(0, Ptr c 0)] _
  refine JC_seq ?_
  refine JC_region ?_
  refine JL_val _ (Ev_assign rfl) rfl ?_
  refine JL_nil ?_
  refine JQ_then ?_
  refine JC_seq ?_
  refine JC_seq ?_
  refine JC_region ?_
  refine JL_val _ (Ev_move rfl) rfl ?_
  refine JL_val (.bool false) (Ev_bin _ _ _ rfl rfl (fun _ => eqGuard_ptr ..) fun _ => eql_ptr_nil Try.underlying32) rfl ?_
  refine JL_nil ?_
  refine JQ_then ?_
  refine JC_condF _ rfl rfl ?_
  refine JC_skip ?_
  refine JQ_then ?_
  refine JC_seq ?_
  refine JC_region ?_
  refine JL_val _ (Ev_move rfl) rfl ?_
  refine JL_val _ (Ev_assign rfl) rfl ?_
  refine JL_nil ?_
  refine JQ_then ?_
  refine JC_ret ?_
  refine JQ_ret (Ptr c 0) (res1 Try.results72 (RV_tmp rfl)) fun w1 hw1 => ?_
  exact ⟨_, [], rfl, ⟨rfl, rfl⟩, hw1.sub (by simp) (by simp)⟩

theorem ofnil_c  (w : World) : Calls Try.prog 72 #[.pointer none] w (Post w [] (fun v L => ∃ nb, v = Ptr nb 0 ∧ L = [⟨nb, cu8 (rkL (zr8 16)) ++ cu8 thereL ++ cu8 backL, 106, (0, 0)⟩])) := by
  refine enter w [] 8 [] [.pointer none] Try.func72 rfl rfl (by simp) (Hp.start (by simp) (by simp) (by simp)) ?_
  show JC _ _ _ [(0, .pointer none)] _
  refine JC_seq ?_
  refine JC_region ?_
  refine JL_val _ (Ev_assign rfl) rfl ?_
  refine JL_nil ?_
  refine JQ_then ?_
  refine JC_seq ?_
  refine JC_seq ?_
  refine JC_region ?_
  refine JL_val _ (Ev_move rfl) rfl ?_
  refine JL_val (.bool true) (Ev_bin _ _ _ rfl rfl (fun _ => eqGuard_ptr ..) fun _ => eql_ptr_nil_nil Try.underlying32) rfl ?_
  refine JL_nil ?_
  refine JQ_then ?_
  refine JC_condT _ rfl rfl ?_
  refine JC_seq ?_
  refine JC_region ?_
  refine JL_val (.agg (cu8 (zr8 16)).toArray) (Ev_build [] _ rfl (fun _ => by kernel_rfl)) rfl ?_
  refine JL_step (Step_callN 22 [.agg (cu8 (zr8 16)).toArray] _ (Cl_func [.agg (cu8 (zr8 16)).toArray] Try.call22 rfl) (fun w1 hw1 => new_c (zr8 16) w1 (zr8_len 16))) rfl ?_
  rintro v1 L1 ⟨_, ⟨nb1, rfl, rfl⟩, rfl⟩
  show JL _ _ _ _ ((6, Ptr nb1 0) :: _) [⟨nb1, cu8 (rkL (zr8 16)) ++ cu8 thereL ++ cu8 backL, 106, (0, 0)⟩]
  refine JL_val _ (Ev_assign rfl) rfl ?_
  refine JL_nil ?_
  refine JQ_then ?_
  refine JC_ret ?_
  refine JQ_then_ret ?_
  refine JQ_ret (Ptr nb1 0) (res1 Try.results72 (RV_tmp rfl)) fun w1 hw1 => ?_
  exact ⟨_, _, rfl, ⟨nb1, rfl, rfl⟩, hw1⟩

theorem rkout_c (cv : Value) (i : Int) (w : World) (hi : i < 0 ∨ 10 < i) : Calls Try.prog 23 #[cv, I64 (i)] w (Post w [] (fun v L => v = .tuple #[.agg (cu8 (zr8 16)).toArray, .iface 36 (I64 1)] ∧ L = [])) := by
  refine enter w [] 21 [] [cv, I64 (i)] Try.func23 rfl rfl (by simp) (Hp.start (by simp) (by simp) (by simp)) ?_
  show JC _ _ _ [(0, cv), (1, I64 (i))] _
  refine JC_seq ?_
  refine JC_region ?_
  refine JL_step (Step_alloc _ (cu8 (zr8 16)) Try.zeroValue27 (by kernel_rfl)) rfl ?_
  rintro v1 L1 ⟨nb1, hnb1, rfl, rfl⟩
  show JL _ _ _ _ ((4, Ptr nb1 0) :: _) [⟨nb1, cu8 (zr8 16), 27, (0, 0)⟩]
  refine JL_val _ (Ev_assign rfl) rfl ?_
  refine JL_nil ?_
  refine JQ_then ?_
  refine JC_seq ?_
  refine JC_seq ?_
  refine JC_region ?_
  refine JL_val _ (Ev_move rfl) rfl ?_
  refine JL_val (.bool (decide ((i) < (0:Int)))) (Ev_bini rfl rfl fun _ => bin_lss_i _ _) rfl ?_
  refine JL_val _ (Ev_move rfl) rfl ?_
  rcases Bool.eq_false_or_eq_true (decide ((i) < (0:Int))) with hb1 | hb1
  ·
    have hp1 : (i) < (0:Int) := of_decide_eq_true hb1
    refine JL_gskip 2 8 false _ rfl rfl hb1 rfl ?_
    refine JL_gskip 2 8 false _ rfl rfl hb1 rfl ?_
    refine JL_val _ (Ev_pickT _ rfl hb1 rfl) rfl ?_
    refine JL_nil ?_
    refine JQ_then ?_
    refine JC_condT _ rfl rfl ?_
    refine JC_seq ?_
    refine JC_region ?_
    refine JL_val (.agg (cu8 (zr8 16)).toArray) (Ev_build [] _ rfl (fun _ => by kernel_rfl)) rfl ?_
    refine JL_val (.iface 36 (I64 (1:Int))) (Ev_iface Try.underlying36 rfl rfl) rfl ?_
    refine JL_step (Step_store 0 nb1 0 16 (cu8 (zr8 16)) 27 (.agg (cu8 (zr8 16)).toArray) (cu8 (zr8 16)) (cu8 (zr8 16)) rfl rfl rfl (by first | rfl | simp) Try.sizeOf27 (len_cu8 (zr8_len 16)) (by first | exact one_u8 | exact one_u32 | exact one_u64 | (simp [cu8, cu32, cu64, Value.oneCell']; done)) (by simp [(zr8_len 16)]) (lay_whole (by simp [(zr8_len 16), (zr8_len 16)]))) rfl ?_
    rintro v1 L1 ⟨rfl, rfl⟩
    show JL _ _ _ _ _ [⟨nb1, cu8 (zr8 16), 27, (0, 0)⟩]
    refine JL_val _ (Ev_assign rfl) rfl ?_
    refine JL_nil ?_
    refine JQ_then ?_
    refine JC_ret ?_
    refine JQ_then_ret ?_
    refine JQ_ret (.tuple #[.agg (cu8 (zr8 16)).toArray, .iface 36 (I64 (1:Int))]) (res2 Try.results23 (RV_cell rfl (Ld_agg Try.isAgg27 Try.sizeOf27 (len_cu8 (zr8_len 16)) (MemAt.ent 0 rfl (Seg.whole _)))) (RV_tmp rfl)) fun w1 hw1 => ?_
    exact ⟨_, [], rfl, ⟨rfl, rfl⟩, hw1.sub (by simp) (by simp)⟩
  ·
    have hp1 : ¬ ((i) < (0:Int)) := of_decide_eq_false hb1
    refine JL_gval 2 8 false _ _ rfl rfl hb1 (Ev_move rfl) rfl ?_
    refine JL_gval 2 8 false _ (.bool (decide ((10:Int) < (i)))) rfl rfl hb1 (Ev_bini rfl rfl fun _ => bin_gtr_i _ _) rfl ?_
    refine JL_val _ (Ev_pickF _ rfl hb1 rfl) rfl ?_
    refine JL_nil ?_
    refine JQ_then ?_
    refine JC_cond (decide ((10:Int) < (i))) rfl (fun hb2 => ?_) (fun hb2 => ?_)
    ·
      have hp2 : (10:Int) < (i) := of_decide_eq_true hb2
      refine JC_seq ?_
      refine JC_region ?_
      refine JL_val (.agg (cu8 (zr8 16)).toArray) (Ev_build [] _ rfl (fun _ => by kernel_rfl)) rfl ?_
      refine JL_val (.iface 36 (I64 (1:Int))) (Ev_iface Try.underlying36 rfl rfl) rfl ?_
      refine JL_step (Step_store 0 nb1 0 16 (cu8 (zr8 16)) 27 (.agg (cu8 (zr8 16)).toArray) (cu8 (zr8 16)) (cu8 (zr8 16)) rfl rfl rfl (by first | rfl | simp) Try.sizeOf27 (len_cu8 (zr8_len 16)) (by first | exact one_u8 | exact one_u32 | exact one_u64 | (simp [cu8, cu32, cu64, Value.oneCell']; done)) (by simp [(zr8_len 16)]) (lay_whole (by simp [(zr8_len 16), (zr8_len 16)]))) rfl ?_
      rintro v1 L1 ⟨rfl, rfl⟩
      show JL _ _ _ _ _ [⟨nb1, cu8 (zr8 16), 27, (0, 0)⟩]
      refine JL_val _ (Ev_assign rfl) rfl ?_
      refine JL_nil ?_
      refine JQ_then ?_
      refine JC_ret ?_
      refine JQ_then_ret ?_
      refine JQ_ret (.tuple #[.agg (cu8 (zr8 16)).toArray, .iface 36 (I64 (1:Int))]) (res2 Try.results23 (RV_cell rfl (Ld_agg Try.isAgg27 Try.sizeOf27 (len_cu8 (zr8_len 16)) (MemAt.ent 0 rfl (Seg.whole _)))) (RV_tmp rfl)) fun w1 hw1 => ?_
      exact ⟨_, [], rfl, ⟨rfl, rfl⟩, hw1.sub (by simp) (by simp)⟩
    ·
      have hp2 : ¬ ((10:Int) < (i)) := of_decide_eq_false hb2
      exfalso; omega

theorem rkin_c (c : Nat) (ks : List UInt8) (i : Nat) (w : World) (hi : i ≤ 10) (hks : ks.length = 176) (hc : w.heap[c]? = some (.cells (cu8 ks ++ cu8 thereL ++ cu8 backL).toArray 106 (0, 0))) : Calls Try.prog 23 #[Ptr c 0, I64 ((i:Int))] w (Post w [] (fun v L => v = .tuple #[.agg (cu8 (mid ks (16*i) 16)).toArray, .nilIface] ∧ L = [])) := by
  refine enter w [] 21 [] [Ptr c 0, I64 ((i:Int))] Try.func23 rfl rfl (by simp) (Hp.start (by simp) (by simp) (by simp)) ?_
  show JC _ _ _ [(0, Ptr c 0), (1, I64 ((i:Int)))] _
  refine JC_seq ?_
  refine JC_region ?_
  refine JL_step (Step_alloc _ (cu8 (zr8 16)) Try.zeroValue27 (by kernel_rfl)) rfl ?_
  rintro v1 L1 ⟨nb1, hnb1, rfl, rfl⟩
  show JL _ _ _ _ ((4, Ptr nb1 0) :: _) [⟨nb1, cu8 (zr8 16), 27, (0, 0)⟩]
  refine JL_val _ (Ev_assign rfl) rfl ?_
  refine JL_nil ?_
  refine JQ_then ?_
  refine JC_seq ?_
  refine JC_seq ?_
  refine JC_region ?_
  refine JL_val _ (Ev_move rfl) rfl ?_
  refine JL_val (.bool (decide (((i:Int)) < (0:Int)))) (Ev_bini rfl rfl fun _ => bin_lss_i _ _) rfl ?_
  refine JL_val _ (Ev_move rfl) rfl ?_
  refine JL_gval 2 8 false _ _ rfl rfl (decide_eq_false (by omega)) (Ev_move rfl) rfl ?_
  refine JL_gval 2 8 false _ (.bool (decide ((10:Int) < ((i:Int))))) rfl rfl (decide_eq_false (by omega)) (Ev_bini rfl rfl fun _ => bin_gtr_i _ _) rfl ?_
  refine JL_val _ (Ev_pickF _ rfl (decide_eq_false (by omega)) rfl) rfl ?_
  refine JL_nil ?_
  refine JQ_then ?_
  refine JC_condF _ rfl (decide_eq_false (by omega)) ?_
  refine JC_skip ?_
  refine JQ_then ?_
  refine JC_seq ?_
  refine JC_region ?_
  refine JL_val _ (Ev_move rfl) rfl ?_
  refine JL_step (Step_callP 72 [Ptr c 0] (Ptr c 0) (Cl_func [Ptr c 0] Try.call72 rfl) (fun w1 _ => ofsome_c c w1)) rfl ?_
  rintro v1 L1 ⟨rfl, rfl⟩
  show JL _ _ _ _ ((15, Ptr c 0) :: _) [⟨nb1, cu8 (zr8 16), 27, (0, 0)⟩]
  refine JL_val _ (Ev_move rfl) rfl ?_
  refine JL_val _ (Ev_nilCheck rfl) rfl ?_
  refine JL_val (Ptr c 0) (Ev_fieldAddr 0 103 176 Try.underlying106 rfl Try.sizeOf103 rfl rfl) rfl ?_
  refine JL_val (Ptr c (16*i)) (Ev_indexArr 11 27 16 (16*i) Try.underlying103 Try.sizeOf27 rfl rfl (by omega) (by omega) (by omega)) rfl ?_
  have hl1 : (mid ks (16*i) 16).length = 16 := mid_len (by rw [hks]; omega)
  refine JL_val (.agg (cu8 (mid ks (16*i) 16)).toArray) (Ev_load rfl (Ld_agg Try.isAgg27 Try.sizeOf27 (len_cu8 hl1) (MemAt.seg (MemAt.heap hc (by simp)) (Seg.left (Seg.left (segm_u8 (16*i) 16 (by rw [hks]; omega)))) (by omega)))) rfl ?_
  refine JL_step (Step_store 0 nb1 0 16 (cu8 (zr8 16)) 27 (.agg (cu8 (mid ks (16*i) 16)).toArray) (cu8 (mid ks (16*i) 16)) (cu8 (mid ks (16*i) 16)) rfl rfl rfl (by first | rfl | simp) Try.sizeOf27 (len_cu8 hl1) (by first | exact one_u8 | exact one_u32 | exact one_u64 | (simp [cu8, cu32, cu64, Value.oneCell']; done)) (by simp [(zr8_len 16)]) (lay_whole (by simp [(zr8_len 16), hl1]))) rfl ?_
  rintro v1 L1 ⟨rfl, rfl⟩
  show JL _ _ _ _ _ [⟨nb1, cu8 (mid ks (16*i) 16), 27, (0, 0)⟩]
  refine JL_val _ (Ev_assign rfl) rfl ?_
  refine JL_nil ?_
  refine JQ_then ?_
  refine JC_ret ?_
  refine JQ_ret (.tuple #[.agg (cu8 (mid ks (16*i) 16)).toArray, .nilIface]) (res2 Try.results23 (RV_cell rfl (Ld_agg Try.isAgg27 Try.sizeOf27 (len_cu8 hl1) (MemAt.ent 0 rfl (Seg.whole _)))) (RV_tmp rfl)) fun w1 hw1 => ?_
  exact ⟨_, [], rfl, ⟨rfl, rfl⟩, hw1.sub (by simp) (by simp)⟩

theorem rknil_c (i : Nat) (w : World) (hi : i ≤ 10) : Calls Try.prog 23 #[.pointer none, I64 ((i:Int))] w (Post w [] (fun v L => v = .tuple #[.agg (cu8 (mid (rkL (zr8 16)) (16*i) 16)).toArray, .nilIface] ∧ L = [])) := by
  refine enter w [] 21 [] [.pointer none, I64 ((i:Int))] Try.func23 rfl rfl (by simp) (Hp.start (by simp) (by simp) (by simp)) ?_
  show JC _ _ _ [(0, .pointer none), (1, I64 ((i:Int)))] _
  refine JC_seq ?_
  refine JC_region ?_
  refine JL_step (Step_alloc _ (cu8 (zr8 16)) Try.zeroValue27 (by kernel_rfl)) rfl ?_
  rintro v1 L1 ⟨nb1, hnb1, rfl, rfl⟩
  show JL _ _ _ _ ((4, Ptr nb1 0) :: _) [⟨nb1, cu8 (zr8 16), 27, (0, 0)⟩]
  refine JL_val _ (Ev_assign rfl) rfl ?_
  refine JL_nil ?_
  refine JQ_then ?_
  refine JC_seq ?_
  refine JC_seq ?_
  refine JC_region ?_
  refine JL_val _ (Ev_move rfl) rfl ?_
  refine JL_val (.bool (decide (((i:Int)) < (0:Int)))) (Ev_bini rfl rfl fun _ => bin_lss_i _ _) rfl ?_
  refine JL_val _ (Ev_move rfl) rfl ?_
  refine JL_gval 2 8 false _ _ rfl rfl (decide_eq_false (by omega)) (Ev_move rfl) rfl ?_
  refine JL_gval 2 8 false _ (.bool (decide ((10:Int) < ((i:Int))))) rfl rfl (decide_eq_false (by omega)) (Ev_bini rfl rfl fun _ => bin_gtr_i _ _) rfl ?_
  refine JL_val _ (Ev_pickF _ rfl (decide_eq_false (by omega)) rfl) rfl ?_
  refine JL_nil ?_
  refine JQ_then ?_
  refine JC_condF _ rfl (decide_eq_false (by omega)) ?_
  refine JC_skip ?_
  refine JQ_then ?_
  refine JC_seq ?_
  refine JC_region ?_
  refine JL_val _ (Ev_move rfl) rfl ?_
  refine JL_step (Step_callN 72 [.pointer none] _ (Cl_func [.pointer none] Try.call72 rfl) (fun w1 hw1 => ofnil_c w1)) rfl ?_
  rintro v1 L1 ⟨_, ⟨nb2, rfl, rfl⟩, rfl⟩
  show JL _ _ _ _ ((15, Ptr nb2 0) :: _) [⟨nb1, cu8 (zr8 16), 27, (0, 0)⟩, ⟨nb2, cu8 (rkL (zr8 16)) ++ cu8 thereL ++ cu8 backL, 106, (0, 0)⟩]
  refine JL_val _ (Ev_move rfl) rfl ?_
  refine JL_val _ (Ev_nilCheck rfl) rfl ?_
  refine JL_val (Ptr nb2 0) (Ev_fieldAddr 0 103 176 Try.underlying106 rfl Try.sizeOf103 rfl rfl) rfl ?_
  refine JL_val (Ptr nb2 (16*i)) (Ev_indexArr 11 27 16 (16*i) Try.underlying103 Try.sizeOf27 rfl rfl (by omega) (by omega) (by omega)) rfl ?_
  have hl1 : (mid (rkL (zr8 16)) (16*i) 16).length = 16 := mid_len (by rw [(rkL_len (zr8 16) (zr8_len 16))]; omega)
  refine JL_val (.agg (cu8 (mid (rkL (zr8 16)) (16*i) 16)).toArray) (Ev_load rfl (Ld_agg Try.isAgg27 Try.sizeOf27 (len_cu8 hl1) (MemAt.ent 1 rfl (Seg.left (Seg.left (segm_u8 (16*i) 16 (by rw [(rkL_len (zr8 16) (zr8_len 16))]; omega))))))) rfl ?_
  refine JL_step (Step_store 0 nb1 0 16 (cu8 (zr8 16)) 27 (.agg (cu8 (mid (rkL (zr8 16)) (16*i) 16)).toArray) (cu8 (mid (rkL (zr8 16)) (16*i) 16)) (cu8 (mid (rkL (zr8 16)) (16*i) 16)) rfl rfl rfl (by first | rfl | simp) Try.sizeOf27 (len_cu8 hl1) (by first | exact one_u8 | exact one_u32 | exact one_u64 | (simp [cu8, cu32, cu64, Value.oneCell']; done)) (by simp [(zr8_len 16)]) (lay_whole (by simp [(zr8_len 16), hl1]))) rfl ?_
  rintro v1 L1 ⟨rfl, rfl⟩
  show JL _ _ _ _ _ [⟨nb1, cu8 (mid (rkL (zr8 16)) (16*i) 16), 27, (0, 0)⟩, ⟨nb2, cu8 (rkL (zr8 16)) ++ cu8 thereL ++ cu8 backL, 106, (0, 0)⟩]
  refine JL_val _ (Ev_assign rfl) rfl ?_
  refine JL_nil ?_
  refine JQ_then ?_
  refine JC_ret ?_
  refine JQ_ret (.tuple #[.agg (cu8 (mid (rkL (zr8 16)) (16*i) 16)).toArray, .nilIface]) (res2 Try.results23 (RV_cell rfl (Ld_agg Try.isAgg27 Try.sizeOf27 (len_cu8 hl1) (MemAt.ent 0 rfl (Seg.whole _)))) (RV_tmp rfl)) fun w1 hw1 => ?_
  exact ⟨_, [], rfl, ⟨rfl, rfl⟩, hw1.sub (by simp) (by simp)⟩

theorem added_c (a b : List UInt8) (w : World) (ha : a.length = 16) (hb : b.length = 16) : Calls Try.prog 73 #[.agg (cu8 a).toArray, .agg (cu8 b).toArray] w (Post w [] (fun v L => v = .agg (cu8 (addL a b)).toArray ∧ L = [])) := by
  refine enter w [] 19 [] [.agg (cu8 a).toArray, .agg (cu8 b).toArray] Try.func73 rfl rfl (by simp) (Hp.start (by simp) (by simp) (by simp)) ?_
  show JC _ _ _ [(0, .agg (cu8 a).toArray), (1, .agg (cu8 b).toArray)] _
  refine JC_seq ?_
  refine JC_region ?_
  refine JL_step (Step_box (.agg (cu8 a).toArray) (cu8 a) rfl (by first | rfl | simp)) rfl ?_
  rintro v1 L1 ⟨nb1, hnb1, rfl, rfl⟩
  show JL _ _ _ _ ((2, Ptr nb1 0) :: _) [⟨nb1, cu8 a, 27, (0, 0)⟩]
  refine JL_step (Step_box (.agg (cu8 b).toArray) (cu8 b) rfl (by first | rfl | simp)) rfl ?_
  rintro v1 L1 ⟨nb2, hnb2, rfl, rfl⟩
  show JL _ _ _ _ ((3, Ptr nb2 0) :: _) [⟨nb1, cu8 a, 27, (0, 0)⟩, ⟨nb2, cu8 b, 27, (0, 0)⟩]
  refine JL_step (Step_alloc _ (cu8 (zr8 16)) Try.zeroValue27 (by kernel_rfl)) rfl ?_
  rintro v1 L1 ⟨nb3, hnb3, rfl, rfl⟩
  show JL _ _ _ _ ((4, Ptr nb3 0) :: _) [⟨nb1, cu8 a, 27, (0, 0)⟩, ⟨nb2, cu8 b, 27, (0, 0)⟩, ⟨nb3, cu8 (zr8 16), 27, (0, 0)⟩]
  refine JL_nil ?_
  refine JQ_then ?_
  refine JC_seq ?_
  refine JC_seq ?_
  refine JC_region ?_
  refine JL_val _ (Ev_move rfl) rfl ?_
  refine JL_nil ?_
  refine JQ_then ?_
  refine JC_block ?_
  refine JC_loop (ι := Nat × List UInt8) (fun ⟨k, s⟩ => [(2, Ptr nb1 0), (3, Ptr nb2 0), (4, Ptr nb3 0), (6, I64 ((k:Int)))]) (fun ⟨k, s⟩ => [⟨nb1, cu8 s, 27, (0, 0)⟩, ⟨nb2, cu8 b, 27, (0, 0)⟩, ⟨nb3, cu8 (zr8 16), 27, (0, 0)⟩]) (fun ⟨k, s⟩ => k ≤ 16 ∧ s = addN a b k ∧ s.length = 16) (fun ⟨k, s⟩ => 16 - k) (0, a) ⟨by omega, rfl, ha⟩ (Sub.cons rfl (Sub.cons rfl (Sub.cons rfl (Sub.cons rfl (Sub.nil))))) rfl ?_
  rintro ⟨k, s⟩ ⟨hx1, hx2, hs⟩
  show JC _ _ _ [(2, Ptr nb1 0), (3, Ptr nb2 0), (4, Ptr nb3 0), (6, I64 ((k:Int)))] [⟨nb1, cu8 s, 27, (0, 0)⟩, ⟨nb2, cu8 b, 27, (0, 0)⟩, ⟨nb3, cu8 (zr8 16), 27, (0, 0)⟩]
  refine JC_seq ?_
  refine JC_region ?_
  refine JL_val (.bool (decide (((k:Int)) < (16:Int)))) (Ev_bini rfl rfl fun _ => bin_lss_i _ _) rfl ?_
  refine JL_nil ?_
  refine JQ_then ?_
  refine JC_seq ?_
  refine JC_cond (decide (((k:Int)) < (16:Int))) rfl (fun hb1 => ?_) (fun hb1 => ?_)
  ·
    have hp1 : ((k:Int)) < (16:Int) := of_decide_eq_true hb1
    refine JC_skip ?_
    refine JQ_then ?_
    refine JC_seq ?_
    refine JC_block ?_
    refine JC_seq ?_
    refine JC_region ?_
    refine JL_val _ (Ev_move rfl) rfl ?_
    refine JL_val _ (Ev_assign rfl) rfl ?_
    refine JL_nil ?_
    refine JQ_then ?_
    refine JC_draw 19 2 [(0, I64 ((k:Int))), (1, Ptr nb1 k), (2, U8 (g8 s k)), (3, I64 ((k:Int))), (4, Ptr nb2 k), (5, U8 (g8 b k)), (6, U8 ((g8 s k) ^^^ (g8 b k))), (7, Ptr nb1 k)] Try.mixed rfl (by decide +kernel) ?_
    have hl1 : (s.set k ((g8 s k) ^^^ (g8 b k))).length = 16 := by simp [hs]
    refine DP_one ⟨[], [0, 1, 2, 3, 4, 5, 6, 7], [], [0, 1, 2, 3, 4, 5, 6, 7], [8]⟩ 8 _ rfl rfl (by decide +kernel) rfl ⟨⟨_, rfl, Qok_val rfl (Ev_move rfl)⟩, ⟨_, rfl, Qok_val rfl (Ev_indexArr 16 5 1 k Try.underlying27 Try.sizeOf5 rfl rfl (by omega) (by omega) (by omega))⟩, ⟨_, rfl, Qok_val rfl (Ev_load rfl (Ld_one Try.isAgg5 (MemAt.ent 0 rfl (Seg.get (g8_get (i := k) (by rw [hs]; omega))))))⟩, ⟨_, rfl, Qok_val rfl (Ev_move rfl)⟩, ⟨_, rfl, Qok_val rfl (Ev_indexArr 16 5 1 k Try.underlying27 Try.sizeOf5 rfl rfl (by omega) (by omega) (by omega))⟩, ⟨_, rfl, Qok_val rfl (Ev_load rfl (Ld_one Try.isAgg5 (MemAt.ent 1 rfl (Seg.get (g8_get (i := k) (by rw [hb]; omega))))))⟩, ⟨_, rfl, Qok_val rfl (Ev_bini rfl rfl fun _ => bin_xor_u8 (g8 s k) (g8 b k))⟩, ⟨_, rfl, Qok_val rfl (Ev_indexArr 16 5 1 k Try.underlying27 Try.sizeOf5 rfl rfl (by omega) (by omega) (by omega))⟩, trivial⟩ rfl (Cok_step rfl (Step_store 0 nb1 k 1 (cu8 s) 27 (U8 ((g8 s k) ^^^ (g8 b k))) ([U8 ((g8 s k) ^^^ (g8 b k))]) (cu8 (s.set k ((g8 s k) ^^^ (g8 b k)))) rfl rfl rfl rfl Try.sizeOf5 rfl (by simp [Value.oneCell']) (by simp [hs]; try omega) (lay8 _ _ _ (by rw [hs]; omega)))) ?_
    rintro v1 L1 ⟨rfl, rfl⟩
    refine ⟨[], ?_⟩
    show DP _ _ _ _ _ _ _ _ [⟨nb1, cu8 (s.set k ((g8 s k) ^^^ (g8 b k))), 27, (0, 0)⟩, ⟨nb2, cu8 b, 27, (0, 0)⟩, ⟨nb3, cu8 (zr8 16), 27, (0, 0)⟩]
    refine DP_end ⟨[8], [0, 1, 2, 3, 4, 5, 6, 7], [0, 1, 2, 3, 4, 5, 6, 7], [], []⟩ rfl rfl (by decide +kernel) rfl trivial ?_
    refine K_sub (F' := [(9, I64 ((k:Int))), (10, Ptr nb1 k), (11, U8 (g8 s k)), (12, I64 ((k:Int))), (13, Ptr nb2 k), (14, U8 (g8 b k)), (15, U8 ((g8 s k) ^^^ (g8 b k))), (16, Ptr nb1 k), (2, Ptr nb1 0), (3, Ptr nb2 0), (4, Ptr nb3 0), (6, I64 ((k:Int))), (7, .bool (decide (((k:Int)) < (16:Int)))), (8, I64 ((k:Int))), (5, I64 ((k:Int)))]) (Sub.cons (by kernel_rfl) (Sub.cons (by kernel_rfl) (Sub.cons (by kernel_rfl) (Sub.cons (by kernel_rfl) (Sub.cons (by kernel_rfl) (Sub.cons (by kernel_rfl) (Sub.cons (by kernel_rfl) (Sub.cons (by kernel_rfl) (Sub.cons (by kernel_rfl) (Sub.cons (by kernel_rfl) (Sub.cons (by kernel_rfl) (Sub.cons (by kernel_rfl) (Sub.cons (by kernel_rfl) (Sub.cons (by kernel_rfl) (Sub.cons (by kernel_rfl) (Sub.nil)))))))))))))))) ?_
    show JQ _ _ _ [(9, I64 ((k:Int))), (10, Ptr nb1 k), (11, U8 (g8 s k)), (12, I64 ((k:Int))), (13, Ptr nb2 k), (14, U8 (g8 b k)), (15, U8 ((g8 s k) ^^^ (g8 b k))), (16, Ptr nb1 k), (2, Ptr nb1 0), (3, Ptr nb2 0), (4, Ptr nb3 0), (6, I64 ((k:Int))), (7, .bool (decide (((k:Int)) < (16:Int)))), (8, I64 ((k:Int))), (5, I64 ((k:Int)))] _
    refine JQ_in_normal ?_
    refine JQ_then ?_
    refine JC_region ?_
    refine JL_val (I64 ((k:Int) + 1)) (Ev_bini rfl rfl fun _ => bin_add_i _ _ ((k:Int) + 1) (by omega) (by omega)) rfl ?_
    refine JL_val _ (Ev_move rfl) rfl ?_
    refine JL_nil ?_
    refine JQ_thenK ?_
    refine K_next (k + 1, s.set k ((g8 s k) ^^^ (g8 b k))) ⟨by omega, by rw [addN, ← hx2], hl1⟩ (by simp; omega) (Sub.cons rfl (Sub.cons rfl (Sub.cons rfl (Sub.cons rfl (Sub.nil))))) rfl
  ·
    have hp1 : ¬ (((k:Int)) < (16:Int)) := of_decide_eq_false hb1
    refine JC_exit ?_
    refine JQ_then_exit ?_
    refine JQ_then_exit ?_
    refine JQ_in_same ?_
    refine JQ_then ?_
    refine JC_seq ?_
    refine JC_region ?_
    refine JL_val (.agg (cu8 s).toArray) (Ev_load rfl (Ld_agg Try.isAgg27 Try.sizeOf27 (len_cu8 hs) (MemAt.ent 0 rfl (Seg.whole _)))) rfl ?_
    refine JL_step (Step_store 2 nb3 0 16 (cu8 (zr8 16)) 27 (.agg (cu8 s).toArray) (cu8 s) (cu8 s) rfl rfl rfl (by first | rfl | simp) Try.sizeOf27 (len_cu8 hs) (by first | exact one_u8 | exact one_u32 | exact one_u64 | (simp [cu8, cu32, cu64, Value.oneCell']; done)) (by simp [(zr8_len 16)]) (lay_whole (by simp [(zr8_len 16), hs]))) rfl ?_
    rintro v1 L1 ⟨rfl, rfl⟩
    show JL _ _ _ _ _ [⟨nb1, cu8 s, 27, (0, 0)⟩, ⟨nb2, cu8 b, 27, (0, 0)⟩, ⟨nb3, cu8 s, 27, (0, 0)⟩]
    refine JL_nil ?_
    refine JQ_then ?_
    refine JC_ret ?_
    refine JQ_ret (.agg (cu8 s).toArray) (res1 Try.results73 (RV_cell rfl (Ld_agg Try.isAgg27 Try.sizeOf27 (len_cu8 hs) (MemAt.ent 2 rfl (Seg.whole _))))) fun w1 hw1 => ?_
    have e1 : k = 16 := by omega
    subst e1
    rw [show s = addL a b from hx2]
    exact ⟨_, [], rfl, ⟨rfl, rfl⟩, hw1.sub (by simp) (by simp)⟩

theorem shifted1_c (b tb : List UInt8) (c o : Nat) (w : World) (hb : b.length = 16) (htb : tb.length = 256) (hm : RdA w c o (cu8 tb)) : Calls Try.prog 75 #[.agg (cu8 b).toArray, Ptr c o, I64 (1:Int)] w (Post w [] (fun v L => v = .agg (cu8 (sh1L tb b)).toArray ∧ L = [])) := by
  refine enter w [] 37 [] [.agg (cu8 b).toArray, Ptr c o, I64 (1:Int)] Try.func75 rfl rfl (by simp) (Hp.start (by simp) (by simp) (by simp)) ?_
  show JC _ _ _ [(0, .agg (cu8 b).toArray), (1, Ptr c o), (2, I64 (1:Int))] _
  refine JC_seq ?_
  refine JC_region ?_
  refine JL_step (Step_box (.agg (cu8 b).toArray) (cu8 b) rfl (by first | rfl | simp)) rfl ?_
  rintro v1 L1 ⟨nb1, hnb1, rfl, rfl⟩
  show JL _ _ _ _ ((3, Ptr nb1 0) :: _) [⟨nb1, cu8 b, 27, (0, 0)⟩]
  refine JL_step (Step_alloc _ (cu8 (zr8 16)) Try.zeroValue27 (by kernel_rfl)) rfl ?_
  rintro v1 L1 ⟨nb2, hnb2, rfl, rfl⟩
  show JL _ _ _ _ ((6, Ptr nb2 0) :: _) [⟨nb1, cu8 b, 27, (0, 0)⟩, ⟨nb2, cu8 (zr8 16), 27, (0, 0)⟩]
  refine JL_nil ?_
  refine JQ_then ?_
  refine JC_seq ?_
  refine JC_region ?_
  refine JL_step (Step_alloc _ (cu8 (zr8 16)) Try.zeroValue27 (by kernel_rfl)) rfl ?_
  rintro v1 L1 ⟨nb3, hnb3, rfl, rfl⟩
  show JL _ _ _ _ ((7, Ptr nb3 0) :: _) [⟨nb1, cu8 b, 27, (0, 0)⟩, ⟨nb2, cu8 (zr8 16), 27, (0, 0)⟩, ⟨nb3, cu8 (zr8 16), 27, (0, 0)⟩]
  refine JL_nil ?_
  refine JQ_then ?_
  refine JC_seq ?_
  refine JC_seq ?_
  refine JC_region ?_
  refine JL_val _ (Ev_move rfl) rfl ?_
  refine JL_nil ?_
  refine JQ_then ?_
  refine JC_block ?_
  refine JC_loop (ι := Nat × List UInt8) (fun ⟨k, s⟩ => [(1, Ptr c o), (2, I64 (1:Int)), (3, Ptr nb1 0), (6, Ptr nb2 0), (7, Ptr nb3 0), (11, I64 ((k:Int)))]) (fun ⟨k, s⟩ => [⟨nb1, cu8 b, 27, (0, 0)⟩, ⟨nb2, cu8 (zr8 16), 27, (0, 0)⟩, ⟨nb3, cu8 s, 27, (0, 0)⟩]) (fun ⟨k, s⟩ => k ≤ 16 ∧ s = sh1N tb b k ∧ s.length = 16) (fun ⟨k, s⟩ => 16 - k) (0, zr8 16) ⟨by omega, rfl, zr8_len 16⟩ (Sub.cons rfl (Sub.cons rfl (Sub.cons rfl (Sub.cons rfl (Sub.cons rfl (Sub.cons rfl (Sub.nil))))))) rfl ?_
  rintro ⟨k, s⟩ ⟨hx1, hx2, hs⟩
  show JC _ _ _ [(1, Ptr c o), (2, I64 (1:Int)), (3, Ptr nb1 0), (6, Ptr nb2 0), (7, Ptr nb3 0), (11, I64 ((k:Int)))] [⟨nb1, cu8 b, 27, (0, 0)⟩, ⟨nb2, cu8 (zr8 16), 27, (0, 0)⟩, ⟨nb3, cu8 s, 27, (0, 0)⟩]
  refine JC_seq ?_
  refine JC_region ?_
  refine JL_val (.bool (decide (((k:Int)) < (16:Int)))) (Ev_bini rfl rfl fun _ => bin_lss_i _ _) rfl ?_
  refine JL_nil ?_
  refine JQ_then ?_
  refine JC_seq ?_
  refine JC_cond (decide (((k:Int)) < (16:Int))) rfl (fun hb1 => ?_) (fun hb1 => ?_)
  ·
    have hp1 : ((k:Int)) < (16:Int) := of_decide_eq_true hb1
    refine JC_skip ?_
    refine JQ_then ?_
    refine JC_seq ?_
    refine JC_block ?_
    refine JC_seq ?_
    refine JC_region ?_
    refine JL_val _ (Ev_move rfl) rfl ?_
    refine JL_val _ (Ev_assign rfl) rfl ?_
    refine JL_nil ?_
    refine JQ_then ?_
    refine JC_seq ?_
    refine JC_region ?_
    refine JL_val _ (Ev_move rfl) rfl ?_
    refine JL_val (I64 ((k % 4:Int))) (Ev_bini rfl rfl fun _ => bin_rem_i _ _ ((k % 4:Int)) (by omega) (by omega) (by omega)) rfl ?_
    refine JL_val _ (Ev_move rfl) rfl ?_
    refine JL_val (I64 ((k / 4:Int))) (Ev_bini rfl rfl fun _ => bin_quo_i _ _ ((k / 4:Int)) (by omega) (by omega) (by omega)) rfl ?_
    refine JL_val _ (Ev_assign rfl) rfl ?_
    refine JL_val _ (Ev_assign rfl) rfl ?_
    refine JL_nil ?_
    refine JQ_then ?_
    obtain ⟨dq1, hdq1, hdq1a, hdq1b⟩ : ∃ q : Nat, q = ((k % 4) + (k / 4)) % 4 ∧ (q : Int) = ((k % 4:Int) + (k / 4:Int)) % 4 ∧ (q < 4) := ⟨_, rfl, by first | rfl | omega, by omega⟩
    have := UInt8.toNat_lt (g8 b (4*dq1 + (k % 4)))
    refine JC_draw 37 2 [(0, I64 ((k:Int))), (1, Ptr c o), (2, I64 ((k / 4:Int))), (3, I64 (1:Int)), (4, I64 ((k % 4:Int))), (5, I64 ((k % 4:Int))), (6, I64 ((k % 4:Int) + (k / 4:Int))), (7, I64 ((dq1:Int))), (8, I64 (4*(dq1:Int))), (9, I64 ((k % 4:Int))), (10, I64 (4*(dq1:Int) + (k % 4:Int))), (11, Ptr nb1 (4*dq1 + (k % 4))), (12, U8 (g8 b (4*dq1 + (k % 4)))), (13, Ptr c o), (14, Ptr c (((g8 b (4*dq1 + (k % 4))).toNat) + o)), (15, U8 (g8 tb ((g8 b (4*dq1 + (k % 4))).toNat))), (16, Ptr nb3 k)] Try.mixed rfl (by decide +kernel) ?_
    have := UInt8.toNat_lt (g8 b (4*dq1 + (k % 4)))
    have hl1 : (s.set k (g8 tb ((g8 b (4*dq1 + (k % 4))).toNat))).length = 16 := by simp [hs]
    refine DP_one ⟨[], [0, 1, 2, 3, 4, 5, 6, 7, 8, 9, 10, 11, 12, 13, 14, 15, 16], [], [0, 1, 2, 3, 4, 5, 6, 7, 8, 9, 10, 11, 12, 13, 14, 15, 16], [17]⟩ 17 _ rfl rfl (by decide +kernel) rfl ⟨⟨_, rfl, Qok_val rfl (Ev_move rfl)⟩, ⟨_, rfl, Qok_val rfl (Ev_move rfl)⟩, ⟨_, rfl, Qok_val rfl (Ev_move rfl)⟩, ⟨_, rfl, Qok_val rfl (Ev_move rfl)⟩, ⟨_, rfl, Qok_val rfl (Ev_move rfl)⟩, ⟨_, rfl, Qok_val rfl (Ev_bini rfl rfl fun _ => bin_mul_i _ _ ((k % 4:Int)) (by omega) (by omega))⟩, ⟨_, rfl, Qok_val rfl (Ev_bini rfl rfl fun _ => bin_add_i _ _ ((k % 4:Int) + (k / 4:Int)) (by omega) (by omega))⟩, ⟨_, rfl, Qok_val rfl (Ev_bini rfl rfl fun _ => bin_rem_i _ _ ((dq1:Int)) (by omega) (by omega) (by omega))⟩, ⟨_, rfl, Qok_val rfl (Ev_bini rfl rfl fun _ => bin_mul_i _ _ (4*(dq1:Int)) (by omega) (by omega))⟩, ⟨_, rfl, Qok_val rfl (Ev_move rfl)⟩, ⟨_, rfl, Qok_val rfl (Ev_bini rfl rfl fun _ => bin_add_i _ _ (4*(dq1:Int) + (k % 4:Int)) (by omega) (by omega))⟩, ⟨_, rfl, Qok_val rfl (Ev_indexArr 16 5 1 (4*dq1 + (k % 4)) Try.underlying27 Try.sizeOf5 rfl rfl (by omega) (by omega) (by omega))⟩, ⟨_, rfl, Qok_val rfl (Ev_load rfl (Ld_one Try.isAgg5 (MemAt.ent 0 rfl (Seg.get (g8_get (i := (4*dq1 + (k % 4))) (by rw [hb]; omega))))))⟩, ⟨_, rfl, Qok_val rfl (Ev_nilCheck rfl)⟩, ⟨_, rfl, Qok_val rfl (Ev_indexArr 256 5 1 (((g8 b (4*dq1 + (k % 4))).toNat) + o) Try.underlying104 Try.sizeOf5 rfl rfl (by have := UInt8.toNat_lt (g8 b (4*dq1 + (k % 4))); omega) (by have := UInt8.toNat_lt (g8 b (4*dq1 + (k % 4))); omega) (by have := UInt8.toNat_lt (g8 b (4*dq1 + (k % 4))); omega))⟩, ⟨_, rfl, Qok_val rfl (Ev_load rfl (Ld_one Try.isAgg5 (MemAt.seg (hm.mem (by simp)) (Seg.get (g8_get (i := ((g8 b (4*dq1 + (k % 4))).toNat)) (by rw [htb]; omega))) (by omega))))⟩, ⟨_, rfl, Qok_val rfl (Ev_indexArr 16 5 1 k Try.underlying27 Try.sizeOf5 rfl rfl (by omega) (by omega) (by omega))⟩, trivial⟩ rfl (Cok_step rfl (Step_store 2 nb3 k 1 (cu8 s) 27 (U8 (g8 tb ((g8 b (4*dq1 + (k % 4))).toNat))) ([U8 (g8 tb ((g8 b (4*dq1 + (k % 4))).toNat))]) (cu8 (s.set k (g8 tb ((g8 b (4*dq1 + (k % 4))).toNat)))) rfl rfl rfl rfl Try.sizeOf5 rfl (by simp [Value.oneCell']) (by simp [hs]; try omega) (lay8 _ _ _ (by rw [hs]; omega)))) ?_
    rintro v1 L1 ⟨rfl, rfl⟩
    refine ⟨[], ?_⟩
    show DP _ _ _ _ _ _ _ _ [⟨nb1, cu8 b, 27, (0, 0)⟩, ⟨nb2, cu8 (zr8 16), 27, (0, 0)⟩, ⟨nb3, cu8 (s.set k (g8 tb ((g8 b (4*dq1 + (k % 4))).toNat))), 27, (0, 0)⟩]
    refine DP_end ⟨[17], [0, 1, 2, 3, 4, 5, 6, 7, 8, 9, 10, 11, 12, 13, 14, 15, 16], [0, 1, 2, 3, 4, 5, 6, 7, 8, 9, 10, 11, 12, 13, 14, 15, 16], [], []⟩ rfl rfl (by decide +kernel) rfl trivial ?_
    refine K_sub (F' := [(18, I64 ((k:Int))), (19, Ptr c o), (20, I64 ((k / 4:Int))), (21, I64 (1:Int)), (22, I64 ((k % 4:Int))), (23, I64 ((k % 4:Int))), (24, I64 ((k % 4:Int) + (k / 4:Int))), (25, I64 ((dq1:Int))), (26, I64 (4*(dq1:Int))), (27, I64 ((k % 4:Int))), (28, I64 (4*(dq1:Int) + (k % 4:Int))), (29, Ptr nb1 (4*dq1 + (k % 4))), (30, U8 (g8 b (4*dq1 + (k % 4)))), (31, Ptr c o), (32, Ptr c (((g8 b (4*dq1 + (k % 4))).toNat) + o)), (33, U8 (g8 tb ((g8 b (4*dq1 + (k % 4))).toNat))), (34, Ptr nb3 k), (1, Ptr c o), (2, I64 (1:Int)), (3, Ptr nb1 0), (6, Ptr nb2 0), (7, Ptr nb3 0), (11, I64 ((k:Int))), (12, .bool (decide (((k:Int)) < (16:Int)))), (13, I64 ((k:Int))), (8, I64 ((k:Int))), (14, I64 ((k:Int))), (15, I64 ((k % 4:Int))), (16, I64 ((k:Int))), (17, I64 ((k / 4:Int))), (9, I64 ((k % 4:Int))), (10, I64 ((k / 4:Int)))]) (Sub.cons (by kernel_rfl) (Sub.cons (by kernel_rfl) (Sub.cons (by kernel_rfl) (Sub.cons (by kernel_rfl) (Sub.cons (by kernel_rfl) (Sub.cons (by kernel_rfl) (Sub.cons (by kernel_rfl) (Sub.cons (by kernel_rfl) (Sub.cons (by kernel_rfl) (Sub.cons (by kernel_rfl) (Sub.cons (by kernel_rfl) (Sub.cons (by kernel_rfl) (Sub.cons (by kernel_rfl) (Sub.cons (by kernel_rfl) (Sub.cons (by kernel_rfl) (Sub.cons (by kernel_rfl) (Sub.cons (by kernel_rfl) (Sub.cons (by kernel_rfl) (Sub.cons (by kernel_rfl) (Sub.cons (by kernel_rfl) (Sub.cons (by kernel_rfl) (Sub.cons (by kernel_rfl) (Sub.cons (by kernel_rfl) (Sub.cons (by kernel_rfl) (Sub.cons (by kernel_rfl) (Sub.cons (by kernel_rfl) (Sub.cons (by kernel_rfl) (Sub.cons (by kernel_rfl) (Sub.cons (by kernel_rfl) (Sub.cons (by kernel_rfl) (Sub.cons (by kernel_rfl) (Sub.cons (by kernel_rfl) (Sub.nil))))))))))))))))))))))))))))))))) ?_
    show JQ _ _ _ [(18, I64 ((k:Int))), (19, Ptr c o), (20, I64 ((k / 4:Int))), (21, I64 (1:Int)), (22, I64 ((k % 4:Int))), (23, I64 ((k % 4:Int))), (24, I64 ((k % 4:Int) + (k / 4:Int))), (25, I64 ((dq1:Int))), (26, I64 (4*(dq1:Int))), (27, I64 ((k % 4:Int))), (28, I64 (4*(dq1:Int) + (k % 4:Int))), (29, Ptr nb1 (4*dq1 + (k % 4))), (30, U8 (g8 b (4*dq1 + (k % 4)))), (31, Ptr c o), (32, Ptr c (((g8 b (4*dq1 + (k % 4))).toNat) + o)), (33, U8 (g8 tb ((g8 b (4*dq1 + (k % 4))).toNat))), (34, Ptr nb3 k), (1, Ptr c o), (2, I64 (1:Int)), (3, Ptr nb1 0), (6, Ptr nb2 0), (7, Ptr nb3 0), (11, I64 ((k:Int))), (12, .bool (decide (((k:Int)) < (16:Int)))), (13, I64 ((k:Int))), (8, I64 ((k:Int))), (14, I64 ((k:Int))), (15, I64 ((k % 4:Int))), (16, I64 ((k:Int))), (17, I64 ((k / 4:Int))), (9, I64 ((k % 4:Int))), (10, I64 ((k / 4:Int)))] _
    refine JQ_in_normal ?_
    refine JQ_then ?_
    refine JC_region ?_
    refine JL_val (I64 ((k:Int) + 1)) (Ev_bini rfl rfl fun _ => bin_add_i _ _ ((k:Int) + 1) (by omega) (by omega)) rfl ?_
    refine JL_val _ (Ev_move rfl) rfl ?_
    refine JL_nil ?_
    refine JQ_thenK ?_
    refine K_next (k + 1, s.set k (g8 tb ((g8 b (4*dq1 + (k % 4))).toNat))) ⟨by omega, by (try subst hdq1); (try subst hdq1); rw [sh1N, ← hx2], hl1⟩ (by simp; omega) (Sub.cons rfl (Sub.cons rfl (Sub.cons rfl (Sub.cons rfl (Sub.cons rfl (Sub.cons rfl (Sub.nil))))))) rfl
  ·
    have hp1 : ¬ (((k:Int)) < (16:Int)) := of_decide_eq_false hb1
    refine JC_exit ?_
    refine JQ_then_exit ?_
    refine JQ_then_exit ?_
    refine JQ_in_same ?_
    refine JQ_then ?_
    refine JC_seq ?_
    refine JC_region ?_
    refine JL_val (.agg (cu8 s).toArray) (Ev_load rfl (Ld_agg Try.isAgg27 Try.sizeOf27 (len_cu8 hs) (MemAt.ent 2 rfl (Seg.whole _)))) rfl ?_
    refine JL_step (Step_store 1 nb2 0 16 (cu8 (zr8 16)) 27 (.agg (cu8 s).toArray) (cu8 s) (cu8 s) rfl rfl rfl (by first | rfl | simp) Try.sizeOf27 (len_cu8 hs) (by first | exact one_u8 | exact one_u32 | exact one_u64 | (simp [cu8, cu32, cu64, Value.oneCell']; done)) (by simp [(zr8_len 16)]) (lay_whole (by simp [(zr8_len 16), hs]))) rfl ?_
    rintro v1 L1 ⟨rfl, rfl⟩
    show JL _ _ _ _ _ [⟨nb1, cu8 b, 27, (0, 0)⟩, ⟨nb2, cu8 s, 27, (0, 0)⟩, ⟨nb3, cu8 s, 27, (0, 0)⟩]
    refine JL_nil ?_
    refine JQ_then ?_
    refine JC_ret ?_
    refine JQ_ret (.agg (cu8 s).toArray) (res1 Try.results75 (RV_cell rfl (Ld_agg Try.isAgg27 Try.sizeOf27 (len_cu8 hs) (MemAt.ent 1 rfl (Seg.whole _))))) fun w1 hw1 => ?_
    have e1 : k = 16 := by omega
    subst e1
    rw [show s = sh1L tb b from hx2]
    exact ⟨_, [], rfl, ⟨rfl, rfl⟩, hw1.sub (by simp) (by simp)⟩

theorem shifted3_c (b tb : List UInt8) (c o : Nat) (w : World) (hb : b.length = 16) (htb : tb.length = 256) (hm : RdA w c o (cu8 tb)) : Calls Try.prog 75 #[.agg (cu8 b).toArray, Ptr c o, I64 (3:Int)] w (Post w [] (fun v L => v = .agg (cu8 (sh3L tb b)).toArray ∧ L = [])) := by
  refine enter w [] 37 [] [.agg (cu8 b).toArray, Ptr c o, I64 (3:Int)] Try.func75 rfl rfl (by simp) (Hp.start (by simp) (by simp) (by simp)) ?_
  show JC _ _ _ [(0, .agg (cu8 b).toArray), (1, Ptr c o), (2, I64 (3:Int))] _
  refine JC_seq ?_
  refine JC_region ?_
  refine JL_step (Step_box (.agg (cu8 b).toArray) (cu8 b) rfl (by first | rfl | simp)) rfl ?_
  rintro v1 L1 ⟨nb1, hnb1, rfl, rfl⟩
  show JL _ _ _ _ ((3, Ptr nb1 0) :: _) [⟨nb1, cu8 b, 27, (0, 0)⟩]
  refine JL_step (Step_alloc _ (cu8 (zr8 16)) Try.zeroValue27 (by kernel_rfl)) rfl ?_
  rintro v1 L1 ⟨nb2, hnb2, rfl, rfl⟩
  show JL _ _ _ _ ((6, Ptr nb2 0) :: _) [⟨nb1, cu8 b, 27, (0, 0)⟩, ⟨nb2, cu8 (zr8 16), 27, (0, 0)⟩]
  refine JL_nil ?_
  refine JQ_then ?_
  refine JC_seq ?_
  refine JC_region ?_
  refine JL_step (Step_alloc _ (cu8 (zr8 16)) Try.zeroValue27 (by kernel_rfl)) rfl ?_
  rintro v1 L1 ⟨nb3, hnb3, rfl, rfl⟩
  show JL _ _ _ _ ((7, Ptr nb3 0) :: _) [⟨nb1, cu8 b, 27, (0, 0)⟩, ⟨nb2, cu8 (zr8 16), 27, (0, 0)⟩, ⟨nb3, cu8 (zr8 16), 27, (0, 0)⟩]
  refine JL_nil ?_
  refine JQ_then ?_
  refine JC_seq ?_
  refine JC_seq ?_
  refine JC_region ?_
  refine JL_val _ (Ev_move rfl) rfl ?_
  refine JL_nil ?_
  refine JQ_then ?_
  refine JC_block ?_
  refine JC_loop (ι := Nat × List UInt8) (fun ⟨k, s⟩ => [(1, Ptr c o), (2, I64 (3:Int)), (3, Ptr nb1 0), (6, Ptr nb2 0), (7, Ptr nb3 0), (11, I64 ((k:Int)))]) (fun ⟨k, s⟩ => [⟨nb1, cu8 b, 27, (0, 0)⟩, ⟨nb2, cu8 (zr8 16), 27, (0, 0)⟩, ⟨nb3, cu8 s, 27, (0, 0)⟩]) (fun ⟨k, s⟩ => k ≤ 16 ∧ s = sh3N tb b k ∧ s.length = 16) (fun ⟨k, s⟩ => 16 - k) (0, zr8 16) ⟨by omega, rfl, zr8_len 16⟩ (Sub.cons rfl (Sub.cons rfl (Sub.cons rfl (Sub.cons rfl (Sub.cons rfl (Sub.cons rfl (Sub.nil))))))) rfl ?_
  rintro ⟨k, s⟩ ⟨hx1, hx2, hs⟩
  show JC _ _ _ [(1, Ptr c o), (2, I64 (3:Int)), (3, Ptr nb1 0), (6, Ptr nb2 0), (7, Ptr nb3 0), (11, I64 ((k:Int)))] [⟨nb1, cu8 b, 27, (0, 0)⟩, ⟨nb2, cu8 (zr8 16), 27, (0, 0)⟩, ⟨nb3, cu8 s, 27, (0, 0)⟩]
  refine JC_seq ?_
  refine JC_region ?_
  refine JL_val (.bool (decide (((k:Int)) < (16:Int)))) (Ev_bini rfl rfl fun _ => bin_lss_i _ _) rfl ?_
  refine JL_nil ?_
  refine JQ_then ?_
  refine JC_seq ?_
  refine JC_cond (decide (((k:Int)) < (16:Int))) rfl (fun hb1 => ?_) (fun hb1 => ?_)
  ·
    have hp1 : ((k:Int)) < (16:Int) := of_decide_eq_true hb1
    refine JC_skip ?_
    refine JQ_then ?_
    refine JC_seq ?_
    refine JC_block ?_
    refine JC_seq ?_
    refine JC_region ?_
    refine JL_val _ (Ev_move rfl) rfl ?_
    refine JL_val _ (Ev_assign rfl) rfl ?_
    refine JL_nil ?_
    refine JQ_then ?_
    refine JC_seq ?_
    refine JC_region ?_
    refine JL_val _ (Ev_move rfl) rfl ?_
    refine JL_val (I64 ((k % 4:Int))) (Ev_bini rfl rfl fun _ => bin_rem_i _ _ ((k % 4:Int)) (by omega) (by omega) (by omega)) rfl ?_
    refine JL_val _ (Ev_move rfl) rfl ?_
    refine JL_val (I64 ((k / 4:Int))) (Ev_bini rfl rfl fun _ => bin_quo_i _ _ ((k / 4:Int)) (by omega) (by omega) (by omega)) rfl ?_
    refine JL_val _ (Ev_assign rfl) rfl ?_
    refine JL_val _ (Ev_assign rfl) rfl ?_
    refine JL_nil ?_
    refine JQ_then ?_
    obtain ⟨dq1, hdq1, hdq1a, hdq1b⟩ : ∃ q : Nat, q = (3*(k % 4) + (k / 4)) % 4 ∧ (q : Int) = (3*(k % 4:Int) + (k / 4:Int)) % 4 ∧ (q < 4) := ⟨_, rfl, by first | rfl | omega, by omega⟩
    have := UInt8.toNat_lt (g8 b (4*dq1 + (k % 4)))
    refine JC_draw 37 2 [(0, I64 ((k:Int))), (1, Ptr c o), (2, I64 ((k / 4:Int))), (3, I64 (3:Int)), (4, I64 ((k % 4:Int))), (5, I64 (3*(k % 4:Int))), (6, I64 (3*(k % 4:Int) + (k / 4:Int))), (7, I64 ((dq1:Int))), (8, I64 (4*(dq1:Int))), (9, I64 ((k % 4:Int))), (10, I64 (4*(dq1:Int) + (k % 4:Int))), (11, Ptr nb1 (4*dq1 + (k % 4))), (12, U8 (g8 b (4*dq1 + (k % 4)))), (13, Ptr c o), (14, Ptr c (((g8 b (4*dq1 + (k % 4))).toNat) + o)), (15, U8 (g8 tb ((g8 b (4*dq1 + (k % 4))).toNat))), (16, Ptr nb3 k)] Try.mixed rfl (by decide +kernel) ?_
    have := UInt8.toNat_lt (g8 b (4*dq1 + (k % 4)))
    have hl1 : (s.set k (g8 tb ((g8 b (4*dq1 + (k % 4))).toNat))).length = 16 := by simp [hs]
    refine DP_one ⟨[], [0, 1, 2, 3, 4, 5, 6, 7, 8, 9, 10, 11, 12, 13, 14, 15, 16], [], [0, 1, 2, 3, 4, 5, 6, 7, 8, 9, 10, 11, 12, 13, 14, 15, 16], [17]⟩ 17 _ rfl rfl (by decide +kernel) rfl ⟨⟨_, rfl, Qok_val rfl (Ev_move rfl)⟩, ⟨_, rfl, Qok_val rfl (Ev_move rfl)⟩, ⟨_, rfl, Qok_val rfl (Ev_move rfl)⟩, ⟨_, rfl, Qok_val rfl (Ev_move rfl)⟩, ⟨_, rfl, Qok_val rfl (Ev_move rfl)⟩, ⟨_, rfl, Qok_val rfl (Ev_bini rfl rfl fun _ => bin_mul_i _ _ (3*(k % 4:Int)) (by omega) (by omega))⟩, ⟨_, rfl, Qok_val rfl (Ev_bini rfl rfl fun _ => bin_add_i _ _ (3*(k % 4:Int) + (k / 4:Int)) (by omega) (by omega))⟩, ⟨_, rfl, Qok_val rfl (Ev_bini rfl rfl fun _ => bin_rem_i _ _ ((dq1:Int)) (by omega) (by omega) (by omega))⟩, ⟨_, rfl, Qok_val rfl (Ev_bini rfl rfl fun _ => bin_mul_i _ _ (4*(dq1:Int)) (by omega) (by omega))⟩, ⟨_, rfl, Qok_val rfl (Ev_move rfl)⟩, ⟨_, rfl, Qok_val rfl (Ev_bini rfl rfl fun _ => bin_add_i _ _ (4*(dq1:Int) + (k % 4:Int)) (by omega) (by omega))⟩, ⟨_, rfl, Qok_val rfl (Ev_indexArr 16 5 1 (4*dq1 + (k % 4)) Try.underlying27 Try.sizeOf5 rfl rfl (by omega) (by omega) (by omega))⟩, ⟨_, rfl, Qok_val rfl (Ev_load rfl (Ld_one Try.isAgg5 (MemAt.ent 0 rfl (Seg.get (g8_get (i := (4*dq1 + (k % 4))) (by rw [hb]; omega))))))⟩, ⟨_, rfl, Qok_val rfl (Ev_nilCheck rfl)⟩, ⟨_, rfl, Qok_val rfl (Ev_indexArr 256 5 1 (((g8 b (4*dq1 + (k % 4))).toNat) + o) Try.underlying104 Try.sizeOf5 rfl rfl (by have := UInt8.toNat_lt (g8 b (4*dq1 + (k % 4))); omega) (by have := UInt8.toNat_lt (g8 b (4*dq1 + (k % 4))); omega) (by have := UInt8.toNat_lt (g8 b (4*dq1 + (k % 4))); omega))⟩, ⟨_, rfl, Qok_val rfl (Ev_load rfl (Ld_one Try.isAgg5 (MemAt.seg (hm.mem (by simp)) (Seg.get (g8_get (i := ((g8 b (4*dq1 + (k % 4))).toNat)) (by rw [htb]; omega))) (by omega))))⟩, ⟨_, rfl, Qok_val rfl (Ev_indexArr 16 5 1 k Try.underlying27 Try.sizeOf5 rfl rfl (by omega) (by omega) (by omega))⟩, trivial⟩ rfl (Cok_step rfl (Step_store 2 nb3 k 1 (cu8 s) 27 (U8 (g8 tb ((g8 b (4*dq1 + (k % 4))).toNat))) ([U8 (g8 tb ((g8 b (4*dq1 + (k % 4))).toNat))]) (cu8 (s.set k (g8 tb ((g8 b (4*dq1 + (k % 4))).toNat)))) rfl rfl rfl rfl Try.sizeOf5 rfl (by simp [Value.oneCell']) (by simp [hs]; try omega) (lay8 _ _ _ (by rw [hs]; omega)))) ?_
    rintro v1 L1 ⟨rfl, rfl⟩
    refine ⟨[], ?_⟩
    show DP _ _ _ _ _ _ _ _ [⟨nb1, cu8 b, 27, (0, 0)⟩, ⟨nb2, cu8 (zr8 16), 27, (0, 0)⟩, ⟨nb3, cu8 (s.set k (g8 tb ((g8 b (4*dq1 + (k % 4))).toNat))), 27, (0, 0)⟩]
    refine DP_end ⟨[17], [0, 1, 2, 3, 4, 5, 6, 7, 8, 9, 10, 11, 12, 13, 14, 15, 16], [0, 1, 2, 3, 4, 5, 6, 7, 8, 9, 10, 11, 12, 13, 14, 15, 16], [], []⟩ rfl rfl (by decide +kernel) rfl trivial ?_
    refine K_sub (F' := [(18, I64 ((k:Int))), (19, Ptr c o), (20, I64 ((k / 4:Int))), (21, I64 (3:Int)), (22, I64 ((k % 4:Int))), (23, I64 (3*(k % 4:Int))), (24, I64 (3*(k % 4:Int) + (k / 4:Int))), (25, I64 ((dq1:Int))), (26, I64 (4*(dq1:Int))), (27, I64 ((k % 4:Int))), (28, I64 (4*(dq1:Int) + (k % 4:Int))), (29, Ptr nb1 (4*dq1 + (k % 4))), (30, U8 (g8 b (4*dq1 + (k % 4)))), (31, Ptr c o), (32, Ptr c (((g8 b (4*dq1 + (k % 4))).toNat) + o)), (33, U8 (g8 tb ((g8 b (4*dq1 + (k % 4))).toNat))), (34, Ptr nb3 k), (1, Ptr c o), (2, I64 (3:Int)), (3, Ptr nb1 0), (6, Ptr nb2 0), (7, Ptr nb3 0), (11, I64 ((k:Int))), (12, .bool (decide (((k:Int)) < (16:Int)))), (13, I64 ((k:Int))), (8, I64 ((k:Int))), (14, I64 ((k:Int))), (15, I64 ((k % 4:Int))), (16, I64 ((k:Int))), (17, I64 ((k / 4:Int))), (9, I64 ((k % 4:Int))), (10, I64 ((k / 4:Int)))]) (Sub.cons (by kernel_rfl) (Sub.cons (by kernel_rfl) (Sub.cons (by kernel_rfl) (Sub.cons (by kernel_rfl) (Sub.cons (by kernel_rfl) (Sub.cons (by kernel_rfl) (Sub.cons (by kernel_rfl) (Sub.cons (by kernel_rfl) (Sub.cons (by kernel_rfl) (Sub.cons (by kernel_rfl) (Sub.cons (by kernel_rfl) (Sub.cons (by kernel_rfl) (Sub.cons (by kernel_rfl) (Sub.cons (by kernel_rfl) (Sub.cons (by kernel_rfl) (Sub.cons (by kernel_rfl) (Sub.cons (by kernel_rfl) (Sub.cons (by kernel_rfl) (Sub.cons (by kernel_rfl) (Sub.cons (by kernel_rfl) (Sub.cons (by kernel_rfl) (Sub.cons (by kernel_rfl) (Sub.cons (by kernel_rfl) (Sub.cons (by kernel_rfl) (Sub.cons (by kernel_rfl) (Sub.cons (by kernel_rfl) (Sub.cons (by kernel_rfl) (Sub.cons (by kernel_rfl) (Sub.cons (by kernel_rfl) (Sub.cons (by kernel_rfl) (Sub.cons (by kernel_rfl) (Sub.cons (by kernel_rfl) (Sub.nil))))))))))))))))))))))))))))))))) ?_
    show JQ _ _ _ [(18, I64 ((k:Int))), (19, Ptr c o), (20, I64 ((k / 4:Int))), (21, I64 (3:Int)), (22, I64 ((k % 4:Int))), (23, I64 (3*(k % 4:Int))), (24, I64 (3*(k % 4:Int) + (k / 4:Int))), (25, I64 ((dq1:Int))), (26, I64 (4*(dq1:Int))), (27, I64 ((k % 4:Int))), (28, I64 (4*(dq1:Int) + (k % 4:Int))), (29, Ptr nb1 (4*dq1 + (k % 4))), (30, U8 (g8 b (4*dq1 + (k % 4)))), (31, Ptr c o), (32, Ptr c (((g8 b (4*dq1 + (k % 4))).toNat) + o)), (33, U8 (g8 tb ((g8 b (4*dq1 + (k % 4))).toNat))), (34, Ptr nb3 k), (1, Ptr c o), (2, I64 (3:Int)), (3, Ptr nb1 0), (6, Ptr nb2 0), (7, Ptr nb3 0), (11, I64 ((k:Int))), (12, .bool (decide (((k:Int)) < (16:Int)))), (13, I64 ((k:Int))), (8, I64 ((k:Int))), (14, I64 ((k:Int))), (15, I64 ((k % 4:Int))), (16, I64 ((k:Int))), (17, I64 ((k / 4:Int))), (9, I64 ((k % 4:Int))), (10, I64 ((k / 4:Int)))] _
    refine JQ_in_normal ?_
    refine JQ_then ?_
    refine JC_region ?_
    refine JL_val (I64 ((k:Int) + 1)) (Ev_bini rfl rfl fun _ => bin_add_i _ _ ((k:Int) + 1) (by omega) (by omega)) rfl ?_
    refine JL_val _ (Ev_move rfl) rfl ?_
    refine JL_nil ?_
    refine JQ_thenK ?_
    refine K_next (k + 1, s.set k (g8 tb ((g8 b (4*dq1 + (k % 4))).toNat))) ⟨by omega, by (try subst hdq1); (try subst hdq1); rw [sh3N, ← hx2], hl1⟩ (by simp; omega) (Sub.cons rfl (Sub.cons rfl (Sub.cons rfl (Sub.cons rfl (Sub.cons rfl (Sub.cons rfl (Sub.nil))))))) rfl
  ·
    have hp1 : ¬ (((k:Int)) < (16:Int)) := of_decide_eq_false hb1
    refine JC_exit ?_
    refine JQ_then_exit ?_
    refine JQ_then_exit ?_
    refine JQ_in_same ?_
    refine JQ_then ?_
    refine JC_seq ?_
    refine JC_region ?_
    refine JL_val (.agg (cu8 s).toArray) (Ev_load rfl (Ld_agg Try.isAgg27 Try.sizeOf27 (len_cu8 hs) (MemAt.ent 2 rfl (Seg.whole _)))) rfl ?_
    refine JL_step (Step_store 1 nb2 0 16 (cu8 (zr8 16)) 27 (.agg (cu8 s).toArray) (cu8 s) (cu8 s) rfl rfl rfl (by first | rfl | simp) Try.sizeOf27 (len_cu8 hs) (by first | exact one_u8 | exact one_u32 | exact one_u64 | (simp [cu8, cu32, cu64, Value.oneCell']; done)) (by simp [(zr8_len 16)]) (lay_whole (by simp [(zr8_len 16), hs]))) rfl ?_
    rintro v1 L1 ⟨rfl, rfl⟩
    show JL _ _ _ _ _ [⟨nb1, cu8 b, 27, (0, 0)⟩, ⟨nb2, cu8 s, 27, (0, 0)⟩, ⟨nb3, cu8 s, 27, (0, 0)⟩]
    refine JL_nil ?_
    refine JQ_then ?_
    refine JC_ret ?_
    refine JQ_ret (.agg (cu8 s).toArray) (res1 Try.results75 (RV_cell rfl (Ld_agg Try.isAgg27 Try.sizeOf27 (len_cu8 hs) (MemAt.ent 1 rfl (Seg.whole _))))) fun w1 hw1 => ?_
    have e1 : k = 16 := by omega
    subst e1
    rw [show s = sh3L tb b from hx2]
    exact ⟨_, [], rfl, ⟨rfl, rfl⟩, hw1.sub (by simp) (by simp)⟩

theorem mixed_c (b by_ : List UInt8) (w : World) (hb : b.length = 16) (hby : by_.length = 4) : Calls Try.prog 74 #[.agg (cu8 b).toArray, .agg (cu8 by_).toArray] w (Post w [] (fun v L => v = .agg (cu8 (mixL b by_)).toArray ∧ L = [])) := by
  refine enter w [] 42 [] [.agg (cu8 b).toArray, .agg (cu8 by_).toArray] Try.func74 rfl rfl (by simp) (Hp.start (by simp) (by simp) (by simp)) ?_
  show JC _ _ _ [(0, .agg (cu8 b).toArray), (1, .agg (cu8 by_).toArray)] _
  refine JC_seq ?_
  refine JC_region ?_
  refine JL_step (Step_box (.agg (cu8 b).toArray) (cu8 b) rfl (by first | rfl | simp)) rfl ?_
  rintro v1 L1 ⟨nb1, hnb1, rfl, rfl⟩
  show JL _ _ _ _ ((2, Ptr nb1 0) :: _) [⟨nb1, cu8 b, 27, (0, 0)⟩]
  refine JL_step (Step_box (.agg (cu8 by_).toArray) (cu8 by_) rfl (by first | rfl | simp)) rfl ?_
  rintro v1 L1 ⟨nb2, hnb2, rfl, rfl⟩
  show JL _ _ _ _ ((3, Ptr nb2 0) :: _) [⟨nb1, cu8 b, 27, (0, 0)⟩, ⟨nb2, cu8 by_, 107, (0, 0)⟩]
  refine JL_step (Step_alloc _ (cu8 (zr8 16)) Try.zeroValue27 (by kernel_rfl)) rfl ?_
  rintro v1 L1 ⟨nb3, hnb3, rfl, rfl⟩
  show JL _ _ _ _ ((4, Ptr nb3 0) :: _) [⟨nb1, cu8 b, 27, (0, 0)⟩, ⟨nb2, cu8 by_, 107, (0, 0)⟩, ⟨nb3, cu8 (zr8 16), 27, (0, 0)⟩]
  refine JL_nil ?_
  refine JQ_then ?_
  refine JC_seq ?_
  refine JC_region ?_
  refine JL_step (Step_alloc _ (cu8 (zr8 16)) Try.zeroValue27 (by kernel_rfl)) rfl ?_
  rintro v1 L1 ⟨nb4, hnb4, rfl, rfl⟩
  show JL _ _ _ _ ((5, Ptr nb4 0) :: _) [⟨nb1, cu8 b, 27, (0, 0)⟩, ⟨nb2, cu8 by_, 107, (0, 0)⟩, ⟨nb3, cu8 (zr8 16), 27, (0, 0)⟩, ⟨nb4, cu8 (zr8 16), 27, (0, 0)⟩]
  refine JL_nil ?_
  refine JQ_then ?_
  refine JC_seq ?_
  refine JC_seq ?_
  refine JC_region ?_
  refine JL_val _ (Ev_move rfl) rfl ?_
  refine JL_nil ?_
  refine JQ_then ?_
  refine JC_block ?_
  refine JC_loop (ι := Nat × List UInt8) (fun ⟨k, s⟩ => [(2, Ptr nb1 0), (3, Ptr nb2 0), (4, Ptr nb3 0), (5, Ptr nb4 0), (11, I64 ((k:Int)))]) (fun ⟨k, s⟩ => [⟨nb1, cu8 b, 27, (0, 0)⟩, ⟨nb2, cu8 by_, 107, (0, 0)⟩, ⟨nb3, cu8 (zr8 16), 27, (0, 0)⟩, ⟨nb4, cu8 s, 27, (0, 0)⟩]) (fun ⟨k, s⟩ => k ≤ 16 ∧ s = mixN b by_ k ∧ s.length = 16) (fun ⟨k, s⟩ => 16 - k) (0, zr8 16) ⟨by omega, rfl, zr8_len 16⟩ (Sub.cons rfl (Sub.cons rfl (Sub.cons rfl (Sub.cons rfl (Sub.cons rfl (Sub.nil)))))) rfl ?_
  rintro ⟨k, s⟩ ⟨hx1, hx2, hs⟩
  show JC _ _ _ [(2, Ptr nb1 0), (3, Ptr nb2 0), (4, Ptr nb3 0), (5, Ptr nb4 0), (11, I64 ((k:Int)))] [⟨nb1, cu8 b, 27, (0, 0)⟩, ⟨nb2, cu8 by_, 107, (0, 0)⟩, ⟨nb3, cu8 (zr8 16), 27, (0, 0)⟩, ⟨nb4, cu8 s, 27, (0, 0)⟩]
  refine JC_seq ?_
  refine JC_region ?_
  refine JL_val (.bool (decide (((k:Int)) < (16:Int)))) (Ev_bini rfl rfl fun _ => bin_lss_i _ _) rfl ?_
  refine JL_nil ?_
  refine JQ_then ?_
  refine JC_seq ?_
  refine JC_cond (decide (((k:Int)) < (16:Int))) rfl (fun hb1 => ?_) (fun hb1 => ?_)
  ·
    have hp1 : ((k:Int)) < (16:Int) := of_decide_eq_true hb1
    refine JC_skip ?_
    refine JQ_then ?_
    refine JC_seq ?_
    refine JC_block ?_
    refine JC_seq ?_
    refine JC_region ?_
    refine JL_val _ (Ev_move rfl) rfl ?_
    refine JL_val _ (Ev_assign rfl) rfl ?_
    refine JL_nil ?_
    refine JQ_then ?_
    refine JC_seq ?_
    refine JC_region ?_
    refine JL_val _ (Ev_move rfl) rfl ?_
    refine JL_val (I64 ((k % 4:Int))) (Ev_bini rfl rfl fun _ => bin_rem_i _ _ ((k % 4:Int)) (by omega) (by omega) (by omega)) rfl ?_
    refine JL_val _ (Ev_move rfl) rfl ?_
    refine JL_val (I64 ((k / 4:Int))) (Ev_bini rfl rfl fun _ => bin_quo_i _ _ ((k / 4:Int)) (by omega) (by omega) (by omega)) rfl ?_
    refine JL_val _ (Ev_assign rfl) rfl ?_
    refine JL_val _ (Ev_assign rfl) rfl ?_
    refine JL_nil ?_
    refine JQ_then ?_
    refine JC_seq ?_
    refine JC_region ?_
    refine JL_val (.agg (cu8 by_).toArray) (Ev_load rfl (Ld_agg Try.isAgg107 Try.sizeOf107 (len_cu8 hby) (MemAt.ent 1 rfl (Seg.whole _)))) rfl ?_
    refine JL_val _ (Ev_move rfl) rfl ?_
    refine JL_nil ?_
    refine JQ_then ?_
    refine JC_block ?_
    refine JC_loop (ι := Nat × List UInt8) (fun ⟨j, u⟩ => [(2, Ptr nb1 0), (3, Ptr nb2 0), (4, Ptr nb3 0), (5, Ptr nb4 0), (6, I64 ((k:Int))), (7, I64 ((k % 4:Int))), (8, I64 ((k / 4:Int))), (11, I64 ((k:Int))), (12, .bool (decide (((k:Int)) < (16:Int)))), (13, I64 ((k:Int))), (14, I64 ((k:Int))), (15, I64 ((k % 4:Int))), (16, I64 ((k:Int))), (17, I64 ((k / 4:Int))), (18, .agg (cu8 by_).toArray), (19, I64 ((j:Int)))]) (fun ⟨j, u⟩ => [⟨nb1, cu8 b, 27, (0, 0)⟩, ⟨nb2, cu8 by_, 107, (0, 0)⟩, ⟨nb3, cu8 (zr8 16), 27, (0, 0)⟩, ⟨nb4, cu8 u, 27, (0, 0)⟩]) (fun ⟨j, u⟩ => j ≤ 4 ∧ u = mixIn b by_ s k j ∧ u.length = 16) (fun ⟨j, u⟩ => 4 - j) (0, s) ⟨by omega, rfl, hs⟩ (Sub.cons rfl (Sub.cons rfl (Sub.cons rfl (Sub.cons rfl (Sub.cons rfl (Sub.cons rfl (Sub.cons rfl (Sub.cons rfl (Sub.cons rfl (Sub.cons rfl (Sub.cons rfl (Sub.cons rfl (Sub.cons rfl (Sub.cons rfl (Sub.cons rfl (Sub.cons rfl (Sub.nil))))))))))))))))) rfl ?_
    rintro ⟨j, u⟩ ⟨hy1, hy2, hu⟩
    show JC _ _ _ [(2, Ptr nb1 0), (3, Ptr nb2 0), (4, Ptr nb3 0), (5, Ptr nb4 0), (6, I64 ((k:Int))), (7, I64 ((k % 4:Int))), (8, I64 ((k / 4:Int))), (11, I64 ((k:Int))), (12, .bool (decide (((k:Int)) < (16:Int)))), (13, I64 ((k:Int))), (14, I64 ((k:Int))), (15, I64 ((k % 4:Int))), (16, I64 ((k:Int))), (17, I64 ((k / 4:Int))), (18, .agg (cu8 by_).toArray), (19, I64 ((j:Int)))] [⟨nb1, cu8 b, 27, (0, 0)⟩, ⟨nb2, cu8 by_, 107, (0, 0)⟩, ⟨nb3, cu8 (zr8 16), 27, (0, 0)⟩, ⟨nb4, cu8 u, 27, (0, 0)⟩]
    refine JC_seq ?_
    refine JC_region ?_
    refine JL_val (.bool (decide (((j:Int)) < (4:Int)))) (Ev_bini rfl rfl fun _ => bin_lss_i _ _) rfl ?_
    refine JL_nil ?_
    refine JQ_then ?_
    refine JC_seq ?_
    refine JC_cond (decide (((j:Int)) < (4:Int))) rfl (fun hb2 => ?_) (fun hb2 => ?_)
    ·
      have hp2 : ((j:Int)) < (4:Int) := of_decide_eq_true hb2
      refine JC_skip ?_
      refine JQ_then ?_
      refine JC_seq ?_
      refine JC_block ?_
      refine JC_seq ?_
      refine JC_region ?_
      refine JL_val _ (Ev_move rfl) rfl ?_
      refine JL_val (U8 (g8 by_ j)) (Ev_index1 4 5 _ Try.underlying107 Try.isAgg5 Try.sizeOf5 rfl rfl (by omega) (by omega) (Seg.get1 (Seg.get (g8_get (i := j) (by rw [hby]; omega))) (by omega))) rfl ?_
      refine JL_val _ (Ev_assign rfl) rfl ?_
      refine JL_val _ (Ev_assign rfl) rfl ?_
      refine JL_nil ?_
      refine JQ_then ?_
      obtain ⟨dq1, hdq1, hdq1a, hdq1b⟩ : ∃ q : Nat, q = (j + (k % 4)) % 4 ∧ (q : Int) = ((j:Int) + (k % 4:Int)) % 4 ∧ (q < 4) := ⟨_, rfl, by first | rfl | omega, by omega⟩
      refine JC_draw 42 3 [(0, I64 ((k:Int))), (1, Ptr nb4 k), (2, U8 (g8 u k)), (3, U8 (g8 by_ j)), (4, I64 ((k / 4:Int))), (5, I64 (4*(k / 4:Int))), (6, I64 ((k % 4:Int))), (7, I64 ((j:Int))), (8, I64 ((j:Int) + (k % 4:Int))), (9, I64 ((dq1:Int))), (10, I64 ((dq1:Int) + 4*(k / 4:Int))), (11, Ptr nb1 (dq1 + 4*(k / 4))), (12, U8 (g8 b (dq1 + 4*(k / 4))))] Try.mixed rfl (by decide +kernel) ?_
      refine DP_one ⟨[], [0, 1, 2, 3, 4, 5, 6, 7, 8, 9, 10, 11, 12], [], [0, 1, 2, 3, 4, 5, 6, 7, 8, 9, 10, 11, 12], [13]⟩ 13 _ rfl rfl (by decide +kernel) rfl ⟨⟨_, rfl, Qok_val rfl (Ev_move rfl)⟩, ⟨_, rfl, Qok_val rfl (Ev_indexArr 16 5 1 k Try.underlying27 Try.sizeOf5 rfl rfl (by omega) (by omega) (by omega))⟩, ⟨_, rfl, Qok_val rfl (Ev_load rfl (Ld_one Try.isAgg5 (MemAt.ent 3 rfl (Seg.get (g8_get (i := k) (by rw [hu]; omega))))))⟩, ⟨_, rfl, Qok_val rfl (Ev_move rfl)⟩, ⟨_, rfl, Qok_val rfl (Ev_move rfl)⟩, ⟨_, rfl, Qok_val rfl (Ev_bini rfl rfl fun _ => bin_mul_i _ _ (4*(k / 4:Int)) (by omega) (by omega))⟩, ⟨_, rfl, Qok_val rfl (Ev_move rfl)⟩, ⟨_, rfl, Qok_val rfl (Ev_move rfl)⟩, ⟨_, rfl, Qok_val rfl (Ev_bini rfl rfl fun _ => bin_add_i _ _ ((j:Int) + (k % 4:Int)) (by omega) (by omega))⟩, ⟨_, rfl, Qok_val rfl (Ev_bini rfl rfl fun _ => bin_rem_i _ _ ((dq1:Int)) (by omega) (by omega) (by omega))⟩, ⟨_, rfl, Qok_val rfl (Ev_bini rfl rfl fun _ => bin_add_i _ _ ((dq1:Int) + 4*(k / 4:Int)) (by omega) (by omega))⟩, ⟨_, rfl, Qok_val rfl (Ev_indexArr 16 5 1 (dq1 + 4*(k / 4)) Try.underlying27 Try.sizeOf5 rfl rfl (by omega) (by omega) (by omega))⟩, ⟨_, rfl, Qok_val rfl (Ev_load rfl (Ld_one Try.isAgg5 (MemAt.ent 0 rfl (Seg.get (g8_get (i := (dq1 + 4*(k / 4))) (by rw [hb]; omega))))))⟩, trivial⟩ rfl (Cok_step rfl (Step_callP 16 [U8 (g8 by_ j), U8 (g8 b (dq1 + 4*(k / 4)))] (U8 (gmul (g8 by_ j) (g8 b (dq1 + 4*(k / 4))))) (Cl_func [U8 (g8 by_ j), U8 (g8 b (dq1 + 4*(k / 4)))] Try.call16 rfl) (fun w1 _ => product_c (g8 by_ j) (g8 b (dq1 + 4*(k / 4))) w1))) ?_
      rintro v1 L1 ⟨rfl, rfl⟩
      refine ⟨[(14, U8 ((g8 u k) ^^^ (gmul (g8 by_ j) (g8 b (dq1 + 4*(k / 4)))))), (15, Ptr nb4 k)], ?_⟩
      show DP _ _ _ _ _ _ _ _ [⟨nb1, cu8 b, 27, (0, 0)⟩, ⟨nb2, cu8 by_, 107, (0, 0)⟩, ⟨nb3, cu8 (zr8 16), 27, (0, 0)⟩, ⟨nb4, cu8 u, 27, (0, 0)⟩]
      have hl1 : (u.set k ((g8 u k) ^^^ (gmul (g8 by_ j) (g8 b (dq1 + 4*(k / 4)))))).length = 16 := by simp [hu]
      refine DP_one ⟨[13], [0, 1, 2, 3, 4, 5, 6, 7, 8, 9, 10, 11, 12, 14, 15], [3, 4, 5, 6, 7, 8, 9, 10, 11, 12], [0, 1, 2, 14, 15], [16]⟩ 16 _ rfl rfl (by decide +kernel) rfl ⟨⟨_, rfl, Qok_val rfl (Ev_move rfl)⟩, ⟨_, rfl, Qok_val rfl (Ev_indexArr 16 5 1 k Try.underlying27 Try.sizeOf5 rfl rfl (by omega) (by omega) (by omega))⟩, ⟨_, rfl, Qok_val rfl (Ev_load rfl (Ld_one Try.isAgg5 (MemAt.ent 3 rfl (Seg.get (g8_get (i := k) (by rw [hu]; omega))))))⟩, ⟨_, rfl, Qok_val rfl (Ev_bini rfl rfl fun _ => bin_xor_u8 (g8 u k) (gmul (g8 by_ j) (g8 b (dq1 + 4*(k / 4)))))⟩, ⟨_, rfl, Qok_val rfl (Ev_indexArr 16 5 1 k Try.underlying27 Try.sizeOf5 rfl rfl (by omega) (by omega) (by omega))⟩, trivial⟩ rfl (Cok_step rfl (Step_store 3 nb4 k 1 (cu8 u) 27 (U8 ((g8 u k) ^^^ (gmul (g8 by_ j) (g8 b (dq1 + 4*(k / 4)))))) ([U8 ((g8 u k) ^^^ (gmul (g8 by_ j) (g8 b (dq1 + 4*(k / 4)))))]) (cu8 (u.set k ((g8 u k) ^^^ (gmul (g8 by_ j) (g8 b (dq1 + 4*(k / 4))))))) rfl rfl rfl rfl Try.sizeOf5 rfl (by simp [Value.oneCell']) (by simp [hu]; try omega) (lay8 _ _ _ (by rw [hu]; omega)))) ?_
      rintro v1 L1 ⟨rfl, rfl⟩
      refine ⟨[], ?_⟩
      show DP _ _ _ _ _ _ _ _ [⟨nb1, cu8 b, 27, (0, 0)⟩, ⟨nb2, cu8 by_, 107, (0, 0)⟩, ⟨nb3, cu8 (zr8 16), 27, (0, 0)⟩, ⟨nb4, cu8 (u.set k ((g8 u k) ^^^ (gmul (g8 by_ j) (g8 b (dq1 + 4*(k / 4)))))), 27, (0, 0)⟩]
      refine DP_end ⟨[13, 16], [0, 1, 2, 3, 4, 5, 6, 7, 8, 9, 10, 11, 12, 14, 15], [0, 1, 2, 3, 4, 5, 6, 7, 8, 9, 10, 11, 12, 14, 15], [], []⟩ rfl rfl (by decide +kernel) rfl trivial ?_
      refine K_sub (F' := [(23, I64 ((k:Int))), (24, Ptr nb4 k), (25, U8 (g8 u k)), (26, U8 (g8 by_ j)), (27, I64 ((k / 4:Int))), (28, I64 (4*(k / 4:Int))), (29, I64 ((k % 4:Int))), (30, I64 ((j:Int))), (31, I64 ((j:Int) + (k % 4:Int))), (32, I64 ((dq1:Int))), (33, I64 ((dq1:Int) + 4*(k / 4:Int))), (34, Ptr nb1 (dq1 + 4*(k / 4))), (35, U8 (g8 b (dq1 + 4*(k / 4)))), (36, U8 (gmul (g8 by_ j) (g8 b (dq1 + 4*(k / 4))))), (37, U8 ((g8 u k) ^^^ (gmul (g8 by_ j) (g8 b (dq1 + 4*(k / 4)))))), (38, Ptr nb4 k), (2, Ptr nb1 0), (3, Ptr nb2 0), (4, Ptr nb3 0), (5, Ptr nb4 0), (6, I64 ((k:Int))), (7, I64 ((k % 4:Int))), (8, I64 ((k / 4:Int))), (11, I64 ((k:Int))), (12, .bool (decide (((k:Int)) < (16:Int)))), (13, I64 ((k:Int))), (14, I64 ((k:Int))), (15, I64 ((k % 4:Int))), (16, I64 ((k:Int))), (17, I64 ((k / 4:Int))), (18, .agg (cu8 by_).toArray), (19, I64 ((j:Int))), (20, .bool (decide (((j:Int)) < (4:Int)))), (21, I64 ((j:Int))), (22, U8 (g8 by_ j)), (9, I64 ((j:Int))), (10, U8 (g8 by_ j))]) (Sub.cons (by kernel_rfl) (Sub.cons (by kernel_rfl) (Sub.cons (by kernel_rfl) (Sub.cons (by kernel_rfl) (Sub.cons (by kernel_rfl) (Sub.cons (by kernel_rfl) (Sub.cons (by kernel_rfl) (Sub.cons (by kernel_rfl) (Sub.cons (by kernel_rfl) (Sub.cons (by kernel_rfl) (Sub.cons (by kernel_rfl) (Sub.cons (by kernel_rfl) (Sub.cons (by kernel_rfl) (Sub.cons (by kernel_rfl) (Sub.cons (by kernel_rfl) (Sub.cons (by kernel_rfl) (Sub.cons (by kernel_rfl) (Sub.cons (by kernel_rfl) (Sub.cons (by kernel_rfl) (Sub.cons (by kernel_rfl) (Sub.cons (by kernel_rfl) (Sub.cons (by kernel_rfl) (Sub.cons (by kernel_rfl) (Sub.cons (by kernel_rfl) (Sub.cons (by kernel_rfl) (Sub.cons (by kernel_rfl) (Sub.cons (by kernel_rfl) (Sub.cons (by kernel_rfl) (Sub.cons (by kernel_rfl) (Sub.cons (by kernel_rfl) (Sub.cons (by kernel_rfl) (Sub.cons (by kernel_rfl) (Sub.cons (by kernel_rfl) (Sub.cons (by kernel_rfl) (Sub.cons (by kernel_rfl) (Sub.cons (by kernel_rfl) (Sub.cons (by kernel_rfl) (Sub.nil)))))))))))))))))))))))))))))))))))))) ?_
      show JQ _ _ _ [(23, I64 ((k:Int))), (24, Ptr nb4 k), (25, U8 (g8 u k)), (26, U8 (g8 by_ j)), (27, I64 ((k / 4:Int))), (28, I64 (4*(k / 4:Int))), (29, I64 ((k % 4:Int))), (30, I64 ((j:Int))), (31, I64 ((j:Int) + (k % 4:Int))), (32, I64 ((dq1:Int))), (33, I64 ((dq1:Int) + 4*(k / 4:Int))), (34, Ptr nb1 (dq1 + 4*(k / 4))), (35, U8 (g8 b (dq1 + 4*(k / 4)))), (36, U8 (gmul (g8 by_ j) (g8 b (dq1 + 4*(k / 4))))), (37, U8 ((g8 u k) ^^^ (gmul (g8 by_ j) (g8 b (dq1 + 4*(k / 4)))))), (38, Ptr nb4 k), (2, Ptr nb1 0), (3, Ptr nb2 0), (4, Ptr nb3 0), (5, Ptr nb4 0), (6, I64 ((k:Int))), (7, I64 ((k % 4:Int))), (8, I64 ((k / 4:Int))), (11, I64 ((k:Int))), (12, .bool (decide (((k:Int)) < (16:Int)))), (13, I64 ((k:Int))), (14, I64 ((k:Int))), (15, I64 ((k % 4:Int))), (16, I64 ((k:Int))), (17, I64 ((k / 4:Int))), (18, .agg (cu8 by_).toArray), (19, I64 ((j:Int))), (20, .bool (decide (((j:Int)) < (4:Int)))), (21, I64 ((j:Int))), (22, U8 (g8 by_ j)), (9, I64 ((j:Int))), (10, U8 (g8 by_ j))] _
      refine JQ_in_normal ?_
      refine JQ_then ?_
      refine JC_region ?_
      refine JL_val (I64 ((j:Int) + 1)) (Ev_bini rfl rfl fun _ => bin_add_i _ _ ((j:Int) + 1) (by omega) (by omega)) rfl ?_
      refine JL_val _ (Ev_move rfl) rfl ?_
      refine JL_nil ?_
      refine JQ_thenK ?_
      refine K_next (j + 1, u.set k ((g8 u k) ^^^ (gmul (g8 by_ j) (g8 b (dq1 + 4*(k / 4)))))) ⟨by omega, by (try subst hdq1); (try subst hdq1); rw [mixIn, ← hy2], hl1⟩ (by simp; omega) (Sub.cons rfl (Sub.cons rfl (Sub.cons rfl (Sub.cons rfl (Sub.cons rfl (Sub.cons rfl (Sub.cons rfl (Sub.cons rfl (Sub.cons rfl (Sub.cons rfl (Sub.cons rfl (Sub.cons rfl (Sub.cons rfl (Sub.cons rfl (Sub.cons rfl (Sub.cons rfl (Sub.nil))))))))))))))))) rfl
    ·
      have hp2 : ¬ (((j:Int)) < (4:Int)) := of_decide_eq_false hb2
      refine JC_exit ?_
      refine JQ_then_exit ?_
      refine JQ_then_exit ?_
      refine JQ_in_same ?_
      refine JQ_in_normal ?_
      refine JQ_then ?_
      refine JC_region ?_
      refine JL_val (I64 ((k:Int) + 1)) (Ev_bini rfl rfl fun _ => bin_add_i _ _ ((k:Int) + 1) (by omega) (by omega)) rfl ?_
      refine JL_val _ (Ev_move rfl) rfl ?_
      refine JL_nil ?_
      refine JQ_thenK ?_
      refine K_next (k + 1, u) ⟨by omega, by rw [mixN, ← hx2, hy2, show j = 4 from by omega], hu⟩ (by simp; omega) (Sub.cons rfl (Sub.cons rfl (Sub.cons rfl (Sub.cons rfl (Sub.cons rfl (Sub.nil)))))) rfl
  ·
    have hp1 : ¬ (((k:Int)) < (16:Int)) := of_decide_eq_false hb1
    refine JC_exit ?_
    refine JQ_then_exit ?_
    refine JQ_then_exit ?_
    refine JQ_in_same ?_
    refine JQ_then ?_
    refine JC_seq ?_
    refine JC_region ?_
    refine JL_val (.agg (cu8 s).toArray) (Ev_load rfl (Ld_agg Try.isAgg27 Try.sizeOf27 (len_cu8 hs) (MemAt.ent 3 rfl (Seg.whole _)))) rfl ?_
    refine JL_step (Step_store 2 nb3 0 16 (cu8 (zr8 16)) 27 (.agg (cu8 s).toArray) (cu8 s) (cu8 s) rfl rfl rfl (by first | rfl | simp) Try.sizeOf27 (len_cu8 hs) (by first | exact one_u8 | exact one_u32 | exact one_u64 | (simp [cu8, cu32, cu64, Value.oneCell']; done)) (by simp [(zr8_len 16)]) (lay_whole (by simp [(zr8_len 16), hs]))) rfl ?_
    rintro v1 L1 ⟨rfl, rfl⟩
    show JL _ _ _ _ _ [⟨nb1, cu8 b, 27, (0, 0)⟩, ⟨nb2, cu8 by_, 107, (0, 0)⟩, ⟨nb3, cu8 s, 27, (0, 0)⟩, ⟨nb4, cu8 s, 27, (0, 0)⟩]
    refine JL_nil ?_
    refine JQ_then ?_
    refine JC_ret ?_
    refine JQ_ret (.agg (cu8 s).toArray) (res1 Try.results74 (RV_cell rfl (Ld_agg Try.isAgg27 Try.sizeOf27 (len_cu8 hs) (MemAt.ent 2 rfl (Seg.whole _))))) fun w1 hw1 => ?_
    have e1 : k = 16 := by omega
    subst e1
    rw [show s = mixL b by_ from hx2]
    exact ⟨_, [], rfl, ⟨rfl, rfl⟩, hw1.sub (by simp) (by simp)⟩

end Go.Proofs.Ytncoifiafklkjaa
