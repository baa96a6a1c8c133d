import Derived.Test.YtncoifiafklkjaaFx
import Derived.Test.YtncoifiafklkjaaSxL
import Derived.Test.YtncoifiafklkjaaAes1
namespace Go.Proofs.Ytncoifiafklkjaa
open Go Go.Sx
set_option linter.unusedVariables false
set_option linter.unusedSimpArgs false
set_option maxRecDepth 100000

def tabN : Nat → UInt8 × UInt8 × List UInt8
  | 0 => (1, 1, zr8 256)
  | k + 1 => let p := tabN k; (p.1 ^^^ dbl p.1, gmul p.2.1 246, p.2.2.set p.1.toNat (bent p.2.1))
def thereL : List UInt8 := (tabN 255).2.2.set 0 99
def bkN (th : List UInt8) : Nat → List UInt8
  | 0 => zr8 256
  | k + 1 => (bkN th k).set (g8 th k).toNat (UInt8.ofNat k)
def backL : List UInt8 := bkN thereL 256
theorem tabN_len : ∀ k : Nat, (tabN k).2.2.length = 256
  | 0 => by simp [tabN, zr8_len]
  | k + 1 => by simp [tabN, tabN_len k]
theorem thereL_len : thereL.length = 256 := by simp [thereL, tabN_len]
theorem bkN_len (th : List UInt8) : ∀ k : Nat, (bkN th k).length = 256
  | 0 => by simp [bkN, zr8_len]
  | k + 1 => by simp [bkN, bkN_len th k]
def wsIn (ws : List UInt8) (i : Nat) (w : List UInt8) : Nat → List UInt8
  | 0 => ws
  | j + 1 => (wsIn ws i w j).set (4*i + j) (g8 (wsIn ws i w j) (4*i + j - 16) ^^^ g8 w j)
def wsStep (key : List UInt8) (i : Nat) (p : UInt8 × List UInt8) : UInt8 × List UInt8 :=
  if i < 4 then (p.1, spl p.2 (4*i) (mid key (4*i) 4))
  else
    let w := mid p.2 (4*i - 4) 4
    if i % 4 = 0 then (dbl p.1, wsIn p.2 i [g8 thereL (g8 w 1).toNat ^^^ p.1, g8 thereL (g8 w 2).toNat, g8 thereL (g8 w 3).toNat, g8 thereL (g8 w 0).toNat] 4)
    else (p.1, wsIn p.2 i w 4)
def wsN (key : List UInt8) : Nat → UInt8 × List UInt8
  | 0 => (1, zr8 176)
  | i + 1 => wsStep key i (wsN key i)
def ksN (ws : List UInt8) : Nat → List UInt8
  | 0 => zr8 176
  | j + 1 => spl (ksN ws j) (4*(j % 4) + 16*(j / 4)) (mid ws (4*j) 4)
def rkL (key : List UInt8) : List UInt8 := ksN (wsN key 44).2 44
theorem backL_len : backL.length = 256 := bkN_len _ _
theorem tables_c (b : Nat) (w : World) (h0 : w.heap[b]? = some (.cells (cu8 (zr8 176) ++ cu8 (zr8 256) ++ cu8 (zr8 256)).toArray 106 (0, 0))) : Calls Try.prog 71 #[Ptr b 0] w (Post w [b] (fun v L => v = .tuple #[] ∧ L = [⟨b, cu8 (zr8 176) ++ cu8 thereL ++ cu8 backL, 106, (0, 0)⟩])) := by
  refine enter w [b] 42 [⟨b, cu8 (zr8 176) ++ cu8 (zr8 256) ++ cu8 (zr8 256), 106, (0, 0)⟩] [Ptr b 0] Try.func71 rfl rfl (by simp) (Hp.start (by simpa using h0) (by simp) (by simp)) ?_
  show JC _ _ _ [(0, Ptr b 0)] _
  refine JC_seq ?_
  refine JC_region ?_
  refine JL_val _ (Ev_assign rfl) rfl ?_
  refine JL_val _ (Ev_assign rfl) rfl ?_
  refine JL_nil ?_
  refine JQ_then ?_
  refine JC_seq ?_
  refine JC_seq ?_
  refine JC_region ?_
  refine JL_val _ (Ev_move rfl) rfl ?_
  refine JL_nil ?_
  refine JQ_then ?_
  refine JC_block ?_
  refine JC_loop (ι := Nat × UInt8 × UInt8 × List UInt8) (fun ⟨k, up, dn, th⟩ => [(0, Ptr b 0), (2, U8 up), (3, U8 dn), (6, I64 ((k:Int)))]) (fun ⟨k, up, dn, th⟩ => [⟨b, cu8 (zr8 176) ++ cu8 th ++ cu8 (zr8 256), 106, (0, 0)⟩]) (fun ⟨k, up, dn, th⟩ => k ≤ 255 ∧ (up, dn, th) = tabN k ∧ th.length = 256) (fun ⟨k, up, dn, th⟩ => 255 - k) (0, 1, 1, zr8 256) ⟨by omega, rfl, zr8_len 256⟩ (Sub.cons rfl (Sub.cons rfl (Sub.cons rfl (Sub.cons rfl (Sub.nil))))) rfl ?_
  rintro ⟨k, up, dn, th⟩ ⟨hx1, hx2, hth⟩
  show JC _ _ _ [(0, Ptr b 0), (2, U8 up), (3, U8 dn), (6, I64 ((k:Int)))] [⟨b, cu8 (zr8 176) ++ cu8 th ++ cu8 (zr8 256), 106, (0, 0)⟩]
  refine JC_seq ?_
  refine JC_region ?_
  refine JL_val (.bool (decide (((k:Int)) < (255:Int)))) (Ev_bini rfl rfl fun _ => bin_lss_i _ _) rfl ?_
  refine JL_nil ?_
  refine JQ_then ?_
  refine JC_seq ?_
  refine JC_cond (decide (((k:Int)) < (255:Int))) rfl (fun hb1 => ?_) (fun hb1 => ?_)
  ·
    have hp1 : ((k:Int)) < (255:Int) := of_decide_eq_true hb1
    refine JC_skip ?_
    refine JQ_then ?_
    refine JC_seq ?_
    refine JC_block ?_
    refine JC_seq ?_
    refine JC_draw 42 3 [(0, Ptr b 0), (1, U8 up), (2, U8 dn), (4, Ptr b 0), (5, Ptr b 176)] Try.mixed rfl (by decide +kernel) ?_
    refine DP_one ⟨[], [0, 1, 2, 4, 5], [], [0, 1, 2, 4, 5], [3]⟩ 3 _ rfl rfl (by decide +kernel) rfl ⟨⟨_, rfl, Qok_val rfl (Ev_move rfl)⟩, ⟨_, rfl, Qok_val rfl (Ev_move rfl)⟩, ⟨_, rfl, Qok_val rfl (Ev_move rfl)⟩, ⟨_, rfl, Qok_val rfl (Ev_nilCheck rfl)⟩, ⟨_, rfl, Qok_val rfl (Ev_fieldAddr 176 104 256 Try.underlying106 rfl Try.sizeOf104 rfl rfl)⟩, trivial⟩ rfl (Cok_step rfl (Step_callP 70 [U8 dn] (U8 (bent dn)) (Cl_func [U8 dn] Try.call70 rfl) (fun w1 _ => bent_c dn w1))) ?_
    rintro v1 L1 ⟨rfl, rfl⟩
    have := UInt8.toNat_lt up
    refine ⟨[(6, Ptr b (up.toNat + 176))], ?_⟩
    show DP _ _ _ _ _ _ _ _ [⟨b, cu8 (zr8 176) ++ cu8 th ++ cu8 (zr8 256), 106, (0, 0)⟩]
    have := UInt8.toNat_lt up
    have hl1 : (th.set up.toNat (bent dn)).length = 256 := by simp [hth]
    refine DP_one ⟨[3], [0, 1, 2, 4, 5, 6], [2], [0, 1, 4, 5, 6], [7]⟩ 7 _ rfl rfl (by decide +kernel) rfl ⟨⟨_, rfl, Qok_val rfl (Ev_move rfl)⟩, ⟨_, rfl, Qok_val rfl (Ev_move rfl)⟩, ⟨_, rfl, Qok_val rfl (Ev_nilCheck rfl)⟩, ⟨_, rfl, Qok_val rfl (Ev_fieldAddr 176 104 256 Try.underlying106 rfl Try.sizeOf104 rfl rfl)⟩, ⟨_, rfl, Qok_val rfl (Ev_indexArr 256 5 1 (up.toNat + 176) Try.underlying104 Try.sizeOf5 rfl rfl (by have := UInt8.toNat_lt up; omega) (by have := UInt8.toNat_lt up; omega) (by have := UInt8.toNat_lt up; omega))⟩, trivial⟩ rfl (Cok_step rfl (Step_store 0 b (up.toNat + 176) 1 (cu8 (zr8 176) ++ cu8 th ++ cu8 (zr8 256)) 106 (U8 (bent dn)) ([U8 (bent dn)]) (cu8 (zr8 176) ++ cu8 (th.set up.toNat (bent dn)) ++ cu8 (zr8 256)) rfl rfl rfl rfl Try.sizeOf5 rfl (by simp [Value.oneCell']) (by simp [(zr8_len 176), hth, (zr8_len 256)]; try omega) (lay_left (by simp [(zr8_len 176), hth]; omega) (lay_right 176 up.toNat (by simp [(zr8_len 176)]) (by omega) (lay8 _ _ _ (by rw [hth]; omega)))))) ?_
    rintro v1 L1 ⟨rfl, rfl⟩
    refine ⟨[], ?_⟩
    show DP _ _ _ _ _ _ _ _ [⟨b, cu8 (zr8 176) ++ cu8 (th.set up.toNat (bent dn)) ++ cu8 (zr8 256), 106, (0, 0)⟩]
    refine DP_end ⟨[3, 7], [0, 1, 2, 4, 5, 6], [0, 1, 2, 4, 5, 6], [], []⟩ rfl rfl (by decide +kernel) rfl trivial ?_
    refine K_sub (F' := [(8, Ptr b 0), (9, U8 up), (10, U8 dn), (11, U8 (bent dn)), (12, Ptr b 0), (13, Ptr b 176), (14, Ptr b (up.toNat + 176)), (0, Ptr b 0), (2, U8 up), (3, U8 dn), (6, I64 ((k:Int))), (7, .bool (decide (((k:Int)) < (255:Int))))]) (Sub.cons (by kernel_rfl) (Sub.cons (by kernel_rfl) (Sub.cons (by kernel_rfl) (Sub.cons (by kernel_rfl) (Sub.cons (by kernel_rfl) (Sub.cons (by kernel_rfl) (Sub.cons (by kernel_rfl) (Sub.cons (by kernel_rfl) (Sub.cons (by kernel_rfl) (Sub.cons (by kernel_rfl) (Sub.cons (by kernel_rfl) (Sub.cons (by kernel_rfl) (Sub.nil))))))))))))) ?_
    show JQ _ _ _ [(8, Ptr b 0), (9, U8 up), (10, U8 dn), (11, U8 (bent dn)), (12, Ptr b 0), (13, Ptr b 176), (14, Ptr b (up.toNat + 176)), (0, Ptr b 0), (2, U8 up), (3, U8 dn), (6, I64 ((k:Int))), (7, .bool (decide (((k:Int)) < (255:Int))))] _
    refine JQ_then ?_
    refine JC_seq ?_
    refine JC_region ?_
    refine JL_val _ (Ev_move rfl) rfl ?_
    refine JL_val _ (Ev_move rfl) rfl ?_
    refine JL_step (Step_callP 68 [U8 up] (U8 (dbl up)) (Cl_func [U8 up] Try.call68 rfl) (fun w1 _ => double_c up w1)) rfl ?_
    rintro v1 L1 ⟨rfl, rfl⟩
    show JL _ _ _ _ ((17, U8 (dbl up)) :: _) [⟨b, cu8 (zr8 176) ++ cu8 (th.set up.toNat (bent dn)) ++ cu8 (zr8 256), 106, (0, 0)⟩]
    refine JL_val (U8 (up ^^^ (dbl up))) (Ev_bini rfl rfl fun _ => bin_xor_u8 up (dbl up)) rfl ?_
    refine JL_val _ (Ev_assign rfl) rfl ?_
    refine JL_nil ?_
    refine JQ_then ?_
    refine JC_region ?_
    refine JL_val _ (Ev_move rfl) rfl ?_
    refine JL_step (Step_callP 16 [U8 dn, U8 (246:UInt8)] (U8 (gmul dn (246:UInt8))) (Cl_func [U8 dn, U8 (246:UInt8)] Try.call16 rfl) (fun w1 _ => product_c dn (246:UInt8) w1)) rfl ?_
    rintro v1 L1 ⟨rfl, rfl⟩
    show JL _ _ _ _ ((20, U8 (gmul dn (246:UInt8))) :: _) [⟨b, cu8 (zr8 176) ++ cu8 (th.set up.toNat (bent dn)) ++ cu8 (zr8 256), 106, (0, 0)⟩]
    refine JL_val _ (Ev_assign rfl) rfl ?_
    refine JL_nil ?_
    refine JQ_in_normal ?_
    refine JQ_then ?_
    refine JC_region ?_
    refine JL_val (I64 ((k:Int) + 1)) (Ev_bini rfl rfl fun _ => bin_add_i _ _ ((k:Int) + 1) (by omega) (by omega)) rfl ?_
    refine JL_val _ (Ev_move rfl) rfl ?_
    refine JL_nil ?_
    refine JQ_thenK ?_
    refine K_next (k + 1, up ^^^ (dbl up), gmul dn (246:UInt8), th.set up.toNat (bent dn)) ⟨by omega, by rw [tabN, ← hx2], hl1⟩ (by simp; omega) (Sub.cons rfl (Sub.cons rfl (Sub.cons rfl (Sub.cons rfl (Sub.nil))))) rfl
  ·
    have hp1 : ¬ (((k:Int)) < (255:Int)) := of_decide_eq_false hb1
    refine JC_exit ?_
    refine JQ_then_exit ?_
    refine JQ_then_exit ?_
    refine JQ_in_same ?_
    refine JQ_then ?_
    refine JC_seq ?_
    refine JC_region ?_
    refine JL_val _ (Ev_move rfl) rfl ?_
    refine JL_val _ (Ev_nilCheck rfl) rfl ?_
    refine JL_val (Ptr b 176) (Ev_fieldAddr 176 104 256 Try.underlying106 rfl Try.sizeOf104 rfl rfl) rfl ?_
    refine JL_val (Ptr b 176) (Ev_indexArr 256 5 1 176 Try.underlying104 Try.sizeOf5 rfl rfl (by omega) (by omega) (by omega)) rfl ?_
    have hl2 : (th.set 0 (99:UInt8)).length = 256 := by simp [hth]
    refine JL_step (Step_store 0 b 176 1 (cu8 (zr8 176) ++ cu8 th ++ cu8 (zr8 256)) 106 (U8 (99:UInt8)) ([U8 (99:UInt8)]) (cu8 (zr8 176) ++ cu8 (th.set 0 (99:UInt8)) ++ cu8 (zr8 256)) rfl rfl rfl rfl Try.sizeOf5 rfl (by simp [Value.oneCell']) (by simp [(zr8_len 176), hth, (zr8_len 256)]) (lay_left (by simp [(zr8_len 176), hth]) (lay_right 176 0 (by simp [(zr8_len 176)]) rfl (lay8 _ _ _ (by rw [hth]; omega))))) rfl ?_
    rintro v1 L1 ⟨rfl, rfl⟩
    show JL _ _ _ _ _ [⟨b, cu8 (zr8 176) ++ cu8 (th.set 0 (99:UInt8)) ++ cu8 (zr8 256), 106, (0, 0)⟩]
    refine JL_nil ?_
    refine JQ_then ?_
    refine JC_seq ?_
    refine JC_region ?_
    refine JL_val _ (Ev_move rfl) rfl ?_
    refine JL_val _ (Ev_nilCheck rfl) rfl ?_
    refine JL_val (Ptr b 176) (Ev_fieldAddr 176 104 256 Try.underlying106 rfl Try.sizeOf104 rfl rfl) rfl ?_
    refine JL_val (.agg (cu8 (th.set 0 (99:UInt8))).toArray) (Ev_load rfl (Ld_agg Try.isAgg104 Try.sizeOf104 (len_cu8 hl2) (MemAt.ent 0 rfl (Seg.left (Seg.right 176 0 (by simp [(zr8_len 176)]) rfl (Seg.whole _)))))) rfl ?_
    refine JL_val _ (Ev_move rfl) rfl ?_
    refine JL_nil ?_
    refine JQ_then ?_
    refine JC_block ?_
    refine JC_loop (ι := Nat × List UInt8) (fun ⟨j, bk⟩ => [(0, Ptr b 0), (29, .agg (cu8 (th.set 0 (99:UInt8))).toArray), (30, I64 ((j:Int)))]) (fun ⟨j, bk⟩ => [⟨b, cu8 (zr8 176) ++ cu8 (th.set 0 (99:UInt8)) ++ cu8 bk, 106, (0, 0)⟩]) (fun ⟨j, bk⟩ => j ≤ 256 ∧ bk = bkN (th.set 0 (99:UInt8)) j ∧ bk.length = 256) (fun ⟨j, bk⟩ => 256 - j) (0, zr8 256) ⟨by omega, rfl, zr8_len 256⟩ (Sub.cons rfl (Sub.cons rfl (Sub.cons rfl (Sub.nil)))) rfl ?_
    rintro ⟨j, bk⟩ ⟨hy1, hy2, hbk⟩
    show JC _ _ _ [(0, Ptr b 0), (29, .agg (cu8 (th.set 0 (99:UInt8))).toArray), (30, I64 ((j:Int)))] [⟨b, cu8 (zr8 176) ++ cu8 (th.set 0 (99:UInt8)) ++ cu8 bk, 106, (0, 0)⟩]
    refine JC_seq ?_
    refine JC_region ?_
    refine JL_val (.bool (decide (((j:Int)) < (256:Int)))) (Ev_bini rfl rfl fun _ => bin_lss_i _ _) rfl ?_
    refine JL_nil ?_
    refine JQ_then ?_
    refine JC_seq ?_
    refine JC_cond (decide (((j:Int)) < (256:Int))) rfl (fun hb2 => ?_) (fun hb2 => ?_)
    ·
      have hp2 : ((j:Int)) < (256:Int) := of_decide_eq_true hb2
      refine JC_skip ?_
      refine JQ_then ?_
      refine JC_seq ?_
      refine JC_block ?_
      refine JC_seq ?_
      refine JC_region ?_
      refine JL_val _ (Ev_move rfl) rfl ?_
      refine JL_val (U8 (g8 (th.set 0 (99:UInt8)) j)) (Ev_index1 256 5 _ Try.underlying104 Try.isAgg5 Try.sizeOf5 rfl rfl (by omega) (by omega) (Seg.get1 (Seg.get (g8_get (i := j) (by rw [hl2]; omega))) (by omega))) rfl ?_
      refine JL_val _ (Ev_assign rfl) rfl ?_
      refine JL_val _ (Ev_assign rfl) rfl ?_
      refine JL_nil ?_
      refine JQ_then ?_
      refine JC_region ?_
      refine JL_val _ (Ev_move rfl) rfl ?_
      refine JL_val _ (Ev_move rfl) rfl ?_
      refine JL_val _ (Ev_move rfl) rfl ?_
      refine JL_val (U8 (UInt8.ofNat j)) (Ev_conv _ _ rfl fun _ => conv_i64_u8 (by rw [Try.underlying3]; rfl) Try.underlying5 j _ (by omega)) rfl ?_
      refine JL_val _ (Ev_nilCheck rfl) rfl ?_
      refine JL_val (Ptr b 432) (Ev_fieldAddr 432 104 256 Try.underlying106 rfl Try.sizeOf104 rfl rfl) rfl ?_
      have := UInt8.toNat_lt (g8 (th.set 0 (99:UInt8)) j)
      refine JL_val (Ptr b (((g8 (th.set 0 (99:UInt8)) j).toNat) + 432)) (Ev_indexArr 256 5 1 (((g8 (th.set 0 (99:UInt8)) j).toNat) + 432) Try.underlying104 Try.sizeOf5 rfl rfl (by have := UInt8.toNat_lt (g8 (th.set 0 (99:UInt8)) j); omega) (by have := UInt8.toNat_lt (g8 (th.set 0 (99:UInt8)) j); omega) (by have := UInt8.toNat_lt (g8 (th.set 0 (99:UInt8)) j); omega)) rfl ?_
      have hl3 : (bk.set ((g8 (th.set 0 (99:UInt8)) j).toNat) (UInt8.ofNat j)).length = 256 := by simp [hbk]
      refine JL_step (Step_store 0 b (((g8 (th.set 0 (99:UInt8)) j).toNat) + 432) 1 (cu8 (zr8 176) ++ cu8 (th.set 0 (99:UInt8)) ++ cu8 bk) 106 (U8 (UInt8.ofNat j)) ([U8 (UInt8.ofNat j)]) (cu8 (zr8 176) ++ cu8 (th.set 0 (99:UInt8)) ++ cu8 (bk.set ((g8 (th.set 0 (99:UInt8)) j).toNat) (UInt8.ofNat j))) rfl rfl rfl rfl Try.sizeOf5 rfl (by simp [Value.oneCell']) (by simp [(zr8_len 176), hl2, hbk]; try omega) (lay_right 432 ((g8 (th.set 0 (99:UInt8)) j).toNat) (by simp [(zr8_len 176), hl2]) (by omega) (lay8 _ _ _ (by rw [hbk]; omega)))) rfl ?_
      rintro v1 L1 ⟨rfl, rfl⟩
      show JL _ _ _ _ _ [⟨b, cu8 (zr8 176) ++ cu8 (th.set 0 (99:UInt8)) ++ cu8 (bk.set ((g8 (th.set 0 (99:UInt8)) j).toNat) (UInt8.ofNat j)), 106, (0, 0)⟩]
      refine JL_nil ?_
      refine JQ_in_normal ?_
      refine JQ_then ?_
      refine JC_region ?_
      refine JL_val (I64 ((j:Int) + 1)) (Ev_bini rfl rfl fun _ => bin_add_i _ _ ((j:Int) + 1) (by omega) (by omega)) rfl ?_
      refine JL_val _ (Ev_move rfl) rfl ?_
      refine JL_nil ?_
      refine JQ_thenK ?_
      refine K_next (j + 1, bk.set ((g8 (th.set 0 (99:UInt8)) j).toNat) (UInt8.ofNat j)) ⟨by omega, by rw [bkN, ← hy2], hl3⟩ (by simp; omega) (Sub.cons rfl (Sub.cons rfl (Sub.cons rfl (Sub.nil)))) rfl
    ·
      have hp2 : ¬ (((j:Int)) < (256:Int)) := of_decide_eq_false hb2
      refine JC_exit ?_
      refine JQ_then_exit ?_
      refine JQ_then_exit ?_
      refine JQ_in_same ?_
      refine JQ_end (.tuple #[]) (res0 Try.results71 ) fun w1 hw1 => ?_
      have e1 : k = 255 := by omega
      have e2 : j = 256 := by omega
      subst e1; subst e2
      have e3 : th.set 0 (99:UInt8) = thereL := by rw [thereL, ← hx2]
      have e4 : bk = backL := by rw [backL, hy2, e3]
      rw [e3, e4] at hw1
      exact ⟨_, _, rfl, ⟨rfl, rfl⟩, hw1⟩

theorem new_c (key : List UInt8) (w : World) (hk : key.length = 16) : Calls Try.prog 22 #[.agg (cu8 key).toArray] w (Post w [] (fun v L => ∃ nb, v = Ptr nb 0 ∧ L = [⟨nb, cu8 (rkL key) ++ cu8 thereL ++ cu8 backL, 106, (0, 0)⟩])) := by
  refine enter w [] 109 [] [.agg (cu8 key).toArray] Try.func22 rfl rfl (by simp) (Hp.start (by simp) (by simp) (by simp)) ?_
  show JC _ _ _ [(0, .agg (cu8 key).toArray)] _
  refine JC_seq ?_
  refine JC_region ?_
  refine JL_step (Step_box (.agg (cu8 key).toArray) (cu8 key) rfl (by first | rfl | simp)) rfl ?_
  rintro v1 L1 ⟨nb1, hnb1, rfl, rfl⟩
  show JL _ _ _ _ ((1, Ptr nb1 0) :: _) [⟨nb1, cu8 key, 28, (0, 0)⟩]
  refine JL_val _ (Ev_assign rfl) rfl ?_
  refine JL_nil ?_
  refine JQ_then ?_
  refine JC_seq ?_
  refine JC_region ?_
  refine JL_val (.agg (cu8 (zr8 176) ++ cu8 (zr8 256) ++ cu8 (zr8 256)).toArray) (Ev_build [] _ rfl (fun _ => by kernel_rfl)) rfl ?_
  refine JL_step (Step_box (.agg (cu8 (zr8 176) ++ cu8 (zr8 256) ++ cu8 (zr8 256)).toArray) (cu8 (zr8 176) ++ cu8 (zr8 256) ++ cu8 (zr8 256)) rfl (by first | rfl | simp)) rfl ?_
  rintro v1 L1 ⟨nb2, hnb2, rfl, rfl⟩
  show JL _ _ _ _ ((12, Ptr nb2 0) :: _) [⟨nb1, cu8 key, 28, (0, 0)⟩, ⟨nb2, cu8 (zr8 176) ++ cu8 (zr8 256) ++ cu8 (zr8 256), 106, (0, 0)⟩]
  refine JL_val _ (Ev_assign rfl) rfl ?_
  refine JL_nil ?_
  refine JQ_then ?_
  refine JC_seq ?_
  refine JC_region ?_
  refine JL_val _ (Ev_move rfl) rfl ?_
  refine JL_step (Step_callW 71 [Ptr nb2 0] 1 ⟨nb2, cu8 (zr8 176) ++ cu8 (zr8 256) ++ cu8 (zr8 256), 106, (0, 0)⟩ _ (fun v e' l' => v = .tuple #[] ∧ e' = ⟨nb2, cu8 (zr8 176) ++ cu8 thereL ++ cu8 backL, 106, (0, 0)⟩ ∧ l' = []) (Cl_func [Ptr nb2 0] Try.call71 rfl) rfl (by rintro v l ⟨rfl, rfl⟩; exact ⟨_, _, rfl, rfl, rfl, rfl, rfl⟩) (fun w1 hw1 => tables_c nb2 w1 (hw1.ent _ (List.mem_of_getElem? (i := 1) rfl)))) rfl ?_
  rintro v1 L1 ⟨_, _, ⟨rfl, rfl, rfl⟩, rfl⟩
  show JL _ _ _ _ ((14, .tuple #[]) :: _) [⟨nb1, cu8 key, 28, (0, 0)⟩, ⟨nb2, cu8 (zr8 176) ++ cu8 thereL ++ cu8 backL, 106, (0, 0)⟩]
  refine JL_nil ?_
  refine JQ_then ?_
  refine JC_seq ?_
  refine JC_region ?_
  refine JL_val (.agg (cu8 (zr8 176)).toArray) (Ev_build [] _ rfl (fun _ => by kernel_rfl)) rfl ?_
  refine JL_step (Step_alloc _ (cu8 (zr8 176)) Try.zeroValue108 (by kernel_rfl)) rfl ?_
  rintro v1 L1 ⟨nb3, hnb3, rfl, rfl⟩
  show JL _ _ _ _ ((4, Ptr nb3 0) :: _) [⟨nb1, cu8 key, 28, (0, 0)⟩, ⟨nb2, cu8 (zr8 176) ++ cu8 thereL ++ cu8 backL, 106, (0, 0)⟩, ⟨nb3, cu8 (zr8 176), 108, (0, 0)⟩]
  refine JL_step (Step_store 2 nb3 0 176 (cu8 (zr8 176)) 108 (.agg (cu8 (zr8 176)).toArray) (cu8 (zr8 176)) (cu8 (zr8 176)) rfl rfl rfl (by first | rfl | simp) Try.sizeOf108 (len_cu8 (zr8_len 176)) (by first | exact one_u8 | exact one_u32 | exact one_u64 | (simp [cu8, cu32, cu64, Value.oneCell']; done)) (by simp [(zr8_len 176)]) (lay_whole (by simp [(zr8_len 176), (zr8_len 176)]))) rfl ?_
  rintro v1 L1 ⟨rfl, rfl⟩
  show JL _ _ _ _ _ [⟨nb1, cu8 key, 28, (0, 0)⟩, ⟨nb2, cu8 (zr8 176) ++ cu8 thereL ++ cu8 backL, 106, (0, 0)⟩, ⟨nb3, cu8 (zr8 176), 108, (0, 0)⟩]
  refine JL_nil ?_
  refine JQ_then ?_
  refine JC_seq ?_
  refine JC_region ?_
  refine JL_val _ (Ev_assign rfl) rfl ?_
  refine JL_nil ?_
  refine JQ_then ?_
  refine JC_seq ?_
  refine JC_seq ?_
  refine JC_region ?_
  refine JL_val _ (Ev_move rfl) rfl ?_
  refine JL_nil ?_
  refine JQ_then ?_
  refine JC_block ?_
  refine JC_loop (ι := Nat × UInt8 × List UInt8) (fun ⟨i, f, ws⟩ => [(1, Ptr nb1 0), (2, .pointer none), (3, Ptr nb2 0), (4, Ptr nb3 0), (5, U8 f), (16, I64 ((i:Int)))]) (fun ⟨i, f, ws⟩ => [⟨nb1, cu8 key, 28, (0, 0)⟩, ⟨nb2, cu8 (zr8 176) ++ cu8 thereL ++ cu8 backL, 106, (0, 0)⟩, ⟨nb3, cu8 ws, 108, (0, 0)⟩]) (fun ⟨i, f, ws⟩ => i ≤ 44 ∧ (f, ws) = wsN key i ∧ ws.length = 176) (fun ⟨i, f, ws⟩ => 44 - i) (0, 1, zr8 176) ⟨by omega, rfl, zr8_len 176⟩ (Sub.cons rfl (Sub.cons rfl (Sub.cons rfl (Sub.cons rfl (Sub.cons rfl (Sub.cons rfl (Sub.nil))))))) rfl ?_
  rintro ⟨i, f, ws⟩ ⟨hx1, hx2, hws⟩
  show JC _ _ _ [(1, Ptr nb1 0), (2, .pointer none), (3, Ptr nb2 0), (4, Ptr nb3 0), (5, U8 f), (16, I64 ((i:Int)))] [⟨nb1, cu8 key, 28, (0, 0)⟩, ⟨nb2, cu8 (zr8 176) ++ cu8 thereL ++ cu8 backL, 106, (0, 0)⟩, ⟨nb3, cu8 ws, 108, (0, 0)⟩]
  refine JC_seq ?_
  refine JC_region ?_
  refine JL_val (.bool (decide (((i:Int)) < (44:Int)))) (Ev_bini rfl rfl fun _ => bin_lss_i _ _) rfl ?_
  refine JL_nil ?_
  refine JQ_then ?_
  refine JC_seq ?_
  refine JC_cond (decide (((i:Int)) < (44:Int))) rfl (fun hb1 => ?_) (fun hb1 => ?_)
  ·
    have hp1 : ((i:Int)) < (44:Int) := of_decide_eq_true hb1
    refine JC_skip ?_
    refine JQ_then ?_
    refine JC_seq ?_
    refine JC_block ?_
    refine JC_seq ?_
    refine JC_region ?_
    refine JL_val _ (Ev_move rfl) rfl ?_
    refine JL_val _ (Ev_assign rfl) rfl ?_
    refine JL_nil ?_
    refine JQ_then ?_
    refine JC_seq ?_
    refine JC_seq ?_
    refine JC_region ?_
    refine JL_val _ (Ev_move rfl) rfl ?_
    refine JL_val (.bool (decide (((i:Int)) < (4:Int)))) (Ev_bini rfl rfl fun _ => bin_lss_i _ _) rfl ?_
    refine JL_nil ?_
    refine JQ_then ?_
    refine JC_cond (decide (((i:Int)) < (4:Int))) rfl (fun hb2 => ?_) (fun hb2 => ?_)
    ·
      have hp2 : ((i:Int)) < (4:Int) := of_decide_eq_true hb2
      refine JC_seq ?_
      refine JC_region ?_
      refine JL_val _ (Ev_move rfl) rfl ?_
      refine JL_val _ (Ev_move rfl) rfl ?_
      refine JL_val (I64 (4*(i:Int))) (Ev_bini rfl rfl fun _ => bin_mul_i _ _ (4*(i:Int)) (by omega) (by omega)) rfl ?_
      refine JL_val _ (Ev_move rfl) rfl ?_
      refine JL_val (I64 (4*(i:Int))) (Ev_bini rfl rfl fun _ => bin_mul_i _ _ (4*(i:Int)) (by omega) (by omega)) rfl ?_
      refine JL_val (I64 (4*(i:Int) + 4)) (Ev_bini rfl rfl fun _ => bin_add_i _ _ (4*(i:Int) + 4) (by omega) (by omega)) rfl ?_
      refine JL_val (Slc nb1 (4*i) 4 (16 - 4*i)) (Ev_sliceA 16 5 1 (4*i) (4*i + 4) (4*i) (16 - 4*i) Try.underlying28 Try.sizeOf5 rfl rfl rfl (by omega) (by omega) (by omega) (by omega) (by omega) 4 (by omega)) rfl ?_
      refine JL_val (Ptr nb1 (4*i)) (Ev_s2ap 4 Try.underlying107 rfl (by omega)) rfl ?_
      have hl1 : (mid key (4*i) 4).length = 4 := mid_len (by rw [hk]; omega)
      refine JL_val (.agg (cu8 (mid key (4*i) 4)).toArray) (Ev_load rfl (Ld_agg Try.isAgg107 Try.sizeOf107 (len_cu8 hl1) (MemAt.ent 0 rfl (segm_u8 (4*i) 4 (by rw [hk]; omega))))) rfl ?_
      refine JL_val (Ptr nb3 (4*i)) (Ev_indexArr 44 107 4 (4*i) Try.underlying108 Try.sizeOf107 rfl rfl (by omega) (by omega) (by omega)) rfl ?_
      have hl2 : (spl ws (4*i) (mid key (4*i) 4)).length = 176 := by rw [spl_len (by simp [hws, hl1]; omega)]; simp [hws, hl1]
      refine JL_step (Step_store 2 nb3 (4*i) 4 (cu8 ws) 108 (.agg (cu8 (mid key (4*i) 4)).toArray) (cu8 (mid key (4*i) 4)) (cu8 (spl ws (4*i) (mid key (4*i) 4))) rfl rfl rfl (by first | rfl | simp) Try.sizeOf107 (len_cu8 hl1) (by first | exact one_u8 | exact one_u32 | exact one_u64 | (simp [cu8, cu32, cu64, Value.oneCell']; done)) (by simp [hws]; try omega) (laySpl8 _ _ _ (by simp [hws, hl1]; omega))) rfl ?_
      rintro v1 L1 ⟨rfl, rfl⟩
      show JL _ _ _ _ _ [⟨nb1, cu8 key, 28, (0, 0)⟩, ⟨nb2, cu8 (zr8 176) ++ cu8 thereL ++ cu8 backL, 106, (0, 0)⟩, ⟨nb3, cu8 (spl ws (4*i) (mid key (4*i) 4)), 108, (0, 0)⟩]
      refine JL_nil ?_
      refine JQ_then ?_
      refine JC_exit ?_
      refine JQ_then_exit ?_
      refine JQ_in_same ?_
      refine JQ_then ?_
      refine JC_region ?_
      refine JL_val (I64 ((i:Int) + 1)) (Ev_bini rfl rfl fun _ => bin_add_i _ _ ((i:Int) + 1) (by omega) (by omega)) rfl ?_
      refine JL_val _ (Ev_move rfl) rfl ?_
      refine JL_nil ?_
      refine JQ_thenK ?_
      refine K_next (i + 1, f, spl ws (4*i) (mid key (4*i) 4)) ⟨by omega, by rw [wsN, ← hx2]; simp only [wsStep]; rw [if_pos (by omega)], hl2⟩ (by simp; omega) (Sub.cons rfl (Sub.cons rfl (Sub.cons rfl (Sub.cons rfl (Sub.cons rfl (Sub.cons rfl (Sub.nil))))))) rfl
    ·
      have hp2 : ¬ (((i:Int)) < (4:Int)) := of_decide_eq_false hb2
      refine JC_skip ?_
      refine JQ_then ?_
      refine JC_seq ?_
      refine JC_region ?_
      refine JL_val _ (Ev_move rfl) rfl ?_
      refine JL_val (I64 ((i:Int) - 1)) (Ev_bini rfl rfl fun _ => bin_sub_i _ _ ((i:Int) - 1) (by omega) (by omega)) rfl ?_
      refine JL_val (Ptr nb3 (4*i - 4)) (Ev_indexArr 44 107 4 (4*i - 4) Try.underlying108 Try.sizeOf107 rfl rfl (by omega) (by omega) (by omega)) rfl ?_
      have hl3 : (mid ws (4*i - 4) 4).length = 4 := mid_len (by rw [hws]; omega)
      refine JL_val (.agg (cu8 (mid ws (4*i - 4) 4)).toArray) (Ev_load rfl (Ld_agg Try.isAgg107 Try.sizeOf107 (len_cu8 hl3) (MemAt.ent 2 rfl (segm_u8 (4*i - 4) 4 (by rw [hws]; omega))))) rfl ?_
      refine JL_step (Step_alloc _ (cu8 (zr8 4)) Try.zeroValue107 (by kernel_rfl)) rfl ?_
      rintro v1 L1 ⟨nb4, hnb4, rfl, rfl⟩
      show JL _ _ _ _ ((7, Ptr nb4 0) :: _) [⟨nb1, cu8 key, 28, (0, 0)⟩, ⟨nb2, cu8 (zr8 176) ++ cu8 thereL ++ cu8 backL, 106, (0, 0)⟩, ⟨nb3, cu8 ws, 108, (0, 0)⟩, ⟨nb4, cu8 (zr8 4), 107, (0, 0)⟩]
      refine JL_step (Step_store 3 nb4 0 4 (cu8 (zr8 4)) 107 (.agg (cu8 (mid ws (4*i - 4) 4)).toArray) (cu8 (mid ws (4*i - 4) 4)) (cu8 (mid ws (4*i - 4) 4)) rfl rfl rfl (by first | rfl | simp) Try.sizeOf107 (len_cu8 hl3) (by first | exact one_u8 | exact one_u32 | exact one_u64 | (simp [cu8, cu32, cu64, Value.oneCell']; done)) (by simp [(zr8_len 4)]) (lay_whole (by simp [(zr8_len 4), hl3]))) rfl ?_
      rintro v1 L1 ⟨rfl, rfl⟩
      show JL _ _ _ _ _ [⟨nb1, cu8 key, 28, (0, 0)⟩, ⟨nb2, cu8 (zr8 176) ++ cu8 thereL ++ cu8 backL, 106, (0, 0)⟩, ⟨nb3, cu8 ws, 108, (0, 0)⟩, ⟨nb4, cu8 (mid ws (4*i - 4) 4), 107, (0, 0)⟩]
      refine JL_nil ?_
      refine JQ_then ?_
      refine JC_seq ?_
      refine JC_seq ?_
      refine JC_region ?_
      refine JL_val _ (Ev_move rfl) rfl ?_
      refine JL_val (I64 ((i % 4:Int))) (Ev_bini rfl rfl fun _ => bin_rem_i _ _ ((i % 4:Int)) (by omega) (by omega) (by omega)) rfl ?_
      refine JL_val (.bool (decide (((i % 4:Int)) = (0:Int)))) (Ev_bini rfl rfl fun _ => bin_eql_i _ _) rfl ?_
      refine JL_nil ?_
      refine JQ_then ?_
      refine JC_cond (decide (((i % 4:Int)) = (0:Int))) rfl (fun hb3 => ?_) (fun hb3 => ?_)
      ·
        have hp3 : ((i % 4:Int)) = (0:Int) := of_decide_eq_true hb3
        refine JC_seq ?_
        have := UInt8.toNat_lt (g8 (mid ws (4*i - 4) 4) 1)
        have := UInt8.toNat_lt (g8 (mid ws (4*i - 4) 4) 2)
        have := UInt8.toNat_lt (g8 (mid ws (4*i - 4) 4) 3)
        have := UInt8.toNat_lt (g8 (mid ws (4*i - 4) 4) 0)
        refine JC_draw 109 2 [(0, Ptr nb2 0), (1, Ptr nb4 1), (2, U8 (g8 (mid ws (4*i - 4) 4) 1)), (3, Ptr nb2 0), (4, Ptr nb2 176), (5, Ptr nb2 (((g8 (mid ws (4*i - 4) 4) 1).toNat) + 176)), (6, U8 (g8 thereL ((g8 (mid ws (4*i - 4) 4) 1).toNat))), (7, U8 f), (8, U8 ((g8 thereL ((g8 (mid ws (4*i - 4) 4) 1).toNat)) ^^^ f)), (9, Ptr nb2 0), (10, Ptr nb4 2), (11, U8 (g8 (mid ws (4*i - 4) 4) 2)), (12, Ptr nb2 0), (13, Ptr nb2 176), (14, Ptr nb2 (((g8 (mid ws (4*i - 4) 4) 2).toNat) + 176)), (15, U8 (g8 thereL ((g8 (mid ws (4*i - 4) 4) 2).toNat))), (16, Ptr nb2 0), (17, Ptr nb4 3), (18, U8 (g8 (mid ws (4*i - 4) 4) 3)), (19, Ptr nb2 0), (20, Ptr nb2 176), (21, Ptr nb2 (((g8 (mid ws (4*i - 4) 4) 3).toNat) + 176)), (22, U8 (g8 thereL ((g8 (mid ws (4*i - 4) 4) 3).toNat))), (23, Ptr nb2 0), (24, Ptr nb4 0), (25, U8 (g8 (mid ws (4*i - 4) 4) 0)), (26, Ptr nb2 0), (27, Ptr nb2 176), (28, Ptr nb2 (((g8 (mid ws (4*i - 4) 4) 0).toNat) + 176)), (29, U8 (g8 thereL ((g8 (mid ws (4*i - 4) 4) 0).toNat))), (30, .agg (cu8 ([(g8 thereL ((g8 (mid ws (4*i - 4) 4) 1).toNat)) ^^^ f, g8 thereL ((g8 (mid ws (4*i - 4) 4) 2).toNat), g8 thereL ((g8 (mid ws (4*i - 4) 4) 3).toNat), g8 thereL ((g8 (mid ws (4*i - 4) 4) 0).toNat)])).toArray)] Try.mixed rfl (by decide +kernel) ?_
        have := UInt8.toNat_lt (g8 (mid ws (4*i - 4) 4) 1)
        have := UInt8.toNat_lt (g8 (mid ws (4*i - 4) 4) 2)
        have := UInt8.toNat_lt (g8 (mid ws (4*i - 4) 4) 3)
        have := UInt8.toNat_lt (g8 (mid ws (4*i - 4) 4) 0)
        refine DP_one ⟨[], [0, 1, 2, 3, 4, 5, 6, 7, 8, 9, 10, 11, 12, 13, 14, 15, 16, 17, 18, 19, 20, 21, 22, 23, 24, 25, 26, 27, 28, 29, 30], [], [0, 1, 2, 3, 4, 5, 6, 7, 8, 9, 10, 11, 12, 13, 14, 15, 16, 17, 18, 19, 20, 21, 22, 23, 24, 25, 26, 27, 28, 29, 30], [31]⟩ 31 _ rfl rfl (by decide +kernel) rfl ⟨⟨_, rfl, Qok_val rfl (Ev_move rfl)⟩, ⟨_, rfl, Qok_val rfl (Ev_indexArr 4 5 1 1 Try.underlying107 Try.sizeOf5 rfl rfl (by omega) (by omega) (by omega))⟩, ⟨_, rfl, Qok_val rfl (Ev_load rfl (Ld_one Try.isAgg5 (MemAt.ent 3 rfl (Seg.get (g8_get (i := 1) (by rw [hl3]; omega))))))⟩, ⟨_, rfl, Qok_val rfl (Ev_nilCheck rfl)⟩, ⟨_, rfl, Qok_val rfl (Ev_fieldAddr 176 104 256 Try.underlying106 rfl Try.sizeOf104 rfl rfl)⟩, ⟨_, rfl, Qok_val rfl (Ev_indexArr 256 5 1 (((g8 (mid ws (4*i - 4) 4) 1).toNat) + 176) Try.underlying104 Try.sizeOf5 rfl rfl (by have := UInt8.toNat_lt (g8 (mid ws (4*i - 4) 4) 1); omega) (by have := UInt8.toNat_lt (g8 (mid ws (4*i - 4) 4) 1); omega) (by have := UInt8.toNat_lt (g8 (mid ws (4*i - 4) 4) 1); omega))⟩, ⟨_, rfl, Qok_val rfl (Ev_load rfl (Ld_one Try.isAgg5 (MemAt.ent 1 rfl (Seg.left (Seg.right 176 ((g8 (mid ws (4*i - 4) 4) 1).toNat) (by simp [(zr8_len 176)]) (by omega) (Seg.get (g8_get (i := ((g8 (mid ws (4*i - 4) 4) 1).toNat)) (by rw [thereL_len]; omega))))))))⟩, ⟨_, rfl, Qok_val rfl (Ev_move rfl)⟩, ⟨_, rfl, Qok_val rfl (Ev_bini rfl rfl fun _ => bin_xor_u8 (g8 thereL ((g8 (mid ws (4*i - 4) 4) 1).toNat)) f)⟩, ⟨_, rfl, Qok_val rfl (Ev_move rfl)⟩, ⟨_, rfl, Qok_val rfl (Ev_indexArr 4 5 1 2 Try.underlying107 Try.sizeOf5 rfl rfl (by omega) (by omega) (by omega))⟩, ⟨_, rfl, Qok_val rfl (Ev_load rfl (Ld_one Try.isAgg5 (MemAt.ent 3 rfl (Seg.get (g8_get (i := 2) (by rw [hl3]; omega))))))⟩, ⟨_, rfl, Qok_val rfl (Ev_nilCheck rfl)⟩, ⟨_, rfl, Qok_val rfl (Ev_fieldAddr 176 104 256 Try.underlying106 rfl Try.sizeOf104 rfl rfl)⟩, ⟨_, rfl, Qok_val rfl (Ev_indexArr 256 5 1 (((g8 (mid ws (4*i - 4) 4) 2).toNat) + 176) Try.underlying104 Try.sizeOf5 rfl rfl (by have := UInt8.toNat_lt (g8 (mid ws (4*i - 4) 4) 2); omega) (by have := UInt8.toNat_lt (g8 (mid ws (4*i - 4) 4) 2); omega) (by have := UInt8.toNat_lt (g8 (mid ws (4*i - 4) 4) 2); omega))⟩, ⟨_, rfl, Qok_val rfl (Ev_load rfl (Ld_one Try.isAgg5 (MemAt.ent 1 rfl (Seg.left (Seg.right 176 ((g8 (mid ws (4*i - 4) 4) 2).toNat) (by simp [(zr8_len 176)]) (by omega) (Seg.get (g8_get (i := ((g8 (mid ws (4*i - 4) 4) 2).toNat)) (by rw [thereL_len]; omega))))))))⟩, ⟨_, rfl, Qok_val rfl (Ev_move rfl)⟩, ⟨_, rfl, Qok_val rfl (Ev_indexArr 4 5 1 3 Try.underlying107 Try.sizeOf5 rfl rfl (by omega) (by omega) (by omega))⟩, ⟨_, rfl, Qok_val rfl (Ev_load rfl (Ld_one Try.isAgg5 (MemAt.ent 3 rfl (Seg.get (g8_get (i := 3) (by rw [hl3]; omega))))))⟩, ⟨_, rfl, Qok_val rfl (Ev_nilCheck rfl)⟩, ⟨_, rfl, Qok_val rfl (Ev_fieldAddr 176 104 256 Try.underlying106 rfl Try.sizeOf104 rfl rfl)⟩, ⟨_, rfl, Qok_val rfl (Ev_indexArr 256 5 1 (((g8 (mid ws (4*i - 4) 4) 3).toNat) + 176) Try.underlying104 Try.sizeOf5 rfl rfl (by have := UInt8.toNat_lt (g8 (mid ws (4*i - 4) 4) 3); omega) (by have := UInt8.toNat_lt (g8 (mid ws (4*i - 4) 4) 3); omega) (by have := UInt8.toNat_lt (g8 (mid ws (4*i - 4) 4) 3); omega))⟩, ⟨_, rfl, Qok_val rfl (Ev_load rfl (Ld_one Try.isAgg5 (MemAt.ent 1 rfl (Seg.left (Seg.right 176 ((g8 (mid ws (4*i - 4) 4) 3).toNat) (by simp [(zr8_len 176)]) (by omega) (Seg.get (g8_get (i := ((g8 (mid ws (4*i - 4) 4) 3).toNat)) (by rw [thereL_len]; omega))))))))⟩, ⟨_, rfl, Qok_val rfl (Ev_move rfl)⟩, ⟨_, rfl, Qok_val rfl (Ev_indexArr 4 5 1 0 Try.underlying107 Try.sizeOf5 rfl rfl (by omega) (by omega) (by omega))⟩, ⟨_, rfl, Qok_val rfl (Ev_load rfl (Ld_one Try.isAgg5 (MemAt.ent 3 rfl (Seg.get (g8_get (i := 0) (by rw [hl3]; omega))))))⟩, ⟨_, rfl, Qok_val rfl (Ev_nilCheck rfl)⟩, ⟨_, rfl, Qok_val rfl (Ev_fieldAddr 176 104 256 Try.underlying106 rfl Try.sizeOf104 rfl rfl)⟩, ⟨_, rfl, Qok_val rfl (Ev_indexArr 256 5 1 (((g8 (mid ws (4*i - 4) 4) 0).toNat) + 176) Try.underlying104 Try.sizeOf5 rfl rfl (by have := UInt8.toNat_lt (g8 (mid ws (4*i - 4) 4) 0); omega) (by have := UInt8.toNat_lt (g8 (mid ws (4*i - 4) 4) 0); omega) (by have := UInt8.toNat_lt (g8 (mid ws (4*i - 4) 4) 0); omega))⟩, ⟨_, rfl, Qok_val rfl (Ev_load rfl (Ld_one Try.isAgg5 (MemAt.ent 1 rfl (Seg.left (Seg.right 176 ((g8 (mid ws (4*i - 4) 4) 0).toNat) (by simp [(zr8_len 176)]) (by omega) (Seg.get (g8_get (i := ((g8 (mid ws (4*i - 4) 4) 0).toNat)) (by rw [thereL_len]; omega))))))))⟩, ⟨_, rfl, Qok_val rfl (Ev_build [(0, U8 ((g8 thereL ((g8 (mid ws (4*i - 4) 4) 1).toNat)) ^^^ f)), (1, U8 (g8 thereL ((g8 (mid ws (4*i - 4) 4) 2).toNat))), (2, U8 (g8 thereL ((g8 (mid ws (4*i - 4) 4) 3).toNat))), (3, U8 (g8 thereL ((g8 (mid ws (4*i - 4) 4) 0).toNat)))] _ rfl (fun _ => by kernel_rfl))⟩, trivial⟩ rfl (Cok_step rfl (Step_store 3 nb4 0 4 (cu8 (mid ws (4*i - 4) 4)) 107 (.agg (cu8 ([(g8 thereL ((g8 (mid ws (4*i - 4) 4) 1).toNat)) ^^^ f, g8 thereL ((g8 (mid ws (4*i - 4) 4) 2).toNat), g8 thereL ((g8 (mid ws (4*i - 4) 4) 3).toNat), g8 thereL ((g8 (mid ws (4*i - 4) 4) 0).toNat)])).toArray) (cu8 ([(g8 thereL ((g8 (mid ws (4*i - 4) 4) 1).toNat)) ^^^ f, g8 thereL ((g8 (mid ws (4*i - 4) 4) 2).toNat), g8 thereL ((g8 (mid ws (4*i - 4) 4) 3).toNat), g8 thereL ((g8 (mid ws (4*i - 4) 4) 0).toNat)])) (cu8 ([(g8 thereL ((g8 (mid ws (4*i - 4) 4) 1).toNat)) ^^^ f, g8 thereL ((g8 (mid ws (4*i - 4) 4) 2).toNat), g8 thereL ((g8 (mid ws (4*i - 4) 4) 3).toNat), g8 thereL ((g8 (mid ws (4*i - 4) 4) 0).toNat)])) rfl rfl rfl (by first | rfl | simp) Try.sizeOf107 (by simp []) (by first | exact one_u8 | exact one_u32 | exact one_u64 | (simp [cu8, cu32, cu64, Value.oneCell']; done)) (by simp [hl3]) (lay_whole (by simp [hl3])))) ?_
        rintro v1 L1 ⟨rfl, rfl⟩
        refine ⟨[], ?_⟩
        show DP _ _ _ _ _ _ _ _ [⟨nb1, cu8 key, 28, (0, 0)⟩, ⟨nb2, cu8 (zr8 176) ++ cu8 thereL ++ cu8 backL, 106, (0, 0)⟩, ⟨nb3, cu8 ws, 108, (0, 0)⟩, ⟨nb4, cu8 ([(g8 thereL ((g8 (mid ws (4*i - 4) 4) 1).toNat)) ^^^ f, g8 thereL ((g8 (mid ws (4*i - 4) 4) 2).toNat), g8 thereL ((g8 (mid ws (4*i - 4) 4) 3).toNat), g8 thereL ((g8 (mid ws (4*i - 4) 4) 0).toNat)]), 107, (0, 0)⟩]
        refine DP_end ⟨[31], [0, 1, 2, 3, 4, 5, 6, 7, 8, 9, 10, 11, 12, 13, 14, 15, 16, 17, 18, 19, 20, 21, 22, 23, 24, 25, 26, 27, 28, 29, 30], [0, 1, 2, 3, 4, 5, 6, 7, 8, 9, 10, 11, 12, 13, 14, 15, 16, 17, 18, 19, 20, 21, 22, 23, 24, 25, 26, 27, 28, 29, 30], [], []⟩ rfl rfl (by decide +kernel) rfl trivial ?_
        refine K_sub (F' := [(38, Ptr nb2 0), (39, Ptr nb4 1), (40, U8 (g8 (mid ws (4*i - 4) 4) 1)), (41, Ptr nb2 0), (42, Ptr nb2 176), (43, Ptr nb2 (((g8 (mid ws (4*i - 4) 4) 1).toNat) + 176)), (44, U8 (g8 thereL ((g8 (mid ws (4*i - 4) 4) 1).toNat))), (45, U8 f), (46, U8 ((g8 thereL ((g8 (mid ws (4*i - 4) 4) 1).toNat)) ^^^ f)), (47, Ptr nb2 0), (48, Ptr nb4 2), (49, U8 (g8 (mid ws (4*i - 4) 4) 2)), (50, Ptr nb2 0), (51, Ptr nb2 176), (52, Ptr nb2 (((g8 (mid ws (4*i - 4) 4) 2).toNat) + 176)), (53, U8 (g8 thereL ((g8 (mid ws (4*i - 4) 4) 2).toNat))), (54, Ptr nb2 0), (55, Ptr nb4 3), (56, U8 (g8 (mid ws (4*i - 4) 4) 3)), (57, Ptr nb2 0), (58, Ptr nb2 176), (59, Ptr nb2 (((g8 (mid ws (4*i - 4) 4) 3).toNat) + 176)), (60, U8 (g8 thereL ((g8 (mid ws (4*i - 4) 4) 3).toNat))), (61, Ptr nb2 0), (62, Ptr nb4 0), (63, U8 (g8 (mid ws (4*i - 4) 4) 0)), (64, Ptr nb2 0), (65, Ptr nb2 176), (66, Ptr nb2 (((g8 (mid ws (4*i - 4) 4) 0).toNat) + 176)), (67, U8 (g8 thereL ((g8 (mid ws (4*i - 4) 4) 0).toNat))), (68, .agg (cu8 ([(g8 thereL ((g8 (mid ws (4*i - 4) 4) 1).toNat)) ^^^ f, g8 thereL ((g8 (mid ws (4*i - 4) 4) 2).toNat), g8 thereL ((g8 (mid ws (4*i - 4) 4) 3).toNat), g8 thereL ((g8 (mid ws (4*i - 4) 4) 0).toNat)])).toArray), (1, Ptr nb1 0), (2, .pointer none), (3, Ptr nb2 0), (4, Ptr nb3 0), (5, U8 f), (16, I64 ((i:Int))), (17, .bool (decide (((i:Int)) < (44:Int)))), (18, I64 ((i:Int))), (6, I64 ((i:Int))), (19, I64 ((i:Int))), (20, .bool (decide (((i:Int)) < (4:Int)))), (31, I64 ((i:Int))), (32, I64 ((i:Int) - 1)), (33, Ptr nb3 (4*i - 4)), (34, .agg (cu8 (mid ws (4*i - 4) 4)).toArray), (7, Ptr nb4 0), (35, I64 ((i:Int))), (36, I64 ((i % 4:Int))), (37, .bool (decide (((i % 4:Int)) = (0:Int))))]) (Sub.cons (by kernel_rfl) (Sub.cons (by kernel_rfl) (Sub.cons (by kernel_rfl) (Sub.cons (by kernel_rfl) (Sub.cons (by kernel_rfl) (Sub.cons (by kernel_rfl) (Sub.cons (by kernel_rfl) (Sub.cons (by kernel_rfl) (Sub.cons (by kernel_rfl) (Sub.cons (by kernel_rfl) (Sub.cons (by kernel_rfl) (Sub.cons (by kernel_rfl) (Sub.cons (by kernel_rfl) (Sub.cons (by kernel_rfl) (Sub.cons (by kernel_rfl) (Sub.cons (by kernel_rfl) (Sub.cons (by kernel_rfl) (Sub.cons (by kernel_rfl) (Sub.cons (by kernel_rfl) (Sub.cons (by kernel_rfl) (Sub.cons (by kernel_rfl) (Sub.cons (by kernel_rfl) (Sub.cons (by kernel_rfl) (Sub.cons (by kernel_rfl) (Sub.cons (by kernel_rfl) (Sub.cons (by kernel_rfl) (Sub.cons (by kernel_rfl) (Sub.cons (by kernel_rfl) (Sub.cons (by kernel_rfl) (Sub.cons (by kernel_rfl) (Sub.cons (by kernel_rfl) (Sub.cons (by kernel_rfl) (Sub.cons (by kernel_rfl) (Sub.cons (by kernel_rfl) (Sub.cons (by kernel_rfl) (Sub.cons (by kernel_rfl) (Sub.cons (by kernel_rfl) (Sub.cons (by kernel_rfl) (Sub.cons (by kernel_rfl) (Sub.cons (by kernel_rfl) (Sub.cons (by kernel_rfl) (Sub.cons (by kernel_rfl) (Sub.cons (by kernel_rfl) (Sub.cons (by kernel_rfl) (Sub.cons (by kernel_rfl) (Sub.cons (by kernel_rfl) (Sub.cons (by kernel_rfl) (Sub.cons (by kernel_rfl) (Sub.cons (by kernel_rfl) (Sub.cons (by kernel_rfl) (Sub.nil))))))))))))))))))))))))))))))))))))))))))))))))))) ?_
        show JQ _ _ _ [(38, Ptr nb2 0), (39, Ptr nb4 1), (40, U8 (g8 (mid ws (4*i - 4) 4) 1)), (41, Ptr nb2 0), (42, Ptr nb2 176), (43, Ptr nb2 (((g8 (mid ws (4*i - 4) 4) 1).toNat) + 176)), (44, U8 (g8 thereL ((g8 (mid ws (4*i - 4) 4) 1).toNat))), (45, U8 f), (46, U8 ((g8 thereL ((g8 (mid ws (4*i - 4) 4) 1).toNat)) ^^^ f)), (47, Ptr nb2 0), (48, Ptr nb4 2), (49, U8 (g8 (mid ws (4*i - 4) 4) 2)), (50, Ptr nb2 0), (51, Ptr nb2 176), (52, Ptr nb2 (((g8 (mid ws (4*i - 4) 4) 2).toNat) + 176)), (53, U8 (g8 thereL ((g8 (mid ws (4*i - 4) 4) 2).toNat))), (54, Ptr nb2 0), (55, Ptr nb4 3), (56, U8 (g8 (mid ws (4*i - 4) 4) 3)), (57, Ptr nb2 0), (58, Ptr nb2 176), (59, Ptr nb2 (((g8 (mid ws (4*i - 4) 4) 3).toNat) + 176)), (60, U8 (g8 thereL ((g8 (mid ws (4*i - 4) 4) 3).toNat))), (61, Ptr nb2 0), (62, Ptr nb4 0), (63, U8 (g8 (mid ws (4*i - 4) 4) 0)), (64, Ptr nb2 0), (65, Ptr nb2 176), (66, Ptr nb2 (((g8 (mid ws (4*i - 4) 4) 0).toNat) + 176)), (67, U8 (g8 thereL ((g8 (mid ws (4*i - 4) 4) 0).toNat))), (68, .agg (cu8 ([(g8 thereL ((g8 (mid ws (4*i - 4) 4) 1).toNat)) ^^^ f, g8 thereL ((g8 (mid ws (4*i - 4) 4) 2).toNat), g8 thereL ((g8 (mid ws (4*i - 4) 4) 3).toNat), g8 thereL ((g8 (mid ws (4*i - 4) 4) 0).toNat)])).toArray), (1, Ptr nb1 0), (2, .pointer none), (3, Ptr nb2 0), (4, Ptr nb3 0), (5, U8 f), (16, I64 ((i:Int))), (17, .bool (decide (((i:Int)) < (44:Int)))), (18, I64 ((i:Int))), (6, I64 ((i:Int))), (19, I64 ((i:Int))), (20, .bool (decide (((i:Int)) < (4:Int)))), (31, I64 ((i:Int))), (32, I64 ((i:Int) - 1)), (33, Ptr nb3 (4*i - 4)), (34, .agg (cu8 (mid ws (4*i - 4) 4)).toArray), (7, Ptr nb4 0), (35, I64 ((i:Int))), (36, I64 ((i % 4:Int))), (37, .bool (decide (((i % 4:Int)) = (0:Int))))] _
        refine JQ_then ?_
        refine JC_region ?_
        refine JL_val _ (Ev_move rfl) rfl ?_
        refine JL_step (Step_callP 68 [U8 f] (U8 (dbl f)) (Cl_func [U8 f] Try.call68 rfl) (fun w1 _ => double_c f w1)) rfl ?_
        rintro v1 L1 ⟨rfl, rfl⟩
        show JL _ _ _ _ ((70, U8 (dbl f)) :: _) [⟨nb1, cu8 key, 28, (0, 0)⟩, ⟨nb2, cu8 (zr8 176) ++ cu8 thereL ++ cu8 backL, 106, (0, 0)⟩, ⟨nb3, cu8 ws, 108, (0, 0)⟩, ⟨nb4, cu8 ([(g8 thereL ((g8 (mid ws (4*i - 4) 4) 1).toNat)) ^^^ f, g8 thereL ((g8 (mid ws (4*i - 4) 4) 2).toNat), g8 thereL ((g8 (mid ws (4*i - 4) 4) 3).toNat), g8 thereL ((g8 (mid ws (4*i - 4) 4) 0).toNat)]), 107, (0, 0)⟩]
        refine JL_val _ (Ev_assign rfl) rfl ?_
        refine JL_nil ?_
        refine JQ_then ?_
        refine JC_seq ?_
        refine JC_region ?_
        refine JL_val _ (Ev_move rfl) rfl ?_
        refine JL_nil ?_
        refine JQ_then ?_
        refine JC_block ?_
        refine JC_loop (ι := Nat × List UInt8) (fun ⟨j, s⟩ => [(1, Ptr nb1 0), (2, .pointer none), (3, Ptr nb2 0), (4, Ptr nb3 0), (5, U8 (dbl f)), (6, I64 ((i:Int))), (7, Ptr nb4 0), (16, I64 ((i:Int))), (17, .bool (decide (((i:Int)) < (44:Int)))), (18, I64 ((i:Int))), (19, I64 ((i:Int))), (20, .bool (decide (((i:Int)) < (4:Int)))), (31, I64 ((i:Int))), (32, I64 ((i:Int) - 1)), (33, Ptr nb3 (4*i - 4)), (34, .agg (cu8 (mid ws (4*i - 4) 4)).toArray), (35, I64 ((i:Int))), (36, I64 ((i % 4:Int))), (37, .bool (decide (((i % 4:Int)) = (0:Int)))), (38, Ptr nb2 0), (39, Ptr nb4 1), (40, U8 (g8 (mid ws (4*i - 4) 4) 1)), (41, Ptr nb2 0), (42, Ptr nb2 176), (43, Ptr nb2 (((g8 (mid ws (4*i - 4) 4) 1).toNat) + 176)), (44, U8 (g8 thereL ((g8 (mid ws (4*i - 4) 4) 1).toNat))), (45, U8 f), (46, U8 ((g8 thereL ((g8 (mid ws (4*i - 4) 4) 1).toNat)) ^^^ f)), (47, Ptr nb2 0), (48, Ptr nb4 2), (49, U8 (g8 (mid ws (4*i - 4) 4) 2)), (50, Ptr nb2 0), (51, Ptr nb2 176), (52, Ptr nb2 (((g8 (mid ws (4*i - 4) 4) 2).toNat) + 176)), (53, U8 (g8 thereL ((g8 (mid ws (4*i - 4) 4) 2).toNat))), (54, Ptr nb2 0), (55, Ptr nb4 3), (56, U8 (g8 (mid ws (4*i - 4) 4) 3)), (57, Ptr nb2 0), (58, Ptr nb2 176), (59, Ptr nb2 (((g8 (mid ws (4*i - 4) 4) 3).toNat) + 176)), (60, U8 (g8 thereL ((g8 (mid ws (4*i - 4) 4) 3).toNat))), (61, Ptr nb2 0), (62, Ptr nb4 0), (63, U8 (g8 (mid ws (4*i - 4) 4) 0)), (64, Ptr nb2 0), (65, Ptr nb2 176), (66, Ptr nb2 (((g8 (mid ws (4*i - 4) 4) 0).toNat) + 176)), (67, U8 (g8 thereL ((g8 (mid ws (4*i - 4) 4) 0).toNat))), (68, .agg (cu8 ([(g8 thereL ((g8 (mid ws (4*i - 4) 4) 1).toNat)) ^^^ f, g8 thereL ((g8 (mid ws (4*i - 4) 4) 2).toNat), g8 thereL ((g8 (mid ws (4*i - 4) 4) 3).toNat), g8 thereL ((g8 (mid ws (4*i - 4) 4) 0).toNat)])).toArray), (69, U8 f), (70, U8 (dbl f)), (71, I64 ((j:Int)))]) (fun ⟨j, s⟩ => [⟨nb1, cu8 key, 28, (0, 0)⟩, ⟨nb2, cu8 (zr8 176) ++ cu8 thereL ++ cu8 backL, 106, (0, 0)⟩, ⟨nb3, cu8 s, 108, (0, 0)⟩, ⟨nb4, cu8 ([(g8 thereL ((g8 (mid ws (4*i - 4) 4) 1).toNat)) ^^^ f, g8 thereL ((g8 (mid ws (4*i - 4) 4) 2).toNat), g8 thereL ((g8 (mid ws (4*i - 4) 4) 3).toNat), g8 thereL ((g8 (mid ws (4*i - 4) 4) 0).toNat)]), 107, (0, 0)⟩]) (fun ⟨j, s⟩ => j ≤ 4 ∧ s = wsIn ws i ([(g8 thereL ((g8 (mid ws (4*i - 4) 4) 1).toNat)) ^^^ f, g8 thereL ((g8 (mid ws (4*i - 4) 4) 2).toNat), g8 thereL ((g8 (mid ws (4*i - 4) 4) 3).toNat), g8 thereL ((g8 (mid ws (4*i - 4) 4) 0).toNat)]) j ∧ s.length = 176) (fun ⟨j, s⟩ => 4 - j) (0, ws) ⟨by omega, rfl, hws⟩ (Sub.cons rfl (Sub.cons rfl (Sub.cons rfl (Sub.cons rfl (Sub.cons rfl (Sub.cons rfl (Sub.cons rfl (Sub.cons rfl (Sub.cons rfl (Sub.cons rfl (Sub.cons rfl (Sub.cons rfl (Sub.cons rfl (Sub.cons rfl (Sub.cons rfl (Sub.cons rfl (Sub.cons rfl (Sub.cons rfl (Sub.cons rfl (Sub.cons rfl (Sub.cons rfl (Sub.cons rfl (Sub.cons rfl (Sub.cons rfl (Sub.cons rfl (Sub.cons rfl (Sub.cons rfl (Sub.cons rfl (Sub.cons rfl (Sub.cons rfl (Sub.cons rfl (Sub.cons rfl (Sub.cons rfl (Sub.cons rfl (Sub.cons rfl (Sub.cons rfl (Sub.cons rfl (Sub.cons rfl (Sub.cons rfl (Sub.cons rfl (Sub.cons rfl (Sub.cons rfl (Sub.cons rfl (Sub.cons rfl (Sub.cons rfl (Sub.cons rfl (Sub.cons rfl (Sub.cons rfl (Sub.cons rfl (Sub.cons rfl (Sub.cons rfl (Sub.cons rfl (Sub.cons rfl (Sub.nil)))))))))))))))))))))))))))))))))))))))))))))))))))))) rfl ?_
        rintro ⟨j, s⟩ ⟨hy1, hy2, hs⟩
        show JC _ _ _ [(1, Ptr nb1 0), (2, .pointer none), (3, Ptr nb2 0), (4, Ptr nb3 0), (5, U8 (dbl f)), (6, I64 ((i:Int))), (7, Ptr nb4 0), (16, I64 ((i:Int))), (17, .bool (decide (((i:Int)) < (44:Int)))), (18, I64 ((i:Int))), (19, I64 ((i:Int))), (20, .bool (decide (((i:Int)) < (4:Int)))), (31, I64 ((i:Int))), (32, I64 ((i:Int) - 1)), (33, Ptr nb3 (4*i - 4)), (34, .agg (cu8 (mid ws (4*i - 4) 4)).toArray), (35, I64 ((i:Int))), (36, I64 ((i % 4:Int))), (37, .bool (decide (((i % 4:Int)) = (0:Int)))), (38, Ptr nb2 0), (39, Ptr nb4 1), (40, U8 (g8 (mid ws (4*i - 4) 4) 1)), (41, Ptr nb2 0), (42, Ptr nb2 176), (43, Ptr nb2 (((g8 (mid ws (4*i - 4) 4) 1).toNat) + 176)), (44, U8 (g8 thereL ((g8 (mid ws (4*i - 4) 4) 1).toNat))), (45, U8 f), (46, U8 ((g8 thereL ((g8 (mid ws (4*i - 4) 4) 1).toNat)) ^^^ f)), (47, Ptr nb2 0), (48, Ptr nb4 2), (49, U8 (g8 (mid ws (4*i - 4) 4) 2)), (50, Ptr nb2 0), (51, Ptr nb2 176), (52, Ptr nb2 (((g8 (mid ws (4*i - 4) 4) 2).toNat) + 176)), (53, U8 (g8 thereL ((g8 (mid ws (4*i - 4) 4) 2).toNat))), (54, Ptr nb2 0), (55, Ptr nb4 3), (56, U8 (g8 (mid ws (4*i - 4) 4) 3)), (57, Ptr nb2 0), (58, Ptr nb2 176), (59, Ptr nb2 (((g8 (mid ws (4*i - 4) 4) 3).toNat) + 176)), (60, U8 (g8 thereL ((g8 (mid ws (4*i - 4) 4) 3).toNat))), (61, Ptr nb2 0), (62, Ptr nb4 0), (63, U8 (g8 (mid ws (4*i - 4) 4) 0)), (64, Ptr nb2 0), (65, Ptr nb2 176), (66, Ptr nb2 (((g8 (mid ws (4*i - 4) 4) 0).toNat) + 176)), (67, U8 (g8 thereL ((g8 (mid ws (4*i - 4) 4) 0).toNat))), (68, .agg (cu8 ([(g8 thereL ((g8 (mid ws (4*i - 4) 4) 1).toNat)) ^^^ f, g8 thereL ((g8 (mid ws (4*i - 4) 4) 2).toNat), g8 thereL ((g8 (mid ws (4*i - 4) 4) 3).toNat), g8 thereL ((g8 (mid ws (4*i - 4) 4) 0).toNat)])).toArray), (69, U8 f), (70, U8 (dbl f)), (71, I64 ((j:Int)))] [⟨nb1, cu8 key, 28, (0, 0)⟩, ⟨nb2, cu8 (zr8 176) ++ cu8 thereL ++ cu8 backL, 106, (0, 0)⟩, ⟨nb3, cu8 s, 108, (0, 0)⟩, ⟨nb4, cu8 ([(g8 thereL ((g8 (mid ws (4*i - 4) 4) 1).toNat)) ^^^ f, g8 thereL ((g8 (mid ws (4*i - 4) 4) 2).toNat), g8 thereL ((g8 (mid ws (4*i - 4) 4) 3).toNat), g8 thereL ((g8 (mid ws (4*i - 4) 4) 0).toNat)]), 107, (0, 0)⟩]
        refine JC_seq ?_
        refine JC_region ?_
        refine JL_val (.bool (decide (((j:Int)) < (4:Int)))) (Ev_bini rfl rfl fun _ => bin_lss_i _ _) rfl ?_
        refine JL_nil ?_
        refine JQ_then ?_
        refine JC_seq ?_
        refine JC_cond (decide (((j:Int)) < (4:Int))) rfl (fun hb4 => ?_) (fun hb4 => ?_)
        ·
          have hp4 : ((j:Int)) < (4:Int) := of_decide_eq_true hb4
          refine JC_skip ?_
          refine JQ_then ?_
          refine JC_seq ?_
          refine JC_block ?_
          refine JC_seq ?_
          refine JC_region ?_
          refine JL_val _ (Ev_move rfl) rfl ?_
          refine JL_val _ (Ev_assign rfl) rfl ?_
          refine JL_nil ?_
          refine JQ_then ?_
          refine JC_draw 109 2 [(0, I64 ((i:Int))), (1, I64 ((j:Int))), (2, I64 ((i:Int))), (3, I64 ((i:Int) - 4)), (4, I64 ((j:Int))), (5, Ptr nb3 (4*i - 16)), (6, Ptr nb3 (4*i + j - 16)), (7, U8 (g8 s (4*i + j - 16))), (8, I64 ((j:Int))), (9, Ptr nb4 j), (10, U8 (g8 ([(g8 thereL ((g8 (mid ws (4*i - 4) 4) 1).toNat)) ^^^ f, g8 thereL ((g8 (mid ws (4*i - 4) 4) 2).toNat), g8 thereL ((g8 (mid ws (4*i - 4) 4) 3).toNat), g8 thereL ((g8 (mid ws (4*i - 4) 4) 0).toNat)]) j)), (11, U8 ((g8 s (4*i + j - 16)) ^^^ (g8 ([(g8 thereL ((g8 (mid ws (4*i - 4) 4) 1).toNat)) ^^^ f, g8 thereL ((g8 (mid ws (4*i - 4) 4) 2).toNat), g8 thereL ((g8 (mid ws (4*i - 4) 4) 3).toNat), g8 thereL ((g8 (mid ws (4*i - 4) 4) 0).toNat)]) j))), (12, Ptr nb3 (4*i)), (13, Ptr nb3 (4*i + j))] Try.mixed rfl (by decide +kernel) ?_
          have hl4 : (s.set (4*i + j) ((g8 s (4*i + j - 16)) ^^^ (g8 ([(g8 thereL ((g8 (mid ws (4*i - 4) 4) 1).toNat)) ^^^ f, g8 thereL ((g8 (mid ws (4*i - 4) 4) 2).toNat), g8 thereL ((g8 (mid ws (4*i - 4) 4) 3).toNat), g8 thereL ((g8 (mid ws (4*i - 4) 4) 0).toNat)]) j))).length = 176 := by simp [hs]
          refine DP_one ⟨[], [0, 1, 2, 3, 4, 5, 6, 7, 8, 9, 10, 11, 12, 13], [], [0, 1, 2, 3, 4, 5, 6, 7, 8, 9, 10, 11, 12, 13], [14]⟩ 14 _ rfl rfl (by decide +kernel) rfl ⟨⟨_, rfl, Qok_val rfl (Ev_move rfl)⟩, ⟨_, rfl, Qok_val rfl (Ev_move rfl)⟩, ⟨_, rfl, Qok_val rfl (Ev_move rfl)⟩, ⟨_, rfl, Qok_val rfl (Ev_bini rfl rfl fun _ => bin_sub_i _ _ ((i:Int) - 4) (by omega) (by omega))⟩, ⟨_, rfl, Qok_val rfl (Ev_move rfl)⟩, ⟨_, rfl, Qok_val rfl (Ev_indexArr 44 107 4 (4*i - 16) Try.underlying108 Try.sizeOf107 rfl rfl (by omega) (by omega) (by omega))⟩, ⟨_, rfl, Qok_val rfl (Ev_indexArr 4 5 1 (4*i + j - 16) Try.underlying107 Try.sizeOf5 rfl rfl (by omega) (by omega) (by omega))⟩, ⟨_, rfl, Qok_val rfl (Ev_load rfl (Ld_one Try.isAgg5 (MemAt.ent 2 rfl (Seg.get (g8_get (i := (4*i + j - 16)) (by rw [hs]; omega))))))⟩, ⟨_, rfl, Qok_val rfl (Ev_move rfl)⟩, ⟨_, rfl, Qok_val rfl (Ev_indexArr 4 5 1 j Try.underlying107 Try.sizeOf5 rfl rfl (by omega) (by omega) (by omega))⟩, ⟨_, rfl, Qok_val rfl (Ev_load rfl (Ld_one Try.isAgg5 (MemAt.ent 3 rfl (Seg.get (g8_get (i := j) (by simp; omega))))))⟩, ⟨_, rfl, Qok_val rfl (Ev_bini rfl rfl fun _ => bin_xor_u8 (g8 s (4*i + j - 16)) (g8 ([(g8 thereL ((g8 (mid ws (4*i - 4) 4) 1).toNat)) ^^^ f, g8 thereL ((g8 (mid ws (4*i - 4) 4) 2).toNat), g8 thereL ((g8 (mid ws (4*i - 4) 4) 3).toNat), g8 thereL ((g8 (mid ws (4*i - 4) 4) 0).toNat)]) j))⟩, ⟨_, rfl, Qok_val rfl (Ev_indexArr 44 107 4 (4*i) Try.underlying108 Try.sizeOf107 rfl rfl (by omega) (by omega) (by omega))⟩, ⟨_, rfl, Qok_val rfl (Ev_indexArr 4 5 1 (4*i + j) Try.underlying107 Try.sizeOf5 rfl rfl (by omega) (by omega) (by omega))⟩, trivial⟩ rfl (Cok_step rfl (Step_store 2 nb3 (4*i + j) 1 (cu8 s) 108 (U8 ((g8 s (4*i + j - 16)) ^^^ (g8 ([(g8 thereL ((g8 (mid ws (4*i - 4) 4) 1).toNat)) ^^^ f, g8 thereL ((g8 (mid ws (4*i - 4) 4) 2).toNat), g8 thereL ((g8 (mid ws (4*i - 4) 4) 3).toNat), g8 thereL ((g8 (mid ws (4*i - 4) 4) 0).toNat)]) j))) ([U8 ((g8 s (4*i + j - 16)) ^^^ (g8 ([(g8 thereL ((g8 (mid ws (4*i - 4) 4) 1).toNat)) ^^^ f, g8 thereL ((g8 (mid ws (4*i - 4) 4) 2).toNat), g8 thereL ((g8 (mid ws (4*i - 4) 4) 3).toNat), g8 thereL ((g8 (mid ws (4*i - 4) 4) 0).toNat)]) j))]) (cu8 (s.set (4*i + j) ((g8 s (4*i + j - 16)) ^^^ (g8 ([(g8 thereL ((g8 (mid ws (4*i - 4) 4) 1).toNat)) ^^^ f, g8 thereL ((g8 (mid ws (4*i - 4) 4) 2).toNat), g8 thereL ((g8 (mid ws (4*i - 4) 4) 3).toNat), g8 thereL ((g8 (mid ws (4*i - 4) 4) 0).toNat)]) j)))) rfl rfl rfl rfl Try.sizeOf5 rfl (by simp [Value.oneCell']) (by simp [hs]; try omega) (lay8 _ _ _ (by rw [hs]; omega)))) ?_
          rintro v1 L1 ⟨rfl, rfl⟩
          refine ⟨[], ?_⟩
          show DP _ _ _ _ _ _ _ _ [⟨nb1, cu8 key, 28, (0, 0)⟩, ⟨nb2, cu8 (zr8 176) ++ cu8 thereL ++ cu8 backL, 106, (0, 0)⟩, ⟨nb3, cu8 (s.set (4*i + j) ((g8 s (4*i + j - 16)) ^^^ (g8 ([(g8 thereL ((g8 (mid ws (4*i - 4) 4) 1).toNat)) ^^^ f, g8 thereL ((g8 (mid ws (4*i - 4) 4) 2).toNat), g8 thereL ((g8 (mid ws (4*i - 4) 4) 3).toNat), g8 thereL ((g8 (mid ws (4*i - 4) 4) 0).toNat)]) j))), 108, (0, 0)⟩, ⟨nb4, cu8 ([(g8 thereL ((g8 (mid ws (4*i - 4) 4) 1).toNat)) ^^^ f, g8 thereL ((g8 (mid ws (4*i - 4) 4) 2).toNat), g8 thereL ((g8 (mid ws (4*i - 4) 4) 3).toNat), g8 thereL ((g8 (mid ws (4*i - 4) 4) 0).toNat)]), 107, (0, 0)⟩]
          refine DP_end ⟨[14], [0, 1, 2, 3, 4, 5, 6, 7, 8, 9, 10, 11, 12, 13], [0, 1, 2, 3, 4, 5, 6, 7, 8, 9, 10, 11, 12, 13], [], []⟩ rfl rfl (by decide +kernel) rfl trivial ?_
          refine K_sub (F' := [(74, I64 ((i:Int))), (75, I64 ((j:Int))), (76, I64 ((i:Int))), (77, I64 ((i:Int) - 4)), (78, I64 ((j:Int))), (79, Ptr nb3 (4*i - 16)), (80, Ptr nb3 (4*i + j - 16)), (81, U8 (g8 s (4*i + j - 16))), (82, I64 ((j:Int))), (83, Ptr nb4 j), (84, U8 (g8 ([(g8 thereL ((g8 (mid ws (4*i - 4) 4) 1).toNat)) ^^^ f, g8 thereL ((g8 (mid ws (4*i - 4) 4) 2).toNat), g8 thereL ((g8 (mid ws (4*i - 4) 4) 3).toNat), g8 thereL ((g8 (mid ws (4*i - 4) 4) 0).toNat)]) j)), (85, U8 ((g8 s (4*i + j - 16)) ^^^ (g8 ([(g8 thereL ((g8 (mid ws (4*i - 4) 4) 1).toNat)) ^^^ f, g8 thereL ((g8 (mid ws (4*i - 4) 4) 2).toNat), g8 thereL ((g8 (mid ws (4*i - 4) 4) 3).toNat), g8 thereL ((g8 (mid ws (4*i - 4) 4) 0).toNat)]) j))), (86, Ptr nb3 (4*i)), (87, Ptr nb3 (4*i + j)), (1, Ptr nb1 0), (2, .pointer none), (3, Ptr nb2 0), (4, Ptr nb3 0), (5, U8 (dbl f)), (6, I64 ((i:Int))), (7, Ptr nb4 0), (16, I64 ((i:Int))), (17, .bool (decide (((i:Int)) < (44:Int)))), (18, I64 ((i:Int))), (19, I64 ((i:Int))), (20, .bool (decide (((i:Int)) < (4:Int)))), (31, I64 ((i:Int))), (32, I64 ((i:Int) - 1)), (33, Ptr nb3 (4*i - 4)), (34, .agg (cu8 (mid ws (4*i - 4) 4)).toArray), (35, I64 ((i:Int))), (36, I64 ((i % 4:Int))), (37, .bool (decide (((i % 4:Int)) = (0:Int)))), (38, Ptr nb2 0), (39, Ptr nb4 1), (40, U8 (g8 (mid ws (4*i - 4) 4) 1)), (41, Ptr nb2 0), (42, Ptr nb2 176), (43, Ptr nb2 (((g8 (mid ws (4*i - 4) 4) 1).toNat) + 176)), (44, U8 (g8 thereL ((g8 (mid ws (4*i - 4) 4) 1).toNat))), (45, U8 f), (46, U8 ((g8 thereL ((g8 (mid ws (4*i - 4) 4) 1).toNat)) ^^^ f)), (47, Ptr nb2 0), (48, Ptr nb4 2), (49, U8 (g8 (mid ws (4*i - 4) 4) 2)), (50, Ptr nb2 0), (51, Ptr nb2 176), (52, Ptr nb2 (((g8 (mid ws (4*i - 4) 4) 2).toNat) + 176)), (53, U8 (g8 thereL ((g8 (mid ws (4*i - 4) 4) 2).toNat))), (54, Ptr nb2 0), (55, Ptr nb4 3), (56, U8 (g8 (mid ws (4*i - 4) 4) 3)), (57, Ptr nb2 0), (58, Ptr nb2 176), (59, Ptr nb2 (((g8 (mid ws (4*i - 4) 4) 3).toNat) + 176)), (60, U8 (g8 thereL ((g8 (mid ws (4*i - 4) 4) 3).toNat))), (61, Ptr nb2 0), (62, Ptr nb4 0), (63, U8 (g8 (mid ws (4*i - 4) 4) 0)), (64, Ptr nb2 0), (65, Ptr nb2 176), (66, Ptr nb2 (((g8 (mid ws (4*i - 4) 4) 0).toNat) + 176)), (67, U8 (g8 thereL ((g8 (mid ws (4*i - 4) 4) 0).toNat))), (68, .agg (cu8 ([(g8 thereL ((g8 (mid ws (4*i - 4) 4) 1).toNat)) ^^^ f, g8 thereL ((g8 (mid ws (4*i - 4) 4) 2).toNat), g8 thereL ((g8 (mid ws (4*i - 4) 4) 3).toNat), g8 thereL ((g8 (mid ws (4*i - 4) 4) 0).toNat)])).toArray), (69, U8 f), (70, U8 (dbl f)), (71, I64 ((j:Int))), (72, .bool (decide (((j:Int)) < (4:Int)))), (73, I64 ((j:Int))), (8, I64 ((j:Int)))]) (Sub.cons (by kernel_rfl) (Sub.cons (by kernel_rfl) (Sub.cons (by kernel_rfl) (Sub.cons (by kernel_rfl) (Sub.cons (by kernel_rfl) (Sub.cons (by kernel_rfl) (Sub.cons (by kernel_rfl) (Sub.cons (by kernel_rfl) (Sub.cons (by kernel_rfl) (Sub.cons (by kernel_rfl) (Sub.cons (by kernel_rfl) (Sub.cons (by kernel_rfl) (Sub.cons (by kernel_rfl) (Sub.cons (by kernel_rfl) (Sub.cons (by kernel_rfl) (Sub.cons (by kernel_rfl) (Sub.cons (by kernel_rfl) (Sub.cons (by kernel_rfl) (Sub.cons (by kernel_rfl) (Sub.cons (by kernel_rfl) (Sub.cons (by kernel_rfl) (Sub.cons (by kernel_rfl) (Sub.cons (by kernel_rfl) (Sub.cons (by kernel_rfl) (Sub.cons (by kernel_rfl) (Sub.cons (by kernel_rfl) (Sub.cons (by kernel_rfl) (Sub.cons (by kernel_rfl) (Sub.cons (by kernel_rfl) (Sub.cons (by kernel_rfl) (Sub.cons (by kernel_rfl) (Sub.cons (by kernel_rfl) (Sub.cons (by kernel_rfl) (Sub.cons (by kernel_rfl) (Sub.cons (by kernel_rfl) (Sub.cons (by kernel_rfl) (Sub.cons (by kernel_rfl) (Sub.cons (by kernel_rfl) (Sub.cons (by kernel_rfl) (Sub.cons (by kernel_rfl) (Sub.cons (by kernel_rfl) (Sub.cons (by kernel_rfl) (Sub.cons (by kernel_rfl) (Sub.cons (by kernel_rfl) (Sub.cons (by kernel_rfl) (Sub.cons (by kernel_rfl) (Sub.cons (by kernel_rfl) (Sub.cons (by kernel_rfl) (Sub.cons (by kernel_rfl) (Sub.cons (by kernel_rfl) (Sub.cons (by kernel_rfl) (Sub.cons (by kernel_rfl) (Sub.cons (by kernel_rfl) (Sub.cons (by kernel_rfl) (Sub.cons (by kernel_rfl) (Sub.cons (by kernel_rfl) (Sub.cons (by kernel_rfl) (Sub.cons (by kernel_rfl) (Sub.cons (by kernel_rfl) (Sub.cons (by kernel_rfl) (Sub.cons (by kernel_rfl) (Sub.cons (by kernel_rfl) (Sub.cons (by kernel_rfl) (Sub.cons (by kernel_rfl) (Sub.cons (by kernel_rfl) (Sub.cons (by kernel_rfl) (Sub.cons (by kernel_rfl) (Sub.cons (by kernel_rfl) (Sub.cons (by kernel_rfl) (Sub.cons (by kernel_rfl) (Sub.nil))))))))))))))))))))))))))))))))))))))))))))))))))))))))))))))))))))))) ?_
          show JQ _ _ _ [(74, I64 ((i:Int))), (75, I64 ((j:Int))), (76, I64 ((i:Int))), (77, I64 ((i:Int) - 4)), (78, I64 ((j:Int))), (79, Ptr nb3 (4*i - 16)), (80, Ptr nb3 (4*i + j - 16)), (81, U8 (g8 s (4*i + j - 16))), (82, I64 ((j:Int))), (83, Ptr nb4 j), (84, U8 (g8 ([(g8 thereL ((g8 (mid ws (4*i - 4) 4) 1).toNat)) ^^^ f, g8 thereL ((g8 (mid ws (4*i - 4) 4) 2).toNat), g8 thereL ((g8 (mid ws (4*i - 4) 4) 3).toNat), g8 thereL ((g8 (mid ws (4*i - 4) 4) 0).toNat)]) j)), (85, U8 ((g8 s (4*i + j - 16)) ^^^ (g8 ([(g8 thereL ((g8 (mid ws (4*i - 4) 4) 1).toNat)) ^^^ f, g8 thereL ((g8 (mid ws (4*i - 4) 4) 2).toNat), g8 thereL ((g8 (mid ws (4*i - 4) 4) 3).toNat), g8 thereL ((g8 (mid ws (4*i - 4) 4) 0).toNat)]) j))), (86, Ptr nb3 (4*i)), (87, Ptr nb3 (4*i + j)), (1, Ptr nb1 0), (2, .pointer none), (3, Ptr nb2 0), (4, Ptr nb3 0), (5, U8 (dbl f)), (6, I64 ((i:Int))), (7, Ptr nb4 0), (16, I64 ((i:Int))), (17, .bool (decide (((i:Int)) < (44:Int)))), (18, I64 ((i:Int))), (19, I64 ((i:Int))), (20, .bool (decide (((i:Int)) < (4:Int)))), (31, I64 ((i:Int))), (32, I64 ((i:Int) - 1)), (33, Ptr nb3 (4*i - 4)), (34, .agg (cu8 (mid ws (4*i - 4) 4)).toArray), (35, I64 ((i:Int))), (36, I64 ((i % 4:Int))), (37, .bool (decide (((i % 4:Int)) = (0:Int)))), (38, Ptr nb2 0), (39, Ptr nb4 1), (40, U8 (g8 (mid ws (4*i - 4) 4) 1)), (41, Ptr nb2 0), (42, Ptr nb2 176), (43, Ptr nb2 (((g8 (mid ws (4*i - 4) 4) 1).toNat) + 176)), (44, U8 (g8 thereL ((g8 (mid ws (4*i - 4) 4) 1).toNat))), (45, U8 f), (46, U8 ((g8 thereL ((g8 (mid ws (4*i - 4) 4) 1).toNat)) ^^^ f)), (47, Ptr nb2 0), (48, Ptr nb4 2), (49, U8 (g8 (mid ws (4*i - 4) 4) 2)), (50, Ptr nb2 0), (51, Ptr nb2 176), (52, Ptr nb2 (((g8 (mid ws (4*i - 4) 4) 2).toNat) + 176)), (53, U8 (g8 thereL ((g8 (mid ws (4*i - 4) 4) 2).toNat))), (54, Ptr nb2 0), (55, Ptr nb4 3), (56, U8 (g8 (mid ws (4*i - 4) 4) 3)), (57, Ptr nb2 0), (58, Ptr nb2 176), (59, Ptr nb2 (((g8 (mid ws (4*i - 4) 4) 3).toNat) + 176)), (60, U8 (g8 thereL ((g8 (mid ws (4*i - 4) 4) 3).toNat))), (61, Ptr nb2 0), (62, Ptr nb4 0), (63, U8 (g8 (mid ws (4*i - 4) 4) 0)), (64, Ptr nb2 0), (65, Ptr nb2 176), (66, Ptr nb2 (((g8 (mid ws (4*i - 4) 4) 0).toNat) + 176)), (67, U8 (g8 thereL ((g8 (mid ws (4*i - 4) 4) 0).toNat))), (68, .agg (cu8 ([(g8 thereL ((g8 (mid ws (4*i - 4) 4) 1).toNat)) ^^^ f, g8 thereL ((g8 (mid ws (4*i - 4) 4) 2).toNat), g8 thereL ((g8 (mid ws (4*i - 4) 4) 3).toNat), g8 thereL ((g8 (mid ws (4*i - 4) 4) 0).toNat)])).toArray), (69, U8 f), (70, U8 (dbl f)), (71, I64 ((j:Int))), (72, .bool (decide (((j:Int)) < (4:Int)))), (73, I64 ((j:Int))), (8, I64 ((j:Int)))] _
          refine JQ_in_normal ?_
          refine JQ_then ?_
          refine JC_region ?_
          refine JL_val (I64 ((j:Int) + 1)) (Ev_bini rfl rfl fun _ => bin_add_i _ _ ((j:Int) + 1) (by omega) (by omega)) rfl ?_
          refine JL_val _ (Ev_move rfl) rfl ?_
          refine JL_nil ?_
          refine JQ_thenK ?_
          refine K_next (j + 1, s.set (4*i + j) ((g8 s (4*i + j - 16)) ^^^ (g8 ([(g8 thereL ((g8 (mid ws (4*i - 4) 4) 1).toNat)) ^^^ f, g8 thereL ((g8 (mid ws (4*i - 4) 4) 2).toNat), g8 thereL ((g8 (mid ws (4*i - 4) 4) 3).toNat), g8 thereL ((g8 (mid ws (4*i - 4) 4) 0).toNat)]) j))) ⟨by omega, by rw [wsIn, ← hy2], hl4⟩ (by simp; omega) (Sub.cons rfl (Sub.cons rfl (Sub.cons rfl (Sub.cons rfl (Sub.cons rfl (Sub.cons rfl (Sub.cons rfl (Sub.cons rfl (Sub.cons rfl (Sub.cons rfl (Sub.cons rfl (Sub.cons rfl (Sub.cons rfl (Sub.cons rfl (Sub.cons rfl (Sub.cons rfl (Sub.cons rfl (Sub.cons rfl (Sub.cons rfl (Sub.cons rfl (Sub.cons rfl (Sub.cons rfl (Sub.cons rfl (Sub.cons rfl (Sub.cons rfl (Sub.cons rfl (Sub.cons rfl (Sub.cons rfl (Sub.cons rfl (Sub.cons rfl (Sub.cons rfl (Sub.cons rfl (Sub.cons rfl (Sub.cons rfl (Sub.cons rfl (Sub.cons rfl (Sub.cons rfl (Sub.cons rfl (Sub.cons rfl (Sub.cons rfl (Sub.cons rfl (Sub.cons rfl (Sub.cons rfl (Sub.cons rfl (Sub.cons rfl (Sub.cons rfl (Sub.cons rfl (Sub.cons rfl (Sub.cons rfl (Sub.cons rfl (Sub.cons rfl (Sub.cons rfl (Sub.cons rfl (Sub.nil)))))))))))))))))))))))))))))))))))))))))))))))))))))) rfl
        ·
          have hp4 : ¬ (((j:Int)) < (4:Int)) := of_decide_eq_false hb4
          refine JC_exit ?_
          refine JQ_then_exit ?_
          refine JQ_then_exit ?_
          refine JQ_in_same ?_
          refine JQ_in_normal ?_
          refine JQ_then ?_
          refine JC_region ?_
          refine JL_val (I64 ((i:Int) + 1)) (Ev_bini rfl rfl fun _ => bin_add_i _ _ ((i:Int) + 1) (by omega) (by omega)) rfl ?_
          refine JL_val _ (Ev_move rfl) rfl ?_
          refine JL_nil ?_
          refine JQ_thenK ?_
          refine K_mask [true, true, true, false] ?_
          show K _ _ [⟨nb1, cu8 key, 28, (0, 0)⟩, ⟨nb2, cu8 (zr8 176) ++ cu8 thereL ++ cu8 backL, 106, (0, 0)⟩, ⟨nb3, cu8 s, 108, (0, 0)⟩] _
          refine K_next (i + 1, dbl f, s) ⟨by omega, by rw [wsN, ← hx2]; simp only [wsStep]; rw [if_neg (by omega), if_pos (by omega)]; rw [show s = _ from hy2, show j = 4 from by omega], hs⟩ (by simp; omega) (Sub.cons rfl (Sub.cons rfl (Sub.cons rfl (Sub.cons rfl (Sub.cons rfl (Sub.cons rfl (Sub.nil))))))) rfl
      ·
        have hp3 : ¬ (((i % 4:Int)) = (0:Int)) := of_decide_eq_false hb3
        refine JC_skip ?_
        refine JQ_then ?_
        refine JC_seq ?_
        refine JC_region ?_
        refine JL_val _ (Ev_move rfl) rfl ?_
        refine JL_nil ?_
        refine JQ_then ?_
        refine JC_block ?_
        refine JC_loop (ι := Nat × List UInt8) (fun ⟨j, s⟩ => [(1, Ptr nb1 0), (2, .pointer none), (3, Ptr nb2 0), (4, Ptr nb3 0), (5, U8 f), (6, I64 ((i:Int))), (7, Ptr nb4 0), (16, I64 ((i:Int))), (17, .bool (decide (((i:Int)) < (44:Int)))), (18, I64 ((i:Int))), (19, I64 ((i:Int))), (20, .bool (decide (((i:Int)) < (4:Int)))), (31, I64 ((i:Int))), (32, I64 ((i:Int) - 1)), (33, Ptr nb3 (4*i - 4)), (34, .agg (cu8 (mid ws (4*i - 4) 4)).toArray), (35, I64 ((i:Int))), (36, I64 ((i % 4:Int))), (37, .bool (decide (((i % 4:Int)) = (0:Int)))), (71, I64 ((j:Int)))]) (fun ⟨j, s⟩ => [⟨nb1, cu8 key, 28, (0, 0)⟩, ⟨nb2, cu8 (zr8 176) ++ cu8 thereL ++ cu8 backL, 106, (0, 0)⟩, ⟨nb3, cu8 s, 108, (0, 0)⟩, ⟨nb4, cu8 (mid ws (4*i - 4) 4), 107, (0, 0)⟩]) (fun ⟨j, s⟩ => j ≤ 4 ∧ s = wsIn ws i (mid ws (4*i - 4) 4) j ∧ s.length = 176) (fun ⟨j, s⟩ => 4 - j) (0, ws) ⟨by omega, rfl, hws⟩ (Sub.cons rfl (Sub.cons rfl (Sub.cons rfl (Sub.cons rfl (Sub.cons rfl (Sub.cons rfl (Sub.cons rfl (Sub.cons rfl (Sub.cons rfl (Sub.cons rfl (Sub.cons rfl (Sub.cons rfl (Sub.cons rfl (Sub.cons rfl (Sub.cons rfl (Sub.cons rfl (Sub.cons rfl (Sub.cons rfl (Sub.cons rfl (Sub.cons rfl (Sub.nil))))))))))))))))))))) rfl ?_
        rintro ⟨j, s⟩ ⟨hy1, hy2, hs⟩
        show JC _ _ _ [(1, Ptr nb1 0), (2, .pointer none), (3, Ptr nb2 0), (4, Ptr nb3 0), (5, U8 f), (6, I64 ((i:Int))), (7, Ptr nb4 0), (16, I64 ((i:Int))), (17, .bool (decide (((i:Int)) < (44:Int)))), (18, I64 ((i:Int))), (19, I64 ((i:Int))), (20, .bool (decide (((i:Int)) < (4:Int)))), (31, I64 ((i:Int))), (32, I64 ((i:Int) - 1)), (33, Ptr nb3 (4*i - 4)), (34, .agg (cu8 (mid ws (4*i - 4) 4)).toArray), (35, I64 ((i:Int))), (36, I64 ((i % 4:Int))), (37, .bool (decide (((i % 4:Int)) = (0:Int)))), (71, I64 ((j:Int)))] [⟨nb1, cu8 key, 28, (0, 0)⟩, ⟨nb2, cu8 (zr8 176) ++ cu8 thereL ++ cu8 backL, 106, (0, 0)⟩, ⟨nb3, cu8 s, 108, (0, 0)⟩, ⟨nb4, cu8 (mid ws (4*i - 4) 4), 107, (0, 0)⟩]
        refine JC_seq ?_
        refine JC_region ?_
        refine JL_val (.bool (decide (((j:Int)) < (4:Int)))) (Ev_bini rfl rfl fun _ => bin_lss_i _ _) rfl ?_
        refine JL_nil ?_
        refine JQ_then ?_
        refine JC_seq ?_
        refine JC_cond (decide (((j:Int)) < (4:Int))) rfl (fun hb5 => ?_) (fun hb5 => ?_)
        ·
          have hp5 : ((j:Int)) < (4:Int) := of_decide_eq_true hb5
          refine JC_skip ?_
          refine JQ_then ?_
          refine JC_seq ?_
          refine JC_block ?_
          refine JC_seq ?_
          refine JC_region ?_
          refine JL_val _ (Ev_move rfl) rfl ?_
          refine JL_val _ (Ev_assign rfl) rfl ?_
          refine JL_nil ?_
          refine JQ_then ?_
          refine JC_draw 109 2 [(0, I64 ((i:Int))), (1, I64 ((j:Int))), (2, I64 ((i:Int))), (3, I64 ((i:Int) - 4)), (4, I64 ((j:Int))), (5, Ptr nb3 (4*i - 16)), (6, Ptr nb3 (4*i + j - 16)), (7, U8 (g8 s (4*i + j - 16))), (8, I64 ((j:Int))), (9, Ptr nb4 j), (10, U8 (g8 (mid ws (4*i - 4) 4) j)), (11, U8 ((g8 s (4*i + j - 16)) ^^^ (g8 (mid ws (4*i - 4) 4) j))), (12, Ptr nb3 (4*i)), (13, Ptr nb3 (4*i + j))] Try.mixed rfl (by decide +kernel) ?_
          have hl5 : (s.set (4*i + j) ((g8 s (4*i + j - 16)) ^^^ (g8 (mid ws (4*i - 4) 4) j))).length = 176 := by simp [hs]
          refine DP_one ⟨[], [0, 1, 2, 3, 4, 5, 6, 7, 8, 9, 10, 11, 12, 13], [], [0, 1, 2, 3, 4, 5, 6, 7, 8, 9, 10, 11, 12, 13], [14]⟩ 14 _ rfl rfl (by decide +kernel) rfl ⟨⟨_, rfl, Qok_val rfl (Ev_move rfl)⟩, ⟨_, rfl, Qok_val rfl (Ev_move rfl)⟩, ⟨_, rfl, Qok_val rfl (Ev_move rfl)⟩, ⟨_, rfl, Qok_val rfl (Ev_bini rfl rfl fun _ => bin_sub_i _ _ ((i:Int) - 4) (by omega) (by omega))⟩, ⟨_, rfl, Qok_val rfl (Ev_move rfl)⟩, ⟨_, rfl, Qok_val rfl (Ev_indexArr 44 107 4 (4*i - 16) Try.underlying108 Try.sizeOf107 rfl rfl (by omega) (by omega) (by omega))⟩, ⟨_, rfl, Qok_val rfl (Ev_indexArr 4 5 1 (4*i + j - 16) Try.underlying107 Try.sizeOf5 rfl rfl (by omega) (by omega) (by omega))⟩, ⟨_, rfl, Qok_val rfl (Ev_load rfl (Ld_one Try.isAgg5 (MemAt.ent 2 rfl (Seg.get (g8_get (i := (4*i + j - 16)) (by rw [hs]; omega))))))⟩, ⟨_, rfl, Qok_val rfl (Ev_move rfl)⟩, ⟨_, rfl, Qok_val rfl (Ev_indexArr 4 5 1 j Try.underlying107 Try.sizeOf5 rfl rfl (by omega) (by omega) (by omega))⟩, ⟨_, rfl, Qok_val rfl (Ev_load rfl (Ld_one Try.isAgg5 (MemAt.ent 3 rfl (Seg.get (g8_get (i := j) (by rw [hl3]; omega))))))⟩, ⟨_, rfl, Qok_val rfl (Ev_bini rfl rfl fun _ => bin_xor_u8 (g8 s (4*i + j - 16)) (g8 (mid ws (4*i - 4) 4) j))⟩, ⟨_, rfl, Qok_val rfl (Ev_indexArr 44 107 4 (4*i) Try.underlying108 Try.sizeOf107 rfl rfl (by omega) (by omega) (by omega))⟩, ⟨_, rfl, Qok_val rfl (Ev_indexArr 4 5 1 (4*i + j) Try.underlying107 Try.sizeOf5 rfl rfl (by omega) (by omega) (by omega))⟩, trivial⟩ rfl (Cok_step rfl (Step_store 2 nb3 (4*i + j) 1 (cu8 s) 108 (U8 ((g8 s (4*i + j - 16)) ^^^ (g8 (mid ws (4*i - 4) 4) j))) ([U8 ((g8 s (4*i + j - 16)) ^^^ (g8 (mid ws (4*i - 4) 4) j))]) (cu8 (s.set (4*i + j) ((g8 s (4*i + j - 16)) ^^^ (g8 (mid ws (4*i - 4) 4) j)))) rfl rfl rfl rfl Try.sizeOf5 rfl (by simp [Value.oneCell']) (by simp [hs]; try omega) (lay8 _ _ _ (by rw [hs]; omega)))) ?_
          rintro v1 L1 ⟨rfl, rfl⟩
          refine ⟨[], ?_⟩
          show DP _ _ _ _ _ _ _ _ [⟨nb1, cu8 key, 28, (0, 0)⟩, ⟨nb2, cu8 (zr8 176) ++ cu8 thereL ++ cu8 backL, 106, (0, 0)⟩, ⟨nb3, cu8 (s.set (4*i + j) ((g8 s (4*i + j - 16)) ^^^ (g8 (mid ws (4*i - 4) 4) j))), 108, (0, 0)⟩, ⟨nb4, cu8 (mid ws (4*i - 4) 4), 107, (0, 0)⟩]
          refine DP_end ⟨[14], [0, 1, 2, 3, 4, 5, 6, 7, 8, 9, 10, 11, 12, 13], [0, 1, 2, 3, 4, 5, 6, 7, 8, 9, 10, 11, 12, 13], [], []⟩ rfl rfl (by decide +kernel) rfl trivial ?_
          refine K_sub (F' := [(74, I64 ((i:Int))), (75, I64 ((j:Int))), (76, I64 ((i:Int))), (77, I64 ((i:Int) - 4)), (78, I64 ((j:Int))), (79, Ptr nb3 (4*i - 16)), (80, Ptr nb3 (4*i + j - 16)), (81, U8 (g8 s (4*i + j - 16))), (82, I64 ((j:Int))), (83, Ptr nb4 j), (84, U8 (g8 (mid ws (4*i - 4) 4) j)), (85, U8 ((g8 s (4*i + j - 16)) ^^^ (g8 (mid ws (4*i - 4) 4) j))), (86, Ptr nb3 (4*i)), (87, Ptr nb3 (4*i + j)), (1, Ptr nb1 0), (2, .pointer none), (3, Ptr nb2 0), (4, Ptr nb3 0), (5, U8 f), (6, I64 ((i:Int))), (7, Ptr nb4 0), (16, I64 ((i:Int))), (17, .bool (decide (((i:Int)) < (44:Int)))), (18, I64 ((i:Int))), (19, I64 ((i:Int))), (20, .bool (decide (((i:Int)) < (4:Int)))), (31, I64 ((i:Int))), (32, I64 ((i:Int) - 1)), (33, Ptr nb3 (4*i - 4)), (34, .agg (cu8 (mid ws (4*i - 4) 4)).toArray), (35, I64 ((i:Int))), (36, I64 ((i % 4:Int))), (37, .bool (decide (((i % 4:Int)) = (0:Int)))), (71, I64 ((j:Int))), (72, .bool (decide (((j:Int)) < (4:Int)))), (73, I64 ((j:Int))), (8, I64 ((j:Int)))]) (Sub.cons (by kernel_rfl) (Sub.cons (by kernel_rfl) (Sub.cons (by kernel_rfl) (Sub.cons (by kernel_rfl) (Sub.cons (by kernel_rfl) (Sub.cons (by kernel_rfl) (Sub.cons (by kernel_rfl) (Sub.cons (by kernel_rfl) (Sub.cons (by kernel_rfl) (Sub.cons (by kernel_rfl) (Sub.cons (by kernel_rfl) (Sub.cons (by kernel_rfl) (Sub.cons (by kernel_rfl) (Sub.cons (by kernel_rfl) (Sub.cons (by kernel_rfl) (Sub.cons (by kernel_rfl) (Sub.cons (by kernel_rfl) (Sub.cons (by kernel_rfl) (Sub.cons (by kernel_rfl) (Sub.cons (by kernel_rfl) (Sub.cons (by kernel_rfl) (Sub.cons (by kernel_rfl) (Sub.cons (by kernel_rfl) (Sub.cons (by kernel_rfl) (Sub.cons (by kernel_rfl) (Sub.cons (by kernel_rfl) (Sub.cons (by kernel_rfl) (Sub.cons (by kernel_rfl) (Sub.cons (by kernel_rfl) (Sub.cons (by kernel_rfl) (Sub.cons (by kernel_rfl) (Sub.cons (by kernel_rfl) (Sub.cons (by kernel_rfl) (Sub.cons (by kernel_rfl) (Sub.cons (by kernel_rfl) (Sub.cons (by kernel_rfl) (Sub.cons (by kernel_rfl) (Sub.nil)))))))))))))))))))))))))))))))))))))) ?_
          show JQ _ _ _ [(74, I64 ((i:Int))), (75, I64 ((j:Int))), (76, I64 ((i:Int))), (77, I64 ((i:Int) - 4)), (78, I64 ((j:Int))), (79, Ptr nb3 (4*i - 16)), (80, Ptr nb3 (4*i + j - 16)), (81, U8 (g8 s (4*i + j - 16))), (82, I64 ((j:Int))), (83, Ptr nb4 j), (84, U8 (g8 (mid ws (4*i - 4) 4) j)), (85, U8 ((g8 s (4*i + j - 16)) ^^^ (g8 (mid ws (4*i - 4) 4) j))), (86, Ptr nb3 (4*i)), (87, Ptr nb3 (4*i + j)), (1, Ptr nb1 0), (2, .pointer none), (3, Ptr nb2 0), (4, Ptr nb3 0), (5, U8 f), (6, I64 ((i:Int))), (7, Ptr nb4 0), (16, I64 ((i:Int))), (17, .bool (decide (((i:Int)) < (44:Int)))), (18, I64 ((i:Int))), (19, I64 ((i:Int))), (20, .bool (decide (((i:Int)) < (4:Int)))), (31, I64 ((i:Int))), (32, I64 ((i:Int) - 1)), (33, Ptr nb3 (4*i - 4)), (34, .agg (cu8 (mid ws (4*i - 4) 4)).toArray), (35, I64 ((i:Int))), (36, I64 ((i % 4:Int))), (37, .bool (decide (((i % 4:Int)) = (0:Int)))), (71, I64 ((j:Int))), (72, .bool (decide (((j:Int)) < (4:Int)))), (73, I64 ((j:Int))), (8, I64 ((j:Int)))] _
          refine JQ_in_normal ?_
          refine JQ_then ?_
          refine JC_region ?_
          refine JL_val (I64 ((j:Int) + 1)) (Ev_bini rfl rfl fun _ => bin_add_i _ _ ((j:Int) + 1) (by omega) (by omega)) rfl ?_
          refine JL_val _ (Ev_move rfl) rfl ?_
          refine JL_nil ?_
          refine JQ_thenK ?_
          refine K_next (j + 1, s.set (4*i + j) ((g8 s (4*i + j - 16)) ^^^ (g8 (mid ws (4*i - 4) 4) j))) ⟨by omega, by rw [wsIn, ← hy2], hl5⟩ (by simp; omega) (Sub.cons rfl (Sub.cons rfl (Sub.cons rfl (Sub.cons rfl (Sub.cons rfl (Sub.cons rfl (Sub.cons rfl (Sub.cons rfl (Sub.cons rfl (Sub.cons rfl (Sub.cons rfl (Sub.cons rfl (Sub.cons rfl (Sub.cons rfl (Sub.cons rfl (Sub.cons rfl (Sub.cons rfl (Sub.cons rfl (Sub.cons rfl (Sub.cons rfl (Sub.nil))))))))))))))))))))) rfl
        ·
          have hp5 : ¬ (((j:Int)) < (4:Int)) := of_decide_eq_false hb5
          refine JC_exit ?_
          refine JQ_then_exit ?_
          refine JQ_then_exit ?_
          refine JQ_in_same ?_
          refine JQ_in_normal ?_
          refine JQ_then ?_
          refine JC_region ?_
          refine JL_val (I64 ((i:Int) + 1)) (Ev_bini rfl rfl fun _ => bin_add_i _ _ ((i:Int) + 1) (by omega) (by omega)) rfl ?_
          refine JL_val _ (Ev_move rfl) rfl ?_
          refine JL_nil ?_
          refine JQ_thenK ?_
          refine K_mask [true, true, true, false] ?_
          show K _ _ [⟨nb1, cu8 key, 28, (0, 0)⟩, ⟨nb2, cu8 (zr8 176) ++ cu8 thereL ++ cu8 backL, 106, (0, 0)⟩, ⟨nb3, cu8 s, 108, (0, 0)⟩] _
          refine K_next (i + 1, f, s) ⟨by omega, by rw [wsN, ← hx2]; simp only [wsStep]; rw [if_neg (by omega), if_neg (by omega)]; rw [show s = _ from hy2, show j = 4 from by omega], hs⟩ (by simp; omega) (Sub.cons rfl (Sub.cons rfl (Sub.cons rfl (Sub.cons rfl (Sub.cons rfl (Sub.cons rfl (Sub.nil))))))) rfl
  ·
    have hp1 : ¬ (((i:Int)) < (44:Int)) := of_decide_eq_false hb1
    refine JC_exit ?_
    refine JQ_then_exit ?_
    refine JQ_then_exit ?_
    refine JQ_in_same ?_
    refine JQ_then ?_
    refine JC_seq ?_
    refine JC_seq ?_
    refine JC_region ?_
    refine JL_val (.agg (cu8 ws).toArray) (Ev_load rfl (Ld_agg Try.isAgg108 Try.sizeOf108 (len_cu8 hws) (MemAt.ent 2 rfl (Seg.whole _)))) rfl ?_
    refine JL_val _ (Ev_move rfl) rfl ?_
    refine JL_nil ?_
    refine JQ_then ?_
    refine JC_block ?_
    refine K_mask [false, true, false] ?_
    show JC _ _ _ _ [⟨nb2, cu8 (zr8 176) ++ cu8 thereL ++ cu8 backL, 106, (0, 0)⟩]
    refine JC_loop (ι := Nat × List UInt8) (fun ⟨j, ks⟩ => [(2, .pointer none), (3, Ptr nb2 0), (90, .agg (cu8 ws).toArray), (91, I64 ((j:Int)))]) (fun ⟨j, ks⟩ => [⟨nb2, cu8 ks ++ cu8 thereL ++ cu8 backL, 106, (0, 0)⟩]) (fun ⟨j, ks⟩ => j ≤ 44 ∧ ks = ksN ws j ∧ ks.length = 176) (fun ⟨j, ks⟩ => 44 - j) (0, zr8 176) ⟨by omega, rfl, zr8_len 176⟩ (Sub.cons rfl (Sub.cons rfl (Sub.cons rfl (Sub.cons rfl (Sub.nil))))) rfl ?_
    rintro ⟨j, ks⟩ ⟨hy1, hy2, hks⟩
    show JC _ _ _ [(2, .pointer none), (3, Ptr nb2 0), (90, .agg (cu8 ws).toArray), (91, I64 ((j:Int)))] [⟨nb2, cu8 ks ++ cu8 thereL ++ cu8 backL, 106, (0, 0)⟩]
    refine JC_seq ?_
    refine JC_region ?_
    refine JL_val (.bool (decide (((j:Int)) < (44:Int)))) (Ev_bini rfl rfl fun _ => bin_lss_i _ _) rfl ?_
    refine JL_nil ?_
    refine JQ_then ?_
    refine JC_seq ?_
    refine JC_cond (decide (((j:Int)) < (44:Int))) rfl (fun hb6 => ?_) (fun hb6 => ?_)
    ·
      have hp6 : ((j:Int)) < (44:Int) := of_decide_eq_true hb6
      refine JC_skip ?_
      refine JQ_then ?_
      refine JC_seq ?_
      refine JC_block ?_
      refine JC_seq ?_
      refine JC_region ?_
      refine JL_val _ (Ev_move rfl) rfl ?_
      have hl6 : (mid ws (4*j) 4).length = 4 := mid_len (by rw [hws]; omega)
      refine JL_val (.agg (cu8 (mid ws (4*j) 4)).toArray) (Ev_indexA 44 107 4 (cu8 (mid ws (4*j) 4)) Try.underlying108 Try.isAgg107 Try.sizeOf107 rfl rfl (by omega) (by omega) (Seg.cut (segm_u8 (4*j) 4 (by rw [hws]; omega)) (len_cu8 hl6) (by omega))) rfl ?_
      refine JL_step (Step_alloc _ (cu8 (zr8 4)) Try.zeroValue107 (by kernel_rfl)) rfl ?_
      rintro v1 L1 ⟨nb5, hnb5, rfl, rfl⟩
      show JL _ _ _ _ ((10, Ptr nb5 0) :: _) [⟨nb2, cu8 ks ++ cu8 thereL ++ cu8 backL, 106, (0, 0)⟩, ⟨nb5, cu8 (zr8 4), 107, (0, 0)⟩]
      refine JL_val _ (Ev_assign rfl) rfl ?_
      refine JL_step (Step_store 1 nb5 0 4 (cu8 (zr8 4)) 107 (.agg (cu8 (mid ws (4*j) 4)).toArray) (cu8 (mid ws (4*j) 4)) (cu8 (mid ws (4*j) 4)) rfl rfl rfl (by first | rfl | simp) Try.sizeOf107 (len_cu8 hl6) (by first | exact one_u8 | exact one_u32 | exact one_u64 | (simp [cu8, cu32, cu64, Value.oneCell']; done)) (by simp [(zr8_len 4)]) (lay_whole (by simp [(zr8_len 4), hl6]))) rfl ?_
      rintro v1 L1 ⟨rfl, rfl⟩
      show JL _ _ _ _ _ [⟨nb2, cu8 ks ++ cu8 thereL ++ cu8 backL, 106, (0, 0)⟩, ⟨nb5, cu8 (mid ws (4*j) 4), 107, (0, 0)⟩]
      refine JL_nil ?_
      refine JQ_then ?_
      refine JC_draw 109 2 [(0, Ptr nb2 0), (1, I64 ((j:Int))), (2, I64 ((j / 4:Int))), (3, Ptr nb2 0), (4, Ptr nb2 0), (5, Ptr nb2 (16*(j / 4))), (6, I64 ((j:Int))), (7, I64 ((j % 4:Int))), (8, I64 (4*(j % 4:Int))), (9, Slc nb2 (4*(j % 4) + 16*(j / 4)) (16 - 4*(j % 4)) (16 - 4*(j % 4))), (10, Slc nb5 0 4 4)] Try.mixed rfl (by decide +kernel) ?_
      have hl7 : (spl ks (4*(j % 4) + 16*(j / 4)) (mid ws (4*j) 4)).length = 176 := by rw [spl_len (by simp [hks, hl6]; omega)]; simp [hks, hl6]
      refine DP_one ⟨[], [0, 1, 2, 3, 4, 5, 6, 7, 8, 9, 10], [], [0, 1, 2, 3, 4, 5, 6, 7, 8, 9, 10], [11]⟩ 11 _ rfl rfl (by decide +kernel) rfl ⟨⟨_, rfl, Qok_val rfl (Ev_move rfl)⟩, ⟨_, rfl, Qok_val rfl (Ev_move rfl)⟩, ⟨_, rfl, Qok_val rfl (Ev_bini rfl rfl fun _ => bin_quo_i _ _ ((j / 4:Int)) (by omega) (by omega) (by omega))⟩, ⟨_, rfl, Qok_val rfl (Ev_nilCheck rfl)⟩, ⟨_, rfl, Qok_val rfl (Ev_fieldAddr 0 103 176 Try.underlying106 rfl Try.sizeOf103 rfl rfl)⟩, ⟨_, rfl, Qok_val rfl (Ev_indexArr 11 27 16 (16*(j / 4)) Try.underlying103 Try.sizeOf27 rfl rfl (by omega) (by omega) (by omega))⟩, ⟨_, rfl, Qok_val rfl (Ev_move rfl)⟩, ⟨_, rfl, Qok_val rfl (Ev_bini rfl rfl fun _ => bin_rem_i _ _ ((j % 4:Int)) (by omega) (by omega) (by omega))⟩, ⟨_, rfl, Qok_val rfl (Ev_bini rfl rfl fun _ => bin_mul_i _ _ (4*(j % 4:Int)) (by omega) (by omega))⟩, ⟨_, rfl, Qok_val rfl (Ev_sliceA 16 5 1 (4*(j % 4)) 16 (4*(j % 4) + 16*(j / 4)) (16 - 4*(j % 4)) Try.underlying27 Try.sizeOf5 rfl rfl rfl (by omega) (by omega) (by omega) (by omega) (by omega) (16 - 4*(j % 4)) (by omega))⟩, ⟨_, rfl, Qok_val rfl (Ev_sliceA 4 5 1 0 4 0 4 Try.underlying107 Try.sizeOf5 rfl rfl rfl (by omega) (by omega) (by omega) (by omega) (by omega) 4 (by omega))⟩, trivial⟩ rfl (Cok_step rfl (Step_copy 38 38 5 0 nb2 (4*(j % 4) + 16*(j / 4)) (16 - 4*(j % 4)) (16 - 4*(j % 4)) (cu8 ks ++ cu8 thereL ++ cu8 backL) 106 (some ⟨nb5, 0, none⟩) 4 4 4 (cu8 (mid ws (4*j) 4)) (cu8 (spl ks (4*(j % 4) + 16*(j / 4)) (mid ws (4*j) 4)) ++ cu8 thereL ++ cu8 backL) Try.underlying38 Try.size1_5 rfl rfl rfl (Nat.min_eq_left (by omega)) (by simp [hl6]; try omega) (SrcAt.mem (MemAt.ent 1 rfl (Seg.whole _))) (by simp [hks, thereL_len, backL_len]; try omega) (by first | exact one_u8 | exact one_u32 | exact one_u64 | (simp [cu8, cu32, cu64, Value.oneCell']; done)) (lay_left (by simp [hks, thereL_len, hl6]; omega) (lay_left (by simp [hks, hl6]; omega) (laySpl8 _ _ _ (by simp [hks, hl6]; omega)))))) ?_
      rintro v1 L1 ⟨rfl, rfl⟩
      refine ⟨[], ?_⟩
      show DP _ _ _ _ _ _ _ _ [⟨nb2, cu8 (spl ks (4*(j % 4) + 16*(j / 4)) (mid ws (4*j) 4)) ++ cu8 thereL ++ cu8 backL, 106, (0, 0)⟩, ⟨nb5, cu8 (mid ws (4*j) 4), 107, (0, 0)⟩]
      refine DP_end ⟨[11], [0, 1, 2, 3, 4, 5, 6, 7, 8, 9, 10], [0, 1, 2, 3, 4, 5, 6, 7, 8, 9, 10], [], []⟩ rfl rfl (by decide +kernel) rfl trivial ?_
      refine K_sub (F' := [(95, Ptr nb2 0), (96, I64 ((j:Int))), (97, I64 ((j / 4:Int))), (98, Ptr nb2 0), (99, Ptr nb2 0), (100, Ptr nb2 (16*(j / 4))), (101, I64 ((j:Int))), (102, I64 ((j % 4:Int))), (103, I64 (4*(j % 4:Int))), (104, Slc nb2 (4*(j % 4) + 16*(j / 4)) (16 - 4*(j % 4)) (16 - 4*(j % 4))), (105, Slc nb5 0 4 4), (2, .pointer none), (3, Ptr nb2 0), (90, .agg (cu8 ws).toArray), (91, I64 ((j:Int))), (92, .bool (decide (((j:Int)) < (44:Int)))), (93, I64 ((j:Int))), (94, .agg (cu8 (mid ws (4*j) 4)).toArray), (10, Ptr nb5 0), (9, I64 ((j:Int)))]) (Sub.cons (by kernel_rfl) (Sub.cons (by kernel_rfl) (Sub.cons (by kernel_rfl) (Sub.cons (by kernel_rfl) (Sub.cons (by kernel_rfl) (Sub.cons (by kernel_rfl) (Sub.cons (by kernel_rfl) (Sub.cons (by kernel_rfl) (Sub.cons (by kernel_rfl) (Sub.cons (by kernel_rfl) (Sub.cons (by kernel_rfl) (Sub.cons (by kernel_rfl) (Sub.cons (by kernel_rfl) (Sub.cons (by kernel_rfl) (Sub.cons (by kernel_rfl) (Sub.cons (by kernel_rfl) (Sub.cons (by kernel_rfl) (Sub.cons (by kernel_rfl) (Sub.cons (by kernel_rfl) (Sub.cons (by kernel_rfl) (Sub.nil))))))))))))))))))))) ?_
      show JQ _ _ _ [(95, Ptr nb2 0), (96, I64 ((j:Int))), (97, I64 ((j / 4:Int))), (98, Ptr nb2 0), (99, Ptr nb2 0), (100, Ptr nb2 (16*(j / 4))), (101, I64 ((j:Int))), (102, I64 ((j % 4:Int))), (103, I64 (4*(j % 4:Int))), (104, Slc nb2 (4*(j % 4) + 16*(j / 4)) (16 - 4*(j % 4)) (16 - 4*(j % 4))), (105, Slc nb5 0 4 4), (2, .pointer none), (3, Ptr nb2 0), (90, .agg (cu8 ws).toArray), (91, I64 ((j:Int))), (92, .bool (decide (((j:Int)) < (44:Int)))), (93, I64 ((j:Int))), (94, .agg (cu8 (mid ws (4*j) 4)).toArray), (10, Ptr nb5 0), (9, I64 ((j:Int)))] _
      refine JQ_in_normal ?_
      refine JQ_then ?_
      refine JC_region ?_
      refine JL_val (I64 ((j:Int) + 1)) (Ev_bini rfl rfl fun _ => bin_add_i _ _ ((j:Int) + 1) (by omega) (by omega)) rfl ?_
      refine JL_val _ (Ev_move rfl) rfl ?_
      refine JL_nil ?_
      refine JQ_thenK ?_
      refine K_mask [true, false] ?_
      show K _ _ [⟨nb2, cu8 (spl ks (4*(j % 4) + 16*(j / 4)) (mid ws (4*j) 4)) ++ cu8 thereL ++ cu8 backL, 106, (0, 0)⟩] _
      refine K_next (j + 1, spl ks (4*(j % 4) + 16*(j / 4)) (mid ws (4*j) 4)) ⟨by omega, by rw [ksN, ← hy2], hl7⟩ (by simp; omega) (Sub.cons rfl (Sub.cons rfl (Sub.cons rfl (Sub.cons rfl (Sub.nil))))) rfl
    ·
      have hp6 : ¬ (((j:Int)) < (44:Int)) := of_decide_eq_false hb6
      refine JC_exit ?_
      refine JQ_then_exit ?_
      refine JQ_then_exit ?_
      refine JQ_in_same ?_
      refine JQ_then ?_
      refine JC_seq ?_
      refine JC_region ?_
      refine JL_val _ (Ev_move rfl) rfl ?_
      refine JL_val _ (Ev_assign rfl) rfl ?_
      refine JL_nil ?_
      refine JQ_then ?_
      refine JC_ret ?_
      refine JQ_ret (Ptr nb2 0) (res1 Try.results22 (RV_tmp rfl)) fun w1 hw1 => ?_
      have e1 : i = 44 := by omega
      have e2 : j = 44 := by omega
      subst e1; subst e2
      have e3 : ks = rkL key := by rw [rkL, ← hx2, hy2]
      rw [e3] at hw1
      exact ⟨_, _, rfl, ⟨nb2, rfl, rfl⟩, hw1.mask [true]⟩

end Go.Proofs.Ytncoifiafklkjaa
