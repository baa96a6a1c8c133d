import Derived.Test.YtncoifiafklkjaaFx
import Derived.Test.YtncoifiafklkjaaSxL
import Derived.Test.YtncoifiafklkjaaAes5
import Derived.Test.YtncoifiafklkjaaAesSub
import Derived.Test.YtncoifiafklkjaaNum
namespace Go.Proofs.Ytncoifiafklkjaa
open Go Go.Sx
set_option linter.unusedVariables false
set_option linter.unusedSimpArgs false
set_option maxRecDepth 100000

def rIn (w : List UInt8) (i : Nat) (t : List UInt8) : Nat → List UInt8
  | 0 => w
  | k + 1 => rIn w i t k ++ [g8 (rIn w i t k) (4*i + k - 16) ^^^ g8 t k]
def rStep (i : Nat) (p : UInt8 × List UInt8) : UInt8 × List UInt8 :=
  if i % 4 = 0 then (rdbl p.1, rIn p.2 i [g8 subsL (g8 p.2 (4*i - 3)).toNat ^^^ p.1, g8 subsL (g8 p.2 (4*i - 2)).toNat, g8 subsL (g8 p.2 (4*i - 1)).toNat, g8 subsL (g8 p.2 (4*i - 4)).toNat] 4)
  else (p.1, rIn p.2 i [g8 p.2 (4*i - 4), g8 p.2 (4*i - 3), g8 p.2 (4*i - 2), g8 p.2 (4*i - 1)] 4)
def rN (key : List UInt8) : Nat → UInt8 × List UInt8
  | 0 => (1, key)
  | m + 1 => rStep (m + 4) (rN key m)
def rkeysL (key : List UInt8) : List UInt8 := (rN key 40).2
def raddN (ks : List UInt8) (n : Nat) (b : List UInt8) : Nat → List UInt8
  | 0 => b
  | k + 1 => (raddN ks n b k).set k (g8 (raddN ks n b k) k ^^^ g8 ks (k + 16*n))
def raddL (ks : List UInt8) (n : Nat) (b : List UInt8) : List UInt8 := raddN ks n b 16
theorem raddN_len (ks : List UInt8) (n : Nat) (b : List UInt8) : ∀ k, (raddN ks n b k).length = b.length
  | 0 => rfl
  | k + 1 => by simp [raddN, raddN_len ks n b k]
theorem raddL_len {ks : List UInt8} {n : Nat} {b : List UInt8} (h : b.length = 16) : (raddL ks n b).length = 16 := by rw [raddL, raddN_len, h]
def rshIn (s t : List UInt8) (c : Nat) : Nat → List UInt8
  | 0 => t
  | r + 1 => (rshIn s t c r).set (4*c + r) (g8 subsL (g8 s (4*((c + r) % 4) + r)).toNat)
def rshN (s : List UInt8) : Nat → List UInt8
  | 0 => zr8 16
  | c + 1 => rshIn s (rshN s c) c 4
def rmxN (t : List UInt8) : Nat → List UInt8
  | 0 => t
  | d + 1 =>
    let p := g8 t (4*d); let q := g8 t (4*d + 1); let u := g8 t (4*d + 2); let v := g8 t (4*d + 3)
    ((((rmxN t d).set (4*d) ((((rdbl p ^^^ rdbl q) ^^^ q) ^^^ u) ^^^ v)).set (4*d + 1) ((((p ^^^ rdbl q) ^^^ rdbl u) ^^^ u) ^^^ v)).set (4*d + 2) ((((p ^^^ q) ^^^ rdbl u) ^^^ rdbl v) ^^^ v)).set (4*d + 3) ((((rdbl p ^^^ p) ^^^ q) ^^^ u) ^^^ rdbl v)
def rRound (ks : List UInt8) (n : Nat) (s : List UInt8) : List UInt8 :=
  if n < 10 then raddL ks n (rmxN (rshN s 4) 4) else raddL ks n (rshN s 4)
def rencN (ks b : List UInt8) : Nat → List UInt8
  | 0 => raddL ks 0 b
  | n + 1 => rRound ks (n + 1) (rencN ks b n)
def rencL (ks b : List UInt8) : List UInt8 := rencN ks b 10
attribute [local irreducible] mid zr8 rkeysL raddL rmxN rshN rshIn
theorem rkeys_c (key : List UInt8) (w : World) (hk : key.length = 16) : Calls Try.prog 26 #[.agg (cu8 key).toArray] w (Post w [] (fun v L => ∃ g sp cap, 176 ≤ cap ∧ sp.length = cap - 176 ∧ v = Slc g 0 176 cap ∧ L = [⟨g, cu8 (rkeysL key) ++ sp, 5, (0, 0)⟩])) := by
  refine enter w [] 85 [] [.agg (cu8 key).toArray] Try.func26 rfl rfl (by simp) (Hp.start (by simp) (by simp) (by simp)) ?_
  show JC _ _ _ [(0, .agg (cu8 key).toArray)] _
  refine JC_seq ?_
  refine JC_region ?_
  refine JL_step (Step_box (.agg (cu8 key).toArray) (cu8 key) rfl (by first | rfl | simp)) rfl ?_
  rintro v1 L1 ⟨nb1, hnb1, rfl, rfl⟩
  show JL _ _ _ _ ((1, Ptr nb1 0) :: _) [⟨nb1, cu8 key, 28, (0, 0)⟩]
  refine JL_val _ (Ev_assign rfl) rfl ?_
  refine JL_nil ?_
  refine JQ_then ?_
  refine JC_seq ?_
  refine JC_region ?_
  refine JL_step (Step_buildSlice0 5 1 Try.underlying38 Try.sizeOf5) rfl ?_
  rintro v1 L1 ⟨nb2, hnb2, rfl, rfl⟩
  show JL _ _ _ _ ((8, Slc nb2 0 0 0) :: _) [⟨nb1, cu8 key, 28, (0, 0)⟩, ⟨nb2, [], 5, (0, 0)⟩]
  refine JL_val (Slc nb1 0 16 16) (Ev_sliceA 16 5 1 0 16 0 16 Try.underlying28 Try.sizeOf5 rfl rfl rfl (by omega) (by omega) (by omega) (by omega) (by omega) 16 (by omega)) rfl ?_
  refine JL_step (Step_append8 38 5 [false, true] (Slc nb2 0 0 0) 0 ([]) key (some ⟨nb1, 0, none⟩) 16 16 Try.underlying38 Try.info5 rfl (.inr ⟨nb2, [], 0, rfl, (by simp [take?, cu8, cu32, cu64]), rfl, (by simp), (by omega), (by unfold maxLen; omega)⟩) rfl (by simp [hk]; try omega) (SrcAt.mem (MemAt.ent 0 rfl (Seg.whole _))) (by omega) (by unfold maxLen; omega)) rfl ?_
  rintro v1 L1 ⟨nb3, sp1, cp1, hg1, rfl, rfl, ha1, ha2, ha3, ha4⟩
  show JL _ _ _ _ ((10, Slc nb3 0 16 cp1) :: _) [⟨nb1, cu8 key, 28, (0, 0)⟩, ⟨nb3, cu8 (([]) ++ key) ++ sp1, 5, (0, 0)⟩]
  refine JL_val _ (Ev_assign rfl) rfl ?_
  refine JL_nil ?_
  refine JQ_then ?_
  refine JC_seq ?_
  refine JC_region ?_
  refine JL_val _ (Ev_assign rfl) rfl ?_
  refine JL_nil ?_
  refine JQ_then ?_
  refine JC_seq ?_
  refine JC_seq ?_
  refine JC_region ?_
  refine JL_val _ (Ev_assign rfl) rfl ?_
  refine JL_nil ?_
  refine JQ_then ?_
  refine JC_block ?_
  refine K_mask [false, true] ?_
  show JC _ _ _ _ [⟨nb3, cu8 (([]) ++ key) ++ sp1, 5, (0, 0)⟩]
  refine JC_loop (ι := Nat × UInt8 × List UInt8 × Nat × List Value × Nat) (fun ⟨i, f, ww, g0, sp0, cp0⟩ => [(2, .slice none 0 0), (3, Slc g0 0 (4*i) cp0), (4, U8 f), (5, I64 ((i:Int)))]) (fun ⟨i, f, ww, g0, sp0, cp0⟩ => [⟨g0, cu8 ww ++ sp0, 5, (0, 0)⟩]) (fun ⟨i, f, ww, g0, sp0, cp0⟩ => 4 ≤ i ∧ i ≤ 44 ∧ (f, ww) = rN key (i - 4) ∧ ww.length = 4*i ∧ sp0.length = cp0 - 4*i ∧ 4*i ≤ cp0 ∧ cp0 ≤ maxLen) (fun ⟨i, f, ww, g0, sp0, cp0⟩ => 44 - i) (4, 1, [] ++ key, nb3, sp1, cp1) ⟨by omega, by omega, rfl, ha1, ha2, ha3, ha4⟩ (Sub.cons rfl (Sub.cons rfl (Sub.cons rfl (Sub.cons rfl (Sub.nil))))) rfl ?_
  rintro ⟨i, f, ww, g0, sp0, cp0⟩ ⟨hx1, hx2, hx3, hx4, hx5, hx6, hx7⟩
  show JC _ _ _ [(2, .slice none 0 0), (3, Slc g0 0 (4*i) cp0), (4, U8 f), (5, I64 ((i:Int)))] [⟨g0, cu8 ww ++ sp0, 5, (0, 0)⟩]
  refine JC_seq ?_
  refine JC_seq ?_
  refine JC_region ?_
  refine JL_val _ (Ev_move rfl) rfl ?_
  refine JL_val (.bool (decide (((i:Int)) < (44:Int)))) (Ev_bini rfl rfl fun _ => bin_lss_i _ _) rfl ?_
  refine JL_nil ?_
  refine JQ_then ?_
  refine JC_cond (decide (((i:Int)) < (44:Int))) rfl (fun hb1 => ?_) (fun hb1 => ?_)
  ·
    have hp1 : ((i:Int)) < (44:Int) := of_decide_eq_true hb1
    refine JC_skip ?_
    refine JQ_then ?_
    refine JC_seq ?_
    refine JC_block ?_
    refine JC_seq ?_
    refine JC_draw 85 2 [(0, Slc g0 0 (4*i) cp0), (1, I64 ((i:Int))), (2, I64 (4*(i:Int))), (3, I64 (4*(i:Int) - 4)), (4, Ptr g0 (4*i - 4)), (5, U8 (g8 ww (4*i - 4))), (6, Slc g0 0 (4*i) cp0), (7, I64 ((i:Int))), (8, I64 (4*(i:Int))), (9, I64 (4*(i:Int) - 3)), (10, Ptr g0 (4*i - 3)), (11, U8 (g8 ww (4*i - 3))), (12, Slc g0 0 (4*i) cp0), (13, I64 ((i:Int))), (14, I64 (4*(i:Int))), (15, I64 (4*(i:Int) - 2)), (16, Ptr g0 (4*i - 2)), (17, U8 (g8 ww (4*i - 2))), (18, Slc g0 0 (4*i) cp0), (19, I64 ((i:Int))), (20, I64 (4*(i:Int))), (21, I64 (4*(i:Int) - 1)), (22, Ptr g0 (4*i - 1)), (23, U8 (g8 ww (4*i - 1)))] Try.mixed rfl (by decide +kernel) ?_
    refine DP_one ⟨[], [0, 1, 2, 3, 4, 5, 6, 7, 8, 9, 10, 11, 12, 13, 14, 15, 16, 17, 18, 19, 20, 21, 22, 23], [], [0, 1, 2, 3, 4, 5, 6, 7, 8, 9, 10, 11, 12, 13, 14, 15, 16, 17, 18, 19, 20, 21, 22, 23], [24]⟩ 24 _ rfl rfl (by decide +kernel) rfl ⟨⟨_, rfl, Qok_val rfl (Ev_move rfl)⟩, ⟨_, rfl, Qok_val rfl (Ev_move rfl)⟩, ⟨_, rfl, Qok_val rfl (Ev_bini rfl rfl fun _ => bin_mul_i _ _ (4*(i:Int)) (by omega) (by omega))⟩, ⟨_, rfl, Qok_val rfl (Ev_bini rfl rfl fun _ => bin_sub_i _ _ (4*(i:Int) - 4) (by omega) (by omega))⟩, ⟨_, rfl, Qok_val rfl (Ev_indexSl 5 1 (4*i - 4) Try.underlying38 Try.sizeOf5 rfl rfl (by omega) (by omega) (by omega))⟩, ⟨_, rfl, Qok_val rfl (Ev_load rfl (Ld_one Try.isAgg5 (MemAt.ent 0 rfl (Seg.left (Seg.get (g8_get (i := (4*i - 4)) (by rw [hx4]; omega)))))))⟩, ⟨_, rfl, Qok_val rfl (Ev_move rfl)⟩, ⟨_, rfl, Qok_val rfl (Ev_move rfl)⟩, ⟨_, rfl, Qok_val rfl (Ev_bini rfl rfl fun _ => bin_mul_i _ _ (4*(i:Int)) (by omega) (by omega))⟩, ⟨_, rfl, Qok_val rfl (Ev_bini rfl rfl fun _ => bin_sub_i _ _ (4*(i:Int) - 3) (by omega) (by omega))⟩, ⟨_, rfl, Qok_val rfl (Ev_indexSl 5 1 (4*i - 3) Try.underlying38 Try.sizeOf5 rfl rfl (by omega) (by omega) (by omega))⟩, ⟨_, rfl, Qok_val rfl (Ev_load rfl (Ld_one Try.isAgg5 (MemAt.ent 0 rfl (Seg.left (Seg.get (g8_get (i := (4*i - 3)) (by rw [hx4]; omega)))))))⟩, ⟨_, rfl, Qok_val rfl (Ev_move rfl)⟩, ⟨_, rfl, Qok_val rfl (Ev_move rfl)⟩, ⟨_, rfl, Qok_val rfl (Ev_bini rfl rfl fun _ => bin_mul_i _ _ (4*(i:Int)) (by omega) (by omega))⟩, ⟨_, rfl, Qok_val rfl (Ev_bini rfl rfl fun _ => bin_sub_i _ _ (4*(i:Int) - 2) (by omega) (by omega))⟩, ⟨_, rfl, Qok_val rfl (Ev_indexSl 5 1 (4*i - 2) Try.underlying38 Try.sizeOf5 rfl rfl (by omega) (by omega) (by omega))⟩, ⟨_, rfl, Qok_val rfl (Ev_load rfl (Ld_one Try.isAgg5 (MemAt.ent 0 rfl (Seg.left (Seg.get (g8_get (i := (4*i - 2)) (by rw [hx4]; omega)))))))⟩, ⟨_, rfl, Qok_val rfl (Ev_move rfl)⟩, ⟨_, rfl, Qok_val rfl (Ev_move rfl)⟩, ⟨_, rfl, Qok_val rfl (Ev_bini rfl rfl fun _ => bin_mul_i _ _ (4*(i:Int)) (by omega) (by omega))⟩, ⟨_, rfl, Qok_val rfl (Ev_bini rfl rfl fun _ => bin_sub_i _ _ (4*(i:Int) - 1) (by omega) (by omega))⟩, ⟨_, rfl, Qok_val rfl (Ev_indexSl 5 1 (4*i - 1) Try.underlying38 Try.sizeOf5 rfl rfl (by omega) (by omega) (by omega))⟩, ⟨_, rfl, Qok_val rfl (Ev_load rfl (Ld_one Try.isAgg5 (MemAt.ent 0 rfl (Seg.left (Seg.get (g8_get (i := (4*i - 1)) (by rw [hx4]; omega)))))))⟩, trivial⟩ rfl (Cok_step rfl (Step_buildSlice 5 1 _ [(0, U8 (g8 ww (4*i - 4))), (1, U8 (g8 ww (4*i - 3))), (2, U8 (g8 ww (4*i - 2))), (3, U8 (g8 ww (4*i - 1)))] (cu8 ([g8 ww (4*i - 4), g8 ww (4*i - 3), g8 ww (4*i - 2), g8 ww (4*i - 1)])) Try.underlying38 Try.sizeOf5 Try.zeroValue5 rfl rfl rfl (by kernel_rfl))) ?_
    rintro v1 L1 ⟨nb4, hnb4, rfl, rfl⟩
    refine ⟨[(25, Slc nb4 0 4 4)], ?_⟩
    show DP _ _ _ _ _ _ _ _ [⟨g0, cu8 ww ++ sp0, 5, (0, 0)⟩, ⟨nb4, cu8 ([g8 ww (4*i - 4), g8 ww (4*i - 3), g8 ww (4*i - 2), g8 ww (4*i - 1)]), 5, (0, 0)⟩]
    refine DP_end ⟨[24], [0, 1, 2, 3, 4, 5, 6, 7, 8, 9, 10, 11, 12, 13, 14, 15, 16, 17, 18, 19, 20, 21, 22, 23, 25], [0, 1, 2, 3, 4, 5, 6, 7, 8, 9, 10, 11, 12, 13, 14, 15, 16, 17, 18, 19, 20, 21, 22, 23], [25], []⟩ rfl rfl (by decide +kernel) rfl ⟨⟨_, rfl, Qok_val rfl (Ev_assign rfl)⟩, trivial⟩ ?_
    refine K_sub (F' := [(15, Slc g0 0 (4*i) cp0), (16, I64 ((i:Int))), (17, I64 (4*(i:Int))), (18, I64 (4*(i:Int) - 4)), (19, Ptr g0 (4*i - 4)), (20, U8 (g8 ww (4*i - 4))), (21, Slc g0 0 (4*i) cp0), (22, I64 ((i:Int))), (23, I64 (4*(i:Int))), (24, I64 (4*(i:Int) - 3)), (25, Ptr g0 (4*i - 3)), (26, U8 (g8 ww (4*i - 3))), (27, Slc g0 0 (4*i) cp0), (28, I64 ((i:Int))), (29, I64 (4*(i:Int))), (30, I64 (4*(i:Int) - 2)), (31, Ptr g0 (4*i - 2)), (32, U8 (g8 ww (4*i - 2))), (33, Slc g0 0 (4*i) cp0), (34, I64 ((i:Int))), (35, I64 (4*(i:Int))), (36, I64 (4*(i:Int) - 1)), (37, Ptr g0 (4*i - 1)), (38, U8 (g8 ww (4*i - 1))), (39, Slc nb4 0 4 4), (6, Slc nb4 0 4 4), (2, .slice none 0 0), (3, Slc g0 0 (4*i) cp0), (4, U8 f), (5, I64 ((i:Int))), (11, I64 ((i:Int))), (12, .bool (decide (((i:Int)) < (44:Int))))]) (Sub.cons (by kernel_rfl) (Sub.cons (by kernel_rfl) (Sub.cons (by kernel_rfl) (Sub.cons (by kernel_rfl) (Sub.cons (by kernel_rfl) (Sub.cons (by kernel_rfl) (Sub.cons (by kernel_rfl) (Sub.cons (by kernel_rfl) (Sub.cons (by kernel_rfl) (Sub.cons (by kernel_rfl) (Sub.cons (by kernel_rfl) (Sub.cons (by kernel_rfl) (Sub.cons (by kernel_rfl) (Sub.cons (by kernel_rfl) (Sub.cons (by kernel_rfl) (Sub.cons (by kernel_rfl) (Sub.cons (by kernel_rfl) (Sub.cons (by kernel_rfl) (Sub.cons (by kernel_rfl) (Sub.cons (by kernel_rfl) (Sub.cons (by kernel_rfl) (Sub.cons (by kernel_rfl) (Sub.cons (by kernel_rfl) (Sub.cons (by kernel_rfl) (Sub.cons (by kernel_rfl) (Sub.cons (by kernel_rfl) (Sub.cons (by kernel_rfl) (Sub.cons (by kernel_rfl) (Sub.cons (by kernel_rfl) (Sub.cons (by kernel_rfl) (Sub.cons (by kernel_rfl) (Sub.cons (by kernel_rfl) (Sub.nil))))))))))))))))))))))))))))))))) ?_
    show JQ _ _ _ [(15, Slc g0 0 (4*i) cp0), (16, I64 ((i:Int))), (17, I64 (4*(i:Int))), (18, I64 (4*(i:Int) - 4)), (19, Ptr g0 (4*i - 4)), (20, U8 (g8 ww (4*i - 4))), (21, Slc g0 0 (4*i) cp0), (22, I64 ((i:Int))), (23, I64 (4*(i:Int))), (24, I64 (4*(i:Int) - 3)), (25, Ptr g0 (4*i - 3)), (26, U8 (g8 ww (4*i - 3))), (27, Slc g0 0 (4*i) cp0), (28, I64 ((i:Int))), (29, I64 (4*(i:Int))), (30, I64 (4*(i:Int) - 2)), (31, Ptr g0 (4*i - 2)), (32, U8 (g8 ww (4*i - 2))), (33, Slc g0 0 (4*i) cp0), (34, I64 ((i:Int))), (35, I64 (4*(i:Int))), (36, I64 (4*(i:Int) - 1)), (37, Ptr g0 (4*i - 1)), (38, U8 (g8 ww (4*i - 1))), (39, Slc nb4 0 4 4), (6, Slc nb4 0 4 4), (2, .slice none 0 0), (3, Slc g0 0 (4*i) cp0), (4, U8 f), (5, I64 ((i:Int))), (11, I64 ((i:Int))), (12, .bool (decide (((i:Int)) < (44:Int))))] _
    refine JQ_then ?_
    refine JC_seq ?_
    refine JC_seq ?_
    refine JC_region ?_
    refine JL_val _ (Ev_move rfl) rfl ?_
    refine JL_val (I64 ((i % 4:Int))) (Ev_bini rfl rfl fun _ => bin_rem_i _ _ ((i % 4:Int)) (by omega) (by omega) (by omega)) rfl ?_
    refine JL_val (.bool (decide (((i % 4:Int)) = (0:Int)))) (Ev_bini rfl rfl fun _ => bin_eql_i _ _) rfl ?_
    refine JL_nil ?_
    refine JQ_then ?_
    refine JC_cond (decide (((i % 4:Int)) = (0:Int))) rfl (fun hb2 => ?_) (fun hb2 => ?_)
    ·
      have hp2 : ((i % 4:Int)) = (0:Int) := of_decide_eq_true hb2
      refine JC_seq ?_
      refine JC_draw 85 2 [(0, Slc nb4 0 4 4), (1, Ptr nb4 1), (2, U8 (g8 ([g8 ww (4*i - 4), g8 ww (4*i - 3), g8 ww (4*i - 2), g8 ww (4*i - 1)]) 1)), (3, U8 (g8 subsL ((g8 ([g8 ww (4*i - 4), g8 ww (4*i - 3), g8 ww (4*i - 2), g8 ww (4*i - 1)]) 1).toNat))), (4, U8 f), (5, U8 ((g8 subsL ((g8 ([g8 ww (4*i - 4), g8 ww (4*i - 3), g8 ww (4*i - 2), g8 ww (4*i - 1)]) 1).toNat)) ^^^ f)), (6, Slc nb4 0 4 4), (7, Ptr nb4 2), (8, U8 (g8 ([g8 ww (4*i - 4), g8 ww (4*i - 3), g8 ww (4*i - 2), g8 ww (4*i - 1)]) 2)), (9, U8 (g8 subsL ((g8 ([g8 ww (4*i - 4), g8 ww (4*i - 3), g8 ww (4*i - 2), g8 ww (4*i - 1)]) 2).toNat))), (10, Slc nb4 0 4 4), (11, Ptr nb4 3), (12, U8 (g8 ([g8 ww (4*i - 4), g8 ww (4*i - 3), g8 ww (4*i - 2), g8 ww (4*i - 1)]) 3)), (13, U8 (g8 subsL ((g8 ([g8 ww (4*i - 4), g8 ww (4*i - 3), g8 ww (4*i - 2), g8 ww (4*i - 1)]) 3).toNat))), (14, Slc nb4 0 4 4), (15, Ptr nb4 0), (16, U8 (g8 ([g8 ww (4*i - 4), g8 ww (4*i - 3), g8 ww (4*i - 2), g8 ww (4*i - 1)]) 0)), (17, U8 (g8 subsL ((g8 ([g8 ww (4*i - 4), g8 ww (4*i - 3), g8 ww (4*i - 2), g8 ww (4*i - 1)]) 0).toNat)))] Try.mixed rfl (by decide +kernel) ?_
      refine DP_one ⟨[], [0, 1, 2, 3, 4, 5, 6, 7, 8, 9, 10, 11, 12, 13, 14, 15, 16, 17], [], [0, 1, 2, 3, 4, 5, 6, 7, 8, 9, 10, 11, 12, 13, 14, 15, 16, 17], [18]⟩ 18 _ rfl rfl (by decide +kernel) rfl ⟨⟨_, rfl, Qok_val rfl (Ev_move rfl)⟩, ⟨_, rfl, Qok_val rfl (Ev_indexSl 5 1 1 Try.underlying38 Try.sizeOf5 rfl rfl (by omega) (by omega) (by omega))⟩, ⟨_, rfl, Qok_val rfl (Ev_load rfl (Ld_one Try.isAgg5 (MemAt.ent 1 rfl (Seg.get (g8_get (i := 1) (by simp <;> omega))))))⟩, ⟨_, rfl, Qok_val rfl (Ev_indexStrL subsL ((g8 ([g8 ww (4*i - 4), g8 ww (4*i - 3), g8 ww (4*i - 2), g8 ww (4*i - 1)]) 1).toNat) Try.underlying9 rfl rfl (by have := UInt8.toNat_lt (g8 ([g8 ww (4*i - 4), g8 ww (4*i - 3), g8 ww (4*i - 2), g8 ww (4*i - 1)]) 1); omega) (by rw [subsL_len]; have := UInt8.toNat_lt (g8 ([g8 ww (4*i - 4), g8 ww (4*i - 3), g8 ww (4*i - 2), g8 ww (4*i - 1)]) 1); omega))⟩, ⟨_, rfl, Qok_val rfl (Ev_move rfl)⟩, ⟨_, rfl, Qok_val rfl (Ev_bini rfl rfl fun _ => bin_xor_u8 (g8 subsL ((g8 ([g8 ww (4*i - 4), g8 ww (4*i - 3), g8 ww (4*i - 2), g8 ww (4*i - 1)]) 1).toNat)) f)⟩, ⟨_, rfl, Qok_val rfl (Ev_move rfl)⟩, ⟨_, rfl, Qok_val rfl (Ev_indexSl 5 1 2 Try.underlying38 Try.sizeOf5 rfl rfl (by omega) (by omega) (by omega))⟩, ⟨_, rfl, Qok_val rfl (Ev_load rfl (Ld_one Try.isAgg5 (MemAt.ent 1 rfl (Seg.get (g8_get (i := 2) (by simp <;> omega))))))⟩, ⟨_, rfl, Qok_val rfl (Ev_indexStrL subsL ((g8 ([g8 ww (4*i - 4), g8 ww (4*i - 3), g8 ww (4*i - 2), g8 ww (4*i - 1)]) 2).toNat) Try.underlying9 rfl rfl (by have := UInt8.toNat_lt (g8 ([g8 ww (4*i - 4), g8 ww (4*i - 3), g8 ww (4*i - 2), g8 ww (4*i - 1)]) 2); omega) (by rw [subsL_len]; have := UInt8.toNat_lt (g8 ([g8 ww (4*i - 4), g8 ww (4*i - 3), g8 ww (4*i - 2), g8 ww (4*i - 1)]) 2); omega))⟩, ⟨_, rfl, Qok_val rfl (Ev_move rfl)⟩, ⟨_, rfl, Qok_val rfl (Ev_indexSl 5 1 3 Try.underlying38 Try.sizeOf5 rfl rfl (by omega) (by omega) (by omega))⟩, ⟨_, rfl, Qok_val rfl (Ev_load rfl (Ld_one Try.isAgg5 (MemAt.ent 1 rfl (Seg.get (g8_get (i := 3) (by simp <;> omega))))))⟩, ⟨_, rfl, Qok_val rfl (Ev_indexStrL subsL ((g8 ([g8 ww (4*i - 4), g8 ww (4*i - 3), g8 ww (4*i - 2), g8 ww (4*i - 1)]) 3).toNat) Try.underlying9 rfl rfl (by have := UInt8.toNat_lt (g8 ([g8 ww (4*i - 4), g8 ww (4*i - 3), g8 ww (4*i - 2), g8 ww (4*i - 1)]) 3); omega) (by rw [subsL_len]; have := UInt8.toNat_lt (g8 ([g8 ww (4*i - 4), g8 ww (4*i - 3), g8 ww (4*i - 2), g8 ww (4*i - 1)]) 3); omega))⟩, ⟨_, rfl, Qok_val rfl (Ev_move rfl)⟩, ⟨_, rfl, Qok_val rfl (Ev_indexSl 5 1 0 Try.underlying38 Try.sizeOf5 rfl rfl (by omega) (by omega) (by omega))⟩, ⟨_, rfl, Qok_val rfl (Ev_load rfl (Ld_one Try.isAgg5 (MemAt.ent 1 rfl (Seg.get (g8_get (i := 0) (by simp <;> omega))))))⟩, ⟨_, rfl, Qok_val rfl (Ev_indexStrL subsL ((g8 ([g8 ww (4*i - 4), g8 ww (4*i - 3), g8 ww (4*i - 2), g8 ww (4*i - 1)]) 0).toNat) Try.underlying9 rfl rfl (by have := UInt8.toNat_lt (g8 ([g8 ww (4*i - 4), g8 ww (4*i - 3), g8 ww (4*i - 2), g8 ww (4*i - 1)]) 0); omega) (by rw [subsL_len]; have := UInt8.toNat_lt (g8 ([g8 ww (4*i - 4), g8 ww (4*i - 3), g8 ww (4*i - 2), g8 ww (4*i - 1)]) 0); omega))⟩, trivial⟩ rfl (Cok_step rfl (Step_buildSlice 5 1 _ [(0, U8 ((g8 subsL ((g8 ([g8 ww (4*i - 4), g8 ww (4*i - 3), g8 ww (4*i - 2), g8 ww (4*i - 1)]) 1).toNat)) ^^^ f)), (1, U8 (g8 subsL ((g8 ([g8 ww (4*i - 4), g8 ww (4*i - 3), g8 ww (4*i - 2), g8 ww (4*i - 1)]) 2).toNat))), (2, U8 (g8 subsL ((g8 ([g8 ww (4*i - 4), g8 ww (4*i - 3), g8 ww (4*i - 2), g8 ww (4*i - 1)]) 3).toNat))), (3, U8 (g8 subsL ((g8 ([g8 ww (4*i - 4), g8 ww (4*i - 3), g8 ww (4*i - 2), g8 ww (4*i - 1)]) 0).toNat)))] (cu8 ([(g8 subsL ((g8 ([g8 ww (4*i - 4), g8 ww (4*i - 3), g8 ww (4*i - 2), g8 ww (4*i - 1)]) 1).toNat)) ^^^ f, g8 subsL ((g8 ([g8 ww (4*i - 4), g8 ww (4*i - 3), g8 ww (4*i - 2), g8 ww (4*i - 1)]) 2).toNat), g8 subsL ((g8 ([g8 ww (4*i - 4), g8 ww (4*i - 3), g8 ww (4*i - 2), g8 ww (4*i - 1)]) 3).toNat), g8 subsL ((g8 ([g8 ww (4*i - 4), g8 ww (4*i - 3), g8 ww (4*i - 2), g8 ww (4*i - 1)]) 0).toNat)])) Try.underlying38 Try.sizeOf5 Try.zeroValue5 rfl rfl rfl (by kernel_rfl))) ?_
      rintro v1 L1 ⟨nb5, hnb5, rfl, rfl⟩
      refine ⟨[(19, Slc nb5 0 4 4)], ?_⟩
      show DP _ _ _ _ _ _ _ _ [⟨g0, cu8 ww ++ sp0, 5, (0, 0)⟩, ⟨nb4, cu8 ([g8 ww (4*i - 4), g8 ww (4*i - 3), g8 ww (4*i - 2), g8 ww (4*i - 1)]), 5, (0, 0)⟩, ⟨nb5, cu8 ([(g8 subsL ((g8 ([g8 ww (4*i - 4), g8 ww (4*i - 3), g8 ww (4*i - 2), g8 ww (4*i - 1)]) 1).toNat)) ^^^ f, g8 subsL ((g8 ([g8 ww (4*i - 4), g8 ww (4*i - 3), g8 ww (4*i - 2), g8 ww (4*i - 1)]) 2).toNat), g8 subsL ((g8 ([g8 ww (4*i - 4), g8 ww (4*i - 3), g8 ww (4*i - 2), g8 ww (4*i - 1)]) 3).toNat), g8 subsL ((g8 ([g8 ww (4*i - 4), g8 ww (4*i - 3), g8 ww (4*i - 2), g8 ww (4*i - 1)]) 0).toNat)]), 5, (0, 0)⟩]
      refine DP_end ⟨[18], [0, 1, 2, 3, 4, 5, 6, 7, 8, 9, 10, 11, 12, 13, 14, 15, 16, 17, 19], [0, 1, 2, 3, 4, 5, 6, 7, 8, 9, 10, 11, 12, 13, 14, 15, 16, 17], [19], []⟩ rfl rfl (by decide +kernel) rfl ⟨⟨_, rfl, Qok_val rfl (Ev_assign rfl)⟩, trivial⟩ ?_
      refine K_sub (F' := [(43, Slc nb4 0 4 4), (44, Ptr nb4 1), (45, U8 (g8 ([g8 ww (4*i - 4), g8 ww (4*i - 3), g8 ww (4*i - 2), g8 ww (4*i - 1)]) 1)), (46, U8 (g8 subsL ((g8 ([g8 ww (4*i - 4), g8 ww (4*i - 3), g8 ww (4*i - 2), g8 ww (4*i - 1)]) 1).toNat))), (47, U8 f), (48, U8 ((g8 subsL ((g8 ([g8 ww (4*i - 4), g8 ww (4*i - 3), g8 ww (4*i - 2), g8 ww (4*i - 1)]) 1).toNat)) ^^^ f)), (49, Slc nb4 0 4 4), (50, Ptr nb4 2), (51, U8 (g8 ([g8 ww (4*i - 4), g8 ww (4*i - 3), g8 ww (4*i - 2), g8 ww (4*i - 1)]) 2)), (52, U8 (g8 subsL ((g8 ([g8 ww (4*i - 4), g8 ww (4*i - 3), g8 ww (4*i - 2), g8 ww (4*i - 1)]) 2).toNat))), (53, Slc nb4 0 4 4), (54, Ptr nb4 3), (55, U8 (g8 ([g8 ww (4*i - 4), g8 ww (4*i - 3), g8 ww (4*i - 2), g8 ww (4*i - 1)]) 3)), (56, U8 (g8 subsL ((g8 ([g8 ww (4*i - 4), g8 ww (4*i - 3), g8 ww (4*i - 2), g8 ww (4*i - 1)]) 3).toNat))), (57, Slc nb4 0 4 4), (58, Ptr nb4 0), (59, U8 (g8 ([g8 ww (4*i - 4), g8 ww (4*i - 3), g8 ww (4*i - 2), g8 ww (4*i - 1)]) 0)), (60, U8 (g8 subsL ((g8 ([g8 ww (4*i - 4), g8 ww (4*i - 3), g8 ww (4*i - 2), g8 ww (4*i - 1)]) 0).toNat))), (61, Slc nb5 0 4 4), (6, Slc nb5 0 4 4), (15, Slc g0 0 (4*i) cp0), (16, I64 ((i:Int))), (17, I64 (4*(i:Int))), (18, I64 (4*(i:Int) - 4)), (19, Ptr g0 (4*i - 4)), (20, U8 (g8 ww (4*i - 4))), (21, Slc g0 0 (4*i) cp0), (22, I64 ((i:Int))), (23, I64 (4*(i:Int))), (24, I64 (4*(i:Int) - 3)), (25, Ptr g0 (4*i - 3)), (26, U8 (g8 ww (4*i - 3))), (27, Slc g0 0 (4*i) cp0), (28, I64 ((i:Int))), (29, I64 (4*(i:Int))), (30, I64 (4*(i:Int) - 2)), (31, Ptr g0 (4*i - 2)), (32, U8 (g8 ww (4*i - 2))), (33, Slc g0 0 (4*i) cp0), (34, I64 ((i:Int))), (35, I64 (4*(i:Int))), (36, I64 (4*(i:Int) - 1)), (37, Ptr g0 (4*i - 1)), (38, U8 (g8 ww (4*i - 1))), (39, Slc nb4 0 4 4), (2, .slice none 0 0), (3, Slc g0 0 (4*i) cp0), (4, U8 f), (5, I64 ((i:Int))), (11, I64 ((i:Int))), (12, .bool (decide (((i:Int)) < (44:Int)))), (40, I64 ((i:Int))), (41, I64 ((i % 4:Int))), (42, .bool (decide (((i % 4:Int)) = (0:Int))))]) (Sub.cons (by kernel_rfl) (Sub.cons (by kernel_rfl) (Sub.cons (by kernel_rfl) (Sub.cons (by kernel_rfl) (Sub.cons (by kernel_rfl) (Sub.cons (by kernel_rfl) (Sub.cons (by kernel_rfl) (Sub.cons (by kernel_rfl) (Sub.cons (by kernel_rfl) (Sub.cons (by kernel_rfl) (Sub.cons (by kernel_rfl) (Sub.cons (by kernel_rfl) (Sub.cons (by kernel_rfl) (Sub.cons (by kernel_rfl) (Sub.cons (by kernel_rfl) (Sub.cons (by kernel_rfl) (Sub.cons (by kernel_rfl) (Sub.cons (by kernel_rfl) (Sub.cons (by kernel_rfl) (Sub.cons (by kernel_rfl) (Sub.cons (by kernel_rfl) (Sub.cons (by kernel_rfl) (Sub.cons (by kernel_rfl) (Sub.cons (by kernel_rfl) (Sub.cons (by kernel_rfl) (Sub.cons (by kernel_rfl) (Sub.cons (by kernel_rfl) (Sub.cons (by kernel_rfl) (Sub.cons (by kernel_rfl) (Sub.cons (by kernel_rfl) (Sub.cons (by kernel_rfl) (Sub.cons (by kernel_rfl) (Sub.cons (by kernel_rfl) (Sub.cons (by kernel_rfl) (Sub.cons (by kernel_rfl) (Sub.cons (by kernel_rfl) (Sub.cons (by kernel_rfl) (Sub.cons (by kernel_rfl) (Sub.cons (by kernel_rfl) (Sub.cons (by kernel_rfl) (Sub.cons (by kernel_rfl) (Sub.cons (by kernel_rfl) (Sub.cons (by kernel_rfl) (Sub.cons (by kernel_rfl) (Sub.cons (by kernel_rfl) (Sub.cons (by kernel_rfl) (Sub.cons (by kernel_rfl) (Sub.cons (by kernel_rfl) (Sub.cons (by kernel_rfl) (Sub.cons (by kernel_rfl) (Sub.cons (by kernel_rfl) (Sub.cons (by kernel_rfl) (Sub.cons (by kernel_rfl) (Sub.cons (by kernel_rfl) (Sub.nil))))))))))))))))))))))))))))))))))))))))))))))))))))))) ?_
      show JQ _ _ _ [(43, Slc nb4 0 4 4), (44, Ptr nb4 1), (45, U8 (g8 ([g8 ww (4*i - 4), g8 ww (4*i - 3), g8 ww (4*i - 2), g8 ww (4*i - 1)]) 1)), (46, U8 (g8 subsL ((g8 ([g8 ww (4*i - 4), g8 ww (4*i - 3), g8 ww (4*i - 2), g8 ww (4*i - 1)]) 1).toNat))), (47, U8 f), (48, U8 ((g8 subsL ((g8 ([g8 ww (4*i - 4), g8 ww (4*i - 3), g8 ww (4*i - 2), g8 ww (4*i - 1)]) 1).toNat)) ^^^ f)), (49, Slc nb4 0 4 4), (50, Ptr nb4 2), (51, U8 (g8 ([g8 ww (4*i - 4), g8 ww (4*i - 3), g8 ww (4*i - 2), g8 ww (4*i - 1)]) 2)), (52, U8 (g8 subsL ((g8 ([g8 ww (4*i - 4), g8 ww (4*i - 3), g8 ww (4*i - 2), g8 ww (4*i - 1)]) 2).toNat))), (53, Slc nb4 0 4 4), (54, Ptr nb4 3), (55, U8 (g8 ([g8 ww (4*i - 4), g8 ww (4*i - 3), g8 ww (4*i - 2), g8 ww (4*i - 1)]) 3)), (56, U8 (g8 subsL ((g8 ([g8 ww (4*i - 4), g8 ww (4*i - 3), g8 ww (4*i - 2), g8 ww (4*i - 1)]) 3).toNat))), (57, Slc nb4 0 4 4), (58, Ptr nb4 0), (59, U8 (g8 ([g8 ww (4*i - 4), g8 ww (4*i - 3), g8 ww (4*i - 2), g8 ww (4*i - 1)]) 0)), (60, U8 (g8 subsL ((g8 ([g8 ww (4*i - 4), g8 ww (4*i - 3), g8 ww (4*i - 2), g8 ww (4*i - 1)]) 0).toNat))), (61, Slc nb5 0 4 4), (6, Slc nb5 0 4 4), (15, Slc g0 0 (4*i) cp0), (16, I64 ((i:Int))), (17, I64 (4*(i:Int))), (18, I64 (4*(i:Int) - 4)), (19, Ptr g0 (4*i - 4)), (20, U8 (g8 ww (4*i - 4))), (21, Slc g0 0 (4*i) cp0), (22, I64 ((i:Int))), (23, I64 (4*(i:Int))), (24, I64 (4*(i:Int) - 3)), (25, Ptr g0 (4*i - 3)), (26, U8 (g8 ww (4*i - 3))), (27, Slc g0 0 (4*i) cp0), (28, I64 ((i:Int))), (29, I64 (4*(i:Int))), (30, I64 (4*(i:Int) - 2)), (31, Ptr g0 (4*i - 2)), (32, U8 (g8 ww (4*i - 2))), (33, Slc g0 0 (4*i) cp0), (34, I64 ((i:Int))), (35, I64 (4*(i:Int))), (36, I64 (4*(i:Int) - 1)), (37, Ptr g0 (4*i - 1)), (38, U8 (g8 ww (4*i - 1))), (39, Slc nb4 0 4 4), (2, .slice none 0 0), (3, Slc g0 0 (4*i) cp0), (4, U8 f), (5, I64 ((i:Int))), (11, I64 ((i:Int))), (12, .bool (decide (((i:Int)) < (44:Int)))), (40, I64 ((i:Int))), (41, I64 ((i % 4:Int))), (42, .bool (decide (((i % 4:Int)) = (0:Int))))] _
      refine JQ_then ?_
      refine JC_region ?_
      refine JL_val _ (Ev_move rfl) rfl ?_
      refine JL_step (Step_callP 69 [U8 f] (U8 (rdbl f)) (Cl_func [U8 f] Try.call69 rfl) (fun w1 _ => rdouble_c f w1)) rfl ?_
      rintro v1 L1 ⟨rfl, rfl⟩
      show JL _ _ _ _ ((63, U8 (rdbl f)) :: _) [⟨g0, cu8 ww ++ sp0, 5, (0, 0)⟩, ⟨nb4, cu8 ([g8 ww (4*i - 4), g8 ww (4*i - 3), g8 ww (4*i - 2), g8 ww (4*i - 1)]), 5, (0, 0)⟩, ⟨nb5, cu8 ([(g8 subsL ((g8 ([g8 ww (4*i - 4), g8 ww (4*i - 3), g8 ww (4*i - 2), g8 ww (4*i - 1)]) 1).toNat)) ^^^ f, g8 subsL ((g8 ([g8 ww (4*i - 4), g8 ww (4*i - 3), g8 ww (4*i - 2), g8 ww (4*i - 1)]) 2).toNat), g8 subsL ((g8 ([g8 ww (4*i - 4), g8 ww (4*i - 3), g8 ww (4*i - 2), g8 ww (4*i - 1)]) 3).toNat), g8 subsL ((g8 ([g8 ww (4*i - 4), g8 ww (4*i - 3), g8 ww (4*i - 2), g8 ww (4*i - 1)]) 0).toNat)]), 5, (0, 0)⟩]
      refine JL_val _ (Ev_assign rfl) rfl ?_
      refine JL_nil ?_
      refine JQ_then ?_
      refine JC_seq ?_
      refine JC_region ?_
      refine JL_val _ (Ev_assign rfl) rfl ?_
      refine JL_nil ?_
      refine JQ_then ?_
      refine JC_block ?_
      refine K_pick [2, 0] (by decide) ?_
      show JC _ _ _ _ [⟨nb5, cu8 ([(g8 subsL ((g8 ([g8 ww (4*i - 4), g8 ww (4*i - 3), g8 ww (4*i - 2), g8 ww (4*i - 1)]) 1).toNat)) ^^^ f, g8 subsL ((g8 ([g8 ww (4*i - 4), g8 ww (4*i - 3), g8 ww (4*i - 2), g8 ww (4*i - 1)]) 2).toNat), g8 subsL ((g8 ([g8 ww (4*i - 4), g8 ww (4*i - 3), g8 ww (4*i - 2), g8 ww (4*i - 1)]) 3).toNat), g8 subsL ((g8 ([g8 ww (4*i - 4), g8 ww (4*i - 3), g8 ww (4*i - 2), g8 ww (4*i - 1)]) 0).toNat)]), 5, (0, 0)⟩, ⟨g0, cu8 ww ++ sp0, 5, (0, 0)⟩]
      refine JC_loop (ι := Nat × List UInt8 × Nat × List Value × Nat) (fun ⟨j, u, g1, sp1, cp1⟩ => [(2, .slice none 0 0), (4, U8 (rdbl f)), (5, I64 ((i:Int))), (6, Slc nb5 0 4 4), (11, I64 ((i:Int))), (12, .bool (decide (((i:Int)) < (44:Int)))), (15, Slc g0 0 (4*i) cp0), (16, I64 ((i:Int))), (17, I64 (4*(i:Int))), (18, I64 (4*(i:Int) - 4)), (19, Ptr g0 (4*i - 4)), (20, U8 (g8 ww (4*i - 4))), (21, Slc g0 0 (4*i) cp0), (22, I64 ((i:Int))), (23, I64 (4*(i:Int))), (24, I64 (4*(i:Int) - 3)), (25, Ptr g0 (4*i - 3)), (26, U8 (g8 ww (4*i - 3))), (27, Slc g0 0 (4*i) cp0), (28, I64 ((i:Int))), (29, I64 (4*(i:Int))), (30, I64 (4*(i:Int) - 2)), (31, Ptr g0 (4*i - 2)), (32, U8 (g8 ww (4*i - 2))), (33, Slc g0 0 (4*i) cp0), (34, I64 ((i:Int))), (35, I64 (4*(i:Int))), (36, I64 (4*(i:Int) - 1)), (37, Ptr g0 (4*i - 1)), (38, U8 (g8 ww (4*i - 1))), (39, Slc nb4 0 4 4), (40, I64 ((i:Int))), (41, I64 ((i % 4:Int))), (42, .bool (decide (((i % 4:Int)) = (0:Int)))), (43, Slc nb4 0 4 4), (44, Ptr nb4 1), (45, U8 (g8 ([g8 ww (4*i - 4), g8 ww (4*i - 3), g8 ww (4*i - 2), g8 ww (4*i - 1)]) 1)), (46, U8 (g8 subsL ((g8 ([g8 ww (4*i - 4), g8 ww (4*i - 3), g8 ww (4*i - 2), g8 ww (4*i - 1)]) 1).toNat))), (47, U8 f), (48, U8 ((g8 subsL ((g8 ([g8 ww (4*i - 4), g8 ww (4*i - 3), g8 ww (4*i - 2), g8 ww (4*i - 1)]) 1).toNat)) ^^^ f)), (49, Slc nb4 0 4 4), (50, Ptr nb4 2), (51, U8 (g8 ([g8 ww (4*i - 4), g8 ww (4*i - 3), g8 ww (4*i - 2), g8 ww (4*i - 1)]) 2)), (52, U8 (g8 subsL ((g8 ([g8 ww (4*i - 4), g8 ww (4*i - 3), g8 ww (4*i - 2), g8 ww (4*i - 1)]) 2).toNat))), (53, Slc nb4 0 4 4), (54, Ptr nb4 3), (55, U8 (g8 ([g8 ww (4*i - 4), g8 ww (4*i - 3), g8 ww (4*i - 2), g8 ww (4*i - 1)]) 3)), (56, U8 (g8 subsL ((g8 ([g8 ww (4*i - 4), g8 ww (4*i - 3), g8 ww (4*i - 2), g8 ww (4*i - 1)]) 3).toNat))), (57, Slc nb4 0 4 4), (58, Ptr nb4 0), (59, U8 (g8 ([g8 ww (4*i - 4), g8 ww (4*i - 3), g8 ww (4*i - 2), g8 ww (4*i - 1)]) 0)), (60, U8 (g8 subsL ((g8 ([g8 ww (4*i - 4), g8 ww (4*i - 3), g8 ww (4*i - 2), g8 ww (4*i - 1)]) 0).toNat))), (61, Slc nb5 0 4 4), (62, U8 f), (63, U8 (rdbl f)), (3, Slc g1 0 (4*i + j) cp1), (7, I64 ((j:Int)))]) (fun ⟨j, u, g1, sp1, cp1⟩ => [⟨nb5, cu8 ([(g8 subsL ((g8 ([g8 ww (4*i - 4), g8 ww (4*i - 3), g8 ww (4*i - 2), g8 ww (4*i - 1)]) 1).toNat)) ^^^ f, g8 subsL ((g8 ([g8 ww (4*i - 4), g8 ww (4*i - 3), g8 ww (4*i - 2), g8 ww (4*i - 1)]) 2).toNat), g8 subsL ((g8 ([g8 ww (4*i - 4), g8 ww (4*i - 3), g8 ww (4*i - 2), g8 ww (4*i - 1)]) 3).toNat), g8 subsL ((g8 ([g8 ww (4*i - 4), g8 ww (4*i - 3), g8 ww (4*i - 2), g8 ww (4*i - 1)]) 0).toNat)]), 5, (0, 0)⟩, ⟨g1, cu8 u ++ sp1, 5, (0, 0)⟩]) (fun ⟨j, u, g1, sp1, cp1⟩ => j ≤ 4 ∧ u = rIn ww i ([(g8 subsL ((g8 ([g8 ww (4*i - 4), g8 ww (4*i - 3), g8 ww (4*i - 2), g8 ww (4*i - 1)]) 1).toNat)) ^^^ f, g8 subsL ((g8 ([g8 ww (4*i - 4), g8 ww (4*i - 3), g8 ww (4*i - 2), g8 ww (4*i - 1)]) 2).toNat), g8 subsL ((g8 ([g8 ww (4*i - 4), g8 ww (4*i - 3), g8 ww (4*i - 2), g8 ww (4*i - 1)]) 3).toNat), g8 subsL ((g8 ([g8 ww (4*i - 4), g8 ww (4*i - 3), g8 ww (4*i - 2), g8 ww (4*i - 1)]) 0).toNat)]) j ∧ u.length = 4*i + j ∧ sp1.length = cp1 - (4*i + j) ∧ 4*i + j ≤ cp1 ∧ cp1 ≤ maxLen) (fun ⟨j, u, g1, sp1, cp1⟩ => 4 - j) (0, ww, g0, sp0, cp0) ⟨by omega, rfl, by omega, by omega, by omega, hx7⟩ (Sub.cons rfl (Sub.cons rfl (Sub.cons rfl (Sub.cons rfl (Sub.cons rfl (Sub.cons rfl (Sub.cons rfl (Sub.cons rfl (Sub.cons rfl (Sub.cons rfl (Sub.cons rfl (Sub.cons rfl (Sub.cons rfl (Sub.cons rfl (Sub.cons rfl (Sub.cons rfl (Sub.cons rfl (Sub.cons rfl (Sub.cons rfl (Sub.cons rfl (Sub.cons rfl (Sub.cons rfl (Sub.cons rfl (Sub.cons rfl (Sub.cons rfl (Sub.cons rfl (Sub.cons rfl (Sub.cons rfl (Sub.cons rfl (Sub.cons rfl (Sub.cons rfl (Sub.cons rfl (Sub.cons rfl (Sub.cons rfl (Sub.cons rfl (Sub.cons rfl (Sub.cons rfl (Sub.cons rfl (Sub.cons rfl (Sub.cons rfl (Sub.cons rfl (Sub.cons rfl (Sub.cons rfl (Sub.cons rfl (Sub.cons rfl (Sub.cons rfl (Sub.cons rfl (Sub.cons rfl (Sub.cons rfl (Sub.cons rfl (Sub.cons rfl (Sub.cons rfl (Sub.cons rfl (Sub.cons rfl (Sub.cons rfl (Sub.cons rfl (Sub.cons rfl (Sub.nil)))))))))))))))))))))))))))))))))))))))))))))))))))))))))) rfl ?_
      rintro ⟨j, u, g1, sp1, cp1⟩ ⟨hy1, hy2, hy3, hy4, hy5, hy6⟩
      show JC _ _ _ [(2, .slice none 0 0), (4, U8 (rdbl f)), (5, I64 ((i:Int))), (6, Slc nb5 0 4 4), (11, I64 ((i:Int))), (12, .bool (decide (((i:Int)) < (44:Int)))), (15, Slc g0 0 (4*i) cp0), (16, I64 ((i:Int))), (17, I64 (4*(i:Int))), (18, I64 (4*(i:Int) - 4)), (19, Ptr g0 (4*i - 4)), (20, U8 (g8 ww (4*i - 4))), (21, Slc g0 0 (4*i) cp0), (22, I64 ((i:Int))), (23, I64 (4*(i:Int))), (24, I64 (4*(i:Int) - 3)), (25, Ptr g0 (4*i - 3)), (26, U8 (g8 ww (4*i - 3))), (27, Slc g0 0 (4*i) cp0), (28, I64 ((i:Int))), (29, I64 (4*(i:Int))), (30, I64 (4*(i:Int) - 2)), (31, Ptr g0 (4*i - 2)), (32, U8 (g8 ww (4*i - 2))), (33, Slc g0 0 (4*i) cp0), (34, I64 ((i:Int))), (35, I64 (4*(i:Int))), (36, I64 (4*(i:Int) - 1)), (37, Ptr g0 (4*i - 1)), (38, U8 (g8 ww (4*i - 1))), (39, Slc nb4 0 4 4), (40, I64 ((i:Int))), (41, I64 ((i % 4:Int))), (42, .bool (decide (((i % 4:Int)) = (0:Int)))), (43, Slc nb4 0 4 4), (44, Ptr nb4 1), (45, U8 (g8 ([g8 ww (4*i - 4), g8 ww (4*i - 3), g8 ww (4*i - 2), g8 ww (4*i - 1)]) 1)), (46, U8 (g8 subsL ((g8 ([g8 ww (4*i - 4), g8 ww (4*i - 3), g8 ww (4*i - 2), g8 ww (4*i - 1)]) 1).toNat))), (47, U8 f), (48, U8 ((g8 subsL ((g8 ([g8 ww (4*i - 4), g8 ww (4*i - 3), g8 ww (4*i - 2), g8 ww (4*i - 1)]) 1).toNat)) ^^^ f)), (49, Slc nb4 0 4 4), (50, Ptr nb4 2), (51, U8 (g8 ([g8 ww (4*i - 4), g8 ww (4*i - 3), g8 ww (4*i - 2), g8 ww (4*i - 1)]) 2)), (52, U8 (g8 subsL ((g8 ([g8 ww (4*i - 4), g8 ww (4*i - 3), g8 ww (4*i - 2), g8 ww (4*i - 1)]) 2).toNat))), (53, Slc nb4 0 4 4), (54, Ptr nb4 3), (55, U8 (g8 ([g8 ww (4*i - 4), g8 ww (4*i - 3), g8 ww (4*i - 2), g8 ww (4*i - 1)]) 3)), (56, U8 (g8 subsL ((g8 ([g8 ww (4*i - 4), g8 ww (4*i - 3), g8 ww (4*i - 2), g8 ww (4*i - 1)]) 3).toNat))), (57, Slc nb4 0 4 4), (58, Ptr nb4 0), (59, U8 (g8 ([g8 ww (4*i - 4), g8 ww (4*i - 3), g8 ww (4*i - 2), g8 ww (4*i - 1)]) 0)), (60, U8 (g8 subsL ((g8 ([g8 ww (4*i - 4), g8 ww (4*i - 3), g8 ww (4*i - 2), g8 ww (4*i - 1)]) 0).toNat))), (61, Slc nb5 0 4 4), (62, U8 f), (63, U8 (rdbl f)), (3, Slc g1 0 (4*i + j) cp1), (7, I64 ((j:Int)))] [⟨nb5, cu8 ([(g8 subsL ((g8 ([g8 ww (4*i - 4), g8 ww (4*i - 3), g8 ww (4*i - 2), g8 ww (4*i - 1)]) 1).toNat)) ^^^ f, g8 subsL ((g8 ([g8 ww (4*i - 4), g8 ww (4*i - 3), g8 ww (4*i - 2), g8 ww (4*i - 1)]) 2).toNat), g8 subsL ((g8 ([g8 ww (4*i - 4), g8 ww (4*i - 3), g8 ww (4*i - 2), g8 ww (4*i - 1)]) 3).toNat), g8 subsL ((g8 ([g8 ww (4*i - 4), g8 ww (4*i - 3), g8 ww (4*i - 2), g8 ww (4*i - 1)]) 0).toNat)]), 5, (0, 0)⟩, ⟨g1, cu8 u ++ sp1, 5, (0, 0)⟩]
      refine JC_seq ?_
      refine JC_seq ?_
      refine JC_region ?_
      refine JL_val _ (Ev_move rfl) rfl ?_
      refine JL_val (.bool (decide (((j:Int)) < (4:Int)))) (Ev_bini rfl rfl fun _ => bin_lss_i _ _) rfl ?_
      refine JL_nil ?_
      refine JQ_then ?_
      refine JC_cond (decide (((j:Int)) < (4:Int))) rfl (fun hb3 => ?_) (fun hb3 => ?_)
      ·
        have hp3 : ((j:Int)) < (4:Int) := of_decide_eq_true hb3
        refine JC_skip ?_
        refine JQ_then ?_
        refine JC_seq ?_
        refine JC_block ?_
        refine JC_draw 85 3 [(0, Slc g1 0 (4*i + j) cp1), (1, Slc g1 0 (4*i + j) cp1), (2, I64 ((i:Int))), (3, I64 (4*(i:Int))), (4, I64 (4*(i:Int) - 16)), (5, I64 ((j:Int))), (6, I64 (4*(i:Int) + (j:Int) - 16)), (7, Ptr g1 (4*i + j - 16)), (8, U8 (g8 u (4*i + j - 16))), (9, Slc nb5 0 4 4), (10, I64 ((j:Int))), (11, Ptr nb5 j), (12, U8 (g8 ([(g8 subsL ((g8 ([g8 ww (4*i - 4), g8 ww (4*i - 3), g8 ww (4*i - 2), g8 ww (4*i - 1)]) 1).toNat)) ^^^ f, g8 subsL ((g8 ([g8 ww (4*i - 4), g8 ww (4*i - 3), g8 ww (4*i - 2), g8 ww (4*i - 1)]) 2).toNat), g8 subsL ((g8 ([g8 ww (4*i - 4), g8 ww (4*i - 3), g8 ww (4*i - 2), g8 ww (4*i - 1)]) 3).toNat), g8 subsL ((g8 ([g8 ww (4*i - 4), g8 ww (4*i - 3), g8 ww (4*i - 2), g8 ww (4*i - 1)]) 0).toNat)]) j)), (13, U8 ((g8 u (4*i + j - 16)) ^^^ (g8 ([(g8 subsL ((g8 ([g8 ww (4*i - 4), g8 ww (4*i - 3), g8 ww (4*i - 2), g8 ww (4*i - 1)]) 1).toNat)) ^^^ f, g8 subsL ((g8 ([g8 ww (4*i - 4), g8 ww (4*i - 3), g8 ww (4*i - 2), g8 ww (4*i - 1)]) 2).toNat), g8 subsL ((g8 ([g8 ww (4*i - 4), g8 ww (4*i - 3), g8 ww (4*i - 2), g8 ww (4*i - 1)]) 3).toNat), g8 subsL ((g8 ([g8 ww (4*i - 4), g8 ww (4*i - 3), g8 ww (4*i - 2), g8 ww (4*i - 1)]) 0).toNat)]) j)))] Try.mixed rfl (by decide +kernel) ?_
        refine DP_one ⟨[], [0, 1, 2, 3, 4, 5, 6, 7, 8, 9, 10, 11, 12, 13], [], [0, 1, 2, 3, 4, 5, 6, 7, 8, 9, 10, 11, 12, 13], [14]⟩ 14 _ rfl rfl (by decide +kernel) rfl ⟨⟨_, rfl, Qok_val rfl (Ev_move rfl)⟩, ⟨_, rfl, Qok_val rfl (Ev_move rfl)⟩, ⟨_, rfl, Qok_val rfl (Ev_move rfl)⟩, ⟨_, rfl, Qok_val rfl (Ev_bini rfl rfl fun _ => bin_mul_i _ _ (4*(i:Int)) (by omega) (by omega))⟩, ⟨_, rfl, Qok_val rfl (Ev_bini rfl rfl fun _ => bin_sub_i _ _ (4*(i:Int) - 16) (by omega) (by omega))⟩, ⟨_, rfl, Qok_val rfl (Ev_move rfl)⟩, ⟨_, rfl, Qok_val rfl (Ev_bini rfl rfl fun _ => bin_add_i _ _ (4*(i:Int) + (j:Int) - 16) (by omega) (by omega))⟩, ⟨_, rfl, Qok_val rfl (Ev_indexSl 5 1 (4*i + j - 16) Try.underlying38 Try.sizeOf5 rfl rfl (by omega) (by omega) (by omega))⟩, ⟨_, rfl, Qok_val rfl (Ev_load rfl (Ld_one Try.isAgg5 (MemAt.ent 1 rfl (Seg.left (Seg.get (g8_get (i := (4*i + j - 16)) (by rw [hy3]; omega)))))))⟩, ⟨_, rfl, Qok_val rfl (Ev_move rfl)⟩, ⟨_, rfl, Qok_val rfl (Ev_move rfl)⟩, ⟨_, rfl, Qok_val rfl (Ev_indexSl 5 1 j Try.underlying38 Try.sizeOf5 rfl rfl (by omega) (by omega) (by omega))⟩, ⟨_, rfl, Qok_val rfl (Ev_load rfl (Ld_one Try.isAgg5 (MemAt.ent 0 rfl (Seg.get (g8_get (i := j) (by simp <;> omega))))))⟩, ⟨_, rfl, Qok_val rfl (Ev_bini rfl rfl fun _ => bin_xor_u8 (g8 u (4*i + j - 16)) (g8 ([(g8 subsL ((g8 ([g8 ww (4*i - 4), g8 ww (4*i - 3), g8 ww (4*i - 2), g8 ww (4*i - 1)]) 1).toNat)) ^^^ f, g8 subsL ((g8 ([g8 ww (4*i - 4), g8 ww (4*i - 3), g8 ww (4*i - 2), g8 ww (4*i - 1)]) 2).toNat), g8 subsL ((g8 ([g8 ww (4*i - 4), g8 ww (4*i - 3), g8 ww (4*i - 2), g8 ww (4*i - 1)]) 3).toNat), g8 subsL ((g8 ([g8 ww (4*i - 4), g8 ww (4*i - 3), g8 ww (4*i - 2), g8 ww (4*i - 1)]) 0).toNat)]) j))⟩, trivial⟩ rfl (Cok_step rfl (Step_buildSlice 5 1 _ [(0, U8 ((g8 u (4*i + j - 16)) ^^^ (g8 ([(g8 subsL ((g8 ([g8 ww (4*i - 4), g8 ww (4*i - 3), g8 ww (4*i - 2), g8 ww (4*i - 1)]) 1).toNat)) ^^^ f, g8 subsL ((g8 ([g8 ww (4*i - 4), g8 ww (4*i - 3), g8 ww (4*i - 2), g8 ww (4*i - 1)]) 2).toNat), g8 subsL ((g8 ([g8 ww (4*i - 4), g8 ww (4*i - 3), g8 ww (4*i - 2), g8 ww (4*i - 1)]) 3).toNat), g8 subsL ((g8 ([g8 ww (4*i - 4), g8 ww (4*i - 3), g8 ww (4*i - 2), g8 ww (4*i - 1)]) 0).toNat)]) j)))] (cu8 ([(g8 u (4*i + j - 16)) ^^^ (g8 ([(g8 subsL ((g8 ([g8 ww (4*i - 4), g8 ww (4*i - 3), g8 ww (4*i - 2), g8 ww (4*i - 1)]) 1).toNat)) ^^^ f, g8 subsL ((g8 ([g8 ww (4*i - 4), g8 ww (4*i - 3), g8 ww (4*i - 2), g8 ww (4*i - 1)]) 2).toNat), g8 subsL ((g8 ([g8 ww (4*i - 4), g8 ww (4*i - 3), g8 ww (4*i - 2), g8 ww (4*i - 1)]) 3).toNat), g8 subsL ((g8 ([g8 ww (4*i - 4), g8 ww (4*i - 3), g8 ww (4*i - 2), g8 ww (4*i - 1)]) 0).toNat)]) j)])) Try.underlying38 Try.sizeOf5 Try.zeroValue5 rfl rfl rfl (by kernel_rfl))) ?_
        rintro v1 L1 ⟨nb6, hnb6, rfl, rfl⟩
        refine ⟨[], ?_⟩
        show DP _ _ _ _ _ _ _ _ [⟨nb5, cu8 ([(g8 subsL ((g8 ([g8 ww (4*i - 4), g8 ww (4*i - 3), g8 ww (4*i - 2), g8 ww (4*i - 1)]) 1).toNat)) ^^^ f, g8 subsL ((g8 ([g8 ww (4*i - 4), g8 ww (4*i - 3), g8 ww (4*i - 2), g8 ww (4*i - 1)]) 2).toNat), g8 subsL ((g8 ([g8 ww (4*i - 4), g8 ww (4*i - 3), g8 ww (4*i - 2), g8 ww (4*i - 1)]) 3).toNat), g8 subsL ((g8 ([g8 ww (4*i - 4), g8 ww (4*i - 3), g8 ww (4*i - 2), g8 ww (4*i - 1)]) 0).toNat)]), 5, (0, 0)⟩, ⟨g1, cu8 u ++ sp1, 5, (0, 0)⟩, ⟨nb6, cu8 ([(g8 u (4*i + j - 16)) ^^^ (g8 ([(g8 subsL ((g8 ([g8 ww (4*i - 4), g8 ww (4*i - 3), g8 ww (4*i - 2), g8 ww (4*i - 1)]) 1).toNat)) ^^^ f, g8 subsL ((g8 ([g8 ww (4*i - 4), g8 ww (4*i - 3), g8 ww (4*i - 2), g8 ww (4*i - 1)]) 2).toNat), g8 subsL ((g8 ([g8 ww (4*i - 4), g8 ww (4*i - 3), g8 ww (4*i - 2), g8 ww (4*i - 1)]) 3).toNat), g8 subsL ((g8 ([g8 ww (4*i - 4), g8 ww (4*i - 3), g8 ww (4*i - 2), g8 ww (4*i - 1)]) 0).toNat)]) j)]), 5, (0, 0)⟩]
        refine DP_one ⟨[14], [0, 1, 2, 3, 4, 5, 6, 7, 8, 9, 10, 11, 12, 13], [1, 2, 3, 4, 5, 6, 7, 8, 9, 10, 11, 12, 13], [0], [15]⟩ 15 _ rfl rfl (by decide +kernel) rfl ⟨⟨_, rfl, Qok_val rfl (Ev_move rfl)⟩, trivial⟩ rfl (Cok_step rfl (Step_append8 38 5 [false, true, false] (Slc g1 0 (4*i + j) cp1) (4*i + j) u ([(g8 u (4*i + j - 16)) ^^^ (g8 ([(g8 subsL ((g8 ([g8 ww (4*i - 4), g8 ww (4*i - 3), g8 ww (4*i - 2), g8 ww (4*i - 1)]) 1).toNat)) ^^^ f, g8 subsL ((g8 ([g8 ww (4*i - 4), g8 ww (4*i - 3), g8 ww (4*i - 2), g8 ww (4*i - 1)]) 2).toNat), g8 subsL ((g8 ([g8 ww (4*i - 4), g8 ww (4*i - 3), g8 ww (4*i - 2), g8 ww (4*i - 1)]) 3).toNat), g8 subsL ((g8 ([g8 ww (4*i - 4), g8 ww (4*i - 3), g8 ww (4*i - 2), g8 ww (4*i - 1)]) 0).toNat)]) j)]) (some ⟨nb6, 0, none⟩) 1 1 Try.underlying38 Try.info5 rfl (.inr ⟨g1, sp1, cp1, rfl, rfl, (by simp [hy3]), hy4, (by omega), (by omega)⟩) rfl (by simp) (SrcAt.mem (MemAt.ent 2 rfl (Seg.whole _))) (by omega) (by unfold maxLen; omega))) ?_
        rintro v1 L1 ⟨nb7, sp2, cp2, hg2, rfl, rfl, ha5, ha6, ha7, ha8⟩
        refine ⟨[(16, Slc nb7 0 (4*i + j + 1) cp2)], ?_⟩
        show DP _ _ _ _ _ _ _ _ [⟨nb5, cu8 ([(g8 subsL ((g8 ([g8 ww (4*i - 4), g8 ww (4*i - 3), g8 ww (4*i - 2), g8 ww (4*i - 1)]) 1).toNat)) ^^^ f, g8 subsL ((g8 ([g8 ww (4*i - 4), g8 ww (4*i - 3), g8 ww (4*i - 2), g8 ww (4*i - 1)]) 2).toNat), g8 subsL ((g8 ([g8 ww (4*i - 4), g8 ww (4*i - 3), g8 ww (4*i - 2), g8 ww (4*i - 1)]) 3).toNat), g8 subsL ((g8 ([g8 ww (4*i - 4), g8 ww (4*i - 3), g8 ww (4*i - 2), g8 ww (4*i - 1)]) 0).toNat)]), 5, (0, 0)⟩, ⟨nb6, cu8 ([(g8 u (4*i + j - 16)) ^^^ (g8 ([(g8 subsL ((g8 ([g8 ww (4*i - 4), g8 ww (4*i - 3), g8 ww (4*i - 2), g8 ww (4*i - 1)]) 1).toNat)) ^^^ f, g8 subsL ((g8 ([g8 ww (4*i - 4), g8 ww (4*i - 3), g8 ww (4*i - 2), g8 ww (4*i - 1)]) 2).toNat), g8 subsL ((g8 ([g8 ww (4*i - 4), g8 ww (4*i - 3), g8 ww (4*i - 2), g8 ww (4*i - 1)]) 3).toNat), g8 subsL ((g8 ([g8 ww (4*i - 4), g8 ww (4*i - 3), g8 ww (4*i - 2), g8 ww (4*i - 1)]) 0).toNat)]) j)]), 5, (0, 0)⟩, ⟨nb7, cu8 (u ++ ([(g8 u (4*i + j - 16)) ^^^ (g8 ([(g8 subsL ((g8 ([g8 ww (4*i - 4), g8 ww (4*i - 3), g8 ww (4*i - 2), g8 ww (4*i - 1)]) 1).toNat)) ^^^ f, g8 subsL ((g8 ([g8 ww (4*i - 4), g8 ww (4*i - 3), g8 ww (4*i - 2), g8 ww (4*i - 1)]) 2).toNat), g8 subsL ((g8 ([g8 ww (4*i - 4), g8 ww (4*i - 3), g8 ww (4*i - 2), g8 ww (4*i - 1)]) 3).toNat), g8 subsL ((g8 ([g8 ww (4*i - 4), g8 ww (4*i - 3), g8 ww (4*i - 2), g8 ww (4*i - 1)]) 0).toNat)]) j)])) ++ sp2, 5, (0, 0)⟩]
        refine DP_end ⟨[14, 15], [0, 1, 2, 3, 4, 5, 6, 7, 8, 9, 10, 11, 12, 13, 16], [0, 1, 2, 3, 4, 5, 6, 7, 8, 9, 10, 11, 12, 13], [16], []⟩ rfl rfl (by decide +kernel) rfl ⟨⟨_, rfl, Qok_val rfl (Ev_assign rfl)⟩, trivial⟩ ?_
        refine K_sub (F' := [(68, Slc g1 0 (4*i + j) cp1), (69, Slc g1 0 (4*i + j) cp1), (70, I64 ((i:Int))), (71, I64 (4*(i:Int))), (72, I64 (4*(i:Int) - 16)), (73, I64 ((j:Int))), (74, I64 (4*(i:Int) + (j:Int) - 16)), (75, Ptr g1 (4*i + j - 16)), (76, U8 (g8 u (4*i + j - 16))), (77, Slc nb5 0 4 4), (78, I64 ((j:Int))), (79, Ptr nb5 j), (80, U8 (g8 ([(g8 subsL ((g8 ([g8 ww (4*i - 4), g8 ww (4*i - 3), g8 ww (4*i - 2), g8 ww (4*i - 1)]) 1).toNat)) ^^^ f, g8 subsL ((g8 ([g8 ww (4*i - 4), g8 ww (4*i - 3), g8 ww (4*i - 2), g8 ww (4*i - 1)]) 2).toNat), g8 subsL ((g8 ([g8 ww (4*i - 4), g8 ww (4*i - 3), g8 ww (4*i - 2), g8 ww (4*i - 1)]) 3).toNat), g8 subsL ((g8 ([g8 ww (4*i - 4), g8 ww (4*i - 3), g8 ww (4*i - 2), g8 ww (4*i - 1)]) 0).toNat)]) j)), (81, U8 ((g8 u (4*i + j - 16)) ^^^ (g8 ([(g8 subsL ((g8 ([g8 ww (4*i - 4), g8 ww (4*i - 3), g8 ww (4*i - 2), g8 ww (4*i - 1)]) 1).toNat)) ^^^ f, g8 subsL ((g8 ([g8 ww (4*i - 4), g8 ww (4*i - 3), g8 ww (4*i - 2), g8 ww (4*i - 1)]) 2).toNat), g8 subsL ((g8 ([g8 ww (4*i - 4), g8 ww (4*i - 3), g8 ww (4*i - 2), g8 ww (4*i - 1)]) 3).toNat), g8 subsL ((g8 ([g8 ww (4*i - 4), g8 ww (4*i - 3), g8 ww (4*i - 2), g8 ww (4*i - 1)]) 0).toNat)]) j))), (82, Slc nb6 0 1 1), (83, Slc nb7 0 (4*i + j + 1) cp2), (3, Slc nb7 0 (4*i + j + 1) cp2), (2, .slice none 0 0), (4, U8 (rdbl f)), (5, I64 ((i:Int))), (6, Slc nb5 0 4 4), (11, I64 ((i:Int))), (12, .bool (decide (((i:Int)) < (44:Int)))), (15, Slc g0 0 (4*i) cp0), (16, I64 ((i:Int))), (17, I64 (4*(i:Int))), (18, I64 (4*(i:Int) - 4)), (19, Ptr g0 (4*i - 4)), (20, U8 (g8 ww (4*i - 4))), (21, Slc g0 0 (4*i) cp0), (22, I64 ((i:Int))), (23, I64 (4*(i:Int))), (24, I64 (4*(i:Int) - 3)), (25, Ptr g0 (4*i - 3)), (26, U8 (g8 ww (4*i - 3))), (27, Slc g0 0 (4*i) cp0), (28, I64 ((i:Int))), (29, I64 (4*(i:Int))), (30, I64 (4*(i:Int) - 2)), (31, Ptr g0 (4*i - 2)), (32, U8 (g8 ww (4*i - 2))), (33, Slc g0 0 (4*i) cp0), (34, I64 ((i:Int))), (35, I64 (4*(i:Int))), (36, I64 (4*(i:Int) - 1)), (37, Ptr g0 (4*i - 1)), (38, U8 (g8 ww (4*i - 1))), (39, Slc nb4 0 4 4), (40, I64 ((i:Int))), (41, I64 ((i % 4:Int))), (42, .bool (decide (((i % 4:Int)) = (0:Int)))), (43, Slc nb4 0 4 4), (44, Ptr nb4 1), (45, U8 (g8 ([g8 ww (4*i - 4), g8 ww (4*i - 3), g8 ww (4*i - 2), g8 ww (4*i - 1)]) 1)), (46, U8 (g8 subsL ((g8 ([g8 ww (4*i - 4), g8 ww (4*i - 3), g8 ww (4*i - 2), g8 ww (4*i - 1)]) 1).toNat))), (47, U8 f), (48, U8 ((g8 subsL ((g8 ([g8 ww (4*i - 4), g8 ww (4*i - 3), g8 ww (4*i - 2), g8 ww (4*i - 1)]) 1).toNat)) ^^^ f)), (49, Slc nb4 0 4 4), (50, Ptr nb4 2), (51, U8 (g8 ([g8 ww (4*i - 4), g8 ww (4*i - 3), g8 ww (4*i - 2), g8 ww (4*i - 1)]) 2)), (52, U8 (g8 subsL ((g8 ([g8 ww (4*i - 4), g8 ww (4*i - 3), g8 ww (4*i - 2), g8 ww (4*i - 1)]) 2).toNat))), (53, Slc nb4 0 4 4), (54, Ptr nb4 3), (55, U8 (g8 ([g8 ww (4*i - 4), g8 ww (4*i - 3), g8 ww (4*i - 2), g8 ww (4*i - 1)]) 3)), (56, U8 (g8 subsL ((g8 ([g8 ww (4*i - 4), g8 ww (4*i - 3), g8 ww (4*i - 2), g8 ww (4*i - 1)]) 3).toNat))), (57, Slc nb4 0 4 4), (58, Ptr nb4 0), (59, U8 (g8 ([g8 ww (4*i - 4), g8 ww (4*i - 3), g8 ww (4*i - 2), g8 ww (4*i - 1)]) 0)), (60, U8 (g8 subsL ((g8 ([g8 ww (4*i - 4), g8 ww (4*i - 3), g8 ww (4*i - 2), g8 ww (4*i - 1)]) 0).toNat))), (61, Slc nb5 0 4 4), (62, U8 f), (63, U8 (rdbl f)), (7, I64 ((j:Int))), (64, I64 ((j:Int))), (65, .bool (decide (((j:Int)) < (4:Int))))]) (Sub.cons (by kernel_rfl) (Sub.cons (by kernel_rfl) (Sub.cons (by kernel_rfl) (Sub.cons (by kernel_rfl) (Sub.cons (by kernel_rfl) (Sub.cons (by kernel_rfl) (Sub.cons (by kernel_rfl) (Sub.cons (by kernel_rfl) (Sub.cons (by kernel_rfl) (Sub.cons (by kernel_rfl) (Sub.cons (by kernel_rfl) (Sub.cons (by kernel_rfl) (Sub.cons (by kernel_rfl) (Sub.cons (by kernel_rfl) (Sub.cons (by kernel_rfl) (Sub.cons (by kernel_rfl) (Sub.cons (by kernel_rfl) (Sub.cons (by kernel_rfl) (Sub.cons (by kernel_rfl) (Sub.cons (by kernel_rfl) (Sub.cons (by kernel_rfl) (Sub.cons (by kernel_rfl) (Sub.cons (by kernel_rfl) (Sub.cons (by kernel_rfl) (Sub.cons (by kernel_rfl) (Sub.cons (by kernel_rfl) (Sub.cons (by kernel_rfl) (Sub.cons (by kernel_rfl) (Sub.cons (by kernel_rfl) (Sub.cons (by kernel_rfl) (Sub.cons (by kernel_rfl) (Sub.cons (by kernel_rfl) (Sub.cons (by kernel_rfl) (Sub.cons (by kernel_rfl) (Sub.cons (by kernel_rfl) (Sub.cons (by kernel_rfl) (Sub.cons (by kernel_rfl) (Sub.cons (by kernel_rfl) (Sub.cons (by kernel_rfl) (Sub.cons (by kernel_rfl) (Sub.cons (by kernel_rfl) (Sub.cons (by kernel_rfl) (Sub.cons (by kernel_rfl) (Sub.cons (by kernel_rfl) (Sub.cons (by kernel_rfl) (Sub.cons (by kernel_rfl) (Sub.cons (by kernel_rfl) (Sub.cons (by kernel_rfl) (Sub.cons (by kernel_rfl) (Sub.cons (by kernel_rfl) (Sub.cons (by kernel_rfl) (Sub.cons (by kernel_rfl) (Sub.cons (by kernel_rfl) (Sub.cons (by kernel_rfl) (Sub.cons (by kernel_rfl) (Sub.cons (by kernel_rfl) (Sub.cons (by kernel_rfl) (Sub.cons (by kernel_rfl) (Sub.cons (by kernel_rfl) (Sub.cons (by kernel_rfl) (Sub.cons (by kernel_rfl) (Sub.cons (by kernel_rfl) (Sub.cons (by kernel_rfl) (Sub.cons (by kernel_rfl) (Sub.cons (by kernel_rfl) (Sub.cons (by kernel_rfl) (Sub.cons (by kernel_rfl) (Sub.cons (by kernel_rfl) (Sub.cons (by kernel_rfl) (Sub.cons (by kernel_rfl) (Sub.cons (by kernel_rfl) (Sub.cons (by kernel_rfl) (Sub.cons (by kernel_rfl) (Sub.cons (by kernel_rfl) (Sub.cons (by kernel_rfl) (Sub.nil)))))))))))))))))))))))))))))))))))))))))))))))))))))))))))))))))))))))))))) ?_
        show JQ _ _ _ [(68, Slc g1 0 (4*i + j) cp1), (69, Slc g1 0 (4*i + j) cp1), (70, I64 ((i:Int))), (71, I64 (4*(i:Int))), (72, I64 (4*(i:Int) - 16)), (73, I64 ((j:Int))), (74, I64 (4*(i:Int) + (j:Int) - 16)), (75, Ptr g1 (4*i + j - 16)), (76, U8 (g8 u (4*i + j - 16))), (77, Slc nb5 0 4 4), (78, I64 ((j:Int))), (79, Ptr nb5 j), (80, U8 (g8 ([(g8 subsL ((g8 ([g8 ww (4*i - 4), g8 ww (4*i - 3), g8 ww (4*i - 2), g8 ww (4*i - 1)]) 1).toNat)) ^^^ f, g8 subsL ((g8 ([g8 ww (4*i - 4), g8 ww (4*i - 3), g8 ww (4*i - 2), g8 ww (4*i - 1)]) 2).toNat), g8 subsL ((g8 ([g8 ww (4*i - 4), g8 ww (4*i - 3), g8 ww (4*i - 2), g8 ww (4*i - 1)]) 3).toNat), g8 subsL ((g8 ([g8 ww (4*i - 4), g8 ww (4*i - 3), g8 ww (4*i - 2), g8 ww (4*i - 1)]) 0).toNat)]) j)), (81, U8 ((g8 u (4*i + j - 16)) ^^^ (g8 ([(g8 subsL ((g8 ([g8 ww (4*i - 4), g8 ww (4*i - 3), g8 ww (4*i - 2), g8 ww (4*i - 1)]) 1).toNat)) ^^^ f, g8 subsL ((g8 ([g8 ww (4*i - 4), g8 ww (4*i - 3), g8 ww (4*i - 2), g8 ww (4*i - 1)]) 2).toNat), g8 subsL ((g8 ([g8 ww (4*i - 4), g8 ww (4*i - 3), g8 ww (4*i - 2), g8 ww (4*i - 1)]) 3).toNat), g8 subsL ((g8 ([g8 ww (4*i - 4), g8 ww (4*i - 3), g8 ww (4*i - 2), g8 ww (4*i - 1)]) 0).toNat)]) j))), (82, Slc nb6 0 1 1), (83, Slc nb7 0 (4*i + j + 1) cp2), (3, Slc nb7 0 (4*i + j + 1) cp2), (2, .slice none 0 0), (4, U8 (rdbl f)), (5, I64 ((i:Int))), (6, Slc nb5 0 4 4), (11, I64 ((i:Int))), (12, .bool (decide (((i:Int)) < (44:Int)))), (15, Slc g0 0 (4*i) cp0), (16, I64 ((i:Int))), (17, I64 (4*(i:Int))), (18, I64 (4*(i:Int) - 4)), (19, Ptr g0 (4*i - 4)), (20, U8 (g8 ww (4*i - 4))), (21, Slc g0 0 (4*i) cp0), (22, I64 ((i:Int))), (23, I64 (4*(i:Int))), (24, I64 (4*(i:Int) - 3)), (25, Ptr g0 (4*i - 3)), (26, U8 (g8 ww (4*i - 3))), (27, Slc g0 0 (4*i) cp0), (28, I64 ((i:Int))), (29, I64 (4*(i:Int))), (30, I64 (4*(i:Int) - 2)), (31, Ptr g0 (4*i - 2)), (32, U8 (g8 ww (4*i - 2))), (33, Slc g0 0 (4*i) cp0), (34, I64 ((i:Int))), (35, I64 (4*(i:Int))), (36, I64 (4*(i:Int) - 1)), (37, Ptr g0 (4*i - 1)), (38, U8 (g8 ww (4*i - 1))), (39, Slc nb4 0 4 4), (40, I64 ((i:Int))), (41, I64 ((i % 4:Int))), (42, .bool (decide (((i % 4:Int)) = (0:Int)))), (43, Slc nb4 0 4 4), (44, Ptr nb4 1), (45, U8 (g8 ([g8 ww (4*i - 4), g8 ww (4*i - 3), g8 ww (4*i - 2), g8 ww (4*i - 1)]) 1)), (46, U8 (g8 subsL ((g8 ([g8 ww (4*i - 4), g8 ww (4*i - 3), g8 ww (4*i - 2), g8 ww (4*i - 1)]) 1).toNat))), (47, U8 f), (48, U8 ((g8 subsL ((g8 ([g8 ww (4*i - 4), g8 ww (4*i - 3), g8 ww (4*i - 2), g8 ww (4*i - 1)]) 1).toNat)) ^^^ f)), (49, Slc nb4 0 4 4), (50, Ptr nb4 2), (51, U8 (g8 ([g8 ww (4*i - 4), g8 ww (4*i - 3), g8 ww (4*i - 2), g8 ww (4*i - 1)]) 2)), (52, U8 (g8 subsL ((g8 ([g8 ww (4*i - 4), g8 ww (4*i - 3), g8 ww (4*i - 2), g8 ww (4*i - 1)]) 2).toNat))), (53, Slc nb4 0 4 4), (54, Ptr nb4 3), (55, U8 (g8 ([g8 ww (4*i - 4), g8 ww (4*i - 3), g8 ww (4*i - 2), g8 ww (4*i - 1)]) 3)), (56, U8 (g8 subsL ((g8 ([g8 ww (4*i - 4), g8 ww (4*i - 3), g8 ww (4*i - 2), g8 ww (4*i - 1)]) 3).toNat))), (57, Slc nb4 0 4 4), (58, Ptr nb4 0), (59, U8 (g8 ([g8 ww (4*i - 4), g8 ww (4*i - 3), g8 ww (4*i - 2), g8 ww (4*i - 1)]) 0)), (60, U8 (g8 subsL ((g8 ([g8 ww (4*i - 4), g8 ww (4*i - 3), g8 ww (4*i - 2), g8 ww (4*i - 1)]) 0).toNat))), (61, Slc nb5 0 4 4), (62, U8 f), (63, U8 (rdbl f)), (7, I64 ((j:Int))), (64, I64 ((j:Int))), (65, .bool (decide (((j:Int)) < (4:Int))))] _
        refine JQ_in_normal ?_
        refine JQ_then ?_
        refine JC_region ?_
        refine JL_val _ (Ev_move rfl) rfl ?_
        refine JL_val (I64 ((j:Int) + 1)) (Ev_bini rfl rfl fun _ => bin_add_i _ _ ((j:Int) + 1) (by omega) (by omega)) rfl ?_
        refine JL_val _ (Ev_assign rfl) rfl ?_
        refine JL_nil ?_
        refine JQ_thenK ?_
        refine K_mask [true, false, true] ?_
        show K _ _ [⟨nb5, cu8 ([(g8 subsL ((g8 ([g8 ww (4*i - 4), g8 ww (4*i - 3), g8 ww (4*i - 2), g8 ww (4*i - 1)]) 1).toNat)) ^^^ f, g8 subsL ((g8 ([g8 ww (4*i - 4), g8 ww (4*i - 3), g8 ww (4*i - 2), g8 ww (4*i - 1)]) 2).toNat), g8 subsL ((g8 ([g8 ww (4*i - 4), g8 ww (4*i - 3), g8 ww (4*i - 2), g8 ww (4*i - 1)]) 3).toNat), g8 subsL ((g8 ([g8 ww (4*i - 4), g8 ww (4*i - 3), g8 ww (4*i - 2), g8 ww (4*i - 1)]) 0).toNat)]), 5, (0, 0)⟩, ⟨nb7, cu8 (u ++ ([(g8 u (4*i + j - 16)) ^^^ (g8 ([(g8 subsL ((g8 ([g8 ww (4*i - 4), g8 ww (4*i - 3), g8 ww (4*i - 2), g8 ww (4*i - 1)]) 1).toNat)) ^^^ f, g8 subsL ((g8 ([g8 ww (4*i - 4), g8 ww (4*i - 3), g8 ww (4*i - 2), g8 ww (4*i - 1)]) 2).toNat), g8 subsL ((g8 ([g8 ww (4*i - 4), g8 ww (4*i - 3), g8 ww (4*i - 2), g8 ww (4*i - 1)]) 3).toNat), g8 subsL ((g8 ([g8 ww (4*i - 4), g8 ww (4*i - 3), g8 ww (4*i - 2), g8 ww (4*i - 1)]) 0).toNat)]) j)])) ++ sp2, 5, (0, 0)⟩] _
        refine K_next (j + 1, u ++ ([(g8 u (4*i + j - 16)) ^^^ (g8 ([(g8 subsL ((g8 ([g8 ww (4*i - 4), g8 ww (4*i - 3), g8 ww (4*i - 2), g8 ww (4*i - 1)]) 1).toNat)) ^^^ f, g8 subsL ((g8 ([g8 ww (4*i - 4), g8 ww (4*i - 3), g8 ww (4*i - 2), g8 ww (4*i - 1)]) 2).toNat), g8 subsL ((g8 ([g8 ww (4*i - 4), g8 ww (4*i - 3), g8 ww (4*i - 2), g8 ww (4*i - 1)]) 3).toNat), g8 subsL ((g8 ([g8 ww (4*i - 4), g8 ww (4*i - 3), g8 ww (4*i - 2), g8 ww (4*i - 1)]) 0).toNat)]) j)]), nb7, sp2, cp2) ⟨by omega, by rw [rIn, ← hy2], by rw [ha5]; omega, by rw [ha6]; omega, by omega, by omega⟩ (by simp; omega) (Sub.cons rfl (Sub.cons rfl (Sub.cons rfl (Sub.cons rfl (Sub.cons rfl (Sub.cons rfl (Sub.cons rfl (Sub.cons rfl (Sub.cons rfl (Sub.cons rfl (Sub.cons rfl (Sub.cons rfl (Sub.cons rfl (Sub.cons rfl (Sub.cons rfl (Sub.cons rfl (Sub.cons rfl (Sub.cons rfl (Sub.cons rfl (Sub.cons rfl (Sub.cons rfl (Sub.cons rfl (Sub.cons rfl (Sub.cons rfl (Sub.cons rfl (Sub.cons rfl (Sub.cons rfl (Sub.cons rfl (Sub.cons rfl (Sub.cons rfl (Sub.cons rfl (Sub.cons rfl (Sub.cons rfl (Sub.cons rfl (Sub.cons rfl (Sub.cons rfl (Sub.cons rfl (Sub.cons rfl (Sub.cons rfl (Sub.cons rfl (Sub.cons rfl (Sub.cons rfl (Sub.cons rfl (Sub.cons rfl (Sub.cons rfl (Sub.cons rfl (Sub.cons rfl (Sub.cons rfl (Sub.cons rfl (Sub.cons rfl (Sub.cons rfl (Sub.cons rfl (Sub.cons rfl (Sub.cons rfl (Sub.cons rfl (Sub.cons (some_slc (by omega)) (Sub.cons rfl (Sub.nil)))))))))))))))))))))))))))))))))))))))))))))))))))))))))) rfl
      ·
        have hp3 : ¬ (((j:Int)) < (4:Int)) := of_decide_eq_false hb3
        refine JC_exit ?_
        refine JQ_then_exit ?_
        refine JQ_then_exit ?_
        refine JQ_in_same ?_
        refine JQ_in_normal ?_
        refine JQ_then ?_
        refine JC_region ?_
        refine JL_val _ (Ev_move rfl) rfl ?_
        refine JL_val (I64 ((i:Int) + 1)) (Ev_bini rfl rfl fun _ => bin_add_i _ _ ((i:Int) + 1) (by omega) (by omega)) rfl ?_
        refine JL_val _ (Ev_assign rfl) rfl ?_
        refine JL_nil ?_
        refine JQ_thenK ?_
        refine K_mask [false, true] ?_
        show K _ _ [⟨g1, cu8 u ++ sp1, 5, (0, 0)⟩] _
        refine K_next (i + 1, rdbl f, u, g1, sp1, cp1) ⟨by omega, by omega, by rw [show i + 1 - 4 = (i - 4) + 1 from by omega, rN, ← hx3]; simp only [rStep, show i - 4 + 4 = i from by omega]; rw [if_pos (by omega), hy2, show j = 4 from by omega]; rfl, by omega, by omega, by omega, hy6⟩ (by simp; omega) (Sub.cons rfl (Sub.cons (some_slc (by omega)) (Sub.cons rfl (Sub.cons rfl (Sub.nil))))) rfl
    ·
      have hp2 : ¬ (((i % 4:Int)) = (0:Int)) := of_decide_eq_false hb2
      refine JC_skip ?_
      refine JQ_then ?_
      refine JC_seq ?_
      refine JC_region ?_
      refine JL_val _ (Ev_assign rfl) rfl ?_
      refine JL_nil ?_
      refine JQ_then ?_
      refine JC_block ?_
      refine K_pick [1, 0] (by decide) ?_
      show JC _ _ _ _ [⟨nb4, cu8 ([g8 ww (4*i - 4), g8 ww (4*i - 3), g8 ww (4*i - 2), g8 ww (4*i - 1)]), 5, (0, 0)⟩, ⟨g0, cu8 ww ++ sp0, 5, (0, 0)⟩]
      refine JC_loop (ι := Nat × List UInt8 × Nat × List Value × Nat) (fun ⟨j, u, g1, sp1, cp1⟩ => [(2, .slice none 0 0), (4, U8 f), (5, I64 ((i:Int))), (6, Slc nb4 0 4 4), (11, I64 ((i:Int))), (12, .bool (decide (((i:Int)) < (44:Int)))), (15, Slc g0 0 (4*i) cp0), (16, I64 ((i:Int))), (17, I64 (4*(i:Int))), (18, I64 (4*(i:Int) - 4)), (19, Ptr g0 (4*i - 4)), (20, U8 (g8 ww (4*i - 4))), (21, Slc g0 0 (4*i) cp0), (22, I64 ((i:Int))), (23, I64 (4*(i:Int))), (24, I64 (4*(i:Int) - 3)), (25, Ptr g0 (4*i - 3)), (26, U8 (g8 ww (4*i - 3))), (27, Slc g0 0 (4*i) cp0), (28, I64 ((i:Int))), (29, I64 (4*(i:Int))), (30, I64 (4*(i:Int) - 2)), (31, Ptr g0 (4*i - 2)), (32, U8 (g8 ww (4*i - 2))), (33, Slc g0 0 (4*i) cp0), (34, I64 ((i:Int))), (35, I64 (4*(i:Int))), (36, I64 (4*(i:Int) - 1)), (37, Ptr g0 (4*i - 1)), (38, U8 (g8 ww (4*i - 1))), (39, Slc nb4 0 4 4), (40, I64 ((i:Int))), (41, I64 ((i % 4:Int))), (42, .bool (decide (((i % 4:Int)) = (0:Int)))), (3, Slc g1 0 (4*i + j) cp1), (7, I64 ((j:Int)))]) (fun ⟨j, u, g1, sp1, cp1⟩ => [⟨nb4, cu8 ([g8 ww (4*i - 4), g8 ww (4*i - 3), g8 ww (4*i - 2), g8 ww (4*i - 1)]), 5, (0, 0)⟩, ⟨g1, cu8 u ++ sp1, 5, (0, 0)⟩]) (fun ⟨j, u, g1, sp1, cp1⟩ => j ≤ 4 ∧ u = rIn ww i ([g8 ww (4*i - 4), g8 ww (4*i - 3), g8 ww (4*i - 2), g8 ww (4*i - 1)]) j ∧ u.length = 4*i + j ∧ sp1.length = cp1 - (4*i + j) ∧ 4*i + j ≤ cp1 ∧ cp1 ≤ maxLen) (fun ⟨j, u, g1, sp1, cp1⟩ => 4 - j) (0, ww, g0, sp0, cp0) ⟨by omega, rfl, by omega, by omega, by omega, hx7⟩ (Sub.cons rfl (Sub.cons rfl (Sub.cons rfl (Sub.cons rfl (Sub.cons rfl (Sub.cons rfl (Sub.cons rfl (Sub.cons rfl (Sub.cons rfl (Sub.cons rfl (Sub.cons rfl (Sub.cons rfl (Sub.cons rfl (Sub.cons rfl (Sub.cons rfl (Sub.cons rfl (Sub.cons rfl (Sub.cons rfl (Sub.cons rfl (Sub.cons rfl (Sub.cons rfl (Sub.cons rfl (Sub.cons rfl (Sub.cons rfl (Sub.cons rfl (Sub.cons rfl (Sub.cons rfl (Sub.cons rfl (Sub.cons rfl (Sub.cons rfl (Sub.cons rfl (Sub.cons rfl (Sub.cons rfl (Sub.cons rfl (Sub.cons rfl (Sub.cons rfl (Sub.nil))))))))))))))))))))))))))))))))))))) rfl ?_
      rintro ⟨j, u, g1, sp1, cp1⟩ ⟨hy1, hy2, hy3, hy4, hy5, hy6⟩
      show JC _ _ _ [(2, .slice none 0 0), (4, U8 f), (5, I64 ((i:Int))), (6, Slc nb4 0 4 4), (11, I64 ((i:Int))), (12, .bool (decide (((i:Int)) < (44:Int)))), (15, Slc g0 0 (4*i) cp0), (16, I64 ((i:Int))), (17, I64 (4*(i:Int))), (18, I64 (4*(i:Int) - 4)), (19, Ptr g0 (4*i - 4)), (20, U8 (g8 ww (4*i - 4))), (21, Slc g0 0 (4*i) cp0), (22, I64 ((i:Int))), (23, I64 (4*(i:Int))), (24, I64 (4*(i:Int) - 3)), (25, Ptr g0 (4*i - 3)), (26, U8 (g8 ww (4*i - 3))), (27, Slc g0 0 (4*i) cp0), (28, I64 ((i:Int))), (29, I64 (4*(i:Int))), (30, I64 (4*(i:Int) - 2)), (31, Ptr g0 (4*i - 2)), (32, U8 (g8 ww (4*i - 2))), (33, Slc g0 0 (4*i) cp0), (34, I64 ((i:Int))), (35, I64 (4*(i:Int))), (36, I64 (4*(i:Int) - 1)), (37, Ptr g0 (4*i - 1)), (38, U8 (g8 ww (4*i - 1))), (39, Slc nb4 0 4 4), (40, I64 ((i:Int))), (41, I64 ((i % 4:Int))), (42, .bool (decide (((i % 4:Int)) = (0:Int)))), (3, Slc g1 0 (4*i + j) cp1), (7, I64 ((j:Int)))] [⟨nb4, cu8 ([g8 ww (4*i - 4), g8 ww (4*i - 3), g8 ww (4*i - 2), g8 ww (4*i - 1)]), 5, (0, 0)⟩, ⟨g1, cu8 u ++ sp1, 5, (0, 0)⟩]
      refine JC_seq ?_
      refine JC_seq ?_
      refine JC_region ?_
      refine JL_val _ (Ev_move rfl) rfl ?_
      refine JL_val (.bool (decide (((j:Int)) < (4:Int)))) (Ev_bini rfl rfl fun _ => bin_lss_i _ _) rfl ?_
      refine JL_nil ?_
      refine JQ_then ?_
      refine JC_cond (decide (((j:Int)) < (4:Int))) rfl (fun hb4 => ?_) (fun hb4 => ?_)
      ·
        have hp4 : ((j:Int)) < (4:Int) := of_decide_eq_true hb4
        refine JC_skip ?_
        refine JQ_then ?_
        refine JC_seq ?_
        refine JC_block ?_
        refine JC_draw 85 3 [(0, Slc g1 0 (4*i + j) cp1), (1, Slc g1 0 (4*i + j) cp1), (2, I64 ((i:Int))), (3, I64 (4*(i:Int))), (4, I64 (4*(i:Int) - 16)), (5, I64 ((j:Int))), (6, I64 (4*(i:Int) + (j:Int) - 16)), (7, Ptr g1 (4*i + j - 16)), (8, U8 (g8 u (4*i + j - 16))), (9, Slc nb4 0 4 4), (10, I64 ((j:Int))), (11, Ptr nb4 j), (12, U8 (g8 ([g8 ww (4*i - 4), g8 ww (4*i - 3), g8 ww (4*i - 2), g8 ww (4*i - 1)]) j)), (13, U8 ((g8 u (4*i + j - 16)) ^^^ (g8 ([g8 ww (4*i - 4), g8 ww (4*i - 3), g8 ww (4*i - 2), g8 ww (4*i - 1)]) j)))] Try.mixed rfl (by decide +kernel) ?_
        refine DP_one ⟨[], [0, 1, 2, 3, 4, 5, 6, 7, 8, 9, 10, 11, 12, 13], [], [0, 1, 2, 3, 4, 5, 6, 7, 8, 9, 10, 11, 12, 13], [14]⟩ 14 _ rfl rfl (by decide +kernel) rfl ⟨⟨_, rfl, Qok_val rfl (Ev_move rfl)⟩, ⟨_, rfl, Qok_val rfl (Ev_move rfl)⟩, ⟨_, rfl, Qok_val rfl (Ev_move rfl)⟩, ⟨_, rfl, Qok_val rfl (Ev_bini rfl rfl fun _ => bin_mul_i _ _ (4*(i:Int)) (by omega) (by omega))⟩, ⟨_, rfl, Qok_val rfl (Ev_bini rfl rfl fun _ => bin_sub_i _ _ (4*(i:Int) - 16) (by omega) (by omega))⟩, ⟨_, rfl, Qok_val rfl (Ev_move rfl)⟩, ⟨_, rfl, Qok_val rfl (Ev_bini rfl rfl fun _ => bin_add_i _ _ (4*(i:Int) + (j:Int) - 16) (by omega) (by omega))⟩, ⟨_, rfl, Qok_val rfl (Ev_indexSl 5 1 (4*i + j - 16) Try.underlying38 Try.sizeOf5 rfl rfl (by omega) (by omega) (by omega))⟩, ⟨_, rfl, Qok_val rfl (Ev_load rfl (Ld_one Try.isAgg5 (MemAt.ent 1 rfl (Seg.left (Seg.get (g8_get (i := (4*i + j - 16)) (by rw [hy3]; omega)))))))⟩, ⟨_, rfl, Qok_val rfl (Ev_move rfl)⟩, ⟨_, rfl, Qok_val rfl (Ev_move rfl)⟩, ⟨_, rfl, Qok_val rfl (Ev_indexSl 5 1 j Try.underlying38 Try.sizeOf5 rfl rfl (by omega) (by omega) (by omega))⟩, ⟨_, rfl, Qok_val rfl (Ev_load rfl (Ld_one Try.isAgg5 (MemAt.ent 0 rfl (Seg.get (g8_get (i := j) (by simp <;> omega))))))⟩, ⟨_, rfl, Qok_val rfl (Ev_bini rfl rfl fun _ => bin_xor_u8 (g8 u (4*i + j - 16)) (g8 ([g8 ww (4*i - 4), g8 ww (4*i - 3), g8 ww (4*i - 2), g8 ww (4*i - 1)]) j))⟩, trivial⟩ rfl (Cok_step rfl (Step_buildSlice 5 1 _ [(0, U8 ((g8 u (4*i + j - 16)) ^^^ (g8 ([g8 ww (4*i - 4), g8 ww (4*i - 3), g8 ww (4*i - 2), g8 ww (4*i - 1)]) j)))] (cu8 ([(g8 u (4*i + j - 16)) ^^^ (g8 ([g8 ww (4*i - 4), g8 ww (4*i - 3), g8 ww (4*i - 2), g8 ww (4*i - 1)]) j)])) Try.underlying38 Try.sizeOf5 Try.zeroValue5 rfl rfl rfl (by kernel_rfl))) ?_
        rintro v1 L1 ⟨nb8, hnb8, rfl, rfl⟩
        refine ⟨[], ?_⟩
        show DP _ _ _ _ _ _ _ _ [⟨nb4, cu8 ([g8 ww (4*i - 4), g8 ww (4*i - 3), g8 ww (4*i - 2), g8 ww (4*i - 1)]), 5, (0, 0)⟩, ⟨g1, cu8 u ++ sp1, 5, (0, 0)⟩, ⟨nb8, cu8 ([(g8 u (4*i + j - 16)) ^^^ (g8 ([g8 ww (4*i - 4), g8 ww (4*i - 3), g8 ww (4*i - 2), g8 ww (4*i - 1)]) j)]), 5, (0, 0)⟩]
        refine DP_one ⟨[14], [0, 1, 2, 3, 4, 5, 6, 7, 8, 9, 10, 11, 12, 13], [1, 2, 3, 4, 5, 6, 7, 8, 9, 10, 11, 12, 13], [0], [15]⟩ 15 _ rfl rfl (by decide +kernel) rfl ⟨⟨_, rfl, Qok_val rfl (Ev_move rfl)⟩, trivial⟩ rfl (Cok_step rfl (Step_append8 38 5 [false, true, false] (Slc g1 0 (4*i + j) cp1) (4*i + j) u ([(g8 u (4*i + j - 16)) ^^^ (g8 ([g8 ww (4*i - 4), g8 ww (4*i - 3), g8 ww (4*i - 2), g8 ww (4*i - 1)]) j)]) (some ⟨nb8, 0, none⟩) 1 1 Try.underlying38 Try.info5 rfl (.inr ⟨g1, sp1, cp1, rfl, rfl, (by simp [hy3]), hy4, (by omega), (by omega)⟩) rfl (by simp) (SrcAt.mem (MemAt.ent 2 rfl (Seg.whole _))) (by omega) (by unfold maxLen; omega))) ?_
        rintro v1 L1 ⟨nb9, sp3, cp3, hg3, rfl, rfl, ha9, ha10, ha11, ha12⟩
        refine ⟨[(16, Slc nb9 0 (4*i + j + 1) cp3)], ?_⟩
        show DP _ _ _ _ _ _ _ _ [⟨nb4, cu8 ([g8 ww (4*i - 4), g8 ww (4*i - 3), g8 ww (4*i - 2), g8 ww (4*i - 1)]), 5, (0, 0)⟩, ⟨nb8, cu8 ([(g8 u (4*i + j - 16)) ^^^ (g8 ([g8 ww (4*i - 4), g8 ww (4*i - 3), g8 ww (4*i - 2), g8 ww (4*i - 1)]) j)]), 5, (0, 0)⟩, ⟨nb9, cu8 (u ++ ([(g8 u (4*i + j - 16)) ^^^ (g8 ([g8 ww (4*i - 4), g8 ww (4*i - 3), g8 ww (4*i - 2), g8 ww (4*i - 1)]) j)])) ++ sp3, 5, (0, 0)⟩]
        refine DP_end ⟨[14, 15], [0, 1, 2, 3, 4, 5, 6, 7, 8, 9, 10, 11, 12, 13, 16], [0, 1, 2, 3, 4, 5, 6, 7, 8, 9, 10, 11, 12, 13], [16], []⟩ rfl rfl (by decide +kernel) rfl ⟨⟨_, rfl, Qok_val rfl (Ev_assign rfl)⟩, trivial⟩ ?_
        refine K_sub (F' := [(68, Slc g1 0 (4*i + j) cp1), (69, Slc g1 0 (4*i + j) cp1), (70, I64 ((i:Int))), (71, I64 (4*(i:Int))), (72, I64 (4*(i:Int) - 16)), (73, I64 ((j:Int))), (74, I64 (4*(i:Int) + (j:Int) - 16)), (75, Ptr g1 (4*i + j - 16)), (76, U8 (g8 u (4*i + j - 16))), (77, Slc nb4 0 4 4), (78, I64 ((j:Int))), (79, Ptr nb4 j), (80, U8 (g8 ([g8 ww (4*i - 4), g8 ww (4*i - 3), g8 ww (4*i - 2), g8 ww (4*i - 1)]) j)), (81, U8 ((g8 u (4*i + j - 16)) ^^^ (g8 ([g8 ww (4*i - 4), g8 ww (4*i - 3), g8 ww (4*i - 2), g8 ww (4*i - 1)]) j))), (82, Slc nb8 0 1 1), (83, Slc nb9 0 (4*i + j + 1) cp3), (3, Slc nb9 0 (4*i + j + 1) cp3), (2, .slice none 0 0), (4, U8 f), (5, I64 ((i:Int))), (6, Slc nb4 0 4 4), (11, I64 ((i:Int))), (12, .bool (decide (((i:Int)) < (44:Int)))), (15, Slc g0 0 (4*i) cp0), (16, I64 ((i:Int))), (17, I64 (4*(i:Int))), (18, I64 (4*(i:Int) - 4)), (19, Ptr g0 (4*i - 4)), (20, U8 (g8 ww (4*i - 4))), (21, Slc g0 0 (4*i) cp0), (22, I64 ((i:Int))), (23, I64 (4*(i:Int))), (24, I64 (4*(i:Int) - 3)), (25, Ptr g0 (4*i - 3)), (26, U8 (g8 ww (4*i - 3))), (27, Slc g0 0 (4*i) cp0), (28, I64 ((i:Int))), (29, I64 (4*(i:Int))), (30, I64 (4*(i:Int) - 2)), (31, Ptr g0 (4*i - 2)), (32, U8 (g8 ww (4*i - 2))), (33, Slc g0 0 (4*i) cp0), (34, I64 ((i:Int))), (35, I64 (4*(i:Int))), (36, I64 (4*(i:Int) - 1)), (37, Ptr g0 (4*i - 1)), (38, U8 (g8 ww (4*i - 1))), (39, Slc nb4 0 4 4), (40, I64 ((i:Int))), (41, I64 ((i % 4:Int))), (42, .bool (decide (((i % 4:Int)) = (0:Int)))), (7, I64 ((j:Int))), (64, I64 ((j:Int))), (65, .bool (decide (((j:Int)) < (4:Int))))]) (Sub.cons (by kernel_rfl) (Sub.cons (by kernel_rfl) (Sub.cons (by kernel_rfl) (Sub.cons (by kernel_rfl) (Sub.cons (by kernel_rfl) (Sub.cons (by kernel_rfl) (Sub.cons (by kernel_rfl) (Sub.cons (by kernel_rfl) (Sub.cons (by kernel_rfl) (Sub.cons (by kernel_rfl) (Sub.cons (by kernel_rfl) (Sub.cons (by kernel_rfl) (Sub.cons (by kernel_rfl) (Sub.cons (by kernel_rfl) (Sub.cons (by kernel_rfl) (Sub.cons (by kernel_rfl) (Sub.cons (by kernel_rfl) (Sub.cons (by kernel_rfl) (Sub.cons (by kernel_rfl) (Sub.cons (by kernel_rfl) (Sub.cons (by kernel_rfl) (Sub.cons (by kernel_rfl) (Sub.cons (by kernel_rfl) (Sub.cons (by kernel_rfl) (Sub.cons (by kernel_rfl) (Sub.cons (by kernel_rfl) (Sub.cons (by kernel_rfl) (Sub.cons (by kernel_rfl) (Sub.cons (by kernel_rfl) (Sub.cons (by kernel_rfl) (Sub.cons (by kernel_rfl) (Sub.cons (by kernel_rfl) (Sub.cons (by kernel_rfl) (Sub.cons (by kernel_rfl) (Sub.cons (by kernel_rfl) (Sub.cons (by kernel_rfl) (Sub.cons (by kernel_rfl) (Sub.cons (by kernel_rfl) (Sub.cons (by kernel_rfl) (Sub.cons (by kernel_rfl) (Sub.cons (by kernel_rfl) (Sub.cons (by kernel_rfl) (Sub.cons (by kernel_rfl) (Sub.cons (by kernel_rfl) (Sub.cons (by kernel_rfl) (Sub.cons (by kernel_rfl) (Sub.cons (by kernel_rfl) (Sub.cons (by kernel_rfl) (Sub.cons (by kernel_rfl) (Sub.cons (by kernel_rfl) (Sub.cons (by kernel_rfl) (Sub.cons (by kernel_rfl) (Sub.cons (by kernel_rfl) (Sub.cons (by kernel_rfl) (Sub.nil))))))))))))))))))))))))))))))))))))))))))))))))))))))) ?_
        show JQ _ _ _ [(68, Slc g1 0 (4*i + j) cp1), (69, Slc g1 0 (4*i + j) cp1), (70, I64 ((i:Int))), (71, I64 (4*(i:Int))), (72, I64 (4*(i:Int) - 16)), (73, I64 ((j:Int))), (74, I64 (4*(i:Int) + (j:Int) - 16)), (75, Ptr g1 (4*i + j - 16)), (76, U8 (g8 u (4*i + j - 16))), (77, Slc nb4 0 4 4), (78, I64 ((j:Int))), (79, Ptr nb4 j), (80, U8 (g8 ([g8 ww (4*i - 4), g8 ww (4*i - 3), g8 ww (4*i - 2), g8 ww (4*i - 1)]) j)), (81, U8 ((g8 u (4*i + j - 16)) ^^^ (g8 ([g8 ww (4*i - 4), g8 ww (4*i - 3), g8 ww (4*i - 2), g8 ww (4*i - 1)]) j))), (82, Slc nb8 0 1 1), (83, Slc nb9 0 (4*i + j + 1) cp3), (3, Slc nb9 0 (4*i + j + 1) cp3), (2, .slice none 0 0), (4, U8 f), (5, I64 ((i:Int))), (6, Slc nb4 0 4 4), (11, I64 ((i:Int))), (12, .bool (decide (((i:Int)) < (44:Int)))), (15, Slc g0 0 (4*i) cp0), (16, I64 ((i:Int))), (17, I64 (4*(i:Int))), (18, I64 (4*(i:Int) - 4)), (19, Ptr g0 (4*i - 4)), (20, U8 (g8 ww (4*i - 4))), (21, Slc g0 0 (4*i) cp0), (22, I64 ((i:Int))), (23, I64 (4*(i:Int))), (24, I64 (4*(i:Int) - 3)), (25, Ptr g0 (4*i - 3)), (26, U8 (g8 ww (4*i - 3))), (27, Slc g0 0 (4*i) cp0), (28, I64 ((i:Int))), (29, I64 (4*(i:Int))), (30, I64 (4*(i:Int) - 2)), (31, Ptr g0 (4*i - 2)), (32, U8 (g8 ww (4*i - 2))), (33, Slc g0 0 (4*i) cp0), (34, I64 ((i:Int))), (35, I64 (4*(i:Int))), (36, I64 (4*(i:Int) - 1)), (37, Ptr g0 (4*i - 1)), (38, U8 (g8 ww (4*i - 1))), (39, Slc nb4 0 4 4), (40, I64 ((i:Int))), (41, I64 ((i % 4:Int))), (42, .bool (decide (((i % 4:Int)) = (0:Int)))), (7, I64 ((j:Int))), (64, I64 ((j:Int))), (65, .bool (decide (((j:Int)) < (4:Int))))] _
        refine JQ_in_normal ?_
        refine JQ_then ?_
        refine JC_region ?_
        refine JL_val _ (Ev_move rfl) rfl ?_
        refine JL_val (I64 ((j:Int) + 1)) (Ev_bini rfl rfl fun _ => bin_add_i _ _ ((j:Int) + 1) (by omega) (by omega)) rfl ?_
        refine JL_val _ (Ev_assign rfl) rfl ?_
        refine JL_nil ?_
        refine JQ_thenK ?_
        refine K_mask [true, false, true] ?_
        show K _ _ [⟨nb4, cu8 ([g8 ww (4*i - 4), g8 ww (4*i - 3), g8 ww (4*i - 2), g8 ww (4*i - 1)]), 5, (0, 0)⟩, ⟨nb9, cu8 (u ++ ([(g8 u (4*i + j - 16)) ^^^ (g8 ([g8 ww (4*i - 4), g8 ww (4*i - 3), g8 ww (4*i - 2), g8 ww (4*i - 1)]) j)])) ++ sp3, 5, (0, 0)⟩] _
        refine K_next (j + 1, u ++ ([(g8 u (4*i + j - 16)) ^^^ (g8 ([g8 ww (4*i - 4), g8 ww (4*i - 3), g8 ww (4*i - 2), g8 ww (4*i - 1)]) j)]), nb9, sp3, cp3) ⟨by omega, by rw [rIn, ← hy2], by rw [ha9]; omega, by rw [ha10]; omega, by omega, by omega⟩ (by simp; omega) (Sub.cons rfl (Sub.cons rfl (Sub.cons rfl (Sub.cons rfl (Sub.cons rfl (Sub.cons rfl (Sub.cons rfl (Sub.cons rfl (Sub.cons rfl (Sub.cons rfl (Sub.cons rfl (Sub.cons rfl (Sub.cons rfl (Sub.cons rfl (Sub.cons rfl (Sub.cons rfl (Sub.cons rfl (Sub.cons rfl (Sub.cons rfl (Sub.cons rfl (Sub.cons rfl (Sub.cons rfl (Sub.cons rfl (Sub.cons rfl (Sub.cons rfl (Sub.cons rfl (Sub.cons rfl (Sub.cons rfl (Sub.cons rfl (Sub.cons rfl (Sub.cons rfl (Sub.cons rfl (Sub.cons rfl (Sub.cons rfl (Sub.cons (some_slc (by omega)) (Sub.cons rfl (Sub.nil))))))))))))))))))))))))))))))))))))) rfl
      ·
        have hp4 : ¬ (((j:Int)) < (4:Int)) := of_decide_eq_false hb4
        refine JC_exit ?_
        refine JQ_then_exit ?_
        refine JQ_then_exit ?_
        refine JQ_in_same ?_
        refine JQ_in_normal ?_
        refine JQ_then ?_
        refine JC_region ?_
        refine JL_val _ (Ev_move rfl) rfl ?_
        refine JL_val (I64 ((i:Int) + 1)) (Ev_bini rfl rfl fun _ => bin_add_i _ _ ((i:Int) + 1) (by omega) (by omega)) rfl ?_
        refine JL_val _ (Ev_assign rfl) rfl ?_
        refine JL_nil ?_
        refine JQ_thenK ?_
        refine K_mask [false, true] ?_
        show K _ _ [⟨g1, cu8 u ++ sp1, 5, (0, 0)⟩] _
        refine K_next (i + 1, f, u, g1, sp1, cp1) ⟨by omega, by omega, by rw [show i + 1 - 4 = (i - 4) + 1 from by omega, rN, ← hx3]; simp only [rStep, show i - 4 + 4 = i from by omega]; rw [if_neg (by omega), hy2, show j = 4 from by omega], by omega, by omega, by omega, hy6⟩ (by simp; omega) (Sub.cons rfl (Sub.cons (some_slc (by omega)) (Sub.cons rfl (Sub.cons rfl (Sub.nil))))) rfl
  ·
    have hp1 : ¬ (((i:Int)) < (44:Int)) := of_decide_eq_false hb1
    refine JC_exit ?_
    refine JQ_then_exit ?_
    refine JQ_then_exit ?_
    refine JQ_in_same ?_
    refine JQ_then ?_
    refine JC_seq ?_
    refine JC_region ?_
    refine JL_val _ (Ev_move rfl) rfl ?_
    refine JL_val _ (Ev_assign rfl) rfl ?_
    refine JL_nil ?_
    refine JQ_then ?_
    refine JC_ret ?_
    refine JQ_ret (Slc g0 0 (4*i) cp0) (res1 Try.results26 (RV_tmp rfl)) fun w1 hw1 => ?_
    have e1 : i = 44 := by omega
    subst e1
    have e3 : ww = rkeysL key := by rw [rkeysL, ← hx3]
    rw [e3] at hw1
    exact ⟨_, _, rfl, ⟨g0, sp0, cp0, hx6, hx5, rfl, rfl⟩, hw1⟩

theorem radd_c (b ks : List UInt8) (c cap n : Nat) (w : World) (hb : b.length = 16) (hks : ks.length = 176) (hn : n ≤ 10) (hm : RdA w c 0 (cu8 ks)) : Calls Try.prog 76 #[.agg (cu8 b).toArray, Slc c 0 176 cap, I64 ((n:Int))] w (Post w [] (fun v L => v = .agg (cu8 (raddL ks n b)).toArray ∧ L = [])) := by
  refine enter w [] 26 [] [.agg (cu8 b).toArray, Slc c 0 176 cap, I64 ((n:Int))] Try.func76 rfl rfl (by simp) (Hp.start (by simp) (by simp) (by simp)) ?_
  show JC _ _ _ [(0, .agg (cu8 b).toArray), (1, Slc c 0 176 cap), (2, I64 ((n:Int)))] _
  refine JC_seq ?_
  refine JC_region ?_
  refine JL_step (Step_box (.agg (cu8 b).toArray) (cu8 b) rfl (by first | rfl | simp)) rfl ?_
  rintro v1 L1 ⟨nb1, hnb1, rfl, rfl⟩
  show JL _ _ _ _ ((3, Ptr nb1 0) :: _) [⟨nb1, cu8 b, 27, (0, 0)⟩]
  refine JL_step (Step_alloc _ (cu8 (zr8 16)) Try.zeroValue27 (by kernel_rfl)) rfl ?_
  rintro v1 L1 ⟨nb2, hnb2, rfl, rfl⟩
  show JL _ _ _ _ ((6, Ptr nb2 0) :: _) [⟨nb1, cu8 b, 27, (0, 0)⟩, ⟨nb2, cu8 (zr8 16), 27, (0, 0)⟩]
  refine JL_nil ?_
  refine JQ_then ?_
  refine JC_seq ?_
  refine JC_seq ?_
  refine JC_region ?_
  refine JL_val _ (Ev_assign rfl) rfl ?_
  refine JL_nil ?_
  refine JQ_then ?_
  refine JC_block ?_
  refine JC_loop (ι := Nat × List UInt8) (fun ⟨k, s⟩ => [(1, Slc c 0 176 cap), (2, I64 ((n:Int))), (3, Ptr nb1 0), (6, Ptr nb2 0), (7, I64 ((k:Int)))]) (fun ⟨k, s⟩ => [⟨nb1, cu8 s, 27, (0, 0)⟩, ⟨nb2, cu8 (zr8 16), 27, (0, 0)⟩]) (fun ⟨k, s⟩ => k ≤ 16 ∧ s = raddN ks n b k ∧ s.length = 16) (fun ⟨k, s⟩ => 16 - k) (0, b) ⟨by omega, rfl, hb⟩ (Sub.cons rfl (Sub.cons rfl (Sub.cons rfl (Sub.cons rfl (Sub.cons rfl (Sub.nil)))))) rfl ?_
  rintro ⟨k, s⟩ ⟨hx1, hx2, hs⟩
  show JC _ _ _ [(1, Slc c 0 176 cap), (2, I64 ((n:Int))), (3, Ptr nb1 0), (6, Ptr nb2 0), (7, I64 ((k:Int)))] [⟨nb1, cu8 s, 27, (0, 0)⟩, ⟨nb2, cu8 (zr8 16), 27, (0, 0)⟩]
  refine JC_seq ?_
  refine JC_seq ?_
  refine JC_region ?_
  refine JL_val _ (Ev_move rfl) rfl ?_
  refine JL_val (.bool (decide (((k:Int)) < (16:Int)))) (Ev_bini rfl rfl fun _ => bin_lss_i _ _) rfl ?_
  refine JL_nil ?_
  refine JQ_then ?_
  refine JC_cond (decide (((k:Int)) < (16:Int))) rfl (fun hb1 => ?_) (fun hb1 => ?_)
  ·
    have hp1 : ((k:Int)) < (16:Int) := of_decide_eq_true hb1
    refine JC_skip ?_
    refine JQ_then ?_
    refine JC_seq ?_
    refine JC_block ?_
    refine JC_draw 26 2 [(0, I64 ((k:Int))), (1, I64 ((k:Int))), (2, Ptr nb1 k), (3, U8 (g8 s k)), (4, Slc c 0 176 cap), (5, I64 ((n:Int))), (6, I64 (16*(n:Int))), (7, I64 ((k:Int))), (8, I64 ((k:Int) + 16*(n:Int))), (9, Ptr c (k + 16*n)), (10, U8 (g8 ks (k + 16*n))), (11, U8 ((g8 s k) ^^^ (g8 ks (k + 16*n)))), (12, Ptr nb1 k)] Try.mixed rfl (by decide +kernel) ?_
    have hl1 : (s.set k ((g8 s k) ^^^ (g8 ks (k + 16*n)))).length = 16 := by simp [hs]
    refine DP_one ⟨[], [0, 1, 2, 3, 4, 5, 6, 7, 8, 9, 10, 11, 12], [], [0, 1, 2, 3, 4, 5, 6, 7, 8, 9, 10, 11, 12], [13]⟩ 13 _ rfl rfl (by decide +kernel) rfl ⟨⟨_, rfl, Qok_val rfl (Ev_move rfl)⟩, ⟨_, rfl, Qok_val rfl (Ev_move rfl)⟩, ⟨_, rfl, Qok_val rfl (Ev_indexArr 16 5 1 k Try.underlying27 Try.sizeOf5 rfl rfl (by omega) (by omega) (by omega))⟩, ⟨_, rfl, Qok_val rfl (Ev_load rfl (Ld_one Try.isAgg5 (MemAt.ent 0 rfl (Seg.get (g8_get (i := k) (by rw [hs]; omega))))))⟩, ⟨_, rfl, Qok_val rfl (Ev_move rfl)⟩, ⟨_, rfl, Qok_val rfl (Ev_move rfl)⟩, ⟨_, rfl, Qok_val rfl (Ev_bini rfl rfl fun _ => bin_mul_i _ _ (16*(n:Int)) (by omega) (by omega))⟩, ⟨_, rfl, Qok_val rfl (Ev_move rfl)⟩, ⟨_, rfl, Qok_val rfl (Ev_bini rfl rfl fun _ => bin_add_i _ _ ((k:Int) + 16*(n:Int)) (by omega) (by omega))⟩, ⟨_, rfl, Qok_val rfl (Ev_indexSl 5 1 (k + 16*n) Try.underlying38 Try.sizeOf5 rfl rfl (by omega) (by omega) (by omega))⟩, ⟨_, rfl, Qok_val rfl (Ev_load rfl (Ld_one Try.isAgg5 (MemAt.seg (hm.mem (by simp)) (Seg.get (g8_get (i := (k + 16*n)) (by rw [hks]; omega))) (by omega))))⟩, ⟨_, rfl, Qok_val rfl (Ev_bini rfl rfl fun _ => bin_xor_u8 (g8 s k) (g8 ks (k + 16*n)))⟩, ⟨_, rfl, Qok_val rfl (Ev_indexArr 16 5 1 k Try.underlying27 Try.sizeOf5 rfl rfl (by omega) (by omega) (by omega))⟩, trivial⟩ rfl (Cok_step rfl (Step_store 0 nb1 k 1 (cu8 s) 27 (U8 ((g8 s k) ^^^ (g8 ks (k + 16*n)))) ([U8 ((g8 s k) ^^^ (g8 ks (k + 16*n)))]) (cu8 (s.set k ((g8 s k) ^^^ (g8 ks (k + 16*n))))) rfl rfl rfl rfl Try.sizeOf5 rfl (by simp [Value.oneCell']) (by simp [hs]; try omega) (lay8 _ _ _ (by rw [hs]; omega)))) ?_
    rintro v1 L1 ⟨rfl, rfl⟩
    refine ⟨[], ?_⟩
    show DP _ _ _ _ _ _ _ _ [⟨nb1, cu8 (s.set k ((g8 s k) ^^^ (g8 ks (k + 16*n)))), 27, (0, 0)⟩, ⟨nb2, cu8 (zr8 16), 27, (0, 0)⟩]
    refine DP_end ⟨[13], [0, 1, 2, 3, 4, 5, 6, 7, 8, 9, 10, 11, 12], [0, 1, 2, 3, 4, 5, 6, 7, 8, 9, 10, 11, 12], [], []⟩ rfl rfl (by decide +kernel) rfl trivial ?_
    refine K_sub (F' := [(12, I64 ((k:Int))), (13, I64 ((k:Int))), (14, Ptr nb1 k), (15, U8 (g8 s k)), (16, Slc c 0 176 cap), (17, I64 ((n:Int))), (18, I64 (16*(n:Int))), (19, I64 ((k:Int))), (20, I64 ((k:Int) + 16*(n:Int))), (21, Ptr c (k + 16*n)), (22, U8 (g8 ks (k + 16*n))), (23, U8 ((g8 s k) ^^^ (g8 ks (k + 16*n)))), (24, Ptr nb1 k), (1, Slc c 0 176 cap), (2, I64 ((n:Int))), (3, Ptr nb1 0), (6, Ptr nb2 0), (7, I64 ((k:Int))), (8, I64 ((k:Int))), (9, .bool (decide (((k:Int)) < (16:Int))))]) (Sub.cons (by kernel_rfl) (Sub.cons (by kernel_rfl) (Sub.cons (by kernel_rfl) (Sub.cons (by kernel_rfl) (Sub.cons (by kernel_rfl) (Sub.cons (by kernel_rfl) (Sub.cons (by kernel_rfl) (Sub.cons (by kernel_rfl) (Sub.cons (by kernel_rfl) (Sub.cons (by kernel_rfl) (Sub.cons (by kernel_rfl) (Sub.cons (by kernel_rfl) (Sub.cons (by kernel_rfl) (Sub.cons (by kernel_rfl) (Sub.cons (by kernel_rfl) (Sub.cons (by kernel_rfl) (Sub.cons (by kernel_rfl) (Sub.cons (by kernel_rfl) (Sub.cons (by kernel_rfl) (Sub.cons (by kernel_rfl) (Sub.nil))))))))))))))))))))) ?_
    show JQ _ _ _ [(12, I64 ((k:Int))), (13, I64 ((k:Int))), (14, Ptr nb1 k), (15, U8 (g8 s k)), (16, Slc c 0 176 cap), (17, I64 ((n:Int))), (18, I64 (16*(n:Int))), (19, I64 ((k:Int))), (20, I64 ((k:Int) + 16*(n:Int))), (21, Ptr c (k + 16*n)), (22, U8 (g8 ks (k + 16*n))), (23, U8 ((g8 s k) ^^^ (g8 ks (k + 16*n)))), (24, Ptr nb1 k), (1, Slc c 0 176 cap), (2, I64 ((n:Int))), (3, Ptr nb1 0), (6, Ptr nb2 0), (7, I64 ((k:Int))), (8, I64 ((k:Int))), (9, .bool (decide (((k:Int)) < (16:Int))))] _
    refine JQ_in_normal ?_
    refine JQ_then ?_
    refine JC_region ?_
    refine JL_val _ (Ev_move rfl) rfl ?_
    refine JL_val (I64 ((k:Int) + 1)) (Ev_bini rfl rfl fun _ => bin_add_i _ _ ((k:Int) + 1) (by omega) (by omega)) rfl ?_
    refine JL_val _ (Ev_assign rfl) rfl ?_
    refine JL_nil ?_
    refine JQ_thenK ?_
    refine K_next (k + 1, s.set k ((g8 s k) ^^^ (g8 ks (k + 16*n)))) ⟨by omega, by rw [raddN, ← hx2], hl1⟩ (by simp; omega) (Sub.cons rfl (Sub.cons rfl (Sub.cons rfl (Sub.cons rfl (Sub.cons rfl (Sub.nil)))))) rfl
  ·
    have hp1 : ¬ (((k:Int)) < (16:Int)) := of_decide_eq_false hb1
    refine JC_exit ?_
    refine JQ_then_exit ?_
    refine JQ_then_exit ?_
    refine JQ_in_same ?_
    refine JQ_then ?_
    refine JC_seq ?_
    refine JC_region ?_
    refine JL_val (.agg (cu8 s).toArray) (Ev_load rfl (Ld_agg Try.isAgg27 Try.sizeOf27 (len_cu8 hs) (MemAt.ent 0 rfl (Seg.whole _)))) rfl ?_
    refine JL_step (Step_store 1 nb2 0 16 (cu8 (zr8 16)) 27 (.agg (cu8 s).toArray) (cu8 s) (cu8 s) rfl rfl rfl (by first | rfl | simp) Try.sizeOf27 (len_cu8 hs) (by first | exact one_u8 | exact one_u32 | exact one_u64 | (simp [cu8, cu32, cu64, Value.oneCell']; done)) (by simp [(zr8_len 16)]) (lay_whole (by simp [(zr8_len 16), hs]))) rfl ?_
    rintro v1 L1 ⟨rfl, rfl⟩
    show JL _ _ _ _ _ [⟨nb1, cu8 s, 27, (0, 0)⟩, ⟨nb2, cu8 s, 27, (0, 0)⟩]
    refine JL_nil ?_
    refine JQ_then ?_
    refine JC_ret ?_
    refine JQ_ret (.agg (cu8 s).toArray) (res1 Try.results76 (RV_cell rfl (Ld_agg Try.isAgg27 Try.sizeOf27 (len_cu8 hs) (MemAt.ent 1 rfl (Seg.whole _))))) fun w1 hw1 => ?_
    have e1 : k = 16 := by omega
    subst e1
    rw [show s = raddL ks n b from by rw [raddL]; exact hx2]
    exact ⟨_, [], rfl, ⟨rfl, rfl⟩, hw1.sub (by simp) (by simp)⟩

theorem renc_c (b ks : List UInt8) (c cap : Nat) (w : World) (hb : b.length = 16) (hks : ks.length = 176) (hm : RdA w c 0 (cu8 ks)) : Calls Try.prog 28 #[Slc c 0 176 cap, .agg (cu8 b).toArray] w (Post w [] (fun v L => v = .agg (cu8 (rencL ks b)).toArray ∧ L = [])) := by
  refine enter w [] 135 [] [Slc c 0 176 cap, .agg (cu8 b).toArray] Try.func28 rfl rfl (by simp) (Hp.start (by simp) (by simp) (by simp)) ?_
  show JC _ _ _ [(0, Slc c 0 176 cap), (1, .agg (cu8 b).toArray)] _
  refine JC_seq ?_
  refine JC_region ?_
  refine JL_step (Step_box (.agg (cu8 b).toArray) (cu8 b) rfl (by first | rfl | simp)) rfl ?_
  rintro v1 L1 ⟨nb1, hnb1, rfl, rfl⟩
  show JL _ _ _ _ ((3, Ptr nb1 0) :: _) [⟨nb1, cu8 b, 27, (0, 0)⟩]
  refine JL_step (Step_alloc _ (cu8 (zr8 16)) Try.zeroValue27 (by kernel_rfl)) rfl ?_
  rintro v1 L1 ⟨nb2, hnb2, rfl, rfl⟩
  show JL _ _ _ _ ((4, Ptr nb2 0) :: _) [⟨nb1, cu8 b, 27, (0, 0)⟩, ⟨nb2, cu8 (zr8 16), 27, (0, 0)⟩]
  refine JL_nil ?_
  refine JQ_then ?_
  refine JC_seq ?_
  refine JC_region ?_
  refine JL_val (.agg (cu8 b).toArray) (Ev_load rfl (Ld_agg Try.isAgg27 Try.sizeOf27 (len_cu8 hb) (MemAt.ent 0 rfl (Seg.whole _)))) rfl ?_
  refine JL_val _ (Ev_move rfl) rfl ?_
  refine JL_step (Step_callP 76 [.agg (cu8 b).toArray, Slc c 0 176 cap, I64 (0:Int)] (.agg (cu8 (raddL ks 0 b)).toArray) (Cl_func [.agg (cu8 b).toArray, Slc c 0 176 cap, I64 (0:Int)] Try.call76 rfl) (fun w1 hw1 => radd_c b ks c cap 0 w1 hb hks (by omega) (RdA.of hw1 (MemAt.seg (hm.mem (by simp)) (Seg.whole _) (by omega)) (by simp [hks])))) rfl ?_
  rintro v1 L1 ⟨rfl, rfl⟩
  show JL _ _ _ _ ((17, .agg (cu8 (raddL ks 0 b)).toArray) :: _) [⟨nb1, cu8 b, 27, (0, 0)⟩, ⟨nb2, cu8 (zr8 16), 27, (0, 0)⟩]
  refine JL_step (Step_alloc _ (cu8 (zr8 16)) Try.zeroValue27 (by kernel_rfl)) rfl ?_
  rintro v1 L1 ⟨nb3, hnb3, rfl, rfl⟩
  show JL _ _ _ _ ((5, Ptr nb3 0) :: _) [⟨nb1, cu8 b, 27, (0, 0)⟩, ⟨nb2, cu8 (zr8 16), 27, (0, 0)⟩, ⟨nb3, cu8 (zr8 16), 27, (0, 0)⟩]
  refine JL_step (Step_store 2 nb3 0 16 (cu8 (zr8 16)) 27 (.agg (cu8 (raddL ks 0 b)).toArray) (cu8 (raddL ks 0 b)) (cu8 (raddL ks 0 b)) rfl rfl rfl (by first | rfl | simp) Try.sizeOf27 (len_cu8 (raddL_len hb)) (by first | exact one_u8 | exact one_u32 | exact one_u64 | (simp [cu8, cu32, cu64, Value.oneCell']; done)) (by simp [(zr8_len 16)]) (lay_whole (by simp [(zr8_len 16), (raddL_len hb)]))) rfl ?_
  rintro v1 L1 ⟨rfl, rfl⟩
  show JL _ _ _ _ _ [⟨nb1, cu8 b, 27, (0, 0)⟩, ⟨nb2, cu8 (zr8 16), 27, (0, 0)⟩, ⟨nb3, cu8 (raddL ks 0 b), 27, (0, 0)⟩]
  refine JL_nil ?_
  refine JQ_then ?_
  refine JC_seq ?_
  refine JC_seq ?_
  refine JC_region ?_
  refine JL_val _ (Ev_assign rfl) rfl ?_
  refine JL_nil ?_
  refine JQ_then ?_
  refine JC_block ?_
  refine K_mask [false, true, true] ?_
  show JC _ _ _ _ [⟨nb2, cu8 (zr8 16), 27, (0, 0)⟩, ⟨nb3, cu8 (raddL ks 0 b), 27, (0, 0)⟩]
  refine JC_loop (ι := Nat × List UInt8) (fun ⟨n, s⟩ => [(0, Slc c 0 176 cap), (4, Ptr nb2 0), (5, Ptr nb3 0), (6, I64 ((n:Int)))]) (fun ⟨n, s⟩ => [⟨nb2, cu8 (zr8 16), 27, (0, 0)⟩, ⟨nb3, cu8 s, 27, (0, 0)⟩]) (fun ⟨n, s⟩ => 1 ≤ n ∧ n ≤ 11 ∧ s = rencN ks b (n - 1) ∧ s.length = 16) (fun ⟨n, s⟩ => 11 - n) (1, raddL ks 0 b) ⟨by omega, by omega, rfl, raddL_len hb⟩ (Sub.cons rfl (Sub.cons rfl (Sub.cons rfl (Sub.cons rfl (Sub.nil))))) rfl ?_
  rintro ⟨n, s⟩ ⟨hx1, hx2, hx3, hs⟩
  show JC _ _ _ [(0, Slc c 0 176 cap), (4, Ptr nb2 0), (5, Ptr nb3 0), (6, I64 ((n:Int)))] [⟨nb2, cu8 (zr8 16), 27, (0, 0)⟩, ⟨nb3, cu8 s, 27, (0, 0)⟩]
  refine JC_seq ?_
  refine JC_seq ?_
  refine JC_region ?_
  refine JL_val _ (Ev_move rfl) rfl ?_
  refine JL_val (.bool (decide (((n:Int)) ≤ (10:Int)))) (Ev_bini rfl rfl fun _ => bin_leq_i _ _) rfl ?_
  refine JL_nil ?_
  refine JQ_then ?_
  refine JC_cond (decide (((n:Int)) ≤ (10:Int))) rfl (fun hb1 => ?_) (fun hb1 => ?_)
  ·
    have hp1 : ((n:Int)) ≤ (10:Int) := of_decide_eq_true hb1
    refine JC_skip ?_
    refine JQ_then ?_
    refine JC_seq ?_
    refine JC_block ?_
    refine JC_seq ?_
    refine JC_region ?_
    refine JL_step (Step_alloc _ (cu8 (zr8 16)) Try.zeroValue27 (by kernel_rfl)) rfl ?_
    rintro v1 L1 ⟨nb4, hnb4, rfl, rfl⟩
    show JL _ _ _ _ ((7, Ptr nb4 0) :: _) [⟨nb2, cu8 (zr8 16), 27, (0, 0)⟩, ⟨nb3, cu8 s, 27, (0, 0)⟩, ⟨nb4, cu8 (zr8 16), 27, (0, 0)⟩]
    refine JL_nil ?_
    refine JQ_then ?_
    refine JC_seq ?_
    refine JC_seq ?_
    refine JC_region ?_
    refine JL_val _ (Ev_assign rfl) rfl ?_
    refine JL_nil ?_
    refine JQ_then ?_
    refine JC_block ?_
    refine JC_loop (ι := Nat × List UInt8) (fun ⟨cc, t⟩ => [(0, Slc c 0 176 cap), (4, Ptr nb2 0), (5, Ptr nb3 0), (6, I64 ((n:Int))), (7, Ptr nb4 0), (18, I64 ((n:Int))), (19, .bool (decide (((n:Int)) ≤ (10:Int)))), (8, I64 ((cc:Int)))]) (fun ⟨cc, t⟩ => [⟨nb2, cu8 (zr8 16), 27, (0, 0)⟩, ⟨nb3, cu8 s, 27, (0, 0)⟩, ⟨nb4, cu8 t, 27, (0, 0)⟩]) (fun ⟨cc, t⟩ => cc ≤ 4 ∧ t = rshN s cc ∧ t.length = 16) (fun ⟨cc, t⟩ => 4 - cc) (0, zr8 16) ⟨by omega, by rw [rshN], zr8_len 16⟩ (Sub.cons rfl (Sub.cons rfl (Sub.cons rfl (Sub.cons rfl (Sub.cons rfl (Sub.cons rfl (Sub.cons rfl (Sub.cons rfl (Sub.nil))))))))) rfl ?_
    rintro ⟨cc, t⟩ ⟨hy1, hy2, ht⟩
    show JC _ _ _ [(0, Slc c 0 176 cap), (4, Ptr nb2 0), (5, Ptr nb3 0), (6, I64 ((n:Int))), (7, Ptr nb4 0), (18, I64 ((n:Int))), (19, .bool (decide (((n:Int)) ≤ (10:Int)))), (8, I64 ((cc:Int)))] [⟨nb2, cu8 (zr8 16), 27, (0, 0)⟩, ⟨nb3, cu8 s, 27, (0, 0)⟩, ⟨nb4, cu8 t, 27, (0, 0)⟩]
    refine JC_seq ?_
    refine JC_seq ?_
    refine JC_region ?_
    refine JL_val _ (Ev_move rfl) rfl ?_
    refine JL_val (.bool (decide (((cc:Int)) < (4:Int)))) (Ev_bini rfl rfl fun _ => bin_lss_i _ _) rfl ?_
    refine JL_nil ?_
    refine JQ_then ?_
    refine JC_cond (decide (((cc:Int)) < (4:Int))) rfl (fun hb2 => ?_) (fun hb2 => ?_)
    ·
      have hp2 : ((cc:Int)) < (4:Int) := of_decide_eq_true hb2
      refine JC_skip ?_
      refine JQ_then ?_
      refine JC_seq ?_
      refine JC_block ?_
      refine JC_seq ?_
      refine JC_region ?_
      refine JL_val _ (Ev_assign rfl) rfl ?_
      refine JL_nil ?_
      refine JQ_then ?_
      refine JC_block ?_
      refine JC_loop (ι := Nat × List UInt8) (fun ⟨r, u⟩ => [(0, Slc c 0 176 cap), (4, Ptr nb2 0), (5, Ptr nb3 0), (6, I64 ((n:Int))), (7, Ptr nb4 0), (8, I64 ((cc:Int))), (18, I64 ((n:Int))), (19, .bool (decide (((n:Int)) ≤ (10:Int)))), (22, I64 ((cc:Int))), (23, .bool (decide (((cc:Int)) < (4:Int)))), (9, I64 ((r:Int)))]) (fun ⟨r, u⟩ => [⟨nb2, cu8 (zr8 16), 27, (0, 0)⟩, ⟨nb3, cu8 s, 27, (0, 0)⟩, ⟨nb4, cu8 u, 27, (0, 0)⟩]) (fun ⟨r, u⟩ => r ≤ 4 ∧ u = rshIn s t cc r ∧ u.length = 16) (fun ⟨r, u⟩ => 4 - r) (0, t) ⟨by omega, by rw [rshIn], ht⟩ (Sub.cons rfl (Sub.cons rfl (Sub.cons rfl (Sub.cons rfl (Sub.cons rfl (Sub.cons rfl (Sub.cons rfl (Sub.cons rfl (Sub.cons rfl (Sub.cons rfl (Sub.cons rfl (Sub.nil)))))))))))) rfl ?_
      rintro ⟨r, u⟩ ⟨hz1, hz2, hu⟩
      show JC _ _ _ [(0, Slc c 0 176 cap), (4, Ptr nb2 0), (5, Ptr nb3 0), (6, I64 ((n:Int))), (7, Ptr nb4 0), (8, I64 ((cc:Int))), (18, I64 ((n:Int))), (19, .bool (decide (((n:Int)) ≤ (10:Int)))), (22, I64 ((cc:Int))), (23, .bool (decide (((cc:Int)) < (4:Int)))), (9, I64 ((r:Int)))] [⟨nb2, cu8 (zr8 16), 27, (0, 0)⟩, ⟨nb3, cu8 s, 27, (0, 0)⟩, ⟨nb4, cu8 u, 27, (0, 0)⟩]
      refine JC_seq ?_
      refine JC_seq ?_
      refine JC_region ?_
      refine JL_val _ (Ev_move rfl) rfl ?_
      refine JL_val (.bool (decide (((r:Int)) < (4:Int)))) (Ev_bini rfl rfl fun _ => bin_lss_i _ _) rfl ?_
      refine JL_nil ?_
      refine JQ_then ?_
      refine JC_cond (decide (((r:Int)) < (4:Int))) rfl (fun hb3 => ?_) (fun hb3 => ?_)
      ·
        have hp3 : ((r:Int)) < (4:Int) := of_decide_eq_true hb3
        refine JC_skip ?_
        refine JQ_then ?_
        refine JC_seq ?_
        refine JC_block ?_
        refine JC_region ?_
        refine JL_val _ (Ev_move rfl) rfl ?_
        refine JL_val (I64 (4*(cc:Int))) (Ev_bini rfl rfl fun _ => bin_mul_i _ _ (4*(cc:Int)) (by omega) (by omega)) rfl ?_
        refine JL_val _ (Ev_move rfl) rfl ?_
        refine JL_val (I64 (4*(cc:Int) + (r:Int))) (Ev_bini rfl rfl fun _ => bin_add_i _ _ (4*(cc:Int) + (r:Int)) (by omega) (by omega)) rfl ?_
        refine JL_val _ (Ev_move rfl) rfl ?_
        refine JL_val _ (Ev_move rfl) rfl ?_
        refine JL_val (I64 ((cc:Int) + (r:Int))) (Ev_bini rfl rfl fun _ => bin_add_i _ _ ((cc:Int) + (r:Int)) (by omega) (by omega)) rfl ?_
        obtain ⟨dq1, hdq1, hdq1a, hdq1b⟩ : ∃ q : Nat, q = (cc + r) % 4 ∧ (q : Int) = ((cc:Int) + (r:Int)) % 4 ∧ (q < 4) := ⟨_, rfl, by first | rfl | omega, by omega⟩
        refine JL_val (I64 ((dq1:Int))) (Ev_bini rfl rfl fun _ => bin_rem_i _ _ ((dq1:Int)) (by omega) (by omega) (by omega)) rfl ?_
        refine JL_val (I64 (4*(dq1:Int))) (Ev_bini rfl rfl fun _ => bin_mul_i _ _ (4*(dq1:Int)) (by omega) (by omega)) rfl ?_
        refine JL_val _ (Ev_move rfl) rfl ?_
        refine JL_val (I64 (4*(dq1:Int) + (r:Int))) (Ev_bini rfl rfl fun _ => bin_add_i _ _ (4*(dq1:Int) + (r:Int)) (by omega) (by omega)) rfl ?_
        refine JL_val (Ptr nb3 (4*dq1 + r)) (Ev_indexArr 16 5 1 (4*dq1 + r) Try.underlying27 Try.sizeOf5 rfl rfl (by omega) (by omega) (by omega)) rfl ?_
        refine JL_val (U8 (g8 s (4*dq1 + r))) (Ev_load rfl (Ld_one Try.isAgg5 (MemAt.ent 1 rfl (Seg.get (g8_get (i := (4*dq1 + r)) (by rw [hs]; omega)))))) rfl ?_
        refine JL_val (U8 (g8 subsL ((g8 s (4*dq1 + r)).toNat))) (Ev_indexStrL subsL ((g8 s (4*dq1 + r)).toNat) Try.underlying9 rfl rfl (by have := UInt8.toNat_lt (g8 s (4*dq1 + r)); omega) (by rw [subsL_len]; have := UInt8.toNat_lt (g8 s (4*dq1 + r)); omega)) rfl ?_
        refine JL_val (Ptr nb4 (4*cc + r)) (Ev_indexArr 16 5 1 (4*cc + r) Try.underlying27 Try.sizeOf5 rfl rfl (by omega) (by omega) (by omega)) rfl ?_
        have hl1 : (u.set (4*cc + r) (g8 subsL ((g8 s (4*dq1 + r)).toNat))).length = 16 := by simp [hu]
        refine JL_step (Step_store 2 nb4 (4*cc + r) 1 (cu8 u) 27 (U8 (g8 subsL ((g8 s (4*dq1 + r)).toNat))) ([U8 (g8 subsL ((g8 s (4*dq1 + r)).toNat))]) (cu8 (u.set (4*cc + r) (g8 subsL ((g8 s (4*dq1 + r)).toNat)))) rfl rfl rfl rfl Try.sizeOf5 rfl (by simp [Value.oneCell']) (by simp [hu]; try omega) (lay8 _ _ _ (by rw [hu]; omega))) rfl ?_
        rintro v1 L1 ⟨rfl, rfl⟩
        show JL _ _ _ _ _ [⟨nb2, cu8 (zr8 16), 27, (0, 0)⟩, ⟨nb3, cu8 s, 27, (0, 0)⟩, ⟨nb4, cu8 (u.set (4*cc + r) (g8 subsL ((g8 s (4*dq1 + r)).toNat))), 27, (0, 0)⟩]
        refine JL_nil ?_
        refine JQ_in_normal ?_
        refine JQ_then ?_
        refine JC_region ?_
        refine JL_val _ (Ev_move rfl) rfl ?_
        refine JL_val (I64 ((r:Int) + 1)) (Ev_bini rfl rfl fun _ => bin_add_i _ _ ((r:Int) + 1) (by omega) (by omega)) rfl ?_
        refine JL_val _ (Ev_assign rfl) rfl ?_
        refine JL_nil ?_
        refine JQ_thenK ?_
        refine K_next (r + 1, u.set (4*cc + r) (g8 subsL ((g8 s (4*dq1 + r)).toNat))) ⟨by omega, by (try subst hdq1); rw [rshIn, ← hz2], hl1⟩ (by simp; omega) (Sub.cons rfl (Sub.cons rfl (Sub.cons rfl (Sub.cons rfl (Sub.cons rfl (Sub.cons rfl (Sub.cons rfl (Sub.cons rfl (Sub.cons rfl (Sub.cons rfl (Sub.cons rfl (Sub.nil)))))))))))) rfl
      ·
        have hp3 : ¬ (((r:Int)) < (4:Int)) := of_decide_eq_false hb3
        refine JC_exit ?_
        refine JQ_then_exit ?_
        refine JQ_then_exit ?_
        refine JQ_in_same ?_
        refine JQ_in_normal ?_
        refine JQ_then ?_
        refine JC_region ?_
        refine JL_val _ (Ev_move rfl) rfl ?_
        refine JL_val (I64 ((cc:Int) + 1)) (Ev_bini rfl rfl fun _ => bin_add_i _ _ ((cc:Int) + 1) (by omega) (by omega)) rfl ?_
        refine JL_val _ (Ev_assign rfl) rfl ?_
        refine JL_nil ?_
        refine JQ_thenK ?_
        refine K_next (cc + 1, u) ⟨by omega, by rw [rshN, ← hy2, hz2, show r = 4 from by omega], hu⟩ (by simp; omega) (Sub.cons rfl (Sub.cons rfl (Sub.cons rfl (Sub.cons rfl (Sub.cons rfl (Sub.cons rfl (Sub.cons rfl (Sub.cons rfl (Sub.nil))))))))) rfl
    ·
      have hp2 : ¬ (((cc:Int)) < (4:Int)) := of_decide_eq_false hb2
      refine JC_exit ?_
      refine JQ_then_exit ?_
      refine JQ_then_exit ?_
      refine JQ_in_same ?_
      refine JQ_then ?_
      refine JC_seq ?_
      refine JC_region ?_
      refine JL_val (.agg (cu8 t).toArray) (Ev_load rfl (Ld_agg Try.isAgg27 Try.sizeOf27 (len_cu8 ht) (MemAt.ent 2 rfl (Seg.whole _)))) rfl ?_
      refine JL_step (Step_store 1 nb3 0 16 (cu8 s) 27 (.agg (cu8 t).toArray) (cu8 t) (cu8 t) rfl rfl rfl (by first | rfl | simp) Try.sizeOf27 (len_cu8 ht) (by first | exact one_u8 | exact one_u32 | exact one_u64 | (simp [cu8, cu32, cu64, Value.oneCell']; done)) (by simp [hs]) (lay_whole (by simp [hs, ht]))) rfl ?_
      rintro v1 L1 ⟨rfl, rfl⟩
      show JL _ _ _ _ _ [⟨nb2, cu8 (zr8 16), 27, (0, 0)⟩, ⟨nb3, cu8 t, 27, (0, 0)⟩, ⟨nb4, cu8 t, 27, (0, 0)⟩]
      refine JL_nil ?_
      refine JQ_then ?_
      refine JC_seq ?_
      refine JC_seq ?_
      refine JC_region ?_
      refine JL_val _ (Ev_move rfl) rfl ?_
      refine JL_val (.bool (decide (((n:Int)) < (10:Int)))) (Ev_bini rfl rfl fun _ => bin_lss_i _ _) rfl ?_
      refine JL_nil ?_
      refine JQ_then ?_
      refine JC_cond (decide (((n:Int)) < (10:Int))) rfl (fun hb4 => ?_) (fun hb4 => ?_)
      ·
        have hp4 : ((n:Int)) < (10:Int) := of_decide_eq_true hb4
        refine JC_seq ?_
        refine JC_region ?_
        refine JL_val _ (Ev_assign rfl) rfl ?_
        refine JL_nil ?_
        refine JQ_then ?_
        refine JC_block ?_
        refine JC_loop (ι := Nat × List UInt8) (fun ⟨d, m⟩ => [(0, Slc c 0 176 cap), (4, Ptr nb2 0), (5, Ptr nb3 0), (6, I64 ((n:Int))), (7, Ptr nb4 0), (8, I64 ((cc:Int))), (18, I64 ((n:Int))), (19, .bool (decide (((n:Int)) ≤ (10:Int)))), (22, I64 ((cc:Int))), (23, .bool (decide (((cc:Int)) < (4:Int)))), (45, .agg (cu8 t).toArray), (46, I64 ((n:Int))), (47, .bool (decide (((n:Int)) < (10:Int)))), (10, I64 ((d:Int)))]) (fun ⟨d, m⟩ => [⟨nb2, cu8 (zr8 16), 27, (0, 0)⟩, ⟨nb3, cu8 m, 27, (0, 0)⟩, ⟨nb4, cu8 t, 27, (0, 0)⟩]) (fun ⟨d, m⟩ => d ≤ 4 ∧ m = rmxN t d ∧ m.length = 16) (fun ⟨d, m⟩ => 4 - d) (0, t) ⟨by omega, by rw [rmxN], ht⟩ (Sub.cons rfl (Sub.cons rfl (Sub.cons rfl (Sub.cons rfl (Sub.cons rfl (Sub.cons rfl (Sub.cons rfl (Sub.cons rfl (Sub.cons rfl (Sub.cons rfl (Sub.cons rfl (Sub.cons rfl (Sub.cons rfl (Sub.cons rfl (Sub.nil))))))))))))))) rfl ?_
        rintro ⟨d, m⟩ ⟨hv1, hv2, hm2⟩
        show JC _ _ _ [(0, Slc c 0 176 cap), (4, Ptr nb2 0), (5, Ptr nb3 0), (6, I64 ((n:Int))), (7, Ptr nb4 0), (8, I64 ((cc:Int))), (18, I64 ((n:Int))), (19, .bool (decide (((n:Int)) ≤ (10:Int)))), (22, I64 ((cc:Int))), (23, .bool (decide (((cc:Int)) < (4:Int)))), (45, .agg (cu8 t).toArray), (46, I64 ((n:Int))), (47, .bool (decide (((n:Int)) < (10:Int)))), (10, I64 ((d:Int)))] [⟨nb2, cu8 (zr8 16), 27, (0, 0)⟩, ⟨nb3, cu8 m, 27, (0, 0)⟩, ⟨nb4, cu8 t, 27, (0, 0)⟩]
        refine JC_seq ?_
        refine JC_seq ?_
        refine JC_region ?_
        refine JL_val _ (Ev_move rfl) rfl ?_
        refine JL_val (.bool (decide (((d:Int)) < (4:Int)))) (Ev_bini rfl rfl fun _ => bin_lss_i _ _) rfl ?_
        refine JL_nil ?_
        refine JQ_then ?_
        refine JC_cond (decide (((d:Int)) < (4:Int))) rfl (fun hb5 => ?_) (fun hb5 => ?_)
        ·
          have hp5 : ((d:Int)) < (4:Int) := of_decide_eq_true hb5
          refine JC_skip ?_
          refine JQ_then ?_
          refine JC_seq ?_
          refine JC_block ?_
          refine JC_seq ?_
          refine JC_draw 135 1 [(0, I64 ((d:Int))), (1, I64 (4*(d:Int))), (2, Ptr nb4 (4*d)), (3, U8 (g8 t (4*d))), (4, I64 ((d:Int))), (5, I64 (4*(d:Int))), (6, I64 (4*(d:Int) + 1)), (7, Ptr nb4 (4*d + 1)), (8, U8 (g8 t (4*d + 1))), (9, I64 ((d:Int))), (10, I64 (4*(d:Int))), (11, I64 (4*(d:Int) + 2)), (12, Ptr nb4 (4*d + 2)), (13, U8 (g8 t (4*d + 2))), (14, I64 ((d:Int))), (15, I64 (4*(d:Int))), (16, I64 (4*(d:Int) + 3)), (17, Ptr nb4 (4*d + 3)), (18, U8 (g8 t (4*d + 3))), (19, U8 (g8 t (4*d))), (20, U8 (g8 t (4*d + 1))), (21, U8 (g8 t (4*d + 2))), (22, U8 (g8 t (4*d + 3)))] Try.mixed rfl (by decide +kernel) ?_
          refine DP_end ⟨[], [0, 1, 2, 3, 4, 5, 6, 7, 8, 9, 10, 11, 12, 13, 14, 15, 16, 17, 18, 19, 20, 21, 22], [], [0, 1, 2, 3, 4, 5, 6, 7, 8, 9, 10, 11, 12, 13, 14, 15, 16, 17, 18, 19, 20, 21, 22], []⟩ rfl rfl (by decide +kernel) rfl ⟨⟨_, rfl, Qok_val rfl (Ev_move rfl)⟩, ⟨_, rfl, Qok_val rfl (Ev_bini rfl rfl fun _ => bin_mul_i _ _ (4*(d:Int)) (by omega) (by omega))⟩, ⟨_, rfl, Qok_val rfl (Ev_indexArr 16 5 1 (4*d) Try.underlying27 Try.sizeOf5 rfl rfl (by omega) (by omega) (by omega))⟩, ⟨_, rfl, Qok_val rfl (Ev_load rfl (Ld_one Try.isAgg5 (MemAt.ent 2 rfl (Seg.get (g8_get (i := (4*d)) (by rw [ht]; omega))))))⟩, ⟨_, rfl, Qok_val rfl (Ev_move rfl)⟩, ⟨_, rfl, Qok_val rfl (Ev_bini rfl rfl fun _ => bin_mul_i _ _ (4*(d:Int)) (by omega) (by omega))⟩, ⟨_, rfl, Qok_val rfl (Ev_bini rfl rfl fun _ => bin_add_i _ _ (4*(d:Int) + 1) (by omega) (by omega))⟩, ⟨_, rfl, Qok_val rfl (Ev_indexArr 16 5 1 (4*d + 1) Try.underlying27 Try.sizeOf5 rfl rfl (by omega) (by omega) (by omega))⟩, ⟨_, rfl, Qok_val rfl (Ev_load rfl (Ld_one Try.isAgg5 (MemAt.ent 2 rfl (Seg.get (g8_get (i := (4*d + 1)) (by rw [ht]; omega))))))⟩, ⟨_, rfl, Qok_val rfl (Ev_move rfl)⟩, ⟨_, rfl, Qok_val rfl (Ev_bini rfl rfl fun _ => bin_mul_i _ _ (4*(d:Int)) (by omega) (by omega))⟩, ⟨_, rfl, Qok_val rfl (Ev_bini rfl rfl fun _ => bin_add_i _ _ (4*(d:Int) + 2) (by omega) (by omega))⟩, ⟨_, rfl, Qok_val rfl (Ev_indexArr 16 5 1 (4*d + 2) Try.underlying27 Try.sizeOf5 rfl rfl (by omega) (by omega) (by omega))⟩, ⟨_, rfl, Qok_val rfl (Ev_load rfl (Ld_one Try.isAgg5 (MemAt.ent 2 rfl (Seg.get (g8_get (i := (4*d + 2)) (by rw [ht]; omega))))))⟩, ⟨_, rfl, Qok_val rfl (Ev_move rfl)⟩, ⟨_, rfl, Qok_val rfl (Ev_bini rfl rfl fun _ => bin_mul_i _ _ (4*(d:Int)) (by omega) (by omega))⟩, ⟨_, rfl, Qok_val rfl (Ev_bini rfl rfl fun _ => bin_add_i _ _ (4*(d:Int) + 3) (by omega) (by omega))⟩, ⟨_, rfl, Qok_val rfl (Ev_indexArr 16 5 1 (4*d + 3) Try.underlying27 Try.sizeOf5 rfl rfl (by omega) (by omega) (by omega))⟩, ⟨_, rfl, Qok_val rfl (Ev_load rfl (Ld_one Try.isAgg5 (MemAt.ent 2 rfl (Seg.get (g8_get (i := (4*d + 3)) (by rw [ht]; omega))))))⟩, ⟨_, rfl, Qok_val rfl (Ev_assign rfl)⟩, ⟨_, rfl, Qok_val rfl (Ev_assign rfl)⟩, ⟨_, rfl, Qok_val rfl (Ev_assign rfl)⟩, ⟨_, rfl, Qok_val rfl (Ev_assign rfl)⟩, trivial⟩ ?_
          refine K_sub (F' := [(52, I64 ((d:Int))), (53, I64 (4*(d:Int))), (54, Ptr nb4 (4*d)), (55, U8 (g8 t (4*d))), (56, I64 ((d:Int))), (57, I64 (4*(d:Int))), (58, I64 (4*(d:Int) + 1)), (59, Ptr nb4 (4*d + 1)), (60, U8 (g8 t (4*d + 1))), (61, I64 ((d:Int))), (62, I64 (4*(d:Int))), (63, I64 (4*(d:Int) + 2)), (64, Ptr nb4 (4*d + 2)), (65, U8 (g8 t (4*d + 2))), (66, I64 ((d:Int))), (67, I64 (4*(d:Int))), (68, I64 (4*(d:Int) + 3)), (69, Ptr nb4 (4*d + 3)), (70, U8 (g8 t (4*d + 3))), (11, U8 (g8 t (4*d))), (12, U8 (g8 t (4*d + 1))), (13, U8 (g8 t (4*d + 2))), (14, U8 (g8 t (4*d + 3))), (0, Slc c 0 176 cap), (4, Ptr nb2 0), (5, Ptr nb3 0), (6, I64 ((n:Int))), (7, Ptr nb4 0), (8, I64 ((cc:Int))), (18, I64 ((n:Int))), (19, .bool (decide (((n:Int)) ≤ (10:Int)))), (22, I64 ((cc:Int))), (23, .bool (decide (((cc:Int)) < (4:Int)))), (45, .agg (cu8 t).toArray), (46, I64 ((n:Int))), (47, .bool (decide (((n:Int)) < (10:Int)))), (10, I64 ((d:Int))), (48, I64 ((d:Int))), (49, .bool (decide (((d:Int)) < (4:Int))))]) (Sub.cons (by kernel_rfl) (Sub.cons (by kernel_rfl) (Sub.cons (by kernel_rfl) (Sub.cons (by kernel_rfl) (Sub.cons (by kernel_rfl) (Sub.cons (by kernel_rfl) (Sub.cons (by kernel_rfl) (Sub.cons (by kernel_rfl) (Sub.cons (by kernel_rfl) (Sub.cons (by kernel_rfl) (Sub.cons (by kernel_rfl) (Sub.cons (by kernel_rfl) (Sub.cons (by kernel_rfl) (Sub.cons (by kernel_rfl) (Sub.cons (by kernel_rfl) (Sub.cons (by kernel_rfl) (Sub.cons (by kernel_rfl) (Sub.cons (by kernel_rfl) (Sub.cons (by kernel_rfl) (Sub.cons (by kernel_rfl) (Sub.cons (by kernel_rfl) (Sub.cons (by kernel_rfl) (Sub.cons (by kernel_rfl) (Sub.cons (by kernel_rfl) (Sub.cons (by kernel_rfl) (Sub.cons (by kernel_rfl) (Sub.cons (by kernel_rfl) (Sub.cons (by kernel_rfl) (Sub.cons (by kernel_rfl) (Sub.cons (by kernel_rfl) (Sub.cons (by kernel_rfl) (Sub.cons (by kernel_rfl) (Sub.cons (by kernel_rfl) (Sub.cons (by kernel_rfl) (Sub.cons (by kernel_rfl) (Sub.cons (by kernel_rfl) (Sub.cons (by kernel_rfl) (Sub.cons (by kernel_rfl) (Sub.cons (by kernel_rfl) (Sub.nil)))))))))))))))))))))))))))))))))))))))) ?_
          show JQ _ _ _ [(52, I64 ((d:Int))), (53, I64 (4*(d:Int))), (54, Ptr nb4 (4*d)), (55, U8 (g8 t (4*d))), (56, I64 ((d:Int))), (57, I64 (4*(d:Int))), (58, I64 (4*(d:Int) + 1)), (59, Ptr nb4 (4*d + 1)), (60, U8 (g8 t (4*d + 1))), (61, I64 ((d:Int))), (62, I64 (4*(d:Int))), (63, I64 (4*(d:Int) + 2)), (64, Ptr nb4 (4*d + 2)), (65, U8 (g8 t (4*d + 2))), (66, I64 ((d:Int))), (67, I64 (4*(d:Int))), (68, I64 (4*(d:Int) + 3)), (69, Ptr nb4 (4*d + 3)), (70, U8 (g8 t (4*d + 3))), (11, U8 (g8 t (4*d))), (12, U8 (g8 t (4*d + 1))), (13, U8 (g8 t (4*d + 2))), (14, U8 (g8 t (4*d + 3))), (0, Slc c 0 176 cap), (4, Ptr nb2 0), (5, Ptr nb3 0), (6, I64 ((n:Int))), (7, Ptr nb4 0), (8, I64 ((cc:Int))), (18, I64 ((n:Int))), (19, .bool (decide (((n:Int)) ≤ (10:Int)))), (22, I64 ((cc:Int))), (23, .bool (decide (((cc:Int)) < (4:Int)))), (45, .agg (cu8 t).toArray), (46, I64 ((n:Int))), (47, .bool (decide (((n:Int)) < (10:Int)))), (10, I64 ((d:Int))), (48, I64 ((d:Int))), (49, .bool (decide (((d:Int)) < (4:Int))))] _
          refine JQ_then ?_
          refine JC_seq ?_
          refine JC_region ?_
          refine JL_val _ (Ev_move rfl) rfl ?_
          refine JL_val (I64 (4*(d:Int))) (Ev_bini rfl rfl fun _ => bin_mul_i _ _ (4*(d:Int)) (by omega) (by omega)) rfl ?_
          refine JL_val _ (Ev_move rfl) rfl ?_
          refine JL_step (Step_callP 69 [U8 (g8 t (4*d))] (U8 (rdbl (g8 t (4*d)))) (Cl_func [U8 (g8 t (4*d))] Try.call69 rfl) (fun w1 _ => rdouble_c (g8 t (4*d)) w1)) rfl ?_
          rintro v1 L1 ⟨rfl, rfl⟩
          show JL _ _ _ _ ((74, U8 (rdbl (g8 t (4*d)))) :: _) [⟨nb2, cu8 (zr8 16), 27, (0, 0)⟩, ⟨nb3, cu8 m, 27, (0, 0)⟩, ⟨nb4, cu8 t, 27, (0, 0)⟩]
          refine JL_val _ (Ev_move rfl) rfl ?_
          refine JL_step (Step_callP 69 [U8 (g8 t (4*d + 1))] (U8 (rdbl (g8 t (4*d + 1)))) (Cl_func [U8 (g8 t (4*d + 1))] Try.call69 rfl) (fun w1 _ => rdouble_c (g8 t (4*d + 1)) w1)) rfl ?_
          rintro v1 L1 ⟨rfl, rfl⟩
          show JL _ _ _ _ ((76, U8 (rdbl (g8 t (4*d + 1)))) :: _) [⟨nb2, cu8 (zr8 16), 27, (0, 0)⟩, ⟨nb3, cu8 m, 27, (0, 0)⟩, ⟨nb4, cu8 t, 27, (0, 0)⟩]
          refine JL_val (U8 ((rdbl (g8 t (4*d))) ^^^ (rdbl (g8 t (4*d + 1))))) (Ev_bini rfl rfl fun _ => bin_xor_u8 (rdbl (g8 t (4*d))) (rdbl (g8 t (4*d + 1)))) rfl ?_
          refine JL_val _ (Ev_move rfl) rfl ?_
          refine JL_val (U8 (((rdbl (g8 t (4*d))) ^^^ (rdbl (g8 t (4*d + 1)))) ^^^ (g8 t (4*d + 1)))) (Ev_bini rfl rfl fun _ => bin_xor_u8 ((rdbl (g8 t (4*d))) ^^^ (rdbl (g8 t (4*d + 1)))) (g8 t (4*d + 1))) rfl ?_
          refine JL_val _ (Ev_move rfl) rfl ?_
          refine JL_val (U8 ((((rdbl (g8 t (4*d))) ^^^ (rdbl (g8 t (4*d + 1)))) ^^^ (g8 t (4*d + 1))) ^^^ (g8 t (4*d + 2)))) (Ev_bini rfl rfl fun _ => bin_xor_u8 (((rdbl (g8 t (4*d))) ^^^ (rdbl (g8 t (4*d + 1)))) ^^^ (g8 t (4*d + 1))) (g8 t (4*d + 2))) rfl ?_
          refine JL_val _ (Ev_move rfl) rfl ?_
          refine JL_val (U8 (((((rdbl (g8 t (4*d))) ^^^ (rdbl (g8 t (4*d + 1)))) ^^^ (g8 t (4*d + 1))) ^^^ (g8 t (4*d + 2))) ^^^ (g8 t (4*d + 3)))) (Ev_bini rfl rfl fun _ => bin_xor_u8 ((((rdbl (g8 t (4*d))) ^^^ (rdbl (g8 t (4*d + 1)))) ^^^ (g8 t (4*d + 1))) ^^^ (g8 t (4*d + 2))) (g8 t (4*d + 3))) rfl ?_
          refine JL_val (Ptr nb3 (4*d)) (Ev_indexArr 16 5 1 (4*d) Try.underlying27 Try.sizeOf5 rfl rfl (by omega) (by omega) (by omega)) rfl ?_
          have hl2 : (m.set (4*d) (((((rdbl (g8 t (4*d))) ^^^ (rdbl (g8 t (4*d + 1)))) ^^^ (g8 t (4*d + 1))) ^^^ (g8 t (4*d + 2))) ^^^ (g8 t (4*d + 3)))).length = 16 := by simp [hm2]
          refine JL_step (Step_store 1 nb3 (4*d) 1 (cu8 m) 27 (U8 (((((rdbl (g8 t (4*d))) ^^^ (rdbl (g8 t (4*d + 1)))) ^^^ (g8 t (4*d + 1))) ^^^ (g8 t (4*d + 2))) ^^^ (g8 t (4*d + 3)))) ([U8 (((((rdbl (g8 t (4*d))) ^^^ (rdbl (g8 t (4*d + 1)))) ^^^ (g8 t (4*d + 1))) ^^^ (g8 t (4*d + 2))) ^^^ (g8 t (4*d + 3)))]) (cu8 (m.set (4*d) (((((rdbl (g8 t (4*d))) ^^^ (rdbl (g8 t (4*d + 1)))) ^^^ (g8 t (4*d + 1))) ^^^ (g8 t (4*d + 2))) ^^^ (g8 t (4*d + 3))))) rfl rfl rfl rfl Try.sizeOf5 rfl (by simp [Value.oneCell']) (by simp [hm2]; try omega) (lay8 _ _ _ (by rw [hm2]; omega))) rfl ?_
          rintro v1 L1 ⟨rfl, rfl⟩
          show JL _ _ _ _ _ [⟨nb2, cu8 (zr8 16), 27, (0, 0)⟩, ⟨nb3, cu8 (m.set (4*d) (((((rdbl (g8 t (4*d))) ^^^ (rdbl (g8 t (4*d + 1)))) ^^^ (g8 t (4*d + 1))) ^^^ (g8 t (4*d + 2))) ^^^ (g8 t (4*d + 3)))), 27, (0, 0)⟩, ⟨nb4, cu8 t, 27, (0, 0)⟩]
          refine JL_nil ?_
          refine JQ_then ?_
          refine JC_seq ?_
          refine JC_region ?_
          refine JL_val _ (Ev_move rfl) rfl ?_
          refine JL_val (I64 (4*(d:Int))) (Ev_bini rfl rfl fun _ => bin_mul_i _ _ (4*(d:Int)) (by omega) (by omega)) rfl ?_
          refine JL_val (I64 (4*(d:Int) + 1)) (Ev_bini rfl rfl fun _ => bin_add_i _ _ (4*(d:Int) + 1) (by omega) (by omega)) rfl ?_
          refine JL_val _ (Ev_move rfl) rfl ?_
          refine JL_val _ (Ev_move rfl) rfl ?_
          refine JL_step (Step_callP 69 [U8 (g8 t (4*d + 1))] (U8 (rdbl (g8 t (4*d + 1)))) (Cl_func [U8 (g8 t (4*d + 1))] Try.call69 rfl) (fun w1 _ => rdouble_c (g8 t (4*d + 1)) w1)) rfl ?_
          rintro v1 L1 ⟨rfl, rfl⟩
          show JL _ _ _ _ ((90, U8 (rdbl (g8 t (4*d + 1)))) :: _) [⟨nb2, cu8 (zr8 16), 27, (0, 0)⟩, ⟨nb3, cu8 (m.set (4*d) (((((rdbl (g8 t (4*d))) ^^^ (rdbl (g8 t (4*d + 1)))) ^^^ (g8 t (4*d + 1))) ^^^ (g8 t (4*d + 2))) ^^^ (g8 t (4*d + 3)))), 27, (0, 0)⟩, ⟨nb4, cu8 t, 27, (0, 0)⟩]
          refine JL_val (U8 ((g8 t (4*d)) ^^^ (rdbl (g8 t (4*d + 1))))) (Ev_bini rfl rfl fun _ => bin_xor_u8 (g8 t (4*d)) (rdbl (g8 t (4*d + 1)))) rfl ?_
          refine JL_val _ (Ev_move rfl) rfl ?_
          refine JL_step (Step_callP 69 [U8 (g8 t (4*d + 2))] (U8 (rdbl (g8 t (4*d + 2)))) (Cl_func [U8 (g8 t (4*d + 2))] Try.call69 rfl) (fun w1 _ => rdouble_c (g8 t (4*d + 2)) w1)) rfl ?_
          rintro v1 L1 ⟨rfl, rfl⟩
          show JL _ _ _ _ ((93, U8 (rdbl (g8 t (4*d + 2)))) :: _) [⟨nb2, cu8 (zr8 16), 27, (0, 0)⟩, ⟨nb3, cu8 (m.set (4*d) (((((rdbl (g8 t (4*d))) ^^^ (rdbl (g8 t (4*d + 1)))) ^^^ (g8 t (4*d + 1))) ^^^ (g8 t (4*d + 2))) ^^^ (g8 t (4*d + 3)))), 27, (0, 0)⟩, ⟨nb4, cu8 t, 27, (0, 0)⟩]
          refine JL_val (U8 (((g8 t (4*d)) ^^^ (rdbl (g8 t (4*d + 1)))) ^^^ (rdbl (g8 t (4*d + 2))))) (Ev_bini rfl rfl fun _ => bin_xor_u8 ((g8 t (4*d)) ^^^ (rdbl (g8 t (4*d + 1)))) (rdbl (g8 t (4*d + 2)))) rfl ?_
          refine JL_val _ (Ev_move rfl) rfl ?_
          refine JL_val (U8 ((((g8 t (4*d)) ^^^ (rdbl (g8 t (4*d + 1)))) ^^^ (rdbl (g8 t (4*d + 2)))) ^^^ (g8 t (4*d + 2)))) (Ev_bini rfl rfl fun _ => bin_xor_u8 (((g8 t (4*d)) ^^^ (rdbl (g8 t (4*d + 1)))) ^^^ (rdbl (g8 t (4*d + 2)))) (g8 t (4*d + 2))) rfl ?_
          refine JL_val _ (Ev_move rfl) rfl ?_
          refine JL_val (U8 (((((g8 t (4*d)) ^^^ (rdbl (g8 t (4*d + 1)))) ^^^ (rdbl (g8 t (4*d + 2)))) ^^^ (g8 t (4*d + 2))) ^^^ (g8 t (4*d + 3)))) (Ev_bini rfl rfl fun _ => bin_xor_u8 ((((g8 t (4*d)) ^^^ (rdbl (g8 t (4*d + 1)))) ^^^ (rdbl (g8 t (4*d + 2)))) ^^^ (g8 t (4*d + 2))) (g8 t (4*d + 3))) rfl ?_
          refine JL_val (Ptr nb3 (4*d + 1)) (Ev_indexArr 16 5 1 (4*d + 1) Try.underlying27 Try.sizeOf5 rfl rfl (by omega) (by omega) (by omega)) rfl ?_
          have hl3 : ((m.set (4*d) (((((rdbl (g8 t (4*d))) ^^^ (rdbl (g8 t (4*d + 1)))) ^^^ (g8 t (4*d + 1))) ^^^ (g8 t (4*d + 2))) ^^^ (g8 t (4*d + 3)))).set (4*d + 1) (((((g8 t (4*d)) ^^^ (rdbl (g8 t (4*d + 1)))) ^^^ (rdbl (g8 t (4*d + 2)))) ^^^ (g8 t (4*d + 2))) ^^^ (g8 t (4*d + 3)))).length = 16 := by simp [hl2]
          refine JL_step (Step_store 1 nb3 (4*d + 1) 1 (cu8 (m.set (4*d) (((((rdbl (g8 t (4*d))) ^^^ (rdbl (g8 t (4*d + 1)))) ^^^ (g8 t (4*d + 1))) ^^^ (g8 t (4*d + 2))) ^^^ (g8 t (4*d + 3))))) 27 (U8 (((((g8 t (4*d)) ^^^ (rdbl (g8 t (4*d + 1)))) ^^^ (rdbl (g8 t (4*d + 2)))) ^^^ (g8 t (4*d + 2))) ^^^ (g8 t (4*d + 3)))) ([U8 (((((g8 t (4*d)) ^^^ (rdbl (g8 t (4*d + 1)))) ^^^ (rdbl (g8 t (4*d + 2)))) ^^^ (g8 t (4*d + 2))) ^^^ (g8 t (4*d + 3)))]) (cu8 ((m.set (4*d) (((((rdbl (g8 t (4*d))) ^^^ (rdbl (g8 t (4*d + 1)))) ^^^ (g8 t (4*d + 1))) ^^^ (g8 t (4*d + 2))) ^^^ (g8 t (4*d + 3)))).set (4*d + 1) (((((g8 t (4*d)) ^^^ (rdbl (g8 t (4*d + 1)))) ^^^ (rdbl (g8 t (4*d + 2)))) ^^^ (g8 t (4*d + 2))) ^^^ (g8 t (4*d + 3))))) rfl rfl rfl rfl Try.sizeOf5 rfl (by simp [Value.oneCell']) (by simp [hl2]; try omega) (lay8 _ _ _ (by rw [hl2]; omega))) rfl ?_
          rintro v1 L1 ⟨rfl, rfl⟩
          show JL _ _ _ _ _ [⟨nb2, cu8 (zr8 16), 27, (0, 0)⟩, ⟨nb3, cu8 ((m.set (4*d) (((((rdbl (g8 t (4*d))) ^^^ (rdbl (g8 t (4*d + 1)))) ^^^ (g8 t (4*d + 1))) ^^^ (g8 t (4*d + 2))) ^^^ (g8 t (4*d + 3)))).set (4*d + 1) (((((g8 t (4*d)) ^^^ (rdbl (g8 t (4*d + 1)))) ^^^ (rdbl (g8 t (4*d + 2)))) ^^^ (g8 t (4*d + 2))) ^^^ (g8 t (4*d + 3)))), 27, (0, 0)⟩, ⟨nb4, cu8 t, 27, (0, 0)⟩]
          refine JL_nil ?_
          refine JQ_then ?_
          refine JC_seq ?_
          refine JC_region ?_
          refine JL_val _ (Ev_move rfl) rfl ?_
          refine JL_val (I64 (4*(d:Int))) (Ev_bini rfl rfl fun _ => bin_mul_i _ _ (4*(d:Int)) (by omega) (by omega)) rfl ?_
          refine JL_val (I64 (4*(d:Int) + 2)) (Ev_bini rfl rfl fun _ => bin_add_i _ _ (4*(d:Int) + 2) (by omega) (by omega)) rfl ?_
          refine JL_val _ (Ev_move rfl) rfl ?_
          refine JL_val _ (Ev_move rfl) rfl ?_
          refine JL_val (U8 ((g8 t (4*d)) ^^^ (g8 t (4*d + 1)))) (Ev_bini rfl rfl fun _ => bin_xor_u8 (g8 t (4*d)) (g8 t (4*d + 1))) rfl ?_
          refine JL_val _ (Ev_move rfl) rfl ?_
          refine JL_step (Step_callP 69 [U8 (g8 t (4*d + 2))] (U8 (rdbl (g8 t (4*d + 2)))) (Cl_func [U8 (g8 t (4*d + 2))] Try.call69 rfl) (fun w1 _ => rdouble_c (g8 t (4*d + 2)) w1)) rfl ?_
          rintro v1 L1 ⟨rfl, rfl⟩
          show JL _ _ _ _ ((107, U8 (rdbl (g8 t (4*d + 2)))) :: _) [⟨nb2, cu8 (zr8 16), 27, (0, 0)⟩, ⟨nb3, cu8 ((m.set (4*d) (((((rdbl (g8 t (4*d))) ^^^ (rdbl (g8 t (4*d + 1)))) ^^^ (g8 t (4*d + 1))) ^^^ (g8 t (4*d + 2))) ^^^ (g8 t (4*d + 3)))).set (4*d + 1) (((((g8 t (4*d)) ^^^ (rdbl (g8 t (4*d + 1)))) ^^^ (rdbl (g8 t (4*d + 2)))) ^^^ (g8 t (4*d + 2))) ^^^ (g8 t (4*d + 3)))), 27, (0, 0)⟩, ⟨nb4, cu8 t, 27, (0, 0)⟩]
          refine JL_val (U8 (((g8 t (4*d)) ^^^ (g8 t (4*d + 1))) ^^^ (rdbl (g8 t (4*d + 2))))) (Ev_bini rfl rfl fun _ => bin_xor_u8 ((g8 t (4*d)) ^^^ (g8 t (4*d + 1))) (rdbl (g8 t (4*d + 2)))) rfl ?_
          refine JL_val _ (Ev_move rfl) rfl ?_
          refine JL_step (Step_callP 69 [U8 (g8 t (4*d + 3))] (U8 (rdbl (g8 t (4*d + 3)))) (Cl_func [U8 (g8 t (4*d + 3))] Try.call69 rfl) (fun w1 _ => rdouble_c (g8 t (4*d + 3)) w1)) rfl ?_
          rintro v1 L1 ⟨rfl, rfl⟩
          show JL _ _ _ _ ((110, U8 (rdbl (g8 t (4*d + 3)))) :: _) [⟨nb2, cu8 (zr8 16), 27, (0, 0)⟩, ⟨nb3, cu8 ((m.set (4*d) (((((rdbl (g8 t (4*d))) ^^^ (rdbl (g8 t (4*d + 1)))) ^^^ (g8 t (4*d + 1))) ^^^ (g8 t (4*d + 2))) ^^^ (g8 t (4*d + 3)))).set (4*d + 1) (((((g8 t (4*d)) ^^^ (rdbl (g8 t (4*d + 1)))) ^^^ (rdbl (g8 t (4*d + 2)))) ^^^ (g8 t (4*d + 2))) ^^^ (g8 t (4*d + 3)))), 27, (0, 0)⟩, ⟨nb4, cu8 t, 27, (0, 0)⟩]
          refine JL_val (U8 ((((g8 t (4*d)) ^^^ (g8 t (4*d + 1))) ^^^ (rdbl (g8 t (4*d + 2)))) ^^^ (rdbl (g8 t (4*d + 3))))) (Ev_bini rfl rfl fun _ => bin_xor_u8 (((g8 t (4*d)) ^^^ (g8 t (4*d + 1))) ^^^ (rdbl (g8 t (4*d + 2)))) (rdbl (g8 t (4*d + 3)))) rfl ?_
          refine JL_val _ (Ev_move rfl) rfl ?_
          refine JL_val (U8 (((((g8 t (4*d)) ^^^ (g8 t (4*d + 1))) ^^^ (rdbl (g8 t (4*d + 2)))) ^^^ (rdbl (g8 t (4*d + 3)))) ^^^ (g8 t (4*d + 3)))) (Ev_bini rfl rfl fun _ => bin_xor_u8 ((((g8 t (4*d)) ^^^ (g8 t (4*d + 1))) ^^^ (rdbl (g8 t (4*d + 2)))) ^^^ (rdbl (g8 t (4*d + 3)))) (g8 t (4*d + 3))) rfl ?_
          refine JL_val (Ptr nb3 (4*d + 2)) (Ev_indexArr 16 5 1 (4*d + 2) Try.underlying27 Try.sizeOf5 rfl rfl (by omega) (by omega) (by omega)) rfl ?_
          have hl4 : (((m.set (4*d) (((((rdbl (g8 t (4*d))) ^^^ (rdbl (g8 t (4*d + 1)))) ^^^ (g8 t (4*d + 1))) ^^^ (g8 t (4*d + 2))) ^^^ (g8 t (4*d + 3)))).set (4*d + 1) (((((g8 t (4*d)) ^^^ (rdbl (g8 t (4*d + 1)))) ^^^ (rdbl (g8 t (4*d + 2)))) ^^^ (g8 t (4*d + 2))) ^^^ (g8 t (4*d + 3)))).set (4*d + 2) (((((g8 t (4*d)) ^^^ (g8 t (4*d + 1))) ^^^ (rdbl (g8 t (4*d + 2)))) ^^^ (rdbl (g8 t (4*d + 3)))) ^^^ (g8 t (4*d + 3)))).length = 16 := by simp [hl3]
          refine JL_step (Step_store 1 nb3 (4*d + 2) 1 (cu8 ((m.set (4*d) (((((rdbl (g8 t (4*d))) ^^^ (rdbl (g8 t (4*d + 1)))) ^^^ (g8 t (4*d + 1))) ^^^ (g8 t (4*d + 2))) ^^^ (g8 t (4*d + 3)))).set (4*d + 1) (((((g8 t (4*d)) ^^^ (rdbl (g8 t (4*d + 1)))) ^^^ (rdbl (g8 t (4*d + 2)))) ^^^ (g8 t (4*d + 2))) ^^^ (g8 t (4*d + 3))))) 27 (U8 (((((g8 t (4*d)) ^^^ (g8 t (4*d + 1))) ^^^ (rdbl (g8 t (4*d + 2)))) ^^^ (rdbl (g8 t (4*d + 3)))) ^^^ (g8 t (4*d + 3)))) ([U8 (((((g8 t (4*d)) ^^^ (g8 t (4*d + 1))) ^^^ (rdbl (g8 t (4*d + 2)))) ^^^ (rdbl (g8 t (4*d + 3)))) ^^^ (g8 t (4*d + 3)))]) (cu8 (((m.set (4*d) (((((rdbl (g8 t (4*d))) ^^^ (rdbl (g8 t (4*d + 1)))) ^^^ (g8 t (4*d + 1))) ^^^ (g8 t (4*d + 2))) ^^^ (g8 t (4*d + 3)))).set (4*d + 1) (((((g8 t (4*d)) ^^^ (rdbl (g8 t (4*d + 1)))) ^^^ (rdbl (g8 t (4*d + 2)))) ^^^ (g8 t (4*d + 2))) ^^^ (g8 t (4*d + 3)))).set (4*d + 2) (((((g8 t (4*d)) ^^^ (g8 t (4*d + 1))) ^^^ (rdbl (g8 t (4*d + 2)))) ^^^ (rdbl (g8 t (4*d + 3)))) ^^^ (g8 t (4*d + 3))))) rfl rfl rfl rfl Try.sizeOf5 rfl (by simp [Value.oneCell']) (by simp [hl3]; try omega) (lay8 _ _ _ (by rw [hl3]; omega))) rfl ?_
          rintro v1 L1 ⟨rfl, rfl⟩
          show JL _ _ _ _ _ [⟨nb2, cu8 (zr8 16), 27, (0, 0)⟩, ⟨nb3, cu8 (((m.set (4*d) (((((rdbl (g8 t (4*d))) ^^^ (rdbl (g8 t (4*d + 1)))) ^^^ (g8 t (4*d + 1))) ^^^ (g8 t (4*d + 2))) ^^^ (g8 t (4*d + 3)))).set (4*d + 1) (((((g8 t (4*d)) ^^^ (rdbl (g8 t (4*d + 1)))) ^^^ (rdbl (g8 t (4*d + 2)))) ^^^ (g8 t (4*d + 2))) ^^^ (g8 t (4*d + 3)))).set (4*d + 2) (((((g8 t (4*d)) ^^^ (g8 t (4*d + 1))) ^^^ (rdbl (g8 t (4*d + 2)))) ^^^ (rdbl (g8 t (4*d + 3)))) ^^^ (g8 t (4*d + 3)))), 27, (0, 0)⟩, ⟨nb4, cu8 t, 27, (0, 0)⟩]
          refine JL_nil ?_
          refine JQ_then ?_
          refine JC_region ?_
          refine JL_val _ (Ev_move rfl) rfl ?_
          refine JL_val (I64 (4*(d:Int))) (Ev_bini rfl rfl fun _ => bin_mul_i _ _ (4*(d:Int)) (by omega) (by omega)) rfl ?_
          refine JL_val (I64 (4*(d:Int) + 3)) (Ev_bini rfl rfl fun _ => bin_add_i _ _ (4*(d:Int) + 3) (by omega) (by omega)) rfl ?_
          refine JL_val _ (Ev_move rfl) rfl ?_
          refine JL_step (Step_callP 69 [U8 (g8 t (4*d))] (U8 (rdbl (g8 t (4*d)))) (Cl_func [U8 (g8 t (4*d))] Try.call69 rfl) (fun w1 _ => rdouble_c (g8 t (4*d)) w1)) rfl ?_
          rintro v1 L1 ⟨rfl, rfl⟩
          show JL _ _ _ _ ((119, U8 (rdbl (g8 t (4*d)))) :: _) [⟨nb2, cu8 (zr8 16), 27, (0, 0)⟩, ⟨nb3, cu8 (((m.set (4*d) (((((rdbl (g8 t (4*d))) ^^^ (rdbl (g8 t (4*d + 1)))) ^^^ (g8 t (4*d + 1))) ^^^ (g8 t (4*d + 2))) ^^^ (g8 t (4*d + 3)))).set (4*d + 1) (((((g8 t (4*d)) ^^^ (rdbl (g8 t (4*d + 1)))) ^^^ (rdbl (g8 t (4*d + 2)))) ^^^ (g8 t (4*d + 2))) ^^^ (g8 t (4*d + 3)))).set (4*d + 2) (((((g8 t (4*d)) ^^^ (g8 t (4*d + 1))) ^^^ (rdbl (g8 t (4*d + 2)))) ^^^ (rdbl (g8 t (4*d + 3)))) ^^^ (g8 t (4*d + 3)))), 27, (0, 0)⟩, ⟨nb4, cu8 t, 27, (0, 0)⟩]
          refine JL_val _ (Ev_move rfl) rfl ?_
          refine JL_val (U8 ((rdbl (g8 t (4*d))) ^^^ (g8 t (4*d)))) (Ev_bini rfl rfl fun _ => bin_xor_u8 (rdbl (g8 t (4*d))) (g8 t (4*d))) rfl ?_
          refine JL_val _ (Ev_move rfl) rfl ?_
          refine JL_val (U8 (((rdbl (g8 t (4*d))) ^^^ (g8 t (4*d))) ^^^ (g8 t (4*d + 1)))) (Ev_bini rfl rfl fun _ => bin_xor_u8 ((rdbl (g8 t (4*d))) ^^^ (g8 t (4*d))) (g8 t (4*d + 1))) rfl ?_
          refine JL_val _ (Ev_move rfl) rfl ?_
          refine JL_val (U8 ((((rdbl (g8 t (4*d))) ^^^ (g8 t (4*d))) ^^^ (g8 t (4*d + 1))) ^^^ (g8 t (4*d + 2)))) (Ev_bini rfl rfl fun _ => bin_xor_u8 (((rdbl (g8 t (4*d))) ^^^ (g8 t (4*d))) ^^^ (g8 t (4*d + 1))) (g8 t (4*d + 2))) rfl ?_
          refine JL_val _ (Ev_move rfl) rfl ?_
          refine JL_step (Step_callP 69 [U8 (g8 t (4*d + 3))] (U8 (rdbl (g8 t (4*d + 3)))) (Cl_func [U8 (g8 t (4*d + 3))] Try.call69 rfl) (fun w1 _ => rdouble_c (g8 t (4*d + 3)) w1)) rfl ?_
          rintro v1 L1 ⟨rfl, rfl⟩
          show JL _ _ _ _ ((127, U8 (rdbl (g8 t (4*d + 3)))) :: _) [⟨nb2, cu8 (zr8 16), 27, (0, 0)⟩, ⟨nb3, cu8 (((m.set (4*d) (((((rdbl (g8 t (4*d))) ^^^ (rdbl (g8 t (4*d + 1)))) ^^^ (g8 t (4*d + 1))) ^^^ (g8 t (4*d + 2))) ^^^ (g8 t (4*d + 3)))).set (4*d + 1) (((((g8 t (4*d)) ^^^ (rdbl (g8 t (4*d + 1)))) ^^^ (rdbl (g8 t (4*d + 2)))) ^^^ (g8 t (4*d + 2))) ^^^ (g8 t (4*d + 3)))).set (4*d + 2) (((((g8 t (4*d)) ^^^ (g8 t (4*d + 1))) ^^^ (rdbl (g8 t (4*d + 2)))) ^^^ (rdbl (g8 t (4*d + 3)))) ^^^ (g8 t (4*d + 3)))), 27, (0, 0)⟩, ⟨nb4, cu8 t, 27, (0, 0)⟩]
          refine JL_val (U8 (((((rdbl (g8 t (4*d))) ^^^ (g8 t (4*d))) ^^^ (g8 t (4*d + 1))) ^^^ (g8 t (4*d + 2))) ^^^ (rdbl (g8 t (4*d + 3))))) (Ev_bini rfl rfl fun _ => bin_xor_u8 ((((rdbl (g8 t (4*d))) ^^^ (g8 t (4*d))) ^^^ (g8 t (4*d + 1))) ^^^ (g8 t (4*d + 2))) (rdbl (g8 t (4*d + 3)))) rfl ?_
          refine JL_val (Ptr nb3 (4*d + 3)) (Ev_indexArr 16 5 1 (4*d + 3) Try.underlying27 Try.sizeOf5 rfl rfl (by omega) (by omega) (by omega)) rfl ?_
          have hl5 : ((((m.set (4*d) (((((rdbl (g8 t (4*d))) ^^^ (rdbl (g8 t (4*d + 1)))) ^^^ (g8 t (4*d + 1))) ^^^ (g8 t (4*d + 2))) ^^^ (g8 t (4*d + 3)))).set (4*d + 1) (((((g8 t (4*d)) ^^^ (rdbl (g8 t (4*d + 1)))) ^^^ (rdbl (g8 t (4*d + 2)))) ^^^ (g8 t (4*d + 2))) ^^^ (g8 t (4*d + 3)))).set (4*d + 2) (((((g8 t (4*d)) ^^^ (g8 t (4*d + 1))) ^^^ (rdbl (g8 t (4*d + 2)))) ^^^ (rdbl (g8 t (4*d + 3)))) ^^^ (g8 t (4*d + 3)))).set (4*d + 3) (((((rdbl (g8 t (4*d))) ^^^ (g8 t (4*d))) ^^^ (g8 t (4*d + 1))) ^^^ (g8 t (4*d + 2))) ^^^ (rdbl (g8 t (4*d + 3))))).length = 16 := by simp [hl4]
          refine JL_step (Step_store 1 nb3 (4*d + 3) 1 (cu8 (((m.set (4*d) (((((rdbl (g8 t (4*d))) ^^^ (rdbl (g8 t (4*d + 1)))) ^^^ (g8 t (4*d + 1))) ^^^ (g8 t (4*d + 2))) ^^^ (g8 t (4*d + 3)))).set (4*d + 1) (((((g8 t (4*d)) ^^^ (rdbl (g8 t (4*d + 1)))) ^^^ (rdbl (g8 t (4*d + 2)))) ^^^ (g8 t (4*d + 2))) ^^^ (g8 t (4*d + 3)))).set (4*d + 2) (((((g8 t (4*d)) ^^^ (g8 t (4*d + 1))) ^^^ (rdbl (g8 t (4*d + 2)))) ^^^ (rdbl (g8 t (4*d + 3)))) ^^^ (g8 t (4*d + 3))))) 27 (U8 (((((rdbl (g8 t (4*d))) ^^^ (g8 t (4*d))) ^^^ (g8 t (4*d + 1))) ^^^ (g8 t (4*d + 2))) ^^^ (rdbl (g8 t (4*d + 3))))) ([U8 (((((rdbl (g8 t (4*d))) ^^^ (g8 t (4*d))) ^^^ (g8 t (4*d + 1))) ^^^ (g8 t (4*d + 2))) ^^^ (rdbl (g8 t (4*d + 3))))]) (cu8 ((((m.set (4*d) (((((rdbl (g8 t (4*d))) ^^^ (rdbl (g8 t (4*d + 1)))) ^^^ (g8 t (4*d + 1))) ^^^ (g8 t (4*d + 2))) ^^^ (g8 t (4*d + 3)))).set (4*d + 1) (((((g8 t (4*d)) ^^^ (rdbl (g8 t (4*d + 1)))) ^^^ (rdbl (g8 t (4*d + 2)))) ^^^ (g8 t (4*d + 2))) ^^^ (g8 t (4*d + 3)))).set (4*d + 2) (((((g8 t (4*d)) ^^^ (g8 t (4*d + 1))) ^^^ (rdbl (g8 t (4*d + 2)))) ^^^ (rdbl (g8 t (4*d + 3)))) ^^^ (g8 t (4*d + 3)))).set (4*d + 3) (((((rdbl (g8 t (4*d))) ^^^ (g8 t (4*d))) ^^^ (g8 t (4*d + 1))) ^^^ (g8 t (4*d + 2))) ^^^ (rdbl (g8 t (4*d + 3)))))) rfl rfl rfl rfl Try.sizeOf5 rfl (by simp [Value.oneCell']) (by simp [hl4]; try omega) (lay8 _ _ _ (by rw [hl4]; omega))) rfl ?_
          rintro v1 L1 ⟨rfl, rfl⟩
          show JL _ _ _ _ _ [⟨nb2, cu8 (zr8 16), 27, (0, 0)⟩, ⟨nb3, cu8 ((((m.set (4*d) (((((rdbl (g8 t (4*d))) ^^^ (rdbl (g8 t (4*d + 1)))) ^^^ (g8 t (4*d + 1))) ^^^ (g8 t (4*d + 2))) ^^^ (g8 t (4*d + 3)))).set (4*d + 1) (((((g8 t (4*d)) ^^^ (rdbl (g8 t (4*d + 1)))) ^^^ (rdbl (g8 t (4*d + 2)))) ^^^ (g8 t (4*d + 2))) ^^^ (g8 t (4*d + 3)))).set (4*d + 2) (((((g8 t (4*d)) ^^^ (g8 t (4*d + 1))) ^^^ (rdbl (g8 t (4*d + 2)))) ^^^ (rdbl (g8 t (4*d + 3)))) ^^^ (g8 t (4*d + 3)))).set (4*d + 3) (((((rdbl (g8 t (4*d))) ^^^ (g8 t (4*d))) ^^^ (g8 t (4*d + 1))) ^^^ (g8 t (4*d + 2))) ^^^ (rdbl (g8 t (4*d + 3))))), 27, (0, 0)⟩, ⟨nb4, cu8 t, 27, (0, 0)⟩]
          refine JL_nil ?_
          refine JQ_in_normal ?_
          refine JQ_then ?_
          refine JC_region ?_
          refine JL_val _ (Ev_move rfl) rfl ?_
          refine JL_val (I64 ((d:Int) + 1)) (Ev_bini rfl rfl fun _ => bin_add_i _ _ ((d:Int) + 1) (by omega) (by omega)) rfl ?_
          refine JL_val _ (Ev_assign rfl) rfl ?_
          refine JL_nil ?_
          refine JQ_thenK ?_
          refine K_next (d + 1, (((m.set (4*d) (((((rdbl (g8 t (4*d))) ^^^ (rdbl (g8 t (4*d + 1)))) ^^^ (g8 t (4*d + 1))) ^^^ (g8 t (4*d + 2))) ^^^ (g8 t (4*d + 3)))).set (4*d + 1) (((((g8 t (4*d)) ^^^ (rdbl (g8 t (4*d + 1)))) ^^^ (rdbl (g8 t (4*d + 2)))) ^^^ (g8 t (4*d + 2))) ^^^ (g8 t (4*d + 3)))).set (4*d + 2) (((((g8 t (4*d)) ^^^ (g8 t (4*d + 1))) ^^^ (rdbl (g8 t (4*d + 2)))) ^^^ (rdbl (g8 t (4*d + 3)))) ^^^ (g8 t (4*d + 3)))).set (4*d + 3) (((((rdbl (g8 t (4*d))) ^^^ (g8 t (4*d))) ^^^ (g8 t (4*d + 1))) ^^^ (g8 t (4*d + 2))) ^^^ (rdbl (g8 t (4*d + 3))))) ⟨by omega, by rw [rmxN, ← hv2], hl5⟩ (by simp; omega) (Sub.cons rfl (Sub.cons rfl (Sub.cons rfl (Sub.cons rfl (Sub.cons rfl (Sub.cons rfl (Sub.cons rfl (Sub.cons rfl (Sub.cons rfl (Sub.cons rfl (Sub.cons rfl (Sub.cons rfl (Sub.cons rfl (Sub.cons rfl (Sub.nil))))))))))))))) rfl
        ·
          have hp5 : ¬ (((d:Int)) < (4:Int)) := of_decide_eq_false hb5
          refine JC_exit ?_
          refine JQ_then_exit ?_
          refine JQ_then_exit ?_
          refine JQ_in_same ?_
          refine JQ_then ?_
          refine JC_region ?_
          refine JL_val (.agg (cu8 m).toArray) (Ev_load rfl (Ld_agg Try.isAgg27 Try.sizeOf27 (len_cu8 hm2) (MemAt.ent 1 rfl (Seg.whole _)))) rfl ?_
          refine JL_val _ (Ev_move rfl) rfl ?_
          refine JL_val _ (Ev_move rfl) rfl ?_
          refine JL_step (Step_callP 76 [.agg (cu8 m).toArray, Slc c 0 176 cap, I64 ((n:Int))] (.agg (cu8 (raddL ks n m)).toArray) (Cl_func [.agg (cu8 m).toArray, Slc c 0 176 cap, I64 ((n:Int))] Try.call76 rfl) (fun w1 hw1 => radd_c m ks c cap n w1 hm2 hks (by omega) (RdA.of hw1 (MemAt.seg (hm.mem (by simp)) (Seg.whole _) (by omega)) (by simp [hks])))) rfl ?_
          rintro v1 L1 ⟨rfl, rfl⟩
          show JL _ _ _ _ ((133, .agg (cu8 (raddL ks n m)).toArray) :: _) [⟨nb2, cu8 (zr8 16), 27, (0, 0)⟩, ⟨nb3, cu8 m, 27, (0, 0)⟩, ⟨nb4, cu8 t, 27, (0, 0)⟩]
          refine JL_step (Step_store 1 nb3 0 16 (cu8 m) 27 (.agg (cu8 (raddL ks n m)).toArray) (cu8 (raddL ks n m)) (cu8 (raddL ks n m)) rfl rfl rfl (by first | rfl | simp) Try.sizeOf27 (len_cu8 (raddL_len hm2)) (by first | exact one_u8 | exact one_u32 | exact one_u64 | (simp [cu8, cu32, cu64, Value.oneCell']; done)) (by simp [hm2]) (lay_whole (by simp [hm2, (raddL_len hm2)]))) rfl ?_
          rintro v1 L1 ⟨rfl, rfl⟩
          show JL _ _ _ _ _ [⟨nb2, cu8 (zr8 16), 27, (0, 0)⟩, ⟨nb3, cu8 (raddL ks n m), 27, (0, 0)⟩, ⟨nb4, cu8 t, 27, (0, 0)⟩]
          refine JL_nil ?_
          refine JQ_in_normal ?_
          refine JQ_then ?_
          refine JC_region ?_
          refine JL_val _ (Ev_move rfl) rfl ?_
          refine JL_val (I64 ((n:Int) + 1)) (Ev_bini rfl rfl fun _ => bin_add_i _ _ ((n:Int) + 1) (by omega) (by omega)) rfl ?_
          refine JL_val _ (Ev_assign rfl) rfl ?_
          refine JL_nil ?_
          refine JQ_thenK ?_
          refine K_mask [true, true, false] ?_
          show K _ _ [⟨nb2, cu8 (zr8 16), 27, (0, 0)⟩, ⟨nb3, cu8 (raddL ks n m), 27, (0, 0)⟩] _
          refine K_next (n + 1, raddL ks n m) ⟨by omega, by omega, by rw [show n + 1 - 1 = (n - 1) + 1 from by omega, rencN, ← hx3]; simp only [rRound, show n - 1 + 1 = n from by omega]; rw [if_pos (by omega), hv2, hy2, show d = 4 from by omega, show cc = 4 from by omega], (raddL_len hm2)⟩ (by simp; omega) (Sub.cons rfl (Sub.cons rfl (Sub.cons rfl (Sub.cons rfl (Sub.nil))))) rfl
      ·
        have hp4 : ¬ (((n:Int)) < (10:Int)) := of_decide_eq_false hb4
        refine JC_skip ?_
        refine JQ_then ?_
        refine JC_region ?_
        refine JL_val (.agg (cu8 t).toArray) (Ev_load rfl (Ld_agg Try.isAgg27 Try.sizeOf27 (len_cu8 ht) (MemAt.ent 1 rfl (Seg.whole _)))) rfl ?_
        refine JL_val _ (Ev_move rfl) rfl ?_
        refine JL_val _ (Ev_move rfl) rfl ?_
        refine JL_step (Step_callP 76 [.agg (cu8 t).toArray, Slc c 0 176 cap, I64 ((n:Int))] (.agg (cu8 (raddL ks n t)).toArray) (Cl_func [.agg (cu8 t).toArray, Slc c 0 176 cap, I64 ((n:Int))] Try.call76 rfl) (fun w1 hw1 => radd_c t ks c cap n w1 ht hks (by omega) (RdA.of hw1 (MemAt.seg (hm.mem (by simp)) (Seg.whole _) (by omega)) (by simp [hks])))) rfl ?_
        rintro v1 L1 ⟨rfl, rfl⟩
        show JL _ _ _ _ ((133, .agg (cu8 (raddL ks n t)).toArray) :: _) [⟨nb2, cu8 (zr8 16), 27, (0, 0)⟩, ⟨nb3, cu8 t, 27, (0, 0)⟩, ⟨nb4, cu8 t, 27, (0, 0)⟩]
        refine JL_step (Step_store 1 nb3 0 16 (cu8 t) 27 (.agg (cu8 (raddL ks n t)).toArray) (cu8 (raddL ks n t)) (cu8 (raddL ks n t)) rfl rfl rfl (by first | rfl | simp) Try.sizeOf27 (len_cu8 (raddL_len ht)) (by first | exact one_u8 | exact one_u32 | exact one_u64 | (simp [cu8, cu32, cu64, Value.oneCell']; done)) (by simp [ht]) (lay_whole (by simp [ht, (raddL_len ht)]))) rfl ?_
        rintro v1 L1 ⟨rfl, rfl⟩
        show JL _ _ _ _ _ [⟨nb2, cu8 (zr8 16), 27, (0, 0)⟩, ⟨nb3, cu8 (raddL ks n t), 27, (0, 0)⟩, ⟨nb4, cu8 t, 27, (0, 0)⟩]
        refine JL_nil ?_
        refine JQ_in_normal ?_
        refine JQ_then ?_
        refine JC_region ?_
        refine JL_val _ (Ev_move rfl) rfl ?_
        refine JL_val (I64 ((n:Int) + 1)) (Ev_bini rfl rfl fun _ => bin_add_i _ _ ((n:Int) + 1) (by omega) (by omega)) rfl ?_
        refine JL_val _ (Ev_assign rfl) rfl ?_
        refine JL_nil ?_
        refine JQ_thenK ?_
        refine K_mask [true, true, false] ?_
        show K _ _ [⟨nb2, cu8 (zr8 16), 27, (0, 0)⟩, ⟨nb3, cu8 (raddL ks n t), 27, (0, 0)⟩] _
        refine K_next (n + 1, raddL ks n t) ⟨by omega, by omega, by rw [show n + 1 - 1 = (n - 1) + 1 from by omega, rencN, ← hx3]; simp only [rRound, show n - 1 + 1 = n from by omega]; rw [if_neg (by omega), hy2, show cc = 4 from by omega], (raddL_len ht)⟩ (by simp; omega) (Sub.cons rfl (Sub.cons rfl (Sub.cons rfl (Sub.cons rfl (Sub.nil))))) rfl
  ·
    have hp1 : ¬ (((n:Int)) ≤ (10:Int)) := of_decide_eq_false hb1
    refine JC_exit ?_
    refine JQ_then_exit ?_
    refine JQ_then_exit ?_
    refine JQ_in_same ?_
    refine JQ_then ?_
    refine JC_seq ?_
    refine JC_region ?_
    refine JL_val (.agg (cu8 s).toArray) (Ev_load rfl (Ld_agg Try.isAgg27 Try.sizeOf27 (len_cu8 hs) (MemAt.ent 1 rfl (Seg.whole _)))) rfl ?_
    refine JL_step (Step_store 0 nb2 0 16 (cu8 (zr8 16)) 27 (.agg (cu8 s).toArray) (cu8 s) (cu8 s) rfl rfl rfl (by first | rfl | simp) Try.sizeOf27 (len_cu8 hs) (by first | exact one_u8 | exact one_u32 | exact one_u64 | (simp [cu8, cu32, cu64, Value.oneCell']; done)) (by simp [(zr8_len 16)]) (lay_whole (by simp [(zr8_len 16), hs]))) rfl ?_
    rintro v1 L1 ⟨rfl, rfl⟩
    show JL _ _ _ _ _ [⟨nb2, cu8 s, 27, (0, 0)⟩, ⟨nb3, cu8 s, 27, (0, 0)⟩]
    refine JL_nil ?_
    refine JQ_then ?_
    refine JC_ret ?_
    refine JQ_ret (.agg (cu8 s).toArray) (res1 Try.results28 (RV_cell rfl (Ld_agg Try.isAgg27 Try.sizeOf27 (len_cu8 hs) (MemAt.ent 0 rfl (Seg.whole _))))) fun w1 hw1 => ?_
    have e1 : n = 11 := by omega
    subst e1
    rw [show s = rencL ks b from hx3]
    exact ⟨_, [], rfl, ⟨rfl, rfl⟩, hw1.sub (by simp) (by simp)⟩

end Go.Proofs.Ytncoifiafklkjaa
