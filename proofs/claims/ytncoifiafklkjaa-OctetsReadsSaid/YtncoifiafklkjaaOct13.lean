import Derived.Test.YtncoifiafklkjaaOct12
namespace Go.Proofs.Ytncoifiafklkjaa
open Go Go.Sx
set_option linter.unusedVariables false
set_option linter.unusedSimpArgs false
set_option maxRecDepth 100000
attribute [local irreducible] mid zr8 zr32 zr64 numK rnK ftN valK rvalK
theorem octReadsB_c (az : Option Addr) (nz cz : Nat) (b : List UInt8) (ab : Option Addr) (n cb : Nat) (al : List ActV) (w : World) (hb : b.length = nz ∧ nz ≤ cz ∧ cz ≤ maxLen ∧ RdB w [] az b) (hlen : al.length = n) (hG : ∀ a ∈ al, ActG w a) (hv : RdV w ab (al.flatMap actC)) (hnb : n ≤ 140737488351232) (h7 : 70000 < nz) : Calls Try.prog 12 #[.slice az nz cz, .slice ab n cb] w (Post w [] (fun v L => v = .bool true ∧ L = [])) := by
  have hmx : maxLen = 9223372036854775807 := rfl
  obtain ⟨hlb, hcz, hcz2, hrb⟩ := hb
  refine enter w [] 158 [] [.slice az nz cz, .slice ab n cb] Try.func12 rfl rfl (by simp) (Hp.start (by simp) (by simp) (by simp)) ?_
  show JC _ _ _ [(0, .slice az nz cz), (1, .slice ab n cb)] _
  refine JC_seq ?_
  refine JC_region ?_
  refine JL_val _ (Ev_assign rfl) rfl ?_
  refine JL_nil ?_
  refine JQ_then ?_
  refine JC_seq ?_
  refine JC_seq ?_
  refine JC_region ?_
  refine JL_step (Step_callP 38 [] (.bool true) (Cl_func [] Try.call38 rfl) (fun w1 hw1 => alive1_c  w1 )) rfl ?_
  rintro v1 L1 ⟨rfl, rfl⟩
  show JL _ _ _ _ ((21, .bool true) :: _) []
  refine JL_val (.bool (!true)) (Ev_not rfl) rfl ?_
  refine JL_nil ?_
  refine JQ_then ?_
  refine JC_condF _ rfl rfl ?_
  refine JC_skip ?_
  refine JQ_then ?_
  refine JC_seq ?_
  refine JC_seq ?_
  refine JC_region ?_
  refine JL_val _ (Ev_move rfl) rfl ?_
  refine JL_val (I64 ((nz:Int))) (Ev_len Try.underlying38 rfl) rfl ?_
  refine JL_val (.bool (decide ((70000:Int) < ((nz:Int))))) (Ev_bini rfl rfl fun _ => bin_gtr_i _ _) rfl ?_
  refine JL_val _ (Ev_move rfl) rfl ?_
  refine JL_gskip 3 26 false _ rfl rfl (decide_eq_true (by omega)) rfl ?_
  refine JL_gskip 3 26 false _ rfl rfl (decide_eq_true (by omega)) rfl ?_
  refine JL_val _ (Ev_pickT _ rfl (decide_eq_true (by omega)) rfl) rfl ?_
  refine JL_nil ?_
  refine JQ_then ?_
  refine JC_condT _ rfl rfl ?_
  refine JC_seq ?_
  refine JC_region ?_
  refine JL_val _ (Ev_assign rfl) rfl ?_
  refine JL_nil ?_
  refine JQ_then ?_
  refine JC_ret ?_
  refine JQ_then_ret ?_
  refine JQ_ret (.bool true) (res1 Try.results12 (RV_tmp rfl)) fun w1 hw1 => ?_
  exact ⟨_, [], rfl, ⟨by rw [show (true) = true from rfl], rfl⟩, hw1.sub (by simp) (by simp)⟩

theorem octReadsL_c (az : Option Addr) (nz cz : Nat) (b : List UInt8) (ab : Option Addr) (n cb : Nat) (al : List ActV) (w : World) (hb : b.length = nz ∧ nz ≤ cz ∧ cz ≤ maxLen ∧ RdB w [] az b) (hlen : al.length = n) (hG : ∀ a ∈ al, ActG w a) (hv : RdV w ab (al.flatMap actC)) (hnb : n ≤ 140737488351232) (h7 : nz ≤ 70000) (hlong : LongP al n) : Calls Try.prog 12 #[.slice az nz cz, .slice ab n cb] w (Post w [] (fun v L => v = .bool true ∧ L = [])) := by
  have hmx : maxLen = 9223372036854775807 := rfl
  obtain ⟨hlb, hcz, hcz2, hrb⟩ := hb
  refine enter w [] 158 [] [.slice az nz cz, .slice ab n cb] Try.func12 rfl rfl (by simp) (Hp.start (by simp) (by simp) (by simp)) ?_
  show JC _ _ _ [(0, .slice az nz cz), (1, .slice ab n cb)] _
  refine JC_seq ?_
  refine JC_region ?_
  refine JL_val _ (Ev_assign rfl) rfl ?_
  refine JL_nil ?_
  refine JQ_then ?_
  refine JC_seq ?_
  refine JC_seq ?_
  refine JC_region ?_
  refine JL_step (Step_callP 38 [] (.bool true) (Cl_func [] Try.call38 rfl) (fun w1 hw1 => alive1_c  w1 )) rfl ?_
  rintro v1 L1 ⟨rfl, rfl⟩
  show JL _ _ _ _ ((21, .bool true) :: _) []
  refine JL_val (.bool (!true)) (Ev_not rfl) rfl ?_
  refine JL_nil ?_
  refine JQ_then ?_
  refine JC_condF _ rfl rfl ?_
  refine JC_skip ?_
  refine JQ_then ?_
  refine JC_seq ?_
  refine JC_seq ?_
  refine JC_region ?_
  refine JL_val _ (Ev_move rfl) rfl ?_
  refine JL_val (I64 ((nz:Int))) (Ev_len Try.underlying38 rfl) rfl ?_
  refine JL_val (.bool (decide ((70000:Int) < ((nz:Int))))) (Ev_bini rfl rfl fun _ => bin_gtr_i _ _) rfl ?_
  refine JL_val _ (Ev_move rfl) rfl ?_
  refine JL_gval 3 26 false _ _ rfl rfl (decide_eq_false (by omega)) (Ev_move rfl) rfl ?_
  refine JL_gstep 3 26 false _ rfl rfl (decide_eq_false (by omega)) (Step_callP 39 [.slice ab n cb] (.bool (decide (LongP al n))) (Cl_func [.slice ab n cb] Try.call39 rfl) (fun w1 hw1 => long_c ab n cb al w1 hlen (actG_at hw1 rfl hG) (rdV_at hw1 rfl hv) hnb)) rfl ?_
  rintro v1 L1 ⟨rfl, rfl⟩
  show JL _ _ _ _ ((28, .bool (decide (LongP al n))) :: _) []
  refine JL_val _ (Ev_pickF _ rfl (decide_eq_false (by omega)) rfl) rfl ?_
  refine JL_nil ?_
  refine JQ_then ?_
  refine JC_condT _ rfl (decide_eq_true hlong) ?_
  refine JC_seq ?_
  refine JC_region ?_
  refine JL_val _ (Ev_assign rfl) rfl ?_
  refine JL_nil ?_
  refine JQ_then ?_
  refine JC_ret ?_
  refine JQ_then_ret ?_
  refine JQ_ret (.bool true) (res1 Try.results12 (RV_tmp rfl)) fun w1 hw1 => ?_
  exact ⟨_, [], rfl, ⟨by rw [show (true) = true from rfl], rfl⟩, hw1.sub (by simp) (by simp)⟩

set_option maxHeartbeats 4000000 in
theorem octReadsS_c (az : Option Addr) (nz cz : Nat) (b : List UInt8) (ab : Option Addr) (n cb : Nat) (al : List ActV) (w : World) (hb : b.length = nz ∧ nz ≤ cz ∧ cz ≤ maxLen ∧ RdB w [] az b) (hlen : al.length = n) (hG : ∀ a ∈ al, ActG w a) (hv : RdV w ab (al.flatMap actC)) (hnb : n ≤ 140737488351232) (h7 : nz ≤ 70000) (hlong : ¬ LongP al n) : Calls Try.prog 12 #[.slice az nz cz, .slice ab n cb] w (Post w [] (fun v L => v = .bool true ∧ L = [])) := by
  have hmx : maxLen = 9223372036854775807 := rfl
  obtain ⟨hlb, hcz, hcz2, hrb⟩ := hb
  obtain ⟨hl1, hl2⟩ : n ≤ 41 ∧ sumP al n ≤ 200000 := Classical.byContradiction fun h => hlong h
  refine enter w [] 158 [] [.slice az nz cz, .slice ab n cb] Try.func12 rfl rfl (by simp) (Hp.start (by simp) (by simp) (by simp)) ?_
  show JC _ _ _ [(0, .slice az nz cz), (1, .slice ab n cb)] _
  refine JC_seq ?_
  refine JC_region ?_
  refine JL_val _ (Ev_assign rfl) rfl ?_
  refine JL_nil ?_
  refine JQ_then ?_
  refine JC_seq ?_
  refine JC_seq ?_
  refine JC_region ?_
  refine JL_step (Step_callP 38 [] (.bool true) (Cl_func [] Try.call38 rfl) (fun w1 hw1 => alive1_c  w1 )) rfl ?_
  rintro v1 L1 ⟨rfl, rfl⟩
  show JL _ _ _ _ ((21, .bool true) :: _) []
  refine JL_val (.bool (!true)) (Ev_not rfl) rfl ?_
  refine JL_nil ?_
  refine JQ_then ?_
  refine JC_condF _ rfl rfl ?_
  refine JC_skip ?_
  refine JQ_then ?_
  refine JC_seq ?_
  refine JC_seq ?_
  refine JC_region ?_
  refine JL_val _ (Ev_move rfl) rfl ?_
  refine JL_val (I64 ((nz:Int))) (Ev_len Try.underlying38 rfl) rfl ?_
  refine JL_val (.bool (decide ((70000:Int) < ((nz:Int))))) (Ev_bini rfl rfl fun _ => bin_gtr_i _ _) rfl ?_
  refine JL_val _ (Ev_move rfl) rfl ?_
  refine JL_gval 3 26 false _ _ rfl rfl (decide_eq_false (by omega)) (Ev_move rfl) rfl ?_
  refine JL_gstep 3 26 false _ rfl rfl (decide_eq_false (by omega)) (Step_callP 39 [.slice ab n cb] (.bool (decide (LongP al n))) (Cl_func [.slice ab n cb] Try.call39 rfl) (fun w1 hw1 => long_c ab n cb al w1 hlen (actG_at hw1 rfl hG) (rdV_at hw1 rfl hv) hnb)) rfl ?_
  rintro v1 L1 ⟨rfl, rfl⟩
  show JL _ _ _ _ ((28, .bool (decide (LongP al n))) :: _) []
  refine JL_val _ (Ev_pickF _ rfl (decide_eq_false (by omega)) rfl) rfl ?_
  refine JL_nil ?_
  refine JQ_then ?_
  refine JC_condF _ rfl (decide_eq_false hlong) ?_
  refine JC_skip ?_
  refine JQ_then ?_
  refine JC_seq ?_
  refine JC_region ?_
  refine JL_step (Step_buildSlice0 5 1 Try.underlying38 Try.sizeOf5) rfl ?_
  rintro v1 L1 ⟨nb1, hnb1, rfl, rfl⟩
  show JL _ _ _ _ ((30, Slc nb1 0 0 0) :: _) [⟨nb1, [], 5, (0, 0)⟩]
  refine JL_val _ (Ev_move rfl) rfl ?_
  refine JL_step (Step_appM8 38 5 [true] (Slc nb1 0 0 0) 0 ([] : List UInt8) b az nz cz nz Try.underlying38 Try.info5 rfl (.inr ⟨nb1, [], 0, rfl, (by simp [take?, cu8, cu32, cu64]), rfl, (by simp), (by omega), (by unfold maxLen; omega)⟩) rfl (by simp [hlb]; try omega) (hrb.src) (by omega) (by unfold maxLen; omega) (by omega)) rfl ?_
  rintro v1 L1 ⟨nb2, sp1, cp1, hg1, rfl, rfl, ha1, ha2, ha3, ha4⟩
  show JL _ _ _ _ ((32, Slc nb2 0 nz cp1) :: _) [⟨nb2, cu8 (([] : List UInt8) ++ b) ++ sp1, 5, (0, 0)⟩]
  refine JL_val _ (Ev_assign rfl) rfl ?_
  refine JL_nil ?_
  refine JQ_then ?_
  refine JC_seq ?_
  refine JC_region ?_
  refine JL_val _ (Ev_move rfl) rfl ?_
  refine JL_step (Step_callN 52 [Slc nb2 0 nz cp1] _ (Cl_func [Slc nb2 0 nz cp1] Try.call52 rfl) (fun w1 hw1 => from_c (some ⟨nb2, 0, none⟩) nz cp1 (([] : List UInt8) ++ b) w1 rfl ha1 (by omega) (RdB.of hw1 (MemAt.ent 0 rfl (Seg.left (Seg.whole _))) (by simp)))) rfl ?_
  rintro v1 L1 ⟨_, ⟨nb3, nb4, sp2, cp2, rfl, rfl, hc1, hc2, hc3⟩, rfl⟩
  show JL _ _ _ _ ((34, Ptr nb3 0) :: _) [⟨nb2, cu8 (([] : List UInt8) ++ b) ++ sp1, 5, (0, 0)⟩, ⟨nb3, [.nilIface, Slc nb4 0 nz cp2], 123, (0, 0)⟩, ⟨nb4, cu8 (([] : List UInt8) ++ b) ++ sp2, 5, (0, 0)⟩]
  refine JL_val _ (Ev_move rfl) rfl ?_
  refine JL_val (.agg (List.toArray (α := Value) ([.slice az nz cz, I64 (0:Int)]))) (Ev_build [(0, .slice az nz cz)] _ rfl (fun _ => by kernel_rfl)) rfl ?_
  refine JL_step (Step_alloc _ ([.slice none 0 0, I64 (0:Int)]) Try.zeroValue85 (by kernel_rfl)) rfl ?_
  rintro v1 L1 ⟨nb5, hnb5, rfl, rfl⟩
  show JL _ _ _ _ ((7, Ptr nb5 0) :: _) [⟨nb2, cu8 (([] : List UInt8) ++ b) ++ sp1, 5, (0, 0)⟩, ⟨nb3, [.nilIface, Slc nb4 0 nz cp2], 123, (0, 0)⟩, ⟨nb4, cu8 (([] : List UInt8) ++ b) ++ sp2, 5, (0, 0)⟩, ⟨nb5, [.slice none 0 0, I64 (0:Int)], 85, (0, 0)⟩]
  refine JL_val _ (Ev_assign rfl) rfl ?_
  refine JL_step (Step_store 3 nb5 0 2 ([.slice none 0 0, I64 (0:Int)]) 85 (.agg (List.toArray (α := Value) ([.slice az nz cz, I64 (0:Int)]))) ([.slice az nz cz, I64 (0:Int)]) ([.slice az nz cz, I64 (0:Int)]) rfl rfl rfl (by first | rfl | simp) Try.sizeOf85 rfl (by simp [Value.oneCell']) (Nat.le_of_ble_eq_true rfl) (lay_whole (by simp []))) rfl ?_
  rintro v1 L1 ⟨rfl, rfl⟩
  show JL _ _ _ _ _ [⟨nb2, cu8 (([] : List UInt8) ++ b) ++ sp1, 5, (0, 0)⟩, ⟨nb3, [.nilIface, Slc nb4 0 nz cp2], 123, (0, 0)⟩, ⟨nb4, cu8 (([] : List UInt8) ++ b) ++ sp2, 5, (0, 0)⟩, ⟨nb5, [.slice az nz cz, I64 (0:Int)], 85, (0, 0)⟩]
  refine JL_nil ?_
  refine JQ_then ?_
  refine JC_seq ?_
  refine JC_seq ?_
  refine JC_region ?_
  refine JL_val _ (Ev_move rfl) rfl ?_
  refine JL_val (I64 ((nz:Int))) (Ev_len Try.underlying38 rfl) rfl ?_
  refine JL_val _ (Ev_move rfl) rfl ?_
  refine JL_nil ?_
  refine JQ_then ?_
  refine JC_block ?_
  refine JC_loop (ι := Nat × List UInt8) (fun ⟨j, o⟩ => [(1, .slice ab n cb), (4, .bool false), (5, Slc nb2 0 nz cp1), (6, Ptr nb3 0), (7, Ptr nb5 0), (38, I64 ((nz:Int))), (39, I64 ((j:Int)))]) (fun ⟨j, o⟩ => [⟨nb2, cu8 o ++ sp1, 5, (0, 0)⟩, ⟨nb3, [.nilIface, Slc nb4 0 nz cp2], 123, (0, 0)⟩, ⟨nb4, cu8 (([] : List UInt8) ++ b) ++ sp2, 5, (0, 0)⟩, ⟨nb5, [.slice az nz cz, I64 (0:Int)], 85, (0, 0)⟩]) (fun ⟨j, o⟩ => j ≤ nz ∧ o.length = nz) (fun ⟨j, o⟩ => nz - j) (0, ([] : List UInt8) ++ b) ⟨by omega, ha1⟩ (Sub.cons rfl (Sub.cons rfl (Sub.cons rfl (Sub.cons rfl (Sub.cons rfl (Sub.cons rfl (Sub.cons rfl (Sub.nil)))))))) rfl ?_
  rintro ⟨j, o⟩ ⟨hj1, ho⟩
  show JC _ _ _ [(1, .slice ab n cb), (4, .bool false), (5, Slc nb2 0 nz cp1), (6, Ptr nb3 0), (7, Ptr nb5 0), (38, I64 ((nz:Int))), (39, I64 ((j:Int)))] [⟨nb2, cu8 o ++ sp1, 5, (0, 0)⟩, ⟨nb3, [.nilIface, Slc nb4 0 nz cp2], 123, (0, 0)⟩, ⟨nb4, cu8 (([] : List UInt8) ++ b) ++ sp2, 5, (0, 0)⟩, ⟨nb5, [.slice az nz cz, I64 (0:Int)], 85, (0, 0)⟩]
  refine JC_seq ?_
  refine JC_region ?_
  refine JL_val (.bool (decide (((j:Int)) < ((nz:Int))))) (Ev_bini rfl rfl fun _ => bin_lss_i _ _) rfl ?_
  refine JL_nil ?_
  refine JQ_then ?_
  refine JC_seq ?_
  refine JC_cond (decide (((j:Int)) < ((nz:Int)))) rfl (fun hb1 => ?_) (fun hb1 => ?_)
  ·
    have hp1 : ((j:Int)) < ((nz:Int)) := of_decide_eq_true hb1
    refine JC_skip ?_
    refine JQ_then ?_
    refine JC_seq ?_
    refine JC_block ?_
    refine JC_seq ?_
    refine JC_region ?_
    refine JL_val _ (Ev_move rfl) rfl ?_
    refine JL_val _ (Ev_assign rfl) rfl ?_
    refine JL_nil ?_
    refine JQ_then ?_
    refine JC_region ?_
    refine JL_val _ (Ev_move rfl) rfl ?_
    refine JL_val _ (Ev_move rfl) rfl ?_
    refine JL_val (Ptr nb2 j) (Ev_indexSl 5 1 j Try.underlying38 Try.sizeOf5 rfl rfl (by omega) (by omega) (by omega)) rfl ?_
    refine JL_val (U8 (g8 o j)) (Ev_load rfl (Ld_one Try.isAgg5 (MemAt.ent 0 rfl (Seg.left (Seg.get (g8_get (i := j) (by rw [ho]; omega))))))) rfl ?_
    refine JL_val (U8 ((g8 o j) ^^^ (85:UInt8))) (Ev_bini rfl rfl fun _ => bin_xor_u8 (g8 o j) (85:UInt8)) rfl ?_
    refine JL_val (Ptr nb2 j) (Ev_indexSl 5 1 j Try.underlying38 Try.sizeOf5 rfl rfl (by omega) (by omega) (by omega)) rfl ?_
    have hl1 : (o.set j ((g8 o j) ^^^ (85:UInt8))).length = nz := by first | (rw [List.length_set]; exact ho) | simp [ho]
    refine JL_step (Step_store 0 nb2 j 1 (cu8 o ++ sp1) 5 (U8 ((g8 o j) ^^^ (85:UInt8))) ([U8 ((g8 o j) ^^^ (85:UInt8))]) (cu8 (o.set j ((g8 o j) ^^^ (85:UInt8))) ++ sp1) rfl rfl rfl rfl Try.sizeOf5 rfl (by simp [Value.oneCell']) (by simp [ho, ha2]; try omega) (lay_left (p := cu8 o) (vs := [U8 ((g8 o j) ^^^ (85:UInt8))]) (o := j) (by simp [ho]; omega) (lay8 _ _ _ (by rw [ho]; omega)))) rfl ?_
    rintro v1 L1 ⟨rfl, rfl⟩
    show JL _ _ _ _ _ [⟨nb2, cu8 (o.set j ((g8 o j) ^^^ (85:UInt8))) ++ sp1, 5, (0, 0)⟩, ⟨nb3, [.nilIface, Slc nb4 0 nz cp2], 123, (0, 0)⟩, ⟨nb4, cu8 (([] : List UInt8) ++ b) ++ sp2, 5, (0, 0)⟩, ⟨nb5, [.slice az nz cz, I64 (0:Int)], 85, (0, 0)⟩]
    refine JL_nil ?_
    refine JQ_in_normal ?_
    refine JQ_then ?_
    refine JC_region ?_
    refine JL_val (I64 ((j:Int) + 1)) (Ev_bini rfl rfl fun _ => bin_add_i _ _ ((j:Int) + 1) (by omega) (by omega)) rfl ?_
    refine JL_val _ (Ev_move rfl) rfl ?_
    refine JL_nil ?_
    refine JQ_thenK ?_
    refine K_next (j + 1, o.set j ((g8 o j) ^^^ (85:UInt8))) ⟨by omega, hl1⟩ (by first | (simp; omega) | simp | (dsimp only; omega) | omega) (Sub.cons rfl (Sub.cons rfl (Sub.cons rfl (Sub.cons rfl (Sub.cons rfl (Sub.cons rfl (Sub.cons rfl (Sub.nil)))))))) rfl
  ·
    have hp1 : ¬ (((j:Int)) < ((nz:Int))) := of_decide_eq_false hb1
    refine JC_exit ?_
    refine JQ_then_exit ?_
    refine JQ_then_exit ?_
    refine JQ_in_same ?_
    refine JQ_then ?_
    refine JC_seq ?_
    refine JC_seq ?_
    refine JC_region ?_
    refine JL_val _ (Ev_move rfl) rfl ?_
    refine JL_val (I64 ((n:Int))) (Ev_len Try.underlying60 rfl) rfl ?_
    refine JL_val _ (Ev_move rfl) rfl ?_
    refine JL_nil ?_
    refine JQ_then ?_
    refine JC_block ?_
    refine K_mask [false, true, true, true] ?_
    show JC _ _ _ _ [⟨nb3, [.nilIface, Slc nb4 0 nz cp2], 123, (0, 0)⟩, ⟨nb4, cu8 (([] : List UInt8) ++ b) ++ sp2, 5, (0, 0)⟩, ⟨nb5, [.slice az nz cz, I64 (0:Int)], 85, (0, 0)⟩]
    refine JC_loop (ι := Nat × Nat × List UInt8 × Nat × Option Addr × Nat × Option Addr × Nat) (fun ⟨q, e, y, yn, ao, c, am, cm⟩ => [(6, Ptr nb3 0), (7, Ptr nb5 0), (49, .slice ab n cb), (50, I64 ((n:Int))), (51, I64 ((q:Int)))]) (fun ⟨q, e, y, yn, ao, c, am, cm⟩ => [⟨nb3, [errV 36 e, .slice ao yn c], 123, (0, 0)⟩, ⟨nb4, cu8 (([] : List UInt8) ++ b) ++ sp2, 5, (0, 0)⟩, ⟨nb5, [.slice am yn cm, I64 ((e:Int))], 85, (0, 0)⟩]) (fun ⟨q, e, y, yn, ao, c, am, cm⟩ => q ≤ n ∧ y.length = yn ∧ yn ≤ c ∧ c ≤ maxLen ∧ yn ≤ cm ∧ cm ≤ maxLen ∧ yn ≤ 70000 ∧ (∀ w M, RdB w M (some ⟨nb4, 0, none⟩) (([] : List UInt8) ++ b) → RdB w M ao y) ∧ RdB w [] am y) (fun ⟨q, e, y, yn, ao, c, am, cm⟩ => n - q) (0, 0, (([] : List UInt8) ++ b), nz, some ⟨nb4, 0, none⟩, cp2, az, cz) ⟨by omega, ha1, by omega, hc3, hcz, hcz2, h7, fun _ _ h => h, (by rw [List.nil_append]; exact hrb)⟩ (Sub.cons rfl (Sub.cons rfl (Sub.cons rfl (Sub.cons rfl (Sub.cons rfl (Sub.nil)))))) rfl ?_
    rintro ⟨q, e, y, yn, ao, c, am, cm⟩ ⟨hx1, hyn, hc1, hc2, hc3, hc4, hc5, hA, hm⟩
    show JC _ _ _ [(6, Ptr nb3 0), (7, Ptr nb5 0), (49, .slice ab n cb), (50, I64 ((n:Int))), (51, I64 ((q:Int)))] [⟨nb3, [errV 36 e, .slice ao yn c], 123, (0, 0)⟩, ⟨nb4, cu8 (([] : List UInt8) ++ b) ++ sp2, 5, (0, 0)⟩, ⟨nb5, [.slice am yn cm, I64 ((e:Int))], 85, (0, 0)⟩]
    refine JC_seq ?_
    refine JC_region ?_
    refine JL_val (.bool (decide (((q:Int)) < ((n:Int))))) (Ev_bini rfl rfl fun _ => bin_lss_i _ _) rfl ?_
    refine JL_nil ?_
    refine JQ_then ?_
    refine JC_seq ?_
    refine JC_cond (decide (((q:Int)) < ((n:Int)))) rfl (fun hb2 => ?_) (fun hb2 => ?_)
    ·
      have hp2 : ((q:Int)) < ((n:Int)) := of_decide_eq_true hb2
      refine JC_skip ?_
      refine JQ_then ?_
      refine JC_seq ?_
      refine JC_block ?_
      refine JC_seq ?_
      obtain ⟨a, ha⟩ : ∃ a, al[q]? = some a := ⟨al[q]'(by omega), by simp⟩
      obtain ⟨rowb, rowo, hrowa, hrow⟩ := rows_at actC_len (by decide) hv ha
      have hG1 := hG _ (List.mem_of_getElem? ha)
      have hsum := sumP_succ ha
      have hsle : sumP al (q + 1) ≤ sumP al n := sumP_le al (by omega)
      obtain ⟨kd, s, nn, ax, p, cx, z⟩ := a
      obtain ⟨hkd, hsb, hz, hcn, hcc, hr, hp⟩ := hG1
      dsimp only [actC] at hkd hsb hz hcn hcc hr hp hrow hsum
      refine JC_region ?_
      refine JL_val (Ptr rowb (4*q + rowo)) (Ev_indexSlG 70 4 (4*q + rowo) Try.underlying60 Try.sizeOf70 rfl hrowa rfl (by omega) (by omega) (by omega)) rfl ?_
      refine JL_val (.agg (List.toArray (α := Value) ([I64 (kd), I64 (s), U64 nn, .slice ax p cx]))) (Ev_load rfl (Ld_agg Try.isAgg70 Try.sizeOf70 rfl (MemAt.seg (hrow.mem (by simp)) (Seg.whole _) (by omega)))) rfl ?_
      refine JL_step (Step_alloc _ ([I64 (0:Int), I64 (0:Int), U64 (0:UInt64), .slice none 0 0]) Try.zeroValue70 (by kernel_rfl)) rfl ?_
      rintro v1 L1 ⟨nb6, hnb6, rfl, rfl⟩
      show JL _ _ _ _ ((10, Ptr nb6 0) :: _) [⟨nb3, [errV 36 e, .slice ao yn c], 123, (0, 0)⟩, ⟨nb4, cu8 (([] : List UInt8) ++ b) ++ sp2, 5, (0, 0)⟩, ⟨nb5, [.slice am yn cm, I64 ((e:Int))], 85, (0, 0)⟩, ⟨nb6, [I64 (0:Int), I64 (0:Int), U64 (0:UInt64), .slice none 0 0], 70, (0, 0)⟩]
      refine JL_step (Step_store 3 nb6 0 4 ([I64 (0:Int), I64 (0:Int), U64 (0:UInt64), .slice none 0 0]) 70 (.agg (List.toArray (α := Value) ([I64 (kd), I64 (s), U64 nn, .slice ax p cx]))) ([I64 (kd), I64 (s), U64 nn, .slice ax p cx]) ([I64 (kd), I64 (s), U64 nn, .slice ax p cx]) rfl rfl rfl (by first | rfl | simp) Try.sizeOf70 rfl (by simp [Value.oneCell']) (Nat.le_of_ble_eq_true rfl) (lay_whole (by simp []))) rfl ?_
      rintro v1 L1 ⟨rfl, rfl⟩
      show JL _ _ _ _ _ [⟨nb3, [errV 36 e, .slice ao yn c], 123, (0, 0)⟩, ⟨nb4, cu8 (([] : List UInt8) ++ b) ++ sp2, 5, (0, 0)⟩, ⟨nb5, [.slice am yn cm, I64 ((e:Int))], 85, (0, 0)⟩, ⟨nb6, [I64 (kd), I64 (s), U64 nn, .slice ax p cx], 70, (0, 0)⟩]
      refine JL_nil ?_
      refine JQ_then ?_
      refine JC_seq ?_
      refine JC_seq ?_
      refine JC_region ?_
      refine JL_val (Ptr nb6 0) (Ev_fieldAddr 0 3 1 Try.underlying70 rfl Try.sizeOf3 rfl rfl) rfl ?_
      refine JL_val (I64 (kd)) (Ev_load rfl (Ld_one Try.isAgg3 (MemAt.ent 3 rfl (Seg.head)))) rfl ?_
      refine JL_val (U64 (u64i (kd))) (Ev_conv _ _ rfl fun _ => conv_i64_u64i (by rw [Try.underlying3]; rfl) Try.underlying49 (kd)) rfl ?_
      refine JL_val (U64 ((u64i (kd)) % (6:UInt64))) (Ev_bini rfl rfl fun _ => bin_rem_u64 (u64i (kd)) (6:UInt64) (by decide)) rfl ?_
      refine JL_nil ?_
      refine JQ_then ?_
      refine JC_block ?_
      refine JC_seq ?_
      refine JC_region ?_
      refine JL_val (.bool (decide (((u64i (kd)) % (6:UInt64)) = (0:UInt64)))) (Ev_bini rfl rfl fun _ => bin_eql_u64 ((u64i (kd)) % (6:UInt64)) (0:UInt64)) rfl ?_
      refine JL_val _ (Ev_assign rfl) rfl ?_
      refine JL_nil ?_
      refine JQ_then ?_
      refine JC_cond (decide (((u64i (kd)) % (6:UInt64)) = (0:UInt64))) rfl (fun hb3 => ?_) (fun hb3 => ?_)
      ·
        have hp3 : ((u64i (kd)) % (6:UInt64)) = (0:UInt64) := of_decide_eq_true hb3
        refine JC_seq ?_
        refine JC_region ?_
        refine JL_val (.agg (List.toArray (α := Value) ([.slice am yn cm, I64 ((e:Int))]))) (Ev_load rfl (Ld_agg Try.isAgg85 Try.sizeOf85 rfl (MemAt.ent 2 rfl (Seg.whole _)))) rfl ?_
        refine JL_val (Ptr nb6 1) (Ev_fieldAddr 1 3 1 Try.underlying70 rfl Try.sizeOf3 rfl rfl) rfl ?_
        refine JL_val (I64 (s)) (Ev_load rfl (Ld_one Try.isAgg3 (MemAt.ent 3 rfl (Seg.tail (Seg.head))))) rfl ?_
        have hz1 : (y).length = yn := hyn
        refine JL_step (Step_callN 53 [.agg (List.toArray (α := Value) ([.slice am yn cm, I64 ((e:Int))])), I64 (s)] _ (Cl_func [.agg (List.toArray (α := Value) ([.slice am yn cm, I64 ((e:Int))])), I64 (s)] Try.call53 rfl) (fun w1 hw1 => rread_w am yn cm e y (s) w1 hyn (by omega) (by omega) (by omega) (hm.at (M' := []) hw1 (by simp)))) rfl ?_
        rintro v1 L1 ⟨_, ⟨rfl, ao1, ca1, rfl, ⟨hA1, hb4, hb5, hb6⟩⟩, rfl⟩
        show JL _ _ _ _ ((78, .tuple #[U64 (nuV y e (s)), .agg (List.toArray (α := Value) ([.slice ao1 ((nuZ y e (s)).length) ca1, I64 ((okE e (decide (NuOk y e (s))):Int))]))]) :: _) [⟨nb3, [errV 36 e, .slice ao yn c], 123, (0, 0)⟩, ⟨nb4, cu8 (([] : List UInt8) ++ b) ++ sp2, 5, (0, 0)⟩, ⟨nb5, [.slice am yn cm, I64 ((e:Int))], 85, (0, 0)⟩, ⟨nb6, [I64 (kd), I64 (s), U64 nn, .slice ax p cx], 70, (0, 0)⟩]
        refine JL_val _ (Ev_move rfl) rfl ?_
        refine JL_val _ (Ev_extract rfl rfl) rfl ?_
        refine JL_val _ (Ev_extract rfl rfl) rfl ?_
        refine JL_step (Step_alloc _ ([.slice none 0 0, I64 (0:Int)]) Try.zeroValue85 (by kernel_rfl)) rfl ?_
        rintro v1 L1 ⟨nb7, hnb7, rfl, rfl⟩
        show JL _ _ _ _ ((12, Ptr nb7 0) :: _) [⟨nb3, [errV 36 e, .slice ao yn c], 123, (0, 0)⟩, ⟨nb4, cu8 (([] : List UInt8) ++ b) ++ sp2, 5, (0, 0)⟩, ⟨nb5, [.slice am yn cm, I64 ((e:Int))], 85, (0, 0)⟩, ⟨nb6, [I64 (kd), I64 (s), U64 nn, .slice ax p cx], 70, (0, 0)⟩, ⟨nb7, [.slice none 0 0, I64 (0:Int)], 85, (0, 0)⟩]
        refine JL_val _ (Ev_assign rfl) rfl ?_
        refine JL_step (Step_store 4 nb7 0 2 ([.slice none 0 0, I64 (0:Int)]) 85 (.agg (List.toArray (α := Value) ([.slice ao1 ((nuZ y e (s)).length) ca1, I64 ((okE e (decide (NuOk y e (s))):Int))]))) ([.slice ao1 ((nuZ y e (s)).length) ca1, I64 ((okE e (decide (NuOk y e (s))):Int))]) ([.slice ao1 ((nuZ y e (s)).length) ca1, I64 ((okE e (decide (NuOk y e (s))):Int))]) rfl rfl rfl (by first | rfl | simp) Try.sizeOf85 rfl (by simp [Value.oneCell']) (Nat.le_of_ble_eq_true rfl) (lay_whole (by simp []))) rfl ?_
        rintro v1 L1 ⟨rfl, rfl⟩
        show JL _ _ _ _ _ [⟨nb3, [errV 36 e, .slice ao yn c], 123, (0, 0)⟩, ⟨nb4, cu8 (([] : List UInt8) ++ b) ++ sp2, 5, (0, 0)⟩, ⟨nb5, [.slice am yn cm, I64 ((e:Int))], 85, (0, 0)⟩, ⟨nb6, [I64 (kd), I64 (s), U64 nn, .slice ax p cx], 70, (0, 0)⟩, ⟨nb7, [.slice ao1 ((nuZ y e (s)).length) ca1, I64 ((okE e (decide (NuOk y e (s))):Int))], 85, (0, 0)⟩]
        refine JL_nil ?_
        refine JQ_then ?_
        refine JC_seq ?_
        refine JC_region ?_
        refine JL_val (.agg (List.toArray (α := Value) ([.slice ao1 ((nuZ y e (s)).length) ca1, I64 ((okE e (decide (NuOk y e (s))):Int))]))) (Ev_load rfl (Ld_agg Try.isAgg85 Try.sizeOf85 rfl (MemAt.ent 4 rfl (Seg.whole _)))) rfl ?_
        refine JL_step (Step_store 2 nb5 0 2 ([.slice am yn cm, I64 ((e:Int))]) 85 (.agg (List.toArray (α := Value) ([.slice ao1 ((nuZ y e (s)).length) ca1, I64 ((okE e (decide (NuOk y e (s))):Int))]))) ([.slice ao1 ((nuZ y e (s)).length) ca1, I64 ((okE e (decide (NuOk y e (s))):Int))]) ([.slice ao1 ((nuZ y e (s)).length) ca1, I64 ((okE e (decide (NuOk y e (s))):Int))]) rfl rfl rfl (by first | rfl | simp) Try.sizeOf85 rfl (by simp [Value.oneCell']) (Nat.le_of_ble_eq_true rfl) (lay_whole (by simp []))) rfl ?_
        rintro v1 L1 ⟨rfl, rfl⟩
        show JL _ _ _ _ _ [⟨nb3, [errV 36 e, .slice ao yn c], 123, (0, 0)⟩, ⟨nb4, cu8 (([] : List UInt8) ++ b) ++ sp2, 5, (0, 0)⟩, ⟨nb5, [.slice ao1 ((nuZ y e (s)).length) ca1, I64 ((okE e (decide (NuOk y e (s))):Int))], 85, (0, 0)⟩, ⟨nb6, [I64 (kd), I64 (s), U64 nn, .slice ax p cx], 70, (0, 0)⟩, ⟨nb7, [.slice ao1 ((nuZ y e (s)).length) ca1, I64 ((okE e (decide (NuOk y e (s))):Int))], 85, (0, 0)⟩]
        refine JL_nil ?_
        refine JQ_then ?_
        refine JC_seq ?_
        refine JC_region ?_
        refine JL_val _ (Ev_move rfl) rfl ?_
        refine JL_val (Ptr nb6 1) (Ev_fieldAddr 1 3 1 Try.underlying70 rfl Try.sizeOf3 rfl rfl) rfl ?_
        refine JL_val (I64 (s)) (Ev_load rfl (Ld_one Try.isAgg3 (MemAt.ent 3 rfl (Seg.tail (Seg.head))))) rfl ?_
        have hz2 : (y).length = yn := hyn
        refine JL_step (Step_call 54 _ [true, false, false, false, false] [nb3] _ (Cl_func [Ptr nb3 0, I64 (s)] Try.call54 rfl) rfl (fun w1 hw1 => numR_w nb3 e ao yn c y (s) w1 (hw1.ent _ (List.mem_of_getElem? (i := 0) rfl)) hyn (by omega) (by omega) (by omega) (hA _ _ (RdB.of hw1 (MemAt.ent 1 rfl (Seg.left (Seg.whole _))) (by intro _; simp only [List.mem_cons, List.not_mem_nil, or_false, not_or]; exact hw1.ne (i := 1) (j := 0) rfl rfl (by decide)))))) rfl ?_
        rintro v1 L1 ⟨_, ⟨rfl, ao2, ca2, ⟨hA2, hb7, hb8, hb9⟩, rfl⟩, rfl⟩
        show JL _ _ _ _ ((85, U64 (nuV y e (s))) :: _) [⟨nb4, cu8 (([] : List UInt8) ++ b) ++ sp2, 5, (0, 0)⟩, ⟨nb5, [.slice ao1 ((nuZ y e (s)).length) ca1, I64 ((okE e (decide (NuOk y e (s))):Int))], 85, (0, 0)⟩, ⟨nb6, [I64 (kd), I64 (s), U64 nn, .slice ax p cx], 70, (0, 0)⟩, ⟨nb7, [.slice ao1 ((nuZ y e (s)).length) ca1, I64 ((okE e (decide (NuOk y e (s))):Int))], 85, (0, 0)⟩, ⟨nb3, [errV 36 (okE e (decide (NuOk y e (s)))), .slice ao2 ((nuZ y e (s)).length) ca2], 123, (0, 0)⟩]
        refine JL_val _ (Ev_move rfl) rfl ?_
        refine JL_val (.bool (decide ((nuV y e (s)) ≠ (nuV y e (s))))) (Ev_bini rfl rfl fun _ => bin_neq_u64 (nuV y e (s)) (nuV y e (s))) rfl ?_
        refine JL_nil ?_
        refine JQ_then ?_
        refine JC_condF _ rfl (decide_eq_false (fun h => h rfl)) ?_
        refine JC_skip ?_
        refine JQ_in_normal ?_
        refine JQ_then ?_
        refine JC_seq ?_
        refine JC_draw 158 3 [(0, Ptr nb3 0), (2, .agg (List.toArray (α := Value) ([.slice ao1 ((nuZ y e (s)).length) ca1, I64 ((okE e (decide (NuOk y e (s))):Int))])))] Try.mixed rfl (by decide +kernel) ?_
        refine DP_one ⟨[], [0, 2], [], [0, 2], [1]⟩ 1 _ rfl rfl (by decide +kernel) rfl ⟨⟨_, rfl, Qok_val rfl (Ev_move rfl)⟩, ⟨_, rfl, Qok_val rfl (Ev_load rfl (Ld_agg Try.isAgg85 Try.sizeOf85 rfl (MemAt.ent 1 rfl (Seg.whole _))))⟩, trivial⟩ rfl (Cok_step rfl (Step_callP 64 [Ptr nb3 0] (I64 ((leftN (okE e (decide (NuOk y e (s)))) ((nuZ y e (s)).length):Int))) (Cl_func [Ptr nb3 0] Try.call64 rfl) (fun w1 hw1 => left_w nb3 (okE e (decide (NuOk y e (s)))) ao2 ((nuZ y e (s)).length) ca2 w1 (RdA.of hw1 (MemAt.ent 4 rfl (Seg.whole _)) (by simp))))) ?_
        rintro v1 L1 ⟨rfl, rfl⟩
        refine ⟨[], ?_⟩
        show DP _ _ _ _ _ _ _ _ [⟨nb4, cu8 (([] : List UInt8) ++ b) ++ sp2, 5, (0, 0)⟩, ⟨nb5, [.slice ao1 ((nuZ y e (s)).length) ca1, I64 ((okE e (decide (NuOk y e (s))):Int))], 85, (0, 0)⟩, ⟨nb6, [I64 (kd), I64 (s), U64 nn, .slice ax p cx], 70, (0, 0)⟩, ⟨nb7, [.slice ao1 ((nuZ y e (s)).length) ca1, I64 ((okE e (decide (NuOk y e (s))):Int))], 85, (0, 0)⟩, ⟨nb3, [errV 36 (okE e (decide (NuOk y e (s)))), .slice ao2 ((nuZ y e (s)).length) ca2], 123, (0, 0)⟩]
        refine DP_one ⟨[1], [0, 2], [0], [2], [3]⟩ 3 _ rfl rfl (by decide +kernel) rfl ⟨⟨_, rfl, Qok_val rfl (Ev_load rfl (Ld_agg Try.isAgg85 Try.sizeOf85 rfl (MemAt.ent 1 rfl (Seg.whole _))))⟩, trivial⟩ rfl (Cok_step rfl (Step_callP 65 [.agg (List.toArray (α := Value) ([.slice ao1 ((nuZ y e (s)).length) ca1, I64 ((okE e (decide (NuOk y e (s))):Int))]))] (I64 ((leftN (okE e (decide (NuOk y e (s)))) ((nuZ y e (s)).length):Int))) (Cl_func [.agg (List.toArray (α := Value) ([.slice ao1 ((nuZ y e (s)).length) ca1, I64 ((okE e (decide (NuOk y e (s))):Int))]))] Try.call65 rfl) (fun w1 hw1 => rleft_w ao1 ((nuZ y e (s)).length) ca1 (okE e (decide (NuOk y e (s)))) w1 ))) ?_
        rintro v1 L1 ⟨rfl, rfl⟩
        refine ⟨[(4, .bool (decide (((leftN (okE e (decide (NuOk y e (s)))) ((nuZ y e (s)).length):Int)) ≠ ((leftN (okE e (decide (NuOk y e (s)))) ((nuZ y e (s)).length):Int)))))], ?_⟩
        show DP _ _ _ _ _ _ _ _ [⟨nb4, cu8 (([] : List UInt8) ++ b) ++ sp2, 5, (0, 0)⟩, ⟨nb5, [.slice ao1 ((nuZ y e (s)).length) ca1, I64 ((okE e (decide (NuOk y e (s))):Int))], 85, (0, 0)⟩, ⟨nb6, [I64 (kd), I64 (s), U64 nn, .slice ax p cx], 70, (0, 0)⟩, ⟨nb7, [.slice ao1 ((nuZ y e (s)).length) ca1, I64 ((okE e (decide (NuOk y e (s))):Int))], 85, (0, 0)⟩, ⟨nb3, [errV 36 (okE e (decide (NuOk y e (s)))), .slice ao2 ((nuZ y e (s)).length) ca2], 123, (0, 0)⟩]
        refine DP_end ⟨[1, 3], [0, 2, 4], [0, 2], [4], []⟩ rfl rfl (by decide +kernel) rfl ⟨⟨_, rfl, Qok_val rfl (Ev_bini rfl rfl fun _ => bin_neq_i _ _)⟩, trivial⟩ ?_
        refine K_sub (F' := [(146, Ptr nb3 0), (147, I64 ((leftN (okE e (decide (NuOk y e (s)))) ((nuZ y e (s)).length):Int))), (148, .agg (List.toArray (α := Value) ([.slice ao1 ((nuZ y e (s)).length) ca1, I64 ((okE e (decide (NuOk y e (s))):Int))]))), (149, I64 ((leftN (okE e (decide (NuOk y e (s)))) ((nuZ y e (s)).length):Int))), (150, .bool (decide (((leftN (okE e (decide (NuOk y e (s)))) ((nuZ y e (s)).length):Int)) ≠ ((leftN (okE e (decide (NuOk y e (s)))) ((nuZ y e (s)).length):Int))))), (6, Ptr nb3 0), (7, Ptr nb5 0), (49, .slice ab n cb), (50, I64 ((n:Int))), (51, I64 ((q:Int))), (52, .bool (decide (((q:Int)) < ((n:Int))))), (53, Ptr rowb (4*q + rowo)), (54, .agg (List.toArray (α := Value) ([I64 (kd), I64 (s), U64 nn, .slice ax p cx]))), (10, Ptr nb6 0), (55, Ptr nb6 0), (56, I64 (kd)), (57, U64 (u64i (kd))), (58, U64 ((u64i (kd)) % (6:UInt64))), (73, .bool (decide (((u64i (kd)) % (6:UInt64)) = (0:UInt64)))), (72, .bool (decide (((u64i (kd)) % (6:UInt64)) = (0:UInt64)))), (75, .agg (List.toArray (α := Value) ([.slice am yn cm, I64 ((e:Int))]))), (76, Ptr nb6 1), (77, I64 (s)), (78, .tuple #[U64 (nuV y e (s)), .agg (List.toArray (α := Value) ([.slice ao1 ((nuZ y e (s)).length) ca1, I64 ((okE e (decide (NuOk y e (s))):Int))]))]), (74, .tuple #[U64 (nuV y e (s)), .agg (List.toArray (α := Value) ([.slice ao1 ((nuZ y e (s)).length) ca1, I64 ((okE e (decide (NuOk y e (s))):Int))]))]), (79, U64 (nuV y e (s))), (80, .agg (List.toArray (α := Value) ([.slice ao1 ((nuZ y e (s)).length) ca1, I64 ((okE e (decide (NuOk y e (s))):Int))]))), (12, Ptr nb7 0), (11, U64 (nuV y e (s))), (81, .agg (List.toArray (α := Value) ([.slice ao1 ((nuZ y e (s)).length) ca1, I64 ((okE e (decide (NuOk y e (s))):Int))]))), (82, Ptr nb3 0), (83, Ptr nb6 1), (84, I64 (s)), (85, U64 (nuV y e (s))), (86, U64 (nuV y e (s))), (87, .bool (decide ((nuV y e (s)) ≠ (nuV y e (s)))))]) (Sub.cons (by kernel_rfl) (Sub.cons (by kernel_rfl) (Sub.cons (by kernel_rfl) (Sub.cons (by kernel_rfl) (Sub.cons (by kernel_rfl) (Sub.cons (by kernel_rfl) (Sub.cons (by kernel_rfl) (Sub.cons (by kernel_rfl) (Sub.cons (by kernel_rfl) (Sub.cons (by kernel_rfl) (Sub.cons (by kernel_rfl) (Sub.cons (by kernel_rfl) (Sub.cons (by kernel_rfl) (Sub.cons (by kernel_rfl) (Sub.cons (by kernel_rfl) (Sub.cons (by kernel_rfl) (Sub.cons (by kernel_rfl) (Sub.cons (by kernel_rfl) (Sub.cons (by kernel_rfl) (Sub.cons (by kernel_rfl) (Sub.cons (by kernel_rfl) (Sub.cons (by kernel_rfl) (Sub.cons (by kernel_rfl) (Sub.cons (by kernel_rfl) (Sub.cons (by kernel_rfl) (Sub.cons (by kernel_rfl) (Sub.cons (by kernel_rfl) (Sub.cons (by kernel_rfl) (Sub.cons (by kernel_rfl) (Sub.cons (by kernel_rfl) (Sub.cons (by kernel_rfl) (Sub.cons (by kernel_rfl) (Sub.cons (by kernel_rfl) (Sub.cons (by kernel_rfl) (Sub.cons (by kernel_rfl) (Sub.cons (by kernel_rfl) (Sub.nil))))))))))))))))))))))))))))))))))))) ?_
        show JQ _ _ _ [(146, Ptr nb3 0), (147, I64 ((leftN (okE e (decide (NuOk y e (s)))) ((nuZ y e (s)).length):Int))), (148, .agg (List.toArray (α := Value) ([.slice ao1 ((nuZ y e (s)).length) ca1, I64 ((okE e (decide (NuOk y e (s))):Int))]))), (149, I64 ((leftN (okE e (decide (NuOk y e (s)))) ((nuZ y e (s)).length):Int))), (150, .bool (decide (((leftN (okE e (decide (NuOk y e (s)))) ((nuZ y e (s)).length):Int)) ≠ ((leftN (okE e (decide (NuOk y e (s)))) ((nuZ y e (s)).length):Int))))), (6, Ptr nb3 0), (7, Ptr nb5 0), (49, .slice ab n cb), (50, I64 ((n:Int))), (51, I64 ((q:Int))), (52, .bool (decide (((q:Int)) < ((n:Int))))), (53, Ptr rowb (4*q + rowo)), (54, .agg (List.toArray (α := Value) ([I64 (kd), I64 (s), U64 nn, .slice ax p cx]))), (10, Ptr nb6 0), (55, Ptr nb6 0), (56, I64 (kd)), (57, U64 (u64i (kd))), (58, U64 ((u64i (kd)) % (6:UInt64))), (73, .bool (decide (((u64i (kd)) % (6:UInt64)) = (0:UInt64)))), (72, .bool (decide (((u64i (kd)) % (6:UInt64)) = (0:UInt64)))), (75, .agg (List.toArray (α := Value) ([.slice am yn cm, I64 ((e:Int))]))), (76, Ptr nb6 1), (77, I64 (s)), (78, .tuple #[U64 (nuV y e (s)), .agg (List.toArray (α := Value) ([.slice ao1 ((nuZ y e (s)).length) ca1, I64 ((okE e (decide (NuOk y e (s))):Int))]))]), (74, .tuple #[U64 (nuV y e (s)), .agg (List.toArray (α := Value) ([.slice ao1 ((nuZ y e (s)).length) ca1, I64 ((okE e (decide (NuOk y e (s))):Int))]))]), (79, U64 (nuV y e (s))), (80, .agg (List.toArray (α := Value) ([.slice ao1 ((nuZ y e (s)).length) ca1, I64 ((okE e (decide (NuOk y e (s))):Int))]))), (12, Ptr nb7 0), (11, U64 (nuV y e (s))), (81, .agg (List.toArray (α := Value) ([.slice ao1 ((nuZ y e (s)).length) ca1, I64 ((okE e (decide (NuOk y e (s))):Int))]))), (82, Ptr nb3 0), (83, Ptr nb6 1), (84, I64 (s)), (85, U64 (nuV y e (s))), (86, U64 (nuV y e (s))), (87, .bool (decide ((nuV y e (s)) ≠ (nuV y e (s)))))] _
        refine JQ_then ?_
        refine JC_condF _ rfl (by simp) ?_
        refine JC_skip ?_
        refine JQ_in_normal ?_
        refine JQ_then ?_
        refine JC_region ?_
        refine JL_val (I64 ((q:Int) + 1)) (Ev_bini rfl rfl fun _ => bin_add_i _ _ ((q:Int) + 1) (by omega) (by omega)) rfl ?_
        refine JL_val _ (Ev_move rfl) rfl ?_
        refine JL_nil ?_
        refine JQ_thenK ?_
        refine K_mask [true, true, false, false, true] ?_
        show K _ _ [⟨nb4, cu8 (([] : List UInt8) ++ b) ++ sp2, 5, (0, 0)⟩, ⟨nb5, [.slice ao1 ((nuZ y e (s)).length) ca1, I64 ((okE e (decide (NuOk y e (s))):Int))], 85, (0, 0)⟩, ⟨nb3, [errV 36 (okE e (decide (NuOk y e (s)))), .slice ao2 ((nuZ y e (s)).length) ca2], 123, (0, 0)⟩] _
        refine K_pick [2, 0, 1] (by decide) ?_
        show K _ _ [⟨nb3, [errV 36 (okE e (decide (NuOk y e (s)))), .slice ao2 ((nuZ y e (s)).length) ca2], 123, (0, 0)⟩, ⟨nb4, cu8 (([] : List UInt8) ++ b) ++ sp2, 5, (0, 0)⟩, ⟨nb5, [.slice ao1 ((nuZ y e (s)).length) ca1, I64 ((okE e (decide (NuOk y e (s))):Int))], 85, (0, 0)⟩] _
        refine K_next (q + 1, (okE e (decide (NuOk y e (s)))), (nuZ y e (s)), ((nuZ y e (s)).length), ao2, ca2, ao1, ca1) ⟨by omega, rfl, by omega, by omega, by omega, by omega, by omega, (fun w M h => hA2 w M (hA w M h)), (hA1 _ _ hm)⟩ (by first | (simp; omega) | simp | (dsimp only; omega) | omega) (Sub.cons rfl (Sub.cons rfl (Sub.cons rfl (Sub.cons rfl (Sub.cons rfl (Sub.nil)))))) rfl
      ·
        have hp3 : ¬ (((u64i (kd)) % (6:UInt64)) = (0:UInt64)) := of_decide_eq_false hb3
        refine JC_seq ?_
        refine JC_region ?_
        refine JL_val (.bool (decide (((u64i (kd)) % (6:UInt64)) = (1:UInt64)))) (Ev_bini rfl rfl fun _ => bin_eql_u64 ((u64i (kd)) % (6:UInt64)) (1:UInt64)) rfl ?_
        refine JL_val _ (Ev_assign rfl) rfl ?_
        refine JL_nil ?_
        refine JQ_then ?_
        refine JC_cond (decide (((u64i (kd)) % (6:UInt64)) = (1:UInt64))) rfl (fun hb10 => ?_) (fun hb10 => ?_)
        ·
          have hp10 : ((u64i (kd)) % (6:UInt64)) = (1:UInt64) := of_decide_eq_true hb10
          refine JC_seq ?_
          refine JC_region ?_
          refine JL_val (.agg (List.toArray (α := Value) ([.slice am yn cm, I64 ((e:Int))]))) (Ev_load rfl (Ld_agg Try.isAgg85 Try.sizeOf85 rfl (MemAt.ent 2 rfl (Seg.whole _)))) rfl ?_
          refine JL_val (Ptr nb6 1) (Ev_fieldAddr 1 3 1 Try.underlying70 rfl Try.sizeOf3 rfl rfl) rfl ?_
          refine JL_val (I64 (s)) (Ev_load rfl (Ld_one Try.isAgg3 (MemAt.ent 3 rfl (Seg.tail (Seg.head))))) rfl ?_
          have hz3 : (y).length = yn := hyn
          refine JL_step (Step_callN 55 [.agg (List.toArray (α := Value) ([.slice am yn cm, I64 ((e:Int))])), I64 (s)] _ (Cl_func [.agg (List.toArray (α := Value) ([.slice am yn cm, I64 ((e:Int))])), I64 (s)] Try.call55 rfl) (fun w1 hw1 => rfield_w am yn cm e y (s) w1 hyn (by omega) (by omega) (by omega) (hm.at (M' := []) hw1 (by simp)))) rfl ?_
          rintro v1 L1 ⟨_, ⟨rfl, ao4, ca4, ao3, ca3, rfl, hX1, ⟨hA3, hb11, hb12, hb13⟩⟩, rfl⟩
          show JL _ _ _ _ ((94, .tuple #[.slice ao4 ((fdV y e (s)).length) ca4, .agg (List.toArray (α := Value) ([.slice ao3 ((fdZ y e (s)).length) ca3, I64 ((okE e (decide (FdOk y e (s))):Int))]))]) :: _) [⟨nb3, [errV 36 e, .slice ao yn c], 123, (0, 0)⟩, ⟨nb4, cu8 (([] : List UInt8) ++ b) ++ sp2, 5, (0, 0)⟩, ⟨nb5, [.slice am yn cm, I64 ((e:Int))], 85, (0, 0)⟩, ⟨nb6, [I64 (kd), I64 (s), U64 nn, .slice ax p cx], 70, (0, 0)⟩]
          refine JL_val _ (Ev_move rfl) rfl ?_
          refine JL_val _ (Ev_extract rfl rfl) rfl ?_
          refine JL_val _ (Ev_extract rfl rfl) rfl ?_
          refine JL_step (Step_alloc _ ([.slice none 0 0, I64 (0:Int)]) Try.zeroValue85 (by kernel_rfl)) rfl ?_
          rintro v1 L1 ⟨nb8, hnb8, rfl, rfl⟩
          show JL _ _ _ _ ((14, Ptr nb8 0) :: _) [⟨nb3, [errV 36 e, .slice ao yn c], 123, (0, 0)⟩, ⟨nb4, cu8 (([] : List UInt8) ++ b) ++ sp2, 5, (0, 0)⟩, ⟨nb5, [.slice am yn cm, I64 ((e:Int))], 85, (0, 0)⟩, ⟨nb6, [I64 (kd), I64 (s), U64 nn, .slice ax p cx], 70, (0, 0)⟩, ⟨nb8, [.slice none 0 0, I64 (0:Int)], 85, (0, 0)⟩]
          refine JL_val _ (Ev_assign rfl) rfl ?_
          refine JL_step (Step_store 4 nb8 0 2 ([.slice none 0 0, I64 (0:Int)]) 85 (.agg (List.toArray (α := Value) ([.slice ao3 ((fdZ y e (s)).length) ca3, I64 ((okE e (decide (FdOk y e (s))):Int))]))) ([.slice ao3 ((fdZ y e (s)).length) ca3, I64 ((okE e (decide (FdOk y e (s))):Int))]) ([.slice ao3 ((fdZ y e (s)).length) ca3, I64 ((okE e (decide (FdOk y e (s))):Int))]) rfl rfl rfl (by first | rfl | simp) Try.sizeOf85 rfl (by simp [Value.oneCell']) (Nat.le_of_ble_eq_true rfl) (lay_whole (by simp []))) rfl ?_
          rintro v1 L1 ⟨rfl, rfl⟩
          show JL _ _ _ _ _ [⟨nb3, [errV 36 e, .slice ao yn c], 123, (0, 0)⟩, ⟨nb4, cu8 (([] : List UInt8) ++ b) ++ sp2, 5, (0, 0)⟩, ⟨nb5, [.slice am yn cm, I64 ((e:Int))], 85, (0, 0)⟩, ⟨nb6, [I64 (kd), I64 (s), U64 nn, .slice ax p cx], 70, (0, 0)⟩, ⟨nb8, [.slice ao3 ((fdZ y e (s)).length) ca3, I64 ((okE e (decide (FdOk y e (s))):Int))], 85, (0, 0)⟩]
          refine JL_nil ?_
          refine JQ_then ?_
          refine JC_seq ?_
          refine JC_region ?_
          refine JL_val (.agg (List.toArray (α := Value) ([.slice ao3 ((fdZ y e (s)).length) ca3, I64 ((okE e (decide (FdOk y e (s))):Int))]))) (Ev_load rfl (Ld_agg Try.isAgg85 Try.sizeOf85 rfl (MemAt.ent 4 rfl (Seg.whole _)))) rfl ?_
          refine JL_step (Step_store 2 nb5 0 2 ([.slice am yn cm, I64 ((e:Int))]) 85 (.agg (List.toArray (α := Value) ([.slice ao3 ((fdZ y e (s)).length) ca3, I64 ((okE e (decide (FdOk y e (s))):Int))]))) ([.slice ao3 ((fdZ y e (s)).length) ca3, I64 ((okE e (decide (FdOk y e (s))):Int))]) ([.slice ao3 ((fdZ y e (s)).length) ca3, I64 ((okE e (decide (FdOk y e (s))):Int))]) rfl rfl rfl (by first | rfl | simp) Try.sizeOf85 rfl (by simp [Value.oneCell']) (Nat.le_of_ble_eq_true rfl) (lay_whole (by simp []))) rfl ?_
          rintro v1 L1 ⟨rfl, rfl⟩
          show JL _ _ _ _ _ [⟨nb3, [errV 36 e, .slice ao yn c], 123, (0, 0)⟩, ⟨nb4, cu8 (([] : List UInt8) ++ b) ++ sp2, 5, (0, 0)⟩, ⟨nb5, [.slice ao3 ((fdZ y e (s)).length) ca3, I64 ((okE e (decide (FdOk y e (s))):Int))], 85, (0, 0)⟩, ⟨nb6, [I64 (kd), I64 (s), U64 nn, .slice ax p cx], 70, (0, 0)⟩, ⟨nb8, [.slice ao3 ((fdZ y e (s)).length) ca3, I64 ((okE e (decide (FdOk y e (s))):Int))], 85, (0, 0)⟩]
          refine JL_nil ?_
          refine JQ_then ?_
          refine JC_seq ?_
          refine JC_region ?_
          refine JL_val _ (Ev_move rfl) rfl ?_
          refine JL_val (Ptr nb6 1) (Ev_fieldAddr 1 3 1 Try.underlying70 rfl Try.sizeOf3 rfl rfl) rfl ?_
          refine JL_val (I64 (s)) (Ev_load rfl (Ld_one Try.isAgg3 (MemAt.ent 3 rfl (Seg.tail (Seg.head))))) rfl ?_
          have hz4 : (y).length = yn := hyn
          refine JL_step (Step_call 56 _ [true, false, false, false, false] [nb3] _ (Cl_func [Ptr nb3 0, I64 (s)] Try.call56 rfl) rfl (fun w1 hw1 => bytR_w nb3 e ao yn c y (s) w1 (hw1.ent _ (List.mem_of_getElem? (i := 0) rfl)) hyn (by omega) (by omega) (by omega) (hA _ _ (RdB.of hw1 (MemAt.ent 1 rfl (Seg.left (Seg.whole _))) (by intro _; simp only [List.mem_cons, List.not_mem_nil, or_false, not_or]; exact hw1.ne (i := 1) (j := 0) rfl rfl (by decide)))))) rfl ?_
          rintro v1 L1 ⟨_, ⟨ao5, ca5, ⟨hA4, hb14, hb15, hb16⟩, _, rfl, (⟨hv1, rfl, rfl⟩ | ⟨nb9, sp3, cp3, rfl, rfl, hc4, hc5, hc6⟩)⟩, rfl⟩
          ·
            show JL _ _ _ _ ((101, .slice none 0 0) :: _) [⟨nb4, cu8 (([] : List UInt8) ++ b) ++ sp2, 5, (0, 0)⟩, ⟨nb5, [.slice ao3 ((fdZ y e (s)).length) ca3, I64 ((okE e (decide (FdOk y e (s))):Int))], 85, (0, 0)⟩, ⟨nb6, [I64 (kd), I64 (s), U64 nn, .slice ax p cx], 70, (0, 0)⟩, ⟨nb8, [.slice ao3 ((fdZ y e (s)).length) ca3, I64 ((okE e (decide (FdOk y e (s))):Int))], 85, (0, 0)⟩, ⟨nb3, [errV 36 (okE e (decide (FdOk y e (s)))), .slice ao5 ((fdZ y e (s)).length) ca5], 123, (0, 0)⟩]
            refine JL_val _ (Ev_move rfl) rfl ?_
            refine JL_step (Step_callP 25 [.slice none 0 0, .slice ao4 ((fdV y e (s)).length) ca4] (.bool (decide ((fdV y e (s)) = (fdV y e (s))))) (Cl_func [.slice none 0 0, .slice ao4 ((fdV y e (s)).length) ca4] Try.call25 rfl) (fun w1 hw1 => bytes_c none ao4 0 ((fdV y e (s)).length) 0 ca4 (fdV y e (s)) (fdV y e (s)) w1 (by rw [hv1]; rfl) rfl ((RdB.nilOf hv1).at (M' := []) hw1 (by simp)) ((hX1 _ _ hm).at (M' := []) hw1 (by simp)))) rfl ?_
            rintro v1 L1 ⟨rfl, rfl⟩
            show JL _ _ _ _ ((103, .bool (decide ((fdV y e (s)) = (fdV y e (s))))) :: _) [⟨nb4, cu8 (([] : List UInt8) ++ b) ++ sp2, 5, (0, 0)⟩, ⟨nb5, [.slice ao3 ((fdZ y e (s)).length) ca3, I64 ((okE e (decide (FdOk y e (s))):Int))], 85, (0, 0)⟩, ⟨nb6, [I64 (kd), I64 (s), U64 nn, .slice ax p cx], 70, (0, 0)⟩, ⟨nb8, [.slice ao3 ((fdZ y e (s)).length) ca3, I64 ((okE e (decide (FdOk y e (s))):Int))], 85, (0, 0)⟩, ⟨nb3, [errV 36 (okE e (decide (FdOk y e (s)))), .slice ao5 ((fdZ y e (s)).length) ca5], 123, (0, 0)⟩]
            refine JL_val (.bool (!(decide ((fdV y e (s)) = (fdV y e (s)))))) (Ev_not rfl) rfl ?_
            refine JL_nil ?_
            refine JQ_then ?_
            refine JC_condF _ rfl (by rw [show (decide ((fdV y e (s)) = (fdV y e (s)))) = true from (decide_eq_true rfl)]; rfl) ?_
            refine JC_skip ?_
            refine JQ_in_normal ?_
            refine JQ_then ?_
            refine JC_seq ?_
            refine JC_draw 158 3 [(0, Ptr nb3 0), (2, .agg (List.toArray (α := Value) ([.slice ao3 ((fdZ y e (s)).length) ca3, I64 ((okE e (decide (FdOk y e (s))):Int))])))] Try.mixed rfl (by decide +kernel) ?_
            refine DP_one ⟨[], [0, 2], [], [0, 2], [1]⟩ 1 _ rfl rfl (by decide +kernel) rfl ⟨⟨_, rfl, Qok_val rfl (Ev_move rfl)⟩, ⟨_, rfl, Qok_val rfl (Ev_load rfl (Ld_agg Try.isAgg85 Try.sizeOf85 rfl (MemAt.ent 1 rfl (Seg.whole _))))⟩, trivial⟩ rfl (Cok_step rfl (Step_callP 64 [Ptr nb3 0] (I64 ((leftN (okE e (decide (FdOk y e (s)))) ((fdZ y e (s)).length):Int))) (Cl_func [Ptr nb3 0] Try.call64 rfl) (fun w1 hw1 => left_w nb3 (okE e (decide (FdOk y e (s)))) ao5 ((fdZ y e (s)).length) ca5 w1 (RdA.of hw1 (MemAt.ent 4 rfl (Seg.whole _)) (by simp))))) ?_
            rintro v1 L1 ⟨rfl, rfl⟩
            refine ⟨[], ?_⟩
            show DP _ _ _ _ _ _ _ _ [⟨nb4, cu8 (([] : List UInt8) ++ b) ++ sp2, 5, (0, 0)⟩, ⟨nb5, [.slice ao3 ((fdZ y e (s)).length) ca3, I64 ((okE e (decide (FdOk y e (s))):Int))], 85, (0, 0)⟩, ⟨nb6, [I64 (kd), I64 (s), U64 nn, .slice ax p cx], 70, (0, 0)⟩, ⟨nb8, [.slice ao3 ((fdZ y e (s)).length) ca3, I64 ((okE e (decide (FdOk y e (s))):Int))], 85, (0, 0)⟩, ⟨nb3, [errV 36 (okE e (decide (FdOk y e (s)))), .slice ao5 ((fdZ y e (s)).length) ca5], 123, (0, 0)⟩]
            refine DP_one ⟨[1], [0, 2], [0], [2], [3]⟩ 3 _ rfl rfl (by decide +kernel) rfl ⟨⟨_, rfl, Qok_val rfl (Ev_load rfl (Ld_agg Try.isAgg85 Try.sizeOf85 rfl (MemAt.ent 1 rfl (Seg.whole _))))⟩, trivial⟩ rfl (Cok_step rfl (Step_callP 65 [.agg (List.toArray (α := Value) ([.slice ao3 ((fdZ y e (s)).length) ca3, I64 ((okE e (decide (FdOk y e (s))):Int))]))] (I64 ((leftN (okE e (decide (FdOk y e (s)))) ((fdZ y e (s)).length):Int))) (Cl_func [.agg (List.toArray (α := Value) ([.slice ao3 ((fdZ y e (s)).length) ca3, I64 ((okE e (decide (FdOk y e (s))):Int))]))] Try.call65 rfl) (fun w1 hw1 => rleft_w ao3 ((fdZ y e (s)).length) ca3 (okE e (decide (FdOk y e (s)))) w1 ))) ?_
            rintro v1 L1 ⟨rfl, rfl⟩
            refine ⟨[(4, .bool (decide (((leftN (okE e (decide (FdOk y e (s)))) ((fdZ y e (s)).length):Int)) ≠ ((leftN (okE e (decide (FdOk y e (s)))) ((fdZ y e (s)).length):Int)))))], ?_⟩
            show DP _ _ _ _ _ _ _ _ [⟨nb4, cu8 (([] : List UInt8) ++ b) ++ sp2, 5, (0, 0)⟩, ⟨nb5, [.slice ao3 ((fdZ y e (s)).length) ca3, I64 ((okE e (decide (FdOk y e (s))):Int))], 85, (0, 0)⟩, ⟨nb6, [I64 (kd), I64 (s), U64 nn, .slice ax p cx], 70, (0, 0)⟩, ⟨nb8, [.slice ao3 ((fdZ y e (s)).length) ca3, I64 ((okE e (decide (FdOk y e (s))):Int))], 85, (0, 0)⟩, ⟨nb3, [errV 36 (okE e (decide (FdOk y e (s)))), .slice ao5 ((fdZ y e (s)).length) ca5], 123, (0, 0)⟩]
            refine DP_end ⟨[1, 3], [0, 2, 4], [0, 2], [4], []⟩ rfl rfl (by decide +kernel) rfl ⟨⟨_, rfl, Qok_val rfl (Ev_bini rfl rfl fun _ => bin_neq_i _ _)⟩, trivial⟩ ?_
            refine K_sub (F' := [(146, Ptr nb3 0), (147, I64 ((leftN (okE e (decide (FdOk y e (s)))) ((fdZ y e (s)).length):Int))), (148, .agg (List.toArray (α := Value) ([.slice ao3 ((fdZ y e (s)).length) ca3, I64 ((okE e (decide (FdOk y e (s))):Int))]))), (149, I64 ((leftN (okE e (decide (FdOk y e (s)))) ((fdZ y e (s)).length):Int))), (150, .bool (decide (((leftN (okE e (decide (FdOk y e (s)))) ((fdZ y e (s)).length):Int)) ≠ ((leftN (okE e (decide (FdOk y e (s)))) ((fdZ y e (s)).length):Int))))), (6, Ptr nb3 0), (7, Ptr nb5 0), (49, .slice ab n cb), (50, I64 ((n:Int))), (51, I64 ((q:Int))), (52, .bool (decide (((q:Int)) < ((n:Int))))), (53, Ptr rowb (4*q + rowo)), (54, .agg (List.toArray (α := Value) ([I64 (kd), I64 (s), U64 nn, .slice ax p cx]))), (10, Ptr nb6 0), (55, Ptr nb6 0), (56, I64 (kd)), (57, U64 (u64i (kd))), (58, U64 ((u64i (kd)) % (6:UInt64))), (73, .bool (decide (((u64i (kd)) % (6:UInt64)) = (0:UInt64)))), (72, .bool (decide (((u64i (kd)) % (6:UInt64)) = (0:UInt64)))), (89, .bool (decide (((u64i (kd)) % (6:UInt64)) = (1:UInt64)))), (88, .bool (decide (((u64i (kd)) % (6:UInt64)) = (1:UInt64)))), (91, .agg (List.toArray (α := Value) ([.slice am yn cm, I64 ((e:Int))]))), (92, Ptr nb6 1), (93, I64 (s)), (94, .tuple #[.slice ao4 ((fdV y e (s)).length) ca4, .agg (List.toArray (α := Value) ([.slice ao3 ((fdZ y e (s)).length) ca3, I64 ((okE e (decide (FdOk y e (s))):Int))]))]), (90, .tuple #[.slice ao4 ((fdV y e (s)).length) ca4, .agg (List.toArray (α := Value) ([.slice ao3 ((fdZ y e (s)).length) ca3, I64 ((okE e (decide (FdOk y e (s))):Int))]))]), (95, .slice ao4 ((fdV y e (s)).length) ca4), (96, .agg (List.toArray (α := Value) ([.slice ao3 ((fdZ y e (s)).length) ca3, I64 ((okE e (decide (FdOk y e (s))):Int))]))), (14, Ptr nb8 0), (13, .slice ao4 ((fdV y e (s)).length) ca4), (97, .agg (List.toArray (α := Value) ([.slice ao3 ((fdZ y e (s)).length) ca3, I64 ((okE e (decide (FdOk y e (s))):Int))]))), (98, Ptr nb3 0), (99, Ptr nb6 1), (100, I64 (s)), (101, .slice none 0 0), (102, .slice ao4 ((fdV y e (s)).length) ca4), (103, .bool (decide ((fdV y e (s)) = (fdV y e (s))))), (104, .bool (!(decide ((fdV y e (s)) = (fdV y e (s))))))]) (Sub.cons (by kernel_rfl) (Sub.cons (by kernel_rfl) (Sub.cons (by kernel_rfl) (Sub.cons (by kernel_rfl) (Sub.cons (by kernel_rfl) (Sub.cons (by kernel_rfl) (Sub.cons (by kernel_rfl) (Sub.cons (by kernel_rfl) (Sub.cons (by kernel_rfl) (Sub.cons (by kernel_rfl) (Sub.cons (by kernel_rfl) (Sub.cons (by kernel_rfl) (Sub.cons (by kernel_rfl) (Sub.cons (by kernel_rfl) (Sub.cons (by kernel_rfl) (Sub.cons (by kernel_rfl) (Sub.cons (by kernel_rfl) (Sub.cons (by kernel_rfl) (Sub.cons (by kernel_rfl) (Sub.cons (by kernel_rfl) (Sub.cons (by kernel_rfl) (Sub.cons (by kernel_rfl) (Sub.cons (by kernel_rfl) (Sub.cons (by kernel_rfl) (Sub.cons (by kernel_rfl) (Sub.cons (by kernel_rfl) (Sub.cons (by kernel_rfl) (Sub.cons (by kernel_rfl) (Sub.cons (by kernel_rfl) (Sub.cons (by kernel_rfl) (Sub.cons (by kernel_rfl) (Sub.cons (by kernel_rfl) (Sub.cons (by kernel_rfl) (Sub.cons (by kernel_rfl) (Sub.cons (by kernel_rfl) (Sub.cons (by kernel_rfl) (Sub.cons (by kernel_rfl) (Sub.cons (by kernel_rfl) (Sub.cons (by kernel_rfl) (Sub.nil)))))))))))))))))))))))))))))))))))))))) ?_
            show JQ _ _ _ [(146, Ptr nb3 0), (147, I64 ((leftN (okE e (decide (FdOk y e (s)))) ((fdZ y e (s)).length):Int))), (148, .agg (List.toArray (α := Value) ([.slice ao3 ((fdZ y e (s)).length) ca3, I64 ((okE e (decide (FdOk y e (s))):Int))]))), (149, I64 ((leftN (okE e (decide (FdOk y e (s)))) ((fdZ y e (s)).length):Int))), (150, .bool (decide (((leftN (okE e (decide (FdOk y e (s)))) ((fdZ y e (s)).length):Int)) ≠ ((leftN (okE e (decide (FdOk y e (s)))) ((fdZ y e (s)).length):Int))))), (6, Ptr nb3 0), (7, Ptr nb5 0), (49, .slice ab n cb), (50, I64 ((n:Int))), (51, I64 ((q:Int))), (52, .bool (decide (((q:Int)) < ((n:Int))))), (53, Ptr rowb (4*q + rowo)), (54, .agg (List.toArray (α := Value) ([I64 (kd), I64 (s), U64 nn, .slice ax p cx]))), (10, Ptr nb6 0), (55, Ptr nb6 0), (56, I64 (kd)), (57, U64 (u64i (kd))), (58, U64 ((u64i (kd)) % (6:UInt64))), (73, .bool (decide (((u64i (kd)) % (6:UInt64)) = (0:UInt64)))), (72, .bool (decide (((u64i (kd)) % (6:UInt64)) = (0:UInt64)))), (89, .bool (decide (((u64i (kd)) % (6:UInt64)) = (1:UInt64)))), (88, .bool (decide (((u64i (kd)) % (6:UInt64)) = (1:UInt64)))), (91, .agg (List.toArray (α := Value) ([.slice am yn cm, I64 ((e:Int))]))), (92, Ptr nb6 1), (93, I64 (s)), (94, .tuple #[.slice ao4 ((fdV y e (s)).length) ca4, .agg (List.toArray (α := Value) ([.slice ao3 ((fdZ y e (s)).length) ca3, I64 ((okE e (decide (FdOk y e (s))):Int))]))]), (90, .tuple #[.slice ao4 ((fdV y e (s)).length) ca4, .agg (List.toArray (α := Value) ([.slice ao3 ((fdZ y e (s)).length) ca3, I64 ((okE e (decide (FdOk y e (s))):Int))]))]), (95, .slice ao4 ((fdV y e (s)).length) ca4), (96, .agg (List.toArray (α := Value) ([.slice ao3 ((fdZ y e (s)).length) ca3, I64 ((okE e (decide (FdOk y e (s))):Int))]))), (14, Ptr nb8 0), (13, .slice ao4 ((fdV y e (s)).length) ca4), (97, .agg (List.toArray (α := Value) ([.slice ao3 ((fdZ y e (s)).length) ca3, I64 ((okE e (decide (FdOk y e (s))):Int))]))), (98, Ptr nb3 0), (99, Ptr nb6 1), (100, I64 (s)), (101, .slice none 0 0), (102, .slice ao4 ((fdV y e (s)).length) ca4), (103, .bool (decide ((fdV y e (s)) = (fdV y e (s))))), (104, .bool (!(decide ((fdV y e (s)) = (fdV y e (s))))))] _
            refine JQ_then ?_
            refine JC_condF _ rfl (by simp) ?_
            refine JC_skip ?_
            refine JQ_in_normal ?_
            refine JQ_then ?_
            refine JC_region ?_
            refine JL_val (I64 ((q:Int) + 1)) (Ev_bini rfl rfl fun _ => bin_add_i _ _ ((q:Int) + 1) (by omega) (by omega)) rfl ?_
            refine JL_val _ (Ev_move rfl) rfl ?_
            refine JL_nil ?_
            refine JQ_thenK ?_
            refine K_mask [true, true, false, false, true] ?_
            show K _ _ [⟨nb4, cu8 (([] : List UInt8) ++ b) ++ sp2, 5, (0, 0)⟩, ⟨nb5, [.slice ao3 ((fdZ y e (s)).length) ca3, I64 ((okE e (decide (FdOk y e (s))):Int))], 85, (0, 0)⟩, ⟨nb3, [errV 36 (okE e (decide (FdOk y e (s)))), .slice ao5 ((fdZ y e (s)).length) ca5], 123, (0, 0)⟩] _
            refine K_pick [2, 0, 1] (by decide) ?_
            show K _ _ [⟨nb3, [errV 36 (okE e (decide (FdOk y e (s)))), .slice ao5 ((fdZ y e (s)).length) ca5], 123, (0, 0)⟩, ⟨nb4, cu8 (([] : List UInt8) ++ b) ++ sp2, 5, (0, 0)⟩, ⟨nb5, [.slice ao3 ((fdZ y e (s)).length) ca3, I64 ((okE e (decide (FdOk y e (s))):Int))], 85, (0, 0)⟩] _
            refine K_next (q + 1, (okE e (decide (FdOk y e (s)))), (fdZ y e (s)), ((fdZ y e (s)).length), ao5, ca5, ao3, ca3) ⟨by omega, rfl, by omega, by omega, by omega, by omega, by omega, (fun w M h => hA4 w M (hA w M h)), (hA3 _ _ hm)⟩ (by first | (simp; omega) | simp | (dsimp only; omega) | omega) (Sub.cons rfl (Sub.cons rfl (Sub.cons rfl (Sub.cons rfl (Sub.cons rfl (Sub.nil)))))) rfl
          ·
            show JL _ _ _ _ ((101, Slc nb9 0 ((fdV y e (s)).length) cp3) :: _) [⟨nb4, cu8 (([] : List UInt8) ++ b) ++ sp2, 5, (0, 0)⟩, ⟨nb5, [.slice ao3 ((fdZ y e (s)).length) ca3, I64 ((okE e (decide (FdOk y e (s))):Int))], 85, (0, 0)⟩, ⟨nb6, [I64 (kd), I64 (s), U64 nn, .slice ax p cx], 70, (0, 0)⟩, ⟨nb8, [.slice ao3 ((fdZ y e (s)).length) ca3, I64 ((okE e (decide (FdOk y e (s))):Int))], 85, (0, 0)⟩, ⟨nb3, [errV 36 (okE e (decide (FdOk y e (s)))), .slice ao5 ((fdZ y e (s)).length) ca5], 123, (0, 0)⟩, ⟨nb9, cu8 (fdV y e (s)) ++ sp3, 5, (0, 0)⟩]
            refine JL_val _ (Ev_move rfl) rfl ?_
            refine JL_step (Step_callP 25 [Slc nb9 0 ((fdV y e (s)).length) cp3, .slice ao4 ((fdV y e (s)).length) ca4] (.bool (decide ((fdV y e (s)) = (fdV y e (s))))) (Cl_func [Slc nb9 0 ((fdV y e (s)).length) cp3, .slice ao4 ((fdV y e (s)).length) ca4] Try.call25 rfl) (fun w1 hw1 => bytes_c (some ⟨nb9, 0, none⟩) ao4 ((fdV y e (s)).length) ((fdV y e (s)).length) cp3 ca4 (fdV y e (s)) (fdV y e (s)) w1 (show (fdV y e (s)).length = ((fdV y e (s)).length) from (rfl : (fdV y e (s)).length = _)) rfl (RdB.of hw1 (MemAt.ent 5 rfl (Seg.left (Seg.whole _))) (by simp)) ((hX1 _ _ hm).at (M' := []) hw1 (by simp)))) rfl ?_
            rintro v1 L1 ⟨rfl, rfl⟩
            show JL _ _ _ _ ((103, .bool (decide ((fdV y e (s)) = (fdV y e (s))))) :: _) [⟨nb4, cu8 (([] : List UInt8) ++ b) ++ sp2, 5, (0, 0)⟩, ⟨nb5, [.slice ao3 ((fdZ y e (s)).length) ca3, I64 ((okE e (decide (FdOk y e (s))):Int))], 85, (0, 0)⟩, ⟨nb6, [I64 (kd), I64 (s), U64 nn, .slice ax p cx], 70, (0, 0)⟩, ⟨nb8, [.slice ao3 ((fdZ y e (s)).length) ca3, I64 ((okE e (decide (FdOk y e (s))):Int))], 85, (0, 0)⟩, ⟨nb3, [errV 36 (okE e (decide (FdOk y e (s)))), .slice ao5 ((fdZ y e (s)).length) ca5], 123, (0, 0)⟩, ⟨nb9, cu8 (fdV y e (s)) ++ sp3, 5, (0, 0)⟩]
            refine JL_val (.bool (!(decide ((fdV y e (s)) = (fdV y e (s)))))) (Ev_not rfl) rfl ?_
            refine JL_nil ?_
            refine JQ_then ?_
            refine JC_condF _ rfl (by rw [show (decide ((fdV y e (s)) = (fdV y e (s)))) = true from (decide_eq_true rfl)]; rfl) ?_
            refine JC_skip ?_
            refine JQ_in_normal ?_
            refine JQ_then ?_
            refine JC_seq ?_
            refine JC_draw 158 3 [(0, Ptr nb3 0), (2, .agg (List.toArray (α := Value) ([.slice ao3 ((fdZ y e (s)).length) ca3, I64 ((okE e (decide (FdOk y e (s))):Int))])))] Try.mixed rfl (by decide +kernel) ?_
            refine DP_one ⟨[], [0, 2], [], [0, 2], [1]⟩ 1 _ rfl rfl (by decide +kernel) rfl ⟨⟨_, rfl, Qok_val rfl (Ev_move rfl)⟩, ⟨_, rfl, Qok_val rfl (Ev_load rfl (Ld_agg Try.isAgg85 Try.sizeOf85 rfl (MemAt.ent 1 rfl (Seg.whole _))))⟩, trivial⟩ rfl (Cok_step rfl (Step_callP 64 [Ptr nb3 0] (I64 ((leftN (okE e (decide (FdOk y e (s)))) ((fdZ y e (s)).length):Int))) (Cl_func [Ptr nb3 0] Try.call64 rfl) (fun w1 hw1 => left_w nb3 (okE e (decide (FdOk y e (s)))) ao5 ((fdZ y e (s)).length) ca5 w1 (RdA.of hw1 (MemAt.ent 4 rfl (Seg.whole _)) (by simp))))) ?_
            rintro v1 L1 ⟨rfl, rfl⟩
            refine ⟨[], ?_⟩
            show DP _ _ _ _ _ _ _ _ [⟨nb4, cu8 (([] : List UInt8) ++ b) ++ sp2, 5, (0, 0)⟩, ⟨nb5, [.slice ao3 ((fdZ y e (s)).length) ca3, I64 ((okE e (decide (FdOk y e (s))):Int))], 85, (0, 0)⟩, ⟨nb6, [I64 (kd), I64 (s), U64 nn, .slice ax p cx], 70, (0, 0)⟩, ⟨nb8, [.slice ao3 ((fdZ y e (s)).length) ca3, I64 ((okE e (decide (FdOk y e (s))):Int))], 85, (0, 0)⟩, ⟨nb3, [errV 36 (okE e (decide (FdOk y e (s)))), .slice ao5 ((fdZ y e (s)).length) ca5], 123, (0, 0)⟩, ⟨nb9, cu8 (fdV y e (s)) ++ sp3, 5, (0, 0)⟩]
            refine DP_one ⟨[1], [0, 2], [0], [2], [3]⟩ 3 _ rfl rfl (by decide +kernel) rfl ⟨⟨_, rfl, Qok_val rfl (Ev_load rfl (Ld_agg Try.isAgg85 Try.sizeOf85 rfl (MemAt.ent 1 rfl (Seg.whole _))))⟩, trivial⟩ rfl (Cok_step rfl (Step_callP 65 [.agg (List.toArray (α := Value) ([.slice ao3 ((fdZ y e (s)).length) ca3, I64 ((okE e (decide (FdOk y e (s))):Int))]))] (I64 ((leftN (okE e (decide (FdOk y e (s)))) ((fdZ y e (s)).length):Int))) (Cl_func [.agg (List.toArray (α := Value) ([.slice ao3 ((fdZ y e (s)).length) ca3, I64 ((okE e (decide (FdOk y e (s))):Int))]))] Try.call65 rfl) (fun w1 hw1 => rleft_w ao3 ((fdZ y e (s)).length) ca3 (okE e (decide (FdOk y e (s)))) w1 ))) ?_
            rintro v1 L1 ⟨rfl, rfl⟩
            refine ⟨[(4, .bool (decide (((leftN (okE e (decide (FdOk y e (s)))) ((fdZ y e (s)).length):Int)) ≠ ((leftN (okE e (decide (FdOk y e (s)))) ((fdZ y e (s)).length):Int)))))], ?_⟩
            show DP _ _ _ _ _ _ _ _ [⟨nb4, cu8 (([] : List UInt8) ++ b) ++ sp2, 5, (0, 0)⟩, ⟨nb5, [.slice ao3 ((fdZ y e (s)).length) ca3, I64 ((okE e (decide (FdOk y e (s))):Int))], 85, (0, 0)⟩, ⟨nb6, [I64 (kd), I64 (s), U64 nn, .slice ax p cx], 70, (0, 0)⟩, ⟨nb8, [.slice ao3 ((fdZ y e (s)).length) ca3, I64 ((okE e (decide (FdOk y e (s))):Int))], 85, (0, 0)⟩, ⟨nb3, [errV 36 (okE e (decide (FdOk y e (s)))), .slice ao5 ((fdZ y e (s)).length) ca5], 123, (0, 0)⟩, ⟨nb9, cu8 (fdV y e (s)) ++ sp3, 5, (0, 0)⟩]
            refine DP_end ⟨[1, 3], [0, 2, 4], [0, 2], [4], []⟩ rfl rfl (by decide +kernel) rfl ⟨⟨_, rfl, Qok_val rfl (Ev_bini rfl rfl fun _ => bin_neq_i _ _)⟩, trivial⟩ ?_
            refine K_sub (F' := [(146, Ptr nb3 0), (147, I64 ((leftN (okE e (decide (FdOk y e (s)))) ((fdZ y e (s)).length):Int))), (148, .agg (List.toArray (α := Value) ([.slice ao3 ((fdZ y e (s)).length) ca3, I64 ((okE e (decide (FdOk y e (s))):Int))]))), (149, I64 ((leftN (okE e (decide (FdOk y e (s)))) ((fdZ y e (s)).length):Int))), (150, .bool (decide (((leftN (okE e (decide (FdOk y e (s)))) ((fdZ y e (s)).length):Int)) ≠ ((leftN (okE e (decide (FdOk y e (s)))) ((fdZ y e (s)).length):Int))))), (6, Ptr nb3 0), (7, Ptr nb5 0), (49, .slice ab n cb), (50, I64 ((n:Int))), (51, I64 ((q:Int))), (52, .bool (decide (((q:Int)) < ((n:Int))))), (53, Ptr rowb (4*q + rowo)), (54, .agg (List.toArray (α := Value) ([I64 (kd), I64 (s), U64 nn, .slice ax p cx]))), (10, Ptr nb6 0), (55, Ptr nb6 0), (56, I64 (kd)), (57, U64 (u64i (kd))), (58, U64 ((u64i (kd)) % (6:UInt64))), (73, .bool (decide (((u64i (kd)) % (6:UInt64)) = (0:UInt64)))), (72, .bool (decide (((u64i (kd)) % (6:UInt64)) = (0:UInt64)))), (89, .bool (decide (((u64i (kd)) % (6:UInt64)) = (1:UInt64)))), (88, .bool (decide (((u64i (kd)) % (6:UInt64)) = (1:UInt64)))), (91, .agg (List.toArray (α := Value) ([.slice am yn cm, I64 ((e:Int))]))), (92, Ptr nb6 1), (93, I64 (s)), (94, .tuple #[.slice ao4 ((fdV y e (s)).length) ca4, .agg (List.toArray (α := Value) ([.slice ao3 ((fdZ y e (s)).length) ca3, I64 ((okE e (decide (FdOk y e (s))):Int))]))]), (90, .tuple #[.slice ao4 ((fdV y e (s)).length) ca4, .agg (List.toArray (α := Value) ([.slice ao3 ((fdZ y e (s)).length) ca3, I64 ((okE e (decide (FdOk y e (s))):Int))]))]), (95, .slice ao4 ((fdV y e (s)).length) ca4), (96, .agg (List.toArray (α := Value) ([.slice ao3 ((fdZ y e (s)).length) ca3, I64 ((okE e (decide (FdOk y e (s))):Int))]))), (14, Ptr nb8 0), (13, .slice ao4 ((fdV y e (s)).length) ca4), (97, .agg (List.toArray (α := Value) ([.slice ao3 ((fdZ y e (s)).length) ca3, I64 ((okE e (decide (FdOk y e (s))):Int))]))), (98, Ptr nb3 0), (99, Ptr nb6 1), (100, I64 (s)), (101, Slc nb9 0 ((fdV y e (s)).length) cp3), (102, .slice ao4 ((fdV y e (s)).length) ca4), (103, .bool (decide ((fdV y e (s)) = (fdV y e (s))))), (104, .bool (!(decide ((fdV y e (s)) = (fdV y e (s))))))]) (Sub.cons (by kernel_rfl) (Sub.cons (by kernel_rfl) (Sub.cons (by kernel_rfl) (Sub.cons (by kernel_rfl) (Sub.cons (by kernel_rfl) (Sub.cons (by kernel_rfl) (Sub.cons (by kernel_rfl) (Sub.cons (by kernel_rfl) (Sub.cons (by kernel_rfl) (Sub.cons (by kernel_rfl) (Sub.cons (by kernel_rfl) (Sub.cons (by kernel_rfl) (Sub.cons (by kernel_rfl) (Sub.cons (by kernel_rfl) (Sub.cons (by kernel_rfl) (Sub.cons (by kernel_rfl) (Sub.cons (by kernel_rfl) (Sub.cons (by kernel_rfl) (Sub.cons (by kernel_rfl) (Sub.cons (by kernel_rfl) (Sub.cons (by kernel_rfl) (Sub.cons (by kernel_rfl) (Sub.cons (by kernel_rfl) (Sub.cons (by kernel_rfl) (Sub.cons (by kernel_rfl) (Sub.cons (by kernel_rfl) (Sub.cons (by kernel_rfl) (Sub.cons (by kernel_rfl) (Sub.cons (by kernel_rfl) (Sub.cons (by kernel_rfl) (Sub.cons (by kernel_rfl) (Sub.cons (by kernel_rfl) (Sub.cons (by kernel_rfl) (Sub.cons (by kernel_rfl) (Sub.cons (by kernel_rfl) (Sub.cons (by kernel_rfl) (Sub.cons (by kernel_rfl) (Sub.cons (by kernel_rfl) (Sub.cons (by kernel_rfl) (Sub.nil)))))))))))))))))))))))))))))))))))))))) ?_
            show JQ _ _ _ [(146, Ptr nb3 0), (147, I64 ((leftN (okE e (decide (FdOk y e (s)))) ((fdZ y e (s)).length):Int))), (148, .agg (List.toArray (α := Value) ([.slice ao3 ((fdZ y e (s)).length) ca3, I64 ((okE e (decide (FdOk y e (s))):Int))]))), (149, I64 ((leftN (okE e (decide (FdOk y e (s)))) ((fdZ y e (s)).length):Int))), (150, .bool (decide (((leftN (okE e (decide (FdOk y e (s)))) ((fdZ y e (s)).length):Int)) ≠ ((leftN (okE e (decide (FdOk y e (s)))) ((fdZ y e (s)).length):Int))))), (6, Ptr nb3 0), (7, Ptr nb5 0), (49, .slice ab n cb), (50, I64 ((n:Int))), (51, I64 ((q:Int))), (52, .bool (decide (((q:Int)) < ((n:Int))))), (53, Ptr rowb (4*q + rowo)), (54, .agg (List.toArray (α := Value) ([I64 (kd), I64 (s), U64 nn, .slice ax p cx]))), (10, Ptr nb6 0), (55, Ptr nb6 0), (56, I64 (kd)), (57, U64 (u64i (kd))), (58, U64 ((u64i (kd)) % (6:UInt64))), (73, .bool (decide (((u64i (kd)) % (6:UInt64)) = (0:UInt64)))), (72, .bool (decide (((u64i (kd)) % (6:UInt64)) = (0:UInt64)))), (89, .bool (decide (((u64i (kd)) % (6:UInt64)) = (1:UInt64)))), (88, .bool (decide (((u64i (kd)) % (6:UInt64)) = (1:UInt64)))), (91, .agg (List.toArray (α := Value) ([.slice am yn cm, I64 ((e:Int))]))), (92, Ptr nb6 1), (93, I64 (s)), (94, .tuple #[.slice ao4 ((fdV y e (s)).length) ca4, .agg (List.toArray (α := Value) ([.slice ao3 ((fdZ y e (s)).length) ca3, I64 ((okE e (decide (FdOk y e (s))):Int))]))]), (90, .tuple #[.slice ao4 ((fdV y e (s)).length) ca4, .agg (List.toArray (α := Value) ([.slice ao3 ((fdZ y e (s)).length) ca3, I64 ((okE e (decide (FdOk y e (s))):Int))]))]), (95, .slice ao4 ((fdV y e (s)).length) ca4), (96, .agg (List.toArray (α := Value) ([.slice ao3 ((fdZ y e (s)).length) ca3, I64 ((okE e (decide (FdOk y e (s))):Int))]))), (14, Ptr nb8 0), (13, .slice ao4 ((fdV y e (s)).length) ca4), (97, .agg (List.toArray (α := Value) ([.slice ao3 ((fdZ y e (s)).length) ca3, I64 ((okE e (decide (FdOk y e (s))):Int))]))), (98, Ptr nb3 0), (99, Ptr nb6 1), (100, I64 (s)), (101, Slc nb9 0 ((fdV y e (s)).length) cp3), (102, .slice ao4 ((fdV y e (s)).length) ca4), (103, .bool (decide ((fdV y e (s)) = (fdV y e (s))))), (104, .bool (!(decide ((fdV y e (s)) = (fdV y e (s))))))] _
            refine JQ_then ?_
            refine JC_condF _ rfl (by simp) ?_
            refine JC_skip ?_
            refine JQ_in_normal ?_
            refine JQ_then ?_
            refine JC_region ?_
            refine JL_val (I64 ((q:Int) + 1)) (Ev_bini rfl rfl fun _ => bin_add_i _ _ ((q:Int) + 1) (by omega) (by omega)) rfl ?_
            refine JL_val _ (Ev_move rfl) rfl ?_
            refine JL_nil ?_
            refine JQ_thenK ?_
            refine K_mask [true, true, false, false, true, false] ?_
            show K _ _ [⟨nb4, cu8 (([] : List UInt8) ++ b) ++ sp2, 5, (0, 0)⟩, ⟨nb5, [.slice ao3 ((fdZ y e (s)).length) ca3, I64 ((okE e (decide (FdOk y e (s))):Int))], 85, (0, 0)⟩, ⟨nb3, [errV 36 (okE e (decide (FdOk y e (s)))), .slice ao5 ((fdZ y e (s)).length) ca5], 123, (0, 0)⟩] _
            refine K_pick [2, 0, 1] (by decide) ?_
            show K _ _ [⟨nb3, [errV 36 (okE e (decide (FdOk y e (s)))), .slice ao5 ((fdZ y e (s)).length) ca5], 123, (0, 0)⟩, ⟨nb4, cu8 (([] : List UInt8) ++ b) ++ sp2, 5, (0, 0)⟩, ⟨nb5, [.slice ao3 ((fdZ y e (s)).length) ca3, I64 ((okE e (decide (FdOk y e (s))):Int))], 85, (0, 0)⟩] _
            refine K_next (q + 1, (okE e (decide (FdOk y e (s)))), (fdZ y e (s)), ((fdZ y e (s)).length), ao5, ca5, ao3, ca3) ⟨by omega, rfl, by omega, by omega, by omega, by omega, by omega, (fun w M h => hA4 w M (hA w M h)), (hA3 _ _ hm)⟩ (by first | (simp; omega) | simp | (dsimp only; omega) | omega) (Sub.cons rfl (Sub.cons rfl (Sub.cons rfl (Sub.cons rfl (Sub.cons rfl (Sub.nil)))))) rfl
        ·
          have hp10 : ¬ (((u64i (kd)) % (6:UInt64)) = (1:UInt64)) := of_decide_eq_false hb10
          refine JC_seq ?_
          refine JC_region ?_
          refine JL_val (.bool (decide (((u64i (kd)) % (6:UInt64)) = (2:UInt64)))) (Ev_bini rfl rfl fun _ => bin_eql_u64 ((u64i (kd)) % (6:UInt64)) (2:UInt64)) rfl ?_
          refine JL_val _ (Ev_assign rfl) rfl ?_
          refine JL_nil ?_
          refine JQ_then ?_
          refine JC_cond (decide (((u64i (kd)) % (6:UInt64)) = (2:UInt64))) rfl (fun hb17 => ?_) (fun hb17 => ?_)
          ·
            have hp17 : ((u64i (kd)) % (6:UInt64)) = (2:UInt64) := of_decide_eq_true hb17
            refine JC_seq ?_
            refine JC_region ?_
            refine JL_val (.agg (List.toArray (α := Value) ([.slice am yn cm, I64 ((e:Int))]))) (Ev_load rfl (Ld_agg Try.isAgg85 Try.sizeOf85 rfl (MemAt.ent 2 rfl (Seg.whole _)))) rfl ?_
            refine JL_val (Ptr nb6 1) (Ev_fieldAddr 1 3 1 Try.underlying70 rfl Try.sizeOf3 rfl rfl) rfl ?_
            refine JL_val (I64 (s)) (Ev_load rfl (Ld_one Try.isAgg3 (MemAt.ent 3 rfl (Seg.tail (Seg.head))))) rfl ?_
            have hz5 : (y).length = yn := hyn
            refine JL_step (Step_callN 57 [.agg (List.toArray (α := Value) ([.slice am yn cm, I64 ((e:Int))])), I64 (s)] _ (Cl_func [.agg (List.toArray (α := Value) ([.slice am yn cm, I64 ((e:Int))])), I64 (s)] Try.call57 rfl) (fun w1 hw1 => rtake_w am yn cm e y (s) w1 hyn (by omega) (by omega) (by omega) (hm.at (M' := []) hw1 (by simp)))) rfl ?_
            rintro v1 L1 ⟨_, ⟨rfl, ao7, ca7, ao6, ca6, rfl, hX2, ⟨hA5, hb18, hb19, hb20⟩⟩, rfl⟩
            show JL _ _ _ _ ((111, .tuple #[.slice ao7 ((tkV y e (s)).length) ca7, .agg (List.toArray (α := Value) ([.slice ao6 ((tkZ y e (s)).length) ca6, I64 ((okE e (decide (TkOk y e (s))):Int))]))]) :: _) [⟨nb3, [errV 36 e, .slice ao yn c], 123, (0, 0)⟩, ⟨nb4, cu8 (([] : List UInt8) ++ b) ++ sp2, 5, (0, 0)⟩, ⟨nb5, [.slice am yn cm, I64 ((e:Int))], 85, (0, 0)⟩, ⟨nb6, [I64 (kd), I64 (s), U64 nn, .slice ax p cx], 70, (0, 0)⟩]
            refine JL_val _ (Ev_move rfl) rfl ?_
            refine JL_val _ (Ev_extract rfl rfl) rfl ?_
            refine JL_val _ (Ev_extract rfl rfl) rfl ?_
            refine JL_step (Step_alloc _ ([.slice none 0 0, I64 (0:Int)]) Try.zeroValue85 (by kernel_rfl)) rfl ?_
            rintro v1 L1 ⟨nb10, hnb10, rfl, rfl⟩
            show JL _ _ _ _ ((16, Ptr nb10 0) :: _) [⟨nb3, [errV 36 e, .slice ao yn c], 123, (0, 0)⟩, ⟨nb4, cu8 (([] : List UInt8) ++ b) ++ sp2, 5, (0, 0)⟩, ⟨nb5, [.slice am yn cm, I64 ((e:Int))], 85, (0, 0)⟩, ⟨nb6, [I64 (kd), I64 (s), U64 nn, .slice ax p cx], 70, (0, 0)⟩, ⟨nb10, [.slice none 0 0, I64 (0:Int)], 85, (0, 0)⟩]
            refine JL_val _ (Ev_assign rfl) rfl ?_
            refine JL_step (Step_store 4 nb10 0 2 ([.slice none 0 0, I64 (0:Int)]) 85 (.agg (List.toArray (α := Value) ([.slice ao6 ((tkZ y e (s)).length) ca6, I64 ((okE e (decide (TkOk y e (s))):Int))]))) ([.slice ao6 ((tkZ y e (s)).length) ca6, I64 ((okE e (decide (TkOk y e (s))):Int))]) ([.slice ao6 ((tkZ y e (s)).length) ca6, I64 ((okE e (decide (TkOk y e (s))):Int))]) rfl rfl rfl (by first | rfl | simp) Try.sizeOf85 rfl (by simp [Value.oneCell']) (Nat.le_of_ble_eq_true rfl) (lay_whole (by simp []))) rfl ?_
            rintro v1 L1 ⟨rfl, rfl⟩
            show JL _ _ _ _ _ [⟨nb3, [errV 36 e, .slice ao yn c], 123, (0, 0)⟩, ⟨nb4, cu8 (([] : List UInt8) ++ b) ++ sp2, 5, (0, 0)⟩, ⟨nb5, [.slice am yn cm, I64 ((e:Int))], 85, (0, 0)⟩, ⟨nb6, [I64 (kd), I64 (s), U64 nn, .slice ax p cx], 70, (0, 0)⟩, ⟨nb10, [.slice ao6 ((tkZ y e (s)).length) ca6, I64 ((okE e (decide (TkOk y e (s))):Int))], 85, (0, 0)⟩]
            refine JL_nil ?_
            refine JQ_then ?_
            refine JC_seq ?_
            refine JC_region ?_
            refine JL_val (.agg (List.toArray (α := Value) ([.slice ao6 ((tkZ y e (s)).length) ca6, I64 ((okE e (decide (TkOk y e (s))):Int))]))) (Ev_load rfl (Ld_agg Try.isAgg85 Try.sizeOf85 rfl (MemAt.ent 4 rfl (Seg.whole _)))) rfl ?_
            refine JL_step (Step_store 2 nb5 0 2 ([.slice am yn cm, I64 ((e:Int))]) 85 (.agg (List.toArray (α := Value) ([.slice ao6 ((tkZ y e (s)).length) ca6, I64 ((okE e (decide (TkOk y e (s))):Int))]))) ([.slice ao6 ((tkZ y e (s)).length) ca6, I64 ((okE e (decide (TkOk y e (s))):Int))]) ([.slice ao6 ((tkZ y e (s)).length) ca6, I64 ((okE e (decide (TkOk y e (s))):Int))]) rfl rfl rfl (by first | rfl | simp) Try.sizeOf85 rfl (by simp [Value.oneCell']) (Nat.le_of_ble_eq_true rfl) (lay_whole (by simp []))) rfl ?_
            rintro v1 L1 ⟨rfl, rfl⟩
            show JL _ _ _ _ _ [⟨nb3, [errV 36 e, .slice ao yn c], 123, (0, 0)⟩, ⟨nb4, cu8 (([] : List UInt8) ++ b) ++ sp2, 5, (0, 0)⟩, ⟨nb5, [.slice ao6 ((tkZ y e (s)).length) ca6, I64 ((okE e (decide (TkOk y e (s))):Int))], 85, (0, 0)⟩, ⟨nb6, [I64 (kd), I64 (s), U64 nn, .slice ax p cx], 70, (0, 0)⟩, ⟨nb10, [.slice ao6 ((tkZ y e (s)).length) ca6, I64 ((okE e (decide (TkOk y e (s))):Int))], 85, (0, 0)⟩]
            refine JL_nil ?_
            refine JQ_then ?_
            refine JC_seq ?_
            refine JC_region ?_
            refine JL_val _ (Ev_move rfl) rfl ?_
            refine JL_val (Ptr nb6 1) (Ev_fieldAddr 1 3 1 Try.underlying70 rfl Try.sizeOf3 rfl rfl) rfl ?_
            refine JL_val (I64 (s)) (Ev_load rfl (Ld_one Try.isAgg3 (MemAt.ent 3 rfl (Seg.tail (Seg.head))))) rfl ?_
            have hz6 : (y).length = yn := hyn
            refine JL_step (Step_call 58 _ [true, false, false, false, false] [nb3] _ (Cl_func [Ptr nb3 0, I64 (s)] Try.call58 rfl) rfl (fun w1 hw1 => rawR_w nb3 e ao yn c y (s) w1 (hw1.ent _ (List.mem_of_getElem? (i := 0) rfl)) hyn (by omega) (by omega) (by omega) (hA _ _ (RdB.of hw1 (MemAt.ent 1 rfl (Seg.left (Seg.whole _))) (by intro _; simp only [List.mem_cons, List.not_mem_nil, or_false, not_or]; exact hw1.ne (i := 1) (j := 0) rfl rfl (by decide)))))) rfl ?_
            rintro v1 L1 ⟨_, ⟨ao8, ca8, ⟨hA6, hb21, hb22, hb23⟩, _, rfl, (⟨hv2, rfl, rfl⟩ | ⟨nb11, sp4, cp4, rfl, rfl, hc7, hc8, hc9⟩)⟩, rfl⟩
            ·
              show JL _ _ _ _ ((118, .slice none 0 0) :: _) [⟨nb4, cu8 (([] : List UInt8) ++ b) ++ sp2, 5, (0, 0)⟩, ⟨nb5, [.slice ao6 ((tkZ y e (s)).length) ca6, I64 ((okE e (decide (TkOk y e (s))):Int))], 85, (0, 0)⟩, ⟨nb6, [I64 (kd), I64 (s), U64 nn, .slice ax p cx], 70, (0, 0)⟩, ⟨nb10, [.slice ao6 ((tkZ y e (s)).length) ca6, I64 ((okE e (decide (TkOk y e (s))):Int))], 85, (0, 0)⟩, ⟨nb3, [errV 36 (okE e (decide (TkOk y e (s)))), .slice ao8 ((tkZ y e (s)).length) ca8], 123, (0, 0)⟩]
              refine JL_val _ (Ev_move rfl) rfl ?_
              refine JL_step (Step_callP 25 [.slice none 0 0, .slice ao7 ((tkV y e (s)).length) ca7] (.bool (decide ((tkV y e (s)) = (tkV y e (s))))) (Cl_func [.slice none 0 0, .slice ao7 ((tkV y e (s)).length) ca7] Try.call25 rfl) (fun w1 hw1 => bytes_c none ao7 0 ((tkV y e (s)).length) 0 ca7 (tkV y e (s)) (tkV y e (s)) w1 (by rw [hv2]; rfl) rfl ((RdB.nilOf hv2).at (M' := []) hw1 (by simp)) ((hX2 _ _ hm).at (M' := []) hw1 (by simp)))) rfl ?_
              rintro v1 L1 ⟨rfl, rfl⟩
              show JL _ _ _ _ ((120, .bool (decide ((tkV y e (s)) = (tkV y e (s))))) :: _) [⟨nb4, cu8 (([] : List UInt8) ++ b) ++ sp2, 5, (0, 0)⟩, ⟨nb5, [.slice ao6 ((tkZ y e (s)).length) ca6, I64 ((okE e (decide (TkOk y e (s))):Int))], 85, (0, 0)⟩, ⟨nb6, [I64 (kd), I64 (s), U64 nn, .slice ax p cx], 70, (0, 0)⟩, ⟨nb10, [.slice ao6 ((tkZ y e (s)).length) ca6, I64 ((okE e (decide (TkOk y e (s))):Int))], 85, (0, 0)⟩, ⟨nb3, [errV 36 (okE e (decide (TkOk y e (s)))), .slice ao8 ((tkZ y e (s)).length) ca8], 123, (0, 0)⟩]
              refine JL_val (.bool (!(decide ((tkV y e (s)) = (tkV y e (s)))))) (Ev_not rfl) rfl ?_
              refine JL_nil ?_
              refine JQ_then ?_
              refine JC_condF _ rfl (by rw [show (decide ((tkV y e (s)) = (tkV y e (s)))) = true from (decide_eq_true rfl)]; rfl) ?_
              refine JC_skip ?_
              refine JQ_in_normal ?_
              refine JQ_then ?_
              refine JC_seq ?_
              refine JC_draw 158 3 [(0, Ptr nb3 0), (2, .agg (List.toArray (α := Value) ([.slice ao6 ((tkZ y e (s)).length) ca6, I64 ((okE e (decide (TkOk y e (s))):Int))])))] Try.mixed rfl (by decide +kernel) ?_
              refine DP_one ⟨[], [0, 2], [], [0, 2], [1]⟩ 1 _ rfl rfl (by decide +kernel) rfl ⟨⟨_, rfl, Qok_val rfl (Ev_move rfl)⟩, ⟨_, rfl, Qok_val rfl (Ev_load rfl (Ld_agg Try.isAgg85 Try.sizeOf85 rfl (MemAt.ent 1 rfl (Seg.whole _))))⟩, trivial⟩ rfl (Cok_step rfl (Step_callP 64 [Ptr nb3 0] (I64 ((leftN (okE e (decide (TkOk y e (s)))) ((tkZ y e (s)).length):Int))) (Cl_func [Ptr nb3 0] Try.call64 rfl) (fun w1 hw1 => left_w nb3 (okE e (decide (TkOk y e (s)))) ao8 ((tkZ y e (s)).length) ca8 w1 (RdA.of hw1 (MemAt.ent 4 rfl (Seg.whole _)) (by simp))))) ?_
              rintro v1 L1 ⟨rfl, rfl⟩
              refine ⟨[], ?_⟩
              show DP _ _ _ _ _ _ _ _ [⟨nb4, cu8 (([] : List UInt8) ++ b) ++ sp2, 5, (0, 0)⟩, ⟨nb5, [.slice ao6 ((tkZ y e (s)).length) ca6, I64 ((okE e (decide (TkOk y e (s))):Int))], 85, (0, 0)⟩, ⟨nb6, [I64 (kd), I64 (s), U64 nn, .slice ax p cx], 70, (0, 0)⟩, ⟨nb10, [.slice ao6 ((tkZ y e (s)).length) ca6, I64 ((okE e (decide (TkOk y e (s))):Int))], 85, (0, 0)⟩, ⟨nb3, [errV 36 (okE e (decide (TkOk y e (s)))), .slice ao8 ((tkZ y e (s)).length) ca8], 123, (0, 0)⟩]
              refine DP_one ⟨[1], [0, 2], [0], [2], [3]⟩ 3 _ rfl rfl (by decide +kernel) rfl ⟨⟨_, rfl, Qok_val rfl (Ev_load rfl (Ld_agg Try.isAgg85 Try.sizeOf85 rfl (MemAt.ent 1 rfl (Seg.whole _))))⟩, trivial⟩ rfl (Cok_step rfl (Step_callP 65 [.agg (List.toArray (α := Value) ([.slice ao6 ((tkZ y e (s)).length) ca6, I64 ((okE e (decide (TkOk y e (s))):Int))]))] (I64 ((leftN (okE e (decide (TkOk y e (s)))) ((tkZ y e (s)).length):Int))) (Cl_func [.agg (List.toArray (α := Value) ([.slice ao6 ((tkZ y e (s)).length) ca6, I64 ((okE e (decide (TkOk y e (s))):Int))]))] Try.call65 rfl) (fun w1 hw1 => rleft_w ao6 ((tkZ y e (s)).length) ca6 (okE e (decide (TkOk y e (s)))) w1 ))) ?_
              rintro v1 L1 ⟨rfl, rfl⟩
              refine ⟨[(4, .bool (decide (((leftN (okE e (decide (TkOk y e (s)))) ((tkZ y e (s)).length):Int)) ≠ ((leftN (okE e (decide (TkOk y e (s)))) ((tkZ y e (s)).length):Int)))))], ?_⟩
              show DP _ _ _ _ _ _ _ _ [⟨nb4, cu8 (([] : List UInt8) ++ b) ++ sp2, 5, (0, 0)⟩, ⟨nb5, [.slice ao6 ((tkZ y e (s)).length) ca6, I64 ((okE e (decide (TkOk y e (s))):Int))], 85, (0, 0)⟩, ⟨nb6, [I64 (kd), I64 (s), U64 nn, .slice ax p cx], 70, (0, 0)⟩, ⟨nb10, [.slice ao6 ((tkZ y e (s)).length) ca6, I64 ((okE e (decide (TkOk y e (s))):Int))], 85, (0, 0)⟩, ⟨nb3, [errV 36 (okE e (decide (TkOk y e (s)))), .slice ao8 ((tkZ y e (s)).length) ca8], 123, (0, 0)⟩]
              refine DP_end ⟨[1, 3], [0, 2, 4], [0, 2], [4], []⟩ rfl rfl (by decide +kernel) rfl ⟨⟨_, rfl, Qok_val rfl (Ev_bini rfl rfl fun _ => bin_neq_i _ _)⟩, trivial⟩ ?_
              refine K_sub (F' := [(146, Ptr nb3 0), (147, I64 ((leftN (okE e (decide (TkOk y e (s)))) ((tkZ y e (s)).length):Int))), (148, .agg (List.toArray (α := Value) ([.slice ao6 ((tkZ y e (s)).length) ca6, I64 ((okE e (decide (TkOk y e (s))):Int))]))), (149, I64 ((leftN (okE e (decide (TkOk y e (s)))) ((tkZ y e (s)).length):Int))), (150, .bool (decide (((leftN (okE e (decide (TkOk y e (s)))) ((tkZ y e (s)).length):Int)) ≠ ((leftN (okE e (decide (TkOk y e (s)))) ((tkZ y e (s)).length):Int))))), (6, Ptr nb3 0), (7, Ptr nb5 0), (49, .slice ab n cb), (50, I64 ((n:Int))), (51, I64 ((q:Int))), (52, .bool (decide (((q:Int)) < ((n:Int))))), (53, Ptr rowb (4*q + rowo)), (54, .agg (List.toArray (α := Value) ([I64 (kd), I64 (s), U64 nn, .slice ax p cx]))), (10, Ptr nb6 0), (55, Ptr nb6 0), (56, I64 (kd)), (57, U64 (u64i (kd))), (58, U64 ((u64i (kd)) % (6:UInt64))), (73, .bool (decide (((u64i (kd)) % (6:UInt64)) = (0:UInt64)))), (72, .bool (decide (((u64i (kd)) % (6:UInt64)) = (0:UInt64)))), (89, .bool (decide (((u64i (kd)) % (6:UInt64)) = (1:UInt64)))), (88, .bool (decide (((u64i (kd)) % (6:UInt64)) = (1:UInt64)))), (106, .bool (decide (((u64i (kd)) % (6:UInt64)) = (2:UInt64)))), (105, .bool (decide (((u64i (kd)) % (6:UInt64)) = (2:UInt64)))), (108, .agg (List.toArray (α := Value) ([.slice am yn cm, I64 ((e:Int))]))), (109, Ptr nb6 1), (110, I64 (s)), (111, .tuple #[.slice ao7 ((tkV y e (s)).length) ca7, .agg (List.toArray (α := Value) ([.slice ao6 ((tkZ y e (s)).length) ca6, I64 ((okE e (decide (TkOk y e (s))):Int))]))]), (107, .tuple #[.slice ao7 ((tkV y e (s)).length) ca7, .agg (List.toArray (α := Value) ([.slice ao6 ((tkZ y e (s)).length) ca6, I64 ((okE e (decide (TkOk y e (s))):Int))]))]), (112, .slice ao7 ((tkV y e (s)).length) ca7), (113, .agg (List.toArray (α := Value) ([.slice ao6 ((tkZ y e (s)).length) ca6, I64 ((okE e (decide (TkOk y e (s))):Int))]))), (16, Ptr nb10 0), (15, .slice ao7 ((tkV y e (s)).length) ca7), (114, .agg (List.toArray (α := Value) ([.slice ao6 ((tkZ y e (s)).length) ca6, I64 ((okE e (decide (TkOk y e (s))):Int))]))), (115, Ptr nb3 0), (116, Ptr nb6 1), (117, I64 (s)), (118, .slice none 0 0), (119, .slice ao7 ((tkV y e (s)).length) ca7), (120, .bool (decide ((tkV y e (s)) = (tkV y e (s))))), (121, .bool (!(decide ((tkV y e (s)) = (tkV y e (s))))))]) (Sub.cons (by kernel_rfl) (Sub.cons (by kernel_rfl) (Sub.cons (by kernel_rfl) (Sub.cons (by kernel_rfl) (Sub.cons (by kernel_rfl) (Sub.cons (by kernel_rfl) (Sub.cons (by kernel_rfl) (Sub.cons (by kernel_rfl) (Sub.cons (by kernel_rfl) (Sub.cons (by kernel_rfl) (Sub.cons (by kernel_rfl) (Sub.cons (by kernel_rfl) (Sub.cons (by kernel_rfl) (Sub.cons (by kernel_rfl) (Sub.cons (by kernel_rfl) (Sub.cons (by kernel_rfl) (Sub.cons (by kernel_rfl) (Sub.cons (by kernel_rfl) (Sub.cons (by kernel_rfl) (Sub.cons (by kernel_rfl) (Sub.cons (by kernel_rfl) (Sub.cons (by kernel_rfl) (Sub.cons (by kernel_rfl) (Sub.cons (by kernel_rfl) (Sub.cons (by kernel_rfl) (Sub.cons (by kernel_rfl) (Sub.cons (by kernel_rfl) (Sub.cons (by kernel_rfl) (Sub.cons (by kernel_rfl) (Sub.cons (by kernel_rfl) (Sub.cons (by kernel_rfl) (Sub.cons (by kernel_rfl) (Sub.cons (by kernel_rfl) (Sub.cons (by kernel_rfl) (Sub.cons (by kernel_rfl) (Sub.cons (by kernel_rfl) (Sub.cons (by kernel_rfl) (Sub.cons (by kernel_rfl) (Sub.cons (by kernel_rfl) (Sub.cons (by kernel_rfl) (Sub.cons (by kernel_rfl) (Sub.nil)))))))))))))))))))))))))))))))))))))))))) ?_
              show JQ _ _ _ [(146, Ptr nb3 0), (147, I64 ((leftN (okE e (decide (TkOk y e (s)))) ((tkZ y e (s)).length):Int))), (148, .agg (List.toArray (α := Value) ([.slice ao6 ((tkZ y e (s)).length) ca6, I64 ((okE e (decide (TkOk y e (s))):Int))]))), (149, I64 ((leftN (okE e (decide (TkOk y e (s)))) ((tkZ y e (s)).length):Int))), (150, .bool (decide (((leftN (okE e (decide (TkOk y e (s)))) ((tkZ y e (s)).length):Int)) ≠ ((leftN (okE e (decide (TkOk y e (s)))) ((tkZ y e (s)).length):Int))))), (6, Ptr nb3 0), (7, Ptr nb5 0), (49, .slice ab n cb), (50, I64 ((n:Int))), (51, I64 ((q:Int))), (52, .bool (decide (((q:Int)) < ((n:Int))))), (53, Ptr rowb (4*q + rowo)), (54, .agg (List.toArray (α := Value) ([I64 (kd), I64 (s), U64 nn, .slice ax p cx]))), (10, Ptr nb6 0), (55, Ptr nb6 0), (56, I64 (kd)), (57, U64 (u64i (kd))), (58, U64 ((u64i (kd)) % (6:UInt64))), (73, .bool (decide (((u64i (kd)) % (6:UInt64)) = (0:UInt64)))), (72, .bool (decide (((u64i (kd)) % (6:UInt64)) = (0:UInt64)))), (89, .bool (decide (((u64i (kd)) % (6:UInt64)) = (1:UInt64)))), (88, .bool (decide (((u64i (kd)) % (6:UInt64)) = (1:UInt64)))), (106, .bool (decide (((u64i (kd)) % (6:UInt64)) = (2:UInt64)))), (105, .bool (decide (((u64i (kd)) % (6:UInt64)) = (2:UInt64)))), (108, .agg (List.toArray (α := Value) ([.slice am yn cm, I64 ((e:Int))]))), (109, Ptr nb6 1), (110, I64 (s)), (111, .tuple #[.slice ao7 ((tkV y e (s)).length) ca7, .agg (List.toArray (α := Value) ([.slice ao6 ((tkZ y e (s)).length) ca6, I64 ((okE e (decide (TkOk y e (s))):Int))]))]), (107, .tuple #[.slice ao7 ((tkV y e (s)).length) ca7, .agg (List.toArray (α := Value) ([.slice ao6 ((tkZ y e (s)).length) ca6, I64 ((okE e (decide (TkOk y e (s))):Int))]))]), (112, .slice ao7 ((tkV y e (s)).length) ca7), (113, .agg (List.toArray (α := Value) ([.slice ao6 ((tkZ y e (s)).length) ca6, I64 ((okE e (decide (TkOk y e (s))):Int))]))), (16, Ptr nb10 0), (15, .slice ao7 ((tkV y e (s)).length) ca7), (114, .agg (List.toArray (α := Value) ([.slice ao6 ((tkZ y e (s)).length) ca6, I64 ((okE e (decide (TkOk y e (s))):Int))]))), (115, Ptr nb3 0), (116, Ptr nb6 1), (117, I64 (s)), (118, .slice none 0 0), (119, .slice ao7 ((tkV y e (s)).length) ca7), (120, .bool (decide ((tkV y e (s)) = (tkV y e (s))))), (121, .bool (!(decide ((tkV y e (s)) = (tkV y e (s))))))] _
              refine JQ_then ?_
              refine JC_condF _ rfl (by simp) ?_
              refine JC_skip ?_
              refine JQ_in_normal ?_
              refine JQ_then ?_
              refine JC_region ?_
              refine JL_val (I64 ((q:Int) + 1)) (Ev_bini rfl rfl fun _ => bin_add_i _ _ ((q:Int) + 1) (by omega) (by omega)) rfl ?_
              refine JL_val _ (Ev_move rfl) rfl ?_
              refine JL_nil ?_
              refine JQ_thenK ?_
              refine K_mask [true, true, false, false, true] ?_
              show K _ _ [⟨nb4, cu8 (([] : List UInt8) ++ b) ++ sp2, 5, (0, 0)⟩, ⟨nb5, [.slice ao6 ((tkZ y e (s)).length) ca6, I64 ((okE e (decide (TkOk y e (s))):Int))], 85, (0, 0)⟩, ⟨nb3, [errV 36 (okE e (decide (TkOk y e (s)))), .slice ao8 ((tkZ y e (s)).length) ca8], 123, (0, 0)⟩] _
              refine K_pick [2, 0, 1] (by decide) ?_
              show K _ _ [⟨nb3, [errV 36 (okE e (decide (TkOk y e (s)))), .slice ao8 ((tkZ y e (s)).length) ca8], 123, (0, 0)⟩, ⟨nb4, cu8 (([] : List UInt8) ++ b) ++ sp2, 5, (0, 0)⟩, ⟨nb5, [.slice ao6 ((tkZ y e (s)).length) ca6, I64 ((okE e (decide (TkOk y e (s))):Int))], 85, (0, 0)⟩] _
              refine K_next (q + 1, (okE e (decide (TkOk y e (s)))), (tkZ y e (s)), ((tkZ y e (s)).length), ao8, ca8, ao6, ca6) ⟨by omega, rfl, by omega, by omega, by omega, by omega, by omega, (fun w M h => hA6 w M (hA w M h)), (hA5 _ _ hm)⟩ (by first | (simp; omega) | simp | (dsimp only; omega) | omega) (Sub.cons rfl (Sub.cons rfl (Sub.cons rfl (Sub.cons rfl (Sub.cons rfl (Sub.nil)))))) rfl
            ·
              show JL _ _ _ _ ((118, Slc nb11 0 ((tkV y e (s)).length) cp4) :: _) [⟨nb4, cu8 (([] : List UInt8) ++ b) ++ sp2, 5, (0, 0)⟩, ⟨nb5, [.slice ao6 ((tkZ y e (s)).length) ca6, I64 ((okE e (decide (TkOk y e (s))):Int))], 85, (0, 0)⟩, ⟨nb6, [I64 (kd), I64 (s), U64 nn, .slice ax p cx], 70, (0, 0)⟩, ⟨nb10, [.slice ao6 ((tkZ y e (s)).length) ca6, I64 ((okE e (decide (TkOk y e (s))):Int))], 85, (0, 0)⟩, ⟨nb3, [errV 36 (okE e (decide (TkOk y e (s)))), .slice ao8 ((tkZ y e (s)).length) ca8], 123, (0, 0)⟩, ⟨nb11, cu8 (tkV y e (s)) ++ sp4, 5, (0, 0)⟩]
              refine JL_val _ (Ev_move rfl) rfl ?_
              refine JL_step (Step_callP 25 [Slc nb11 0 ((tkV y e (s)).length) cp4, .slice ao7 ((tkV y e (s)).length) ca7] (.bool (decide ((tkV y e (s)) = (tkV y e (s))))) (Cl_func [Slc nb11 0 ((tkV y e (s)).length) cp4, .slice ao7 ((tkV y e (s)).length) ca7] Try.call25 rfl) (fun w1 hw1 => bytes_c (some ⟨nb11, 0, none⟩) ao7 ((tkV y e (s)).length) ((tkV y e (s)).length) cp4 ca7 (tkV y e (s)) (tkV y e (s)) w1 (show (tkV y e (s)).length = ((tkV y e (s)).length) from (rfl : (tkV y e (s)).length = _)) rfl (RdB.of hw1 (MemAt.ent 5 rfl (Seg.left (Seg.whole _))) (by simp)) ((hX2 _ _ hm).at (M' := []) hw1 (by simp)))) rfl ?_
              rintro v1 L1 ⟨rfl, rfl⟩
              show JL _ _ _ _ ((120, .bool (decide ((tkV y e (s)) = (tkV y e (s))))) :: _) [⟨nb4, cu8 (([] : List UInt8) ++ b) ++ sp2, 5, (0, 0)⟩, ⟨nb5, [.slice ao6 ((tkZ y e (s)).length) ca6, I64 ((okE e (decide (TkOk y e (s))):Int))], 85, (0, 0)⟩, ⟨nb6, [I64 (kd), I64 (s), U64 nn, .slice ax p cx], 70, (0, 0)⟩, ⟨nb10, [.slice ao6 ((tkZ y e (s)).length) ca6, I64 ((okE e (decide (TkOk y e (s))):Int))], 85, (0, 0)⟩, ⟨nb3, [errV 36 (okE e (decide (TkOk y e (s)))), .slice ao8 ((tkZ y e (s)).length) ca8], 123, (0, 0)⟩, ⟨nb11, cu8 (tkV y e (s)) ++ sp4, 5, (0, 0)⟩]
              refine JL_val (.bool (!(decide ((tkV y e (s)) = (tkV y e (s)))))) (Ev_not rfl) rfl ?_
              refine JL_nil ?_
              refine JQ_then ?_
              refine JC_condF _ rfl (by rw [show (decide ((tkV y e (s)) = (tkV y e (s)))) = true from (decide_eq_true rfl)]; rfl) ?_
              refine JC_skip ?_
              refine JQ_in_normal ?_
              refine JQ_then ?_
              refine JC_seq ?_
              refine JC_draw 158 3 [(0, Ptr nb3 0), (2, .agg (List.toArray (α := Value) ([.slice ao6 ((tkZ y e (s)).length) ca6, I64 ((okE e (decide (TkOk y e (s))):Int))])))] Try.mixed rfl (by decide +kernel) ?_
              refine DP_one ⟨[], [0, 2], [], [0, 2], [1]⟩ 1 _ rfl rfl (by decide +kernel) rfl ⟨⟨_, rfl, Qok_val rfl (Ev_move rfl)⟩, ⟨_, rfl, Qok_val rfl (Ev_load rfl (Ld_agg Try.isAgg85 Try.sizeOf85 rfl (MemAt.ent 1 rfl (Seg.whole _))))⟩, trivial⟩ rfl (Cok_step rfl (Step_callP 64 [Ptr nb3 0] (I64 ((leftN (okE e (decide (TkOk y e (s)))) ((tkZ y e (s)).length):Int))) (Cl_func [Ptr nb3 0] Try.call64 rfl) (fun w1 hw1 => left_w nb3 (okE e (decide (TkOk y e (s)))) ao8 ((tkZ y e (s)).length) ca8 w1 (RdA.of hw1 (MemAt.ent 4 rfl (Seg.whole _)) (by simp))))) ?_
              rintro v1 L1 ⟨rfl, rfl⟩
              refine ⟨[], ?_⟩
              show DP _ _ _ _ _ _ _ _ [⟨nb4, cu8 (([] : List UInt8) ++ b) ++ sp2, 5, (0, 0)⟩, ⟨nb5, [.slice ao6 ((tkZ y e (s)).length) ca6, I64 ((okE e (decide (TkOk y e (s))):Int))], 85, (0, 0)⟩, ⟨nb6, [I64 (kd), I64 (s), U64 nn, .slice ax p cx], 70, (0, 0)⟩, ⟨nb10, [.slice ao6 ((tkZ y e (s)).length) ca6, I64 ((okE e (decide (TkOk y e (s))):Int))], 85, (0, 0)⟩, ⟨nb3, [errV 36 (okE e (decide (TkOk y e (s)))), .slice ao8 ((tkZ y e (s)).length) ca8], 123, (0, 0)⟩, ⟨nb11, cu8 (tkV y e (s)) ++ sp4, 5, (0, 0)⟩]
              refine DP_one ⟨[1], [0, 2], [0], [2], [3]⟩ 3 _ rfl rfl (by decide +kernel) rfl ⟨⟨_, rfl, Qok_val rfl (Ev_load rfl (Ld_agg Try.isAgg85 Try.sizeOf85 rfl (MemAt.ent 1 rfl (Seg.whole _))))⟩, trivial⟩ rfl (Cok_step rfl (Step_callP 65 [.agg (List.toArray (α := Value) ([.slice ao6 ((tkZ y e (s)).length) ca6, I64 ((okE e (decide (TkOk y e (s))):Int))]))] (I64 ((leftN (okE e (decide (TkOk y e (s)))) ((tkZ y e (s)).length):Int))) (Cl_func [.agg (List.toArray (α := Value) ([.slice ao6 ((tkZ y e (s)).length) ca6, I64 ((okE e (decide (TkOk y e (s))):Int))]))] Try.call65 rfl) (fun w1 hw1 => rleft_w ao6 ((tkZ y e (s)).length) ca6 (okE e (decide (TkOk y e (s)))) w1 ))) ?_
              rintro v1 L1 ⟨rfl, rfl⟩
              refine ⟨[(4, .bool (decide (((leftN (okE e (decide (TkOk y e (s)))) ((tkZ y e (s)).length):Int)) ≠ ((leftN (okE e (decide (TkOk y e (s)))) ((tkZ y e (s)).length):Int)))))], ?_⟩
              show DP _ _ _ _ _ _ _ _ [⟨nb4, cu8 (([] : List UInt8) ++ b) ++ sp2, 5, (0, 0)⟩, ⟨nb5, [.slice ao6 ((tkZ y e (s)).length) ca6, I64 ((okE e (decide (TkOk y e (s))):Int))], 85, (0, 0)⟩, ⟨nb6, [I64 (kd), I64 (s), U64 nn, .slice ax p cx], 70, (0, 0)⟩, ⟨nb10, [.slice ao6 ((tkZ y e (s)).length) ca6, I64 ((okE e (decide (TkOk y e (s))):Int))], 85, (0, 0)⟩, ⟨nb3, [errV 36 (okE e (decide (TkOk y e (s)))), .slice ao8 ((tkZ y e (s)).length) ca8], 123, (0, 0)⟩, ⟨nb11, cu8 (tkV y e (s)) ++ sp4, 5, (0, 0)⟩]
              refine DP_end ⟨[1, 3], [0, 2, 4], [0, 2], [4], []⟩ rfl rfl (by decide +kernel) rfl ⟨⟨_, rfl, Qok_val rfl (Ev_bini rfl rfl fun _ => bin_neq_i _ _)⟩, trivial⟩ ?_
              refine K_sub (F' := [(146, Ptr nb3 0), (147, I64 ((leftN (okE e (decide (TkOk y e (s)))) ((tkZ y e (s)).length):Int))), (148, .agg (List.toArray (α := Value) ([.slice ao6 ((tkZ y e (s)).length) ca6, I64 ((okE e (decide (TkOk y e (s))):Int))]))), (149, I64 ((leftN (okE e (decide (TkOk y e (s)))) ((tkZ y e (s)).length):Int))), (150, .bool (decide (((leftN (okE e (decide (TkOk y e (s)))) ((tkZ y e (s)).length):Int)) ≠ ((leftN (okE e (decide (TkOk y e (s)))) ((tkZ y e (s)).length):Int))))), (6, Ptr nb3 0), (7, Ptr nb5 0), (49, .slice ab n cb), (50, I64 ((n:Int))), (51, I64 ((q:Int))), (52, .bool (decide (((q:Int)) < ((n:Int))))), (53, Ptr rowb (4*q + rowo)), (54, .agg (List.toArray (α := Value) ([I64 (kd), I64 (s), U64 nn, .slice ax p cx]))), (10, Ptr nb6 0), (55, Ptr nb6 0), (56, I64 (kd)), (57, U64 (u64i (kd))), (58, U64 ((u64i (kd)) % (6:UInt64))), (73, .bool (decide (((u64i (kd)) % (6:UInt64)) = (0:UInt64)))), (72, .bool (decide (((u64i (kd)) % (6:UInt64)) = (0:UInt64)))), (89, .bool (decide (((u64i (kd)) % (6:UInt64)) = (1:UInt64)))), (88, .bool (decide (((u64i (kd)) % (6:UInt64)) = (1:UInt64)))), (106, .bool (decide (((u64i (kd)) % (6:UInt64)) = (2:UInt64)))), (105, .bool (decide (((u64i (kd)) % (6:UInt64)) = (2:UInt64)))), (108, .agg (List.toArray (α := Value) ([.slice am yn cm, I64 ((e:Int))]))), (109, Ptr nb6 1), (110, I64 (s)), (111, .tuple #[.slice ao7 ((tkV y e (s)).length) ca7, .agg (List.toArray (α := Value) ([.slice ao6 ((tkZ y e (s)).length) ca6, I64 ((okE e (decide (TkOk y e (s))):Int))]))]), (107, .tuple #[.slice ao7 ((tkV y e (s)).length) ca7, .agg (List.toArray (α := Value) ([.slice ao6 ((tkZ y e (s)).length) ca6, I64 ((okE e (decide (TkOk y e (s))):Int))]))]), (112, .slice ao7 ((tkV y e (s)).length) ca7), (113, .agg (List.toArray (α := Value) ([.slice ao6 ((tkZ y e (s)).length) ca6, I64 ((okE e (decide (TkOk y e (s))):Int))]))), (16, Ptr nb10 0), (15, .slice ao7 ((tkV y e (s)).length) ca7), (114, .agg (List.toArray (α := Value) ([.slice ao6 ((tkZ y e (s)).length) ca6, I64 ((okE e (decide (TkOk y e (s))):Int))]))), (115, Ptr nb3 0), (116, Ptr nb6 1), (117, I64 (s)), (118, Slc nb11 0 ((tkV y e (s)).length) cp4), (119, .slice ao7 ((tkV y e (s)).length) ca7), (120, .bool (decide ((tkV y e (s)) = (tkV y e (s))))), (121, .bool (!(decide ((tkV y e (s)) = (tkV y e (s))))))]) (Sub.cons (by kernel_rfl) (Sub.cons (by kernel_rfl) (Sub.cons (by kernel_rfl) (Sub.cons (by kernel_rfl) (Sub.cons (by kernel_rfl) (Sub.cons (by kernel_rfl) (Sub.cons (by kernel_rfl) (Sub.cons (by kernel_rfl) (Sub.cons (by kernel_rfl) (Sub.cons (by kernel_rfl) (Sub.cons (by kernel_rfl) (Sub.cons (by kernel_rfl) (Sub.cons (by kernel_rfl) (Sub.cons (by kernel_rfl) (Sub.cons (by kernel_rfl) (Sub.cons (by kernel_rfl) (Sub.cons (by kernel_rfl) (Sub.cons (by kernel_rfl) (Sub.cons (by kernel_rfl) (Sub.cons (by kernel_rfl) (Sub.cons (by kernel_rfl) (Sub.cons (by kernel_rfl) (Sub.cons (by kernel_rfl) (Sub.cons (by kernel_rfl) (Sub.cons (by kernel_rfl) (Sub.cons (by kernel_rfl) (Sub.cons (by kernel_rfl) (Sub.cons (by kernel_rfl) (Sub.cons (by kernel_rfl) (Sub.cons (by kernel_rfl) (Sub.cons (by kernel_rfl) (Sub.cons (by kernel_rfl) (Sub.cons (by kernel_rfl) (Sub.cons (by kernel_rfl) (Sub.cons (by kernel_rfl) (Sub.cons (by kernel_rfl) (Sub.cons (by kernel_rfl) (Sub.cons (by kernel_rfl) (Sub.cons (by kernel_rfl) (Sub.cons (by kernel_rfl) (Sub.cons (by kernel_rfl) (Sub.nil)))))))))))))))))))))))))))))))))))))))))) ?_
              show JQ _ _ _ [(146, Ptr nb3 0), (147, I64 ((leftN (okE e (decide (TkOk y e (s)))) ((tkZ y e (s)).length):Int))), (148, .agg (List.toArray (α := Value) ([.slice ao6 ((tkZ y e (s)).length) ca6, I64 ((okE e (decide (TkOk y e (s))):Int))]))), (149, I64 ((leftN (okE e (decide (TkOk y e (s)))) ((tkZ y e (s)).length):Int))), (150, .bool (decide (((leftN (okE e (decide (TkOk y e (s)))) ((tkZ y e (s)).length):Int)) ≠ ((leftN (okE e (decide (TkOk y e (s)))) ((tkZ y e (s)).length):Int))))), (6, Ptr nb3 0), (7, Ptr nb5 0), (49, .slice ab n cb), (50, I64 ((n:Int))), (51, I64 ((q:Int))), (52, .bool (decide (((q:Int)) < ((n:Int))))), (53, Ptr rowb (4*q + rowo)), (54, .agg (List.toArray (α := Value) ([I64 (kd), I64 (s), U64 nn, .slice ax p cx]))), (10, Ptr nb6 0), (55, Ptr nb6 0), (56, I64 (kd)), (57, U64 (u64i (kd))), (58, U64 ((u64i (kd)) % (6:UInt64))), (73, .bool (decide (((u64i (kd)) % (6:UInt64)) = (0:UInt64)))), (72, .bool (decide (((u64i (kd)) % (6:UInt64)) = (0:UInt64)))), (89, .bool (decide (((u64i (kd)) % (6:UInt64)) = (1:UInt64)))), (88, .bool (decide (((u64i (kd)) % (6:UInt64)) = (1:UInt64)))), (106, .bool (decide (((u64i (kd)) % (6:UInt64)) = (2:UInt64)))), (105, .bool (decide (((u64i (kd)) % (6:UInt64)) = (2:UInt64)))), (108, .agg (List.toArray (α := Value) ([.slice am yn cm, I64 ((e:Int))]))), (109, Ptr nb6 1), (110, I64 (s)), (111, .tuple #[.slice ao7 ((tkV y e (s)).length) ca7, .agg (List.toArray (α := Value) ([.slice ao6 ((tkZ y e (s)).length) ca6, I64 ((okE e (decide (TkOk y e (s))):Int))]))]), (107, .tuple #[.slice ao7 ((tkV y e (s)).length) ca7, .agg (List.toArray (α := Value) ([.slice ao6 ((tkZ y e (s)).length) ca6, I64 ((okE e (decide (TkOk y e (s))):Int))]))]), (112, .slice ao7 ((tkV y e (s)).length) ca7), (113, .agg (List.toArray (α := Value) ([.slice ao6 ((tkZ y e (s)).length) ca6, I64 ((okE e (decide (TkOk y e (s))):Int))]))), (16, Ptr nb10 0), (15, .slice ao7 ((tkV y e (s)).length) ca7), (114, .agg (List.toArray (α := Value) ([.slice ao6 ((tkZ y e (s)).length) ca6, I64 ((okE e (decide (TkOk y e (s))):Int))]))), (115, Ptr nb3 0), (116, Ptr nb6 1), (117, I64 (s)), (118, Slc nb11 0 ((tkV y e (s)).length) cp4), (119, .slice ao7 ((tkV y e (s)).length) ca7), (120, .bool (decide ((tkV y e (s)) = (tkV y e (s))))), (121, .bool (!(decide ((tkV y e (s)) = (tkV y e (s))))))] _
              refine JQ_then ?_
              refine JC_condF _ rfl (by simp) ?_
              refine JC_skip ?_
              refine JQ_in_normal ?_
              refine JQ_then ?_
              refine JC_region ?_
              refine JL_val (I64 ((q:Int) + 1)) (Ev_bini rfl rfl fun _ => bin_add_i _ _ ((q:Int) + 1) (by omega) (by omega)) rfl ?_
              refine JL_val _ (Ev_move rfl) rfl ?_
              refine JL_nil ?_
              refine JQ_thenK ?_
              refine K_mask [true, true, false, false, true, false] ?_
              show K _ _ [⟨nb4, cu8 (([] : List UInt8) ++ b) ++ sp2, 5, (0, 0)⟩, ⟨nb5, [.slice ao6 ((tkZ y e (s)).length) ca6, I64 ((okE e (decide (TkOk y e (s))):Int))], 85, (0, 0)⟩, ⟨nb3, [errV 36 (okE e (decide (TkOk y e (s)))), .slice ao8 ((tkZ y e (s)).length) ca8], 123, (0, 0)⟩] _
              refine K_pick [2, 0, 1] (by decide) ?_
              show K _ _ [⟨nb3, [errV 36 (okE e (decide (TkOk y e (s)))), .slice ao8 ((tkZ y e (s)).length) ca8], 123, (0, 0)⟩, ⟨nb4, cu8 (([] : List UInt8) ++ b) ++ sp2, 5, (0, 0)⟩, ⟨nb5, [.slice ao6 ((tkZ y e (s)).length) ca6, I64 ((okE e (decide (TkOk y e (s))):Int))], 85, (0, 0)⟩] _
              refine K_next (q + 1, (okE e (decide (TkOk y e (s)))), (tkZ y e (s)), ((tkZ y e (s)).length), ao8, ca8, ao6, ca6) ⟨by omega, rfl, by omega, by omega, by omega, by omega, by omega, (fun w M h => hA6 w M (hA w M h)), (hA5 _ _ hm)⟩ (by first | (simp; omega) | simp | (dsimp only; omega) | omega) (Sub.cons rfl (Sub.cons rfl (Sub.cons rfl (Sub.cons rfl (Sub.cons rfl (Sub.nil)))))) rfl
          ·
            have hp17 : ¬ (((u64i (kd)) % (6:UInt64)) = (2:UInt64)) := of_decide_eq_false hb17
            refine JC_seq ?_
            refine JC_region ?_
            refine JL_val (.bool (decide (((u64i (kd)) % (6:UInt64)) = (3:UInt64)))) (Ev_bini rfl rfl fun _ => bin_eql_u64 ((u64i (kd)) % (6:UInt64)) (3:UInt64)) rfl ?_
            refine JL_val _ (Ev_assign rfl) rfl ?_
            refine JL_nil ?_
            refine JQ_then ?_
            refine JC_cond (decide (((u64i (kd)) % (6:UInt64)) = (3:UInt64))) rfl (fun hb24 => ?_) (fun hb24 => ?_)
            ·
              have hp24 : ((u64i (kd)) % (6:UInt64)) = (3:UInt64) := of_decide_eq_true hb24
              refine JC_seq ?_
              refine JC_region ?_
              refine JL_val (.agg (List.toArray (α := Value) ([.slice am yn cm, I64 ((e:Int))]))) (Ev_load rfl (Ld_agg Try.isAgg85 Try.sizeOf85 rfl (MemAt.ent 2 rfl (Seg.whole _)))) rfl ?_
              have hz7 : (y).length = yn := hyn
              refine JL_step (Step_callN 59 [.agg (List.toArray (α := Value) ([.slice am yn cm, I64 ((e:Int))]))] _ (Cl_func [.agg (List.toArray (α := Value) ([.slice am yn cm, I64 ((e:Int))]))] Try.call59 rfl) (fun w1 hw1 => rhash_w am yn cm e y w1 hyn (by omega) (by omega) (by omega) (hm.at (M' := []) hw1 (by simp)))) rfl ?_
              rintro v1 L1 ⟨_, ⟨rfl, ao9, ca9, rfl, ⟨hA7, hb25, hb26, hb27⟩⟩, rfl⟩
              show JL _ _ _ _ ((126, .tuple #[.agg (cu8 (hsV y e)).toArray, .agg (List.toArray (α := Value) ([.slice ao9 ((hsZ y e).length) ca9, I64 ((okE e (decide (HsOk y e)):Int))]))]) :: _) [⟨nb3, [errV 36 e, .slice ao yn c], 123, (0, 0)⟩, ⟨nb4, cu8 (([] : List UInt8) ++ b) ++ sp2, 5, (0, 0)⟩, ⟨nb5, [.slice am yn cm, I64 ((e:Int))], 85, (0, 0)⟩, ⟨nb6, [I64 (kd), I64 (s), U64 nn, .slice ax p cx], 70, (0, 0)⟩]
              refine JL_val _ (Ev_move rfl) rfl ?_
              refine JL_val _ (Ev_extract rfl rfl) rfl ?_
              refine JL_val _ (Ev_extract rfl rfl) rfl ?_
              refine JL_step (Step_alloc _ (cu8 (zr8 32)) Try.zeroValue76 (by kernel_rfl)) rfl ?_
              rintro v1 L1 ⟨nb12, hnb12, rfl, rfl⟩
              show JL _ _ _ _ ((17, Ptr nb12 0) :: _) [⟨nb3, [errV 36 e, .slice ao yn c], 123, (0, 0)⟩, ⟨nb4, cu8 (([] : List UInt8) ++ b) ++ sp2, 5, (0, 0)⟩, ⟨nb5, [.slice am yn cm, I64 ((e:Int))], 85, (0, 0)⟩, ⟨nb6, [I64 (kd), I64 (s), U64 nn, .slice ax p cx], 70, (0, 0)⟩, ⟨nb12, cu8 (zr8 32), 76, (0, 0)⟩]
              refine JL_step (Step_alloc _ ([.slice none 0 0, I64 (0:Int)]) Try.zeroValue85 (by kernel_rfl)) rfl ?_
              rintro v1 L1 ⟨nb13, hnb13, rfl, rfl⟩
              show JL _ _ _ _ ((18, Ptr nb13 0) :: _) [⟨nb3, [errV 36 e, .slice ao yn c], 123, (0, 0)⟩, ⟨nb4, cu8 (([] : List UInt8) ++ b) ++ sp2, 5, (0, 0)⟩, ⟨nb5, [.slice am yn cm, I64 ((e:Int))], 85, (0, 0)⟩, ⟨nb6, [I64 (kd), I64 (s), U64 nn, .slice ax p cx], 70, (0, 0)⟩, ⟨nb12, cu8 (zr8 32), 76, (0, 0)⟩, ⟨nb13, [.slice none 0 0, I64 (0:Int)], 85, (0, 0)⟩]
              refine JL_step (Step_store 4 nb12 0 32 (cu8 (zr8 32)) 76 (.agg (cu8 (hsV y e)).toArray) (cu8 (hsV y e)) (cu8 (hsV y e)) rfl rfl rfl (by first | rfl | simp) Try.sizeOf76 (len_cu8 (hsV_len _ _)) (by first | exact one_u8 | exact one_u32 | exact one_u64 | (simp [cu8, cu32, cu64, Value.oneCell']; done)) (by simp [(zr8_len 32)]) (lay_whole (by simp [(zr8_len 32), (hsV_len _ _)]))) rfl ?_
              rintro v1 L1 ⟨rfl, rfl⟩
              show JL _ _ _ _ _ [⟨nb3, [errV 36 e, .slice ao yn c], 123, (0, 0)⟩, ⟨nb4, cu8 (([] : List UInt8) ++ b) ++ sp2, 5, (0, 0)⟩, ⟨nb5, [.slice am yn cm, I64 ((e:Int))], 85, (0, 0)⟩, ⟨nb6, [I64 (kd), I64 (s), U64 nn, .slice ax p cx], 70, (0, 0)⟩, ⟨nb12, cu8 (hsV y e), 76, (0, 0)⟩, ⟨nb13, [.slice none 0 0, I64 (0:Int)], 85, (0, 0)⟩]
              refine JL_step (Step_store 5 nb13 0 2 ([.slice none 0 0, I64 (0:Int)]) 85 (.agg (List.toArray (α := Value) ([.slice ao9 ((hsZ y e).length) ca9, I64 ((okE e (decide (HsOk y e)):Int))]))) ([.slice ao9 ((hsZ y e).length) ca9, I64 ((okE e (decide (HsOk y e)):Int))]) ([.slice ao9 ((hsZ y e).length) ca9, I64 ((okE e (decide (HsOk y e)):Int))]) rfl rfl rfl (by first | rfl | simp) Try.sizeOf85 rfl (by simp [Value.oneCell']) (Nat.le_of_ble_eq_true rfl) (lay_whole (by simp []))) rfl ?_
              rintro v1 L1 ⟨rfl, rfl⟩
              show JL _ _ _ _ _ [⟨nb3, [errV 36 e, .slice ao yn c], 123, (0, 0)⟩, ⟨nb4, cu8 (([] : List UInt8) ++ b) ++ sp2, 5, (0, 0)⟩, ⟨nb5, [.slice am yn cm, I64 ((e:Int))], 85, (0, 0)⟩, ⟨nb6, [I64 (kd), I64 (s), U64 nn, .slice ax p cx], 70, (0, 0)⟩, ⟨nb12, cu8 (hsV y e), 76, (0, 0)⟩, ⟨nb13, [.slice ao9 ((hsZ y e).length) ca9, I64 ((okE e (decide (HsOk y e)):Int))], 85, (0, 0)⟩]
              refine JL_nil ?_
              refine JQ_then ?_
              refine JC_seq ?_
              refine JC_region ?_
              refine JL_val (.agg (List.toArray (α := Value) ([.slice ao9 ((hsZ y e).length) ca9, I64 ((okE e (decide (HsOk y e)):Int))]))) (Ev_load rfl (Ld_agg Try.isAgg85 Try.sizeOf85 rfl (MemAt.ent 5 rfl (Seg.whole _)))) rfl ?_
              refine JL_step (Step_store 2 nb5 0 2 ([.slice am yn cm, I64 ((e:Int))]) 85 (.agg (List.toArray (α := Value) ([.slice ao9 ((hsZ y e).length) ca9, I64 ((okE e (decide (HsOk y e)):Int))]))) ([.slice ao9 ((hsZ y e).length) ca9, I64 ((okE e (decide (HsOk y e)):Int))]) ([.slice ao9 ((hsZ y e).length) ca9, I64 ((okE e (decide (HsOk y e)):Int))]) rfl rfl rfl (by first | rfl | simp) Try.sizeOf85 rfl (by simp [Value.oneCell']) (Nat.le_of_ble_eq_true rfl) (lay_whole (by simp []))) rfl ?_
              rintro v1 L1 ⟨rfl, rfl⟩
              show JL _ _ _ _ _ [⟨nb3, [errV 36 e, .slice ao yn c], 123, (0, 0)⟩, ⟨nb4, cu8 (([] : List UInt8) ++ b) ++ sp2, 5, (0, 0)⟩, ⟨nb5, [.slice ao9 ((hsZ y e).length) ca9, I64 ((okE e (decide (HsOk y e)):Int))], 85, (0, 0)⟩, ⟨nb6, [I64 (kd), I64 (s), U64 nn, .slice ax p cx], 70, (0, 0)⟩, ⟨nb12, cu8 (hsV y e), 76, (0, 0)⟩, ⟨nb13, [.slice ao9 ((hsZ y e).length) ca9, I64 ((okE e (decide (HsOk y e)):Int))], 85, (0, 0)⟩]
              refine JL_nil ?_
              refine JQ_then ?_
              refine JC_seq ?_
              refine JC_draw 158 2 [(0, Ptr nb3 0), (2, .agg (cu8 (hsV y e)).toArray)] Try.mixed rfl (by decide +kernel) ?_
              have hz8 : (y).length = yn := hyn
              refine DP_one ⟨[], [0, 2], [], [0, 2], [1]⟩ 1 _ rfl rfl (by decide +kernel) rfl ⟨⟨_, rfl, Qok_val rfl (Ev_move rfl)⟩, ⟨_, rfl, Qok_val rfl (Ev_load rfl (Ld_agg Try.isAgg76 Try.sizeOf76 (len_cu8 (hsV_len _ _)) (MemAt.ent 4 rfl (Seg.whole _))))⟩, trivial⟩ rfl (Cok_step rfl (Step_call 60 _ [true, false, false, false, false, false] [nb3] _ (Cl_func [Ptr nb3 0] Try.call60 rfl) rfl (fun w1 hw1 => hasR_w nb3 e ao yn c y w1 (hw1.ent _ (List.mem_of_getElem? (i := 0) rfl)) hyn (by omega) (by omega) (by omega) (hA _ _ (RdB.of hw1 (MemAt.ent 1 rfl (Seg.left (Seg.whole _))) (by intro _; simp only [List.mem_cons, List.not_mem_nil, or_false, not_or]; exact hw1.ne (i := 1) (j := 0) rfl rfl (by decide))))))) ?_
              rintro v1 L1 ⟨_, ⟨rfl, ao10, ca10, ⟨hA8, hb28, hb29, hb30⟩, rfl⟩, rfl⟩
              refine ⟨[(3, .bool (!(decide ((hsV y e) = (hsV y e)))))], ?_⟩
              show DP _ _ _ _ _ _ _ _ [⟨nb4, cu8 (([] : List UInt8) ++ b) ++ sp2, 5, (0, 0)⟩, ⟨nb5, [.slice ao9 ((hsZ y e).length) ca9, I64 ((okE e (decide (HsOk y e)):Int))], 85, (0, 0)⟩, ⟨nb6, [I64 (kd), I64 (s), U64 nn, .slice ax p cx], 70, (0, 0)⟩, ⟨nb12, cu8 (hsV y e), 76, (0, 0)⟩, ⟨nb13, [.slice ao9 ((hsZ y e).length) ca9, I64 ((okE e (decide (HsOk y e)):Int))], 85, (0, 0)⟩, ⟨nb3, [errV 36 (okE e (decide (HsOk y e))), .slice ao10 ((hsZ y e).length) ca10], 123, (0, 0)⟩]
              refine DP_end ⟨[1], [0, 2, 3], [0], [2, 3], []⟩ rfl rfl (by decide +kernel) rfl ⟨⟨_, rfl, Qok_val rfl (Ev_load rfl (Ld_agg Try.isAgg76 Try.sizeOf76 (len_cu8 (hsV_len _ _)) (MemAt.ent 3 rfl (Seg.whole _))))⟩, ⟨_, rfl, Qok_val rfl (Ev_bin _ _ _ rfl rfl (fun _ => eqGuard_agg _ _ _ _ _ _ (by kernel_rfl)) fun _ => neq_arr8 Try.underlying76 Try.underlying5 Try.isAgg5 Try.cells5 Try.has5 (by simp [(hsV_len _ _)]) (by simp [(hsV_len _ _)]))⟩, trivial⟩ ?_
              refine K_sub (F' := [(130, Ptr nb3 0), (131, .agg (cu8 (hsV y e)).toArray), (132, .agg (cu8 (hsV y e)).toArray), (133, .bool (!(decide ((hsV y e) = (hsV y e))))), (6, Ptr nb3 0), (7, Ptr nb5 0), (49, .slice ab n cb), (50, I64 ((n:Int))), (51, I64 ((q:Int))), (52, .bool (decide (((q:Int)) < ((n:Int))))), (53, Ptr rowb (4*q + rowo)), (54, .agg (List.toArray (α := Value) ([I64 (kd), I64 (s), U64 nn, .slice ax p cx]))), (10, Ptr nb6 0), (55, Ptr nb6 0), (56, I64 (kd)), (57, U64 (u64i (kd))), (58, U64 ((u64i (kd)) % (6:UInt64))), (73, .bool (decide (((u64i (kd)) % (6:UInt64)) = (0:UInt64)))), (72, .bool (decide (((u64i (kd)) % (6:UInt64)) = (0:UInt64)))), (89, .bool (decide (((u64i (kd)) % (6:UInt64)) = (1:UInt64)))), (88, .bool (decide (((u64i (kd)) % (6:UInt64)) = (1:UInt64)))), (106, .bool (decide (((u64i (kd)) % (6:UInt64)) = (2:UInt64)))), (105, .bool (decide (((u64i (kd)) % (6:UInt64)) = (2:UInt64)))), (123, .bool (decide (((u64i (kd)) % (6:UInt64)) = (3:UInt64)))), (122, .bool (decide (((u64i (kd)) % (6:UInt64)) = (3:UInt64)))), (125, .agg (List.toArray (α := Value) ([.slice am yn cm, I64 ((e:Int))]))), (126, .tuple #[.agg (cu8 (hsV y e)).toArray, .agg (List.toArray (α := Value) ([.slice ao9 ((hsZ y e).length) ca9, I64 ((okE e (decide (HsOk y e)):Int))]))]), (124, .tuple #[.agg (cu8 (hsV y e)).toArray, .agg (List.toArray (α := Value) ([.slice ao9 ((hsZ y e).length) ca9, I64 ((okE e (decide (HsOk y e)):Int))]))]), (127, .agg (cu8 (hsV y e)).toArray), (128, .agg (List.toArray (α := Value) ([.slice ao9 ((hsZ y e).length) ca9, I64 ((okE e (decide (HsOk y e)):Int))]))), (17, Ptr nb12 0), (18, Ptr nb13 0), (129, .agg (List.toArray (α := Value) ([.slice ao9 ((hsZ y e).length) ca9, I64 ((okE e (decide (HsOk y e)):Int))])))]) (Sub.cons (by kernel_rfl) (Sub.cons (by kernel_rfl) (Sub.cons (by kernel_rfl) (Sub.cons (by kernel_rfl) (Sub.cons (by kernel_rfl) (Sub.cons (by kernel_rfl) (Sub.cons (by kernel_rfl) (Sub.cons (by kernel_rfl) (Sub.cons (by kernel_rfl) (Sub.cons (by kernel_rfl) (Sub.cons (by kernel_rfl) (Sub.cons (by kernel_rfl) (Sub.cons (by kernel_rfl) (Sub.cons (by kernel_rfl) (Sub.cons (by kernel_rfl) (Sub.cons (by kernel_rfl) (Sub.cons (by kernel_rfl) (Sub.cons (by kernel_rfl) (Sub.cons (by kernel_rfl) (Sub.cons (by kernel_rfl) (Sub.cons (by kernel_rfl) (Sub.cons (by kernel_rfl) (Sub.cons (by kernel_rfl) (Sub.cons (by kernel_rfl) (Sub.cons (by kernel_rfl) (Sub.cons (by kernel_rfl) (Sub.cons (by kernel_rfl) (Sub.cons (by kernel_rfl) (Sub.cons (by kernel_rfl) (Sub.cons (by kernel_rfl) (Sub.cons (by kernel_rfl) (Sub.cons (by kernel_rfl) (Sub.cons (by kernel_rfl) (Sub.nil)))))))))))))))))))))))))))))))))) ?_
              show JQ _ _ _ [(130, Ptr nb3 0), (131, .agg (cu8 (hsV y e)).toArray), (132, .agg (cu8 (hsV y e)).toArray), (133, .bool (!(decide ((hsV y e) = (hsV y e))))), (6, Ptr nb3 0), (7, Ptr nb5 0), (49, .slice ab n cb), (50, I64 ((n:Int))), (51, I64 ((q:Int))), (52, .bool (decide (((q:Int)) < ((n:Int))))), (53, Ptr rowb (4*q + rowo)), (54, .agg (List.toArray (α := Value) ([I64 (kd), I64 (s), U64 nn, .slice ax p cx]))), (10, Ptr nb6 0), (55, Ptr nb6 0), (56, I64 (kd)), (57, U64 (u64i (kd))), (58, U64 ((u64i (kd)) % (6:UInt64))), (73, .bool (decide (((u64i (kd)) % (6:UInt64)) = (0:UInt64)))), (72, .bool (decide (((u64i (kd)) % (6:UInt64)) = (0:UInt64)))), (89, .bool (decide (((u64i (kd)) % (6:UInt64)) = (1:UInt64)))), (88, .bool (decide (((u64i (kd)) % (6:UInt64)) = (1:UInt64)))), (106, .bool (decide (((u64i (kd)) % (6:UInt64)) = (2:UInt64)))), (105, .bool (decide (((u64i (kd)) % (6:UInt64)) = (2:UInt64)))), (123, .bool (decide (((u64i (kd)) % (6:UInt64)) = (3:UInt64)))), (122, .bool (decide (((u64i (kd)) % (6:UInt64)) = (3:UInt64)))), (125, .agg (List.toArray (α := Value) ([.slice am yn cm, I64 ((e:Int))]))), (126, .tuple #[.agg (cu8 (hsV y e)).toArray, .agg (List.toArray (α := Value) ([.slice ao9 ((hsZ y e).length) ca9, I64 ((okE e (decide (HsOk y e)):Int))]))]), (124, .tuple #[.agg (cu8 (hsV y e)).toArray, .agg (List.toArray (α := Value) ([.slice ao9 ((hsZ y e).length) ca9, I64 ((okE e (decide (HsOk y e)):Int))]))]), (127, .agg (cu8 (hsV y e)).toArray), (128, .agg (List.toArray (α := Value) ([.slice ao9 ((hsZ y e).length) ca9, I64 ((okE e (decide (HsOk y e)):Int))]))), (17, Ptr nb12 0), (18, Ptr nb13 0), (129, .agg (List.toArray (α := Value) ([.slice ao9 ((hsZ y e).length) ca9, I64 ((okE e (decide (HsOk y e)):Int))])))] _
              refine JQ_then ?_
              refine JC_condF _ rfl (by rw [show (decide ((hsV y e) = (hsV y e))) = true from (decide_eq_true rfl)]; rfl) ?_
              refine JC_skip ?_
              refine JQ_in_normal ?_
              refine JQ_then ?_
              refine JC_seq ?_
              refine JC_draw 158 3 [(0, Ptr nb3 0), (2, .agg (List.toArray (α := Value) ([.slice ao9 ((hsZ y e).length) ca9, I64 ((okE e (decide (HsOk y e)):Int))])))] Try.mixed rfl (by decide +kernel) ?_
              refine DP_one ⟨[], [0, 2], [], [0, 2], [1]⟩ 1 _ rfl rfl (by decide +kernel) rfl ⟨⟨_, rfl, Qok_val rfl (Ev_move rfl)⟩, ⟨_, rfl, Qok_val rfl (Ev_load rfl (Ld_agg Try.isAgg85 Try.sizeOf85 rfl (MemAt.ent 1 rfl (Seg.whole _))))⟩, trivial⟩ rfl (Cok_step rfl (Step_callP 64 [Ptr nb3 0] (I64 ((leftN (okE e (decide (HsOk y e))) ((hsZ y e).length):Int))) (Cl_func [Ptr nb3 0] Try.call64 rfl) (fun w1 hw1 => left_w nb3 (okE e (decide (HsOk y e))) ao10 ((hsZ y e).length) ca10 w1 (RdA.of hw1 (MemAt.ent 5 rfl (Seg.whole _)) (by simp))))) ?_
              rintro v1 L1 ⟨rfl, rfl⟩
              refine ⟨[], ?_⟩
              show DP _ _ _ _ _ _ _ _ [⟨nb4, cu8 (([] : List UInt8) ++ b) ++ sp2, 5, (0, 0)⟩, ⟨nb5, [.slice ao9 ((hsZ y e).length) ca9, I64 ((okE e (decide (HsOk y e)):Int))], 85, (0, 0)⟩, ⟨nb6, [I64 (kd), I64 (s), U64 nn, .slice ax p cx], 70, (0, 0)⟩, ⟨nb12, cu8 (hsV y e), 76, (0, 0)⟩, ⟨nb13, [.slice ao9 ((hsZ y e).length) ca9, I64 ((okE e (decide (HsOk y e)):Int))], 85, (0, 0)⟩, ⟨nb3, [errV 36 (okE e (decide (HsOk y e))), .slice ao10 ((hsZ y e).length) ca10], 123, (0, 0)⟩]
              refine DP_one ⟨[1], [0, 2], [0], [2], [3]⟩ 3 _ rfl rfl (by decide +kernel) rfl ⟨⟨_, rfl, Qok_val rfl (Ev_load rfl (Ld_agg Try.isAgg85 Try.sizeOf85 rfl (MemAt.ent 1 rfl (Seg.whole _))))⟩, trivial⟩ rfl (Cok_step rfl (Step_callP 65 [.agg (List.toArray (α := Value) ([.slice ao9 ((hsZ y e).length) ca9, I64 ((okE e (decide (HsOk y e)):Int))]))] (I64 ((leftN (okE e (decide (HsOk y e))) ((hsZ y e).length):Int))) (Cl_func [.agg (List.toArray (α := Value) ([.slice ao9 ((hsZ y e).length) ca9, I64 ((okE e (decide (HsOk y e)):Int))]))] Try.call65 rfl) (fun w1 hw1 => rleft_w ao9 ((hsZ y e).length) ca9 (okE e (decide (HsOk y e))) w1 ))) ?_
              rintro v1 L1 ⟨rfl, rfl⟩
              refine ⟨[(4, .bool (decide (((leftN (okE e (decide (HsOk y e))) ((hsZ y e).length):Int)) ≠ ((leftN (okE e (decide (HsOk y e))) ((hsZ y e).length):Int)))))], ?_⟩
              show DP _ _ _ _ _ _ _ _ [⟨nb4, cu8 (([] : List UInt8) ++ b) ++ sp2, 5, (0, 0)⟩, ⟨nb5, [.slice ao9 ((hsZ y e).length) ca9, I64 ((okE e (decide (HsOk y e)):Int))], 85, (0, 0)⟩, ⟨nb6, [I64 (kd), I64 (s), U64 nn, .slice ax p cx], 70, (0, 0)⟩, ⟨nb12, cu8 (hsV y e), 76, (0, 0)⟩, ⟨nb13, [.slice ao9 ((hsZ y e).length) ca9, I64 ((okE e (decide (HsOk y e)):Int))], 85, (0, 0)⟩, ⟨nb3, [errV 36 (okE e (decide (HsOk y e))), .slice ao10 ((hsZ y e).length) ca10], 123, (0, 0)⟩]
              refine DP_end ⟨[1, 3], [0, 2, 4], [0, 2], [4], []⟩ rfl rfl (by decide +kernel) rfl ⟨⟨_, rfl, Qok_val rfl (Ev_bini rfl rfl fun _ => bin_neq_i _ _)⟩, trivial⟩ ?_
              refine K_sub (F' := [(146, Ptr nb3 0), (147, I64 ((leftN (okE e (decide (HsOk y e))) ((hsZ y e).length):Int))), (148, .agg (List.toArray (α := Value) ([.slice ao9 ((hsZ y e).length) ca9, I64 ((okE e (decide (HsOk y e)):Int))]))), (149, I64 ((leftN (okE e (decide (HsOk y e))) ((hsZ y e).length):Int))), (150, .bool (decide (((leftN (okE e (decide (HsOk y e))) ((hsZ y e).length):Int)) ≠ ((leftN (okE e (decide (HsOk y e))) ((hsZ y e).length):Int))))), (130, Ptr nb3 0), (131, .agg (cu8 (hsV y e)).toArray), (132, .agg (cu8 (hsV y e)).toArray), (133, .bool (!(decide ((hsV y e) = (hsV y e))))), (6, Ptr nb3 0), (7, Ptr nb5 0), (49, .slice ab n cb), (50, I64 ((n:Int))), (51, I64 ((q:Int))), (52, .bool (decide (((q:Int)) < ((n:Int))))), (53, Ptr rowb (4*q + rowo)), (54, .agg (List.toArray (α := Value) ([I64 (kd), I64 (s), U64 nn, .slice ax p cx]))), (10, Ptr nb6 0), (55, Ptr nb6 0), (56, I64 (kd)), (57, U64 (u64i (kd))), (58, U64 ((u64i (kd)) % (6:UInt64))), (73, .bool (decide (((u64i (kd)) % (6:UInt64)) = (0:UInt64)))), (72, .bool (decide (((u64i (kd)) % (6:UInt64)) = (0:UInt64)))), (89, .bool (decide (((u64i (kd)) % (6:UInt64)) = (1:UInt64)))), (88, .bool (decide (((u64i (kd)) % (6:UInt64)) = (1:UInt64)))), (106, .bool (decide (((u64i (kd)) % (6:UInt64)) = (2:UInt64)))), (105, .bool (decide (((u64i (kd)) % (6:UInt64)) = (2:UInt64)))), (123, .bool (decide (((u64i (kd)) % (6:UInt64)) = (3:UInt64)))), (122, .bool (decide (((u64i (kd)) % (6:UInt64)) = (3:UInt64)))), (125, .agg (List.toArray (α := Value) ([.slice am yn cm, I64 ((e:Int))]))), (126, .tuple #[.agg (cu8 (hsV y e)).toArray, .agg (List.toArray (α := Value) ([.slice ao9 ((hsZ y e).length) ca9, I64 ((okE e (decide (HsOk y e)):Int))]))]), (124, .tuple #[.agg (cu8 (hsV y e)).toArray, .agg (List.toArray (α := Value) ([.slice ao9 ((hsZ y e).length) ca9, I64 ((okE e (decide (HsOk y e)):Int))]))]), (127, .agg (cu8 (hsV y e)).toArray), (128, .agg (List.toArray (α := Value) ([.slice ao9 ((hsZ y e).length) ca9, I64 ((okE e (decide (HsOk y e)):Int))]))), (17, Ptr nb12 0), (18, Ptr nb13 0), (129, .agg (List.toArray (α := Value) ([.slice ao9 ((hsZ y e).length) ca9, I64 ((okE e (decide (HsOk y e)):Int))])))]) (Sub.cons (by kernel_rfl) (Sub.cons (by kernel_rfl) (Sub.cons (by kernel_rfl) (Sub.cons (by kernel_rfl) (Sub.cons (by kernel_rfl) (Sub.cons (by kernel_rfl) (Sub.cons (by kernel_rfl) (Sub.cons (by kernel_rfl) (Sub.cons (by kernel_rfl) (Sub.cons (by kernel_rfl) (Sub.cons (by kernel_rfl) (Sub.cons (by kernel_rfl) (Sub.cons (by kernel_rfl) (Sub.cons (by kernel_rfl) (Sub.cons (by kernel_rfl) (Sub.cons (by kernel_rfl) (Sub.cons (by kernel_rfl) (Sub.cons (by kernel_rfl) (Sub.cons (by kernel_rfl) (Sub.cons (by kernel_rfl) (Sub.cons (by kernel_rfl) (Sub.cons (by kernel_rfl) (Sub.cons (by kernel_rfl) (Sub.cons (by kernel_rfl) (Sub.cons (by kernel_rfl) (Sub.cons (by kernel_rfl) (Sub.cons (by kernel_rfl) (Sub.cons (by kernel_rfl) (Sub.cons (by kernel_rfl) (Sub.cons (by kernel_rfl) (Sub.cons (by kernel_rfl) (Sub.cons (by kernel_rfl) (Sub.cons (by kernel_rfl) (Sub.cons (by kernel_rfl) (Sub.cons (by kernel_rfl) (Sub.cons (by kernel_rfl) (Sub.cons (by kernel_rfl) (Sub.cons (by kernel_rfl) (Sub.nil))))))))))))))))))))))))))))))))))))))) ?_
              show JQ _ _ _ [(146, Ptr nb3 0), (147, I64 ((leftN (okE e (decide (HsOk y e))) ((hsZ y e).length):Int))), (148, .agg (List.toArray (α := Value) ([.slice ao9 ((hsZ y e).length) ca9, I64 ((okE e (decide (HsOk y e)):Int))]))), (149, I64 ((leftN (okE e (decide (HsOk y e))) ((hsZ y e).length):Int))), (150, .bool (decide (((leftN (okE e (decide (HsOk y e))) ((hsZ y e).length):Int)) ≠ ((leftN (okE e (decide (HsOk y e))) ((hsZ y e).length):Int))))), (130, Ptr nb3 0), (131, .agg (cu8 (hsV y e)).toArray), (132, .agg (cu8 (hsV y e)).toArray), (133, .bool (!(decide ((hsV y e) = (hsV y e))))), (6, Ptr nb3 0), (7, Ptr nb5 0), (49, .slice ab n cb), (50, I64 ((n:Int))), (51, I64 ((q:Int))), (52, .bool (decide (((q:Int)) < ((n:Int))))), (53, Ptr rowb (4*q + rowo)), (54, .agg (List.toArray (α := Value) ([I64 (kd), I64 (s), U64 nn, .slice ax p cx]))), (10, Ptr nb6 0), (55, Ptr nb6 0), (56, I64 (kd)), (57, U64 (u64i (kd))), (58, U64 ((u64i (kd)) % (6:UInt64))), (73, .bool (decide (((u64i (kd)) % (6:UInt64)) = (0:UInt64)))), (72, .bool (decide (((u64i (kd)) % (6:UInt64)) = (0:UInt64)))), (89, .bool (decide (((u64i (kd)) % (6:UInt64)) = (1:UInt64)))), (88, .bool (decide (((u64i (kd)) % (6:UInt64)) = (1:UInt64)))), (106, .bool (decide (((u64i (kd)) % (6:UInt64)) = (2:UInt64)))), (105, .bool (decide (((u64i (kd)) % (6:UInt64)) = (2:UInt64)))), (123, .bool (decide (((u64i (kd)) % (6:UInt64)) = (3:UInt64)))), (122, .bool (decide (((u64i (kd)) % (6:UInt64)) = (3:UInt64)))), (125, .agg (List.toArray (α := Value) ([.slice am yn cm, I64 ((e:Int))]))), (126, .tuple #[.agg (cu8 (hsV y e)).toArray, .agg (List.toArray (α := Value) ([.slice ao9 ((hsZ y e).length) ca9, I64 ((okE e (decide (HsOk y e)):Int))]))]), (124, .tuple #[.agg (cu8 (hsV y e)).toArray, .agg (List.toArray (α := Value) ([.slice ao9 ((hsZ y e).length) ca9, I64 ((okE e (decide (HsOk y e)):Int))]))]), (127, .agg (cu8 (hsV y e)).toArray), (128, .agg (List.toArray (α := Value) ([.slice ao9 ((hsZ y e).length) ca9, I64 ((okE e (decide (HsOk y e)):Int))]))), (17, Ptr nb12 0), (18, Ptr nb13 0), (129, .agg (List.toArray (α := Value) ([.slice ao9 ((hsZ y e).length) ca9, I64 ((okE e (decide (HsOk y e)):Int))])))] _
              refine JQ_then ?_
              refine JC_condF _ rfl (by simp) ?_
              refine JC_skip ?_
              refine JQ_in_normal ?_
              refine JQ_then ?_
              refine JC_region ?_
              refine JL_val (I64 ((q:Int) + 1)) (Ev_bini rfl rfl fun _ => bin_add_i _ _ ((q:Int) + 1) (by omega) (by omega)) rfl ?_
              refine JL_val _ (Ev_move rfl) rfl ?_
              refine JL_nil ?_
              refine JQ_thenK ?_
              refine K_mask [true, true, false, false, false, true] ?_
              show K _ _ [⟨nb4, cu8 (([] : List UInt8) ++ b) ++ sp2, 5, (0, 0)⟩, ⟨nb5, [.slice ao9 ((hsZ y e).length) ca9, I64 ((okE e (decide (HsOk y e)):Int))], 85, (0, 0)⟩, ⟨nb3, [errV 36 (okE e (decide (HsOk y e))), .slice ao10 ((hsZ y e).length) ca10], 123, (0, 0)⟩] _
              refine K_pick [2, 0, 1] (by decide) ?_
              show K _ _ [⟨nb3, [errV 36 (okE e (decide (HsOk y e))), .slice ao10 ((hsZ y e).length) ca10], 123, (0, 0)⟩, ⟨nb4, cu8 (([] : List UInt8) ++ b) ++ sp2, 5, (0, 0)⟩, ⟨nb5, [.slice ao9 ((hsZ y e).length) ca9, I64 ((okE e (decide (HsOk y e)):Int))], 85, (0, 0)⟩] _
              refine K_next (q + 1, (okE e (decide (HsOk y e))), (hsZ y e), ((hsZ y e).length), ao10, ca10, ao9, ca9) ⟨by omega, rfl, by omega, by omega, by omega, by omega, by omega, (fun w M h => hA8 w M (hA w M h)), (hA7 _ _ hm)⟩ (by first | (simp; omega) | simp | (dsimp only; omega) | omega) (Sub.cons rfl (Sub.cons rfl (Sub.cons rfl (Sub.cons rfl (Sub.cons rfl (Sub.nil)))))) rfl
            ·
              have hp24 : ¬ (((u64i (kd)) % (6:UInt64)) = (3:UInt64)) := of_decide_eq_false hb24
              refine JC_seq ?_
              refine JC_region ?_
              refine JL_val (.bool (decide (((u64i (kd)) % (6:UInt64)) = (4:UInt64)))) (Ev_bini rfl rfl fun _ => bin_eql_u64 ((u64i (kd)) % (6:UInt64)) (4:UInt64)) rfl ?_
              refine JL_val _ (Ev_assign rfl) rfl ?_
              refine JL_nil ?_
              refine JQ_then ?_
              refine JC_cond (decide (((u64i (kd)) % (6:UInt64)) = (4:UInt64))) rfl (fun hb31 => ?_) (fun hb31 => ?_)
              ·
                have hp31 : ((u64i (kd)) % (6:UInt64)) = (4:UInt64) := of_decide_eq_true hb31
                refine JC_seq ?_
                refine JC_region ?_
                refine JL_val (.agg (List.toArray (α := Value) ([.slice am yn cm, I64 ((e:Int))]))) (Ev_load rfl (Ld_agg Try.isAgg85 Try.sizeOf85 rfl (MemAt.ent 2 rfl (Seg.whole _)))) rfl ?_
                have hz9 : (y).length = yn := hyn
                refine JL_step (Step_callN 61 [.agg (List.toArray (α := Value) ([.slice am yn cm, I64 ((e:Int))]))] _ (Cl_func [.agg (List.toArray (α := Value) ([.slice am yn cm, I64 ((e:Int))]))] Try.call61 rfl) (fun w1 hw1 => rbool_w am yn cm e y w1 hyn (by omega) (by omega) (by omega) (hm.at (M' := []) hw1 (by simp)))) rfl ?_
                rintro v1 L1 ⟨_, ⟨rfl, ao11, ca11, rfl, ⟨hA9, hb32, hb33, hb34⟩⟩, rfl⟩
                show JL _ _ _ _ ((138, .tuple #[.bool (fgV y e), .agg (List.toArray (α := Value) ([.slice ao11 ((fgZ y e).length) ca11, I64 ((okE e (decide (FgOk y e)):Int))]))]) :: _) [⟨nb3, [errV 36 e, .slice ao yn c], 123, (0, 0)⟩, ⟨nb4, cu8 (([] : List UInt8) ++ b) ++ sp2, 5, (0, 0)⟩, ⟨nb5, [.slice am yn cm, I64 ((e:Int))], 85, (0, 0)⟩, ⟨nb6, [I64 (kd), I64 (s), U64 nn, .slice ax p cx], 70, (0, 0)⟩]
                refine JL_val _ (Ev_move rfl) rfl ?_
                refine JL_val _ (Ev_extract rfl rfl) rfl ?_
                refine JL_val _ (Ev_extract rfl rfl) rfl ?_
                refine JL_step (Step_alloc _ ([.slice none 0 0, I64 (0:Int)]) Try.zeroValue85 (by kernel_rfl)) rfl ?_
                rintro v1 L1 ⟨nb14, hnb14, rfl, rfl⟩
                show JL _ _ _ _ ((20, Ptr nb14 0) :: _) [⟨nb3, [errV 36 e, .slice ao yn c], 123, (0, 0)⟩, ⟨nb4, cu8 (([] : List UInt8) ++ b) ++ sp2, 5, (0, 0)⟩, ⟨nb5, [.slice am yn cm, I64 ((e:Int))], 85, (0, 0)⟩, ⟨nb6, [I64 (kd), I64 (s), U64 nn, .slice ax p cx], 70, (0, 0)⟩, ⟨nb14, [.slice none 0 0, I64 (0:Int)], 85, (0, 0)⟩]
                refine JL_val _ (Ev_assign rfl) rfl ?_
                refine JL_step (Step_store 4 nb14 0 2 ([.slice none 0 0, I64 (0:Int)]) 85 (.agg (List.toArray (α := Value) ([.slice ao11 ((fgZ y e).length) ca11, I64 ((okE e (decide (FgOk y e)):Int))]))) ([.slice ao11 ((fgZ y e).length) ca11, I64 ((okE e (decide (FgOk y e)):Int))]) ([.slice ao11 ((fgZ y e).length) ca11, I64 ((okE e (decide (FgOk y e)):Int))]) rfl rfl rfl (by first | rfl | simp) Try.sizeOf85 rfl (by simp [Value.oneCell']) (Nat.le_of_ble_eq_true rfl) (lay_whole (by simp []))) rfl ?_
                rintro v1 L1 ⟨rfl, rfl⟩
                show JL _ _ _ _ _ [⟨nb3, [errV 36 e, .slice ao yn c], 123, (0, 0)⟩, ⟨nb4, cu8 (([] : List UInt8) ++ b) ++ sp2, 5, (0, 0)⟩, ⟨nb5, [.slice am yn cm, I64 ((e:Int))], 85, (0, 0)⟩, ⟨nb6, [I64 (kd), I64 (s), U64 nn, .slice ax p cx], 70, (0, 0)⟩, ⟨nb14, [.slice ao11 ((fgZ y e).length) ca11, I64 ((okE e (decide (FgOk y e)):Int))], 85, (0, 0)⟩]
                refine JL_nil ?_
                refine JQ_then ?_
                refine JC_seq ?_
                refine JC_region ?_
                refine JL_val (.agg (List.toArray (α := Value) ([.slice ao11 ((fgZ y e).length) ca11, I64 ((okE e (decide (FgOk y e)):Int))]))) (Ev_load rfl (Ld_agg Try.isAgg85 Try.sizeOf85 rfl (MemAt.ent 4 rfl (Seg.whole _)))) rfl ?_
                refine JL_step (Step_store 2 nb5 0 2 ([.slice am yn cm, I64 ((e:Int))]) 85 (.agg (List.toArray (α := Value) ([.slice ao11 ((fgZ y e).length) ca11, I64 ((okE e (decide (FgOk y e)):Int))]))) ([.slice ao11 ((fgZ y e).length) ca11, I64 ((okE e (decide (FgOk y e)):Int))]) ([.slice ao11 ((fgZ y e).length) ca11, I64 ((okE e (decide (FgOk y e)):Int))]) rfl rfl rfl (by first | rfl | simp) Try.sizeOf85 rfl (by simp [Value.oneCell']) (Nat.le_of_ble_eq_true rfl) (lay_whole (by simp []))) rfl ?_
                rintro v1 L1 ⟨rfl, rfl⟩
                show JL _ _ _ _ _ [⟨nb3, [errV 36 e, .slice ao yn c], 123, (0, 0)⟩, ⟨nb4, cu8 (([] : List UInt8) ++ b) ++ sp2, 5, (0, 0)⟩, ⟨nb5, [.slice ao11 ((fgZ y e).length) ca11, I64 ((okE e (decide (FgOk y e)):Int))], 85, (0, 0)⟩, ⟨nb6, [I64 (kd), I64 (s), U64 nn, .slice ax p cx], 70, (0, 0)⟩, ⟨nb14, [.slice ao11 ((fgZ y e).length) ca11, I64 ((okE e (decide (FgOk y e)):Int))], 85, (0, 0)⟩]
                refine JL_nil ?_
                refine JQ_then ?_
                refine JC_seq ?_
                refine JC_region ?_
                refine JL_val _ (Ev_move rfl) rfl ?_
                have hz10 : (y).length = yn := hyn
                refine JL_step (Step_call 62 _ [true, false, false, false, false] [nb3] _ (Cl_func [Ptr nb3 0] Try.call62 rfl) rfl (fun w1 hw1 => flgR_w nb3 e ao yn c y w1 (hw1.ent _ (List.mem_of_getElem? (i := 0) rfl)) hyn (by omega) (by omega) (by omega) (hA _ _ (RdB.of hw1 (MemAt.ent 1 rfl (Seg.left (Seg.whole _))) (by intro _; simp only [List.mem_cons, List.not_mem_nil, or_false, not_or]; exact hw1.ne (i := 1) (j := 0) rfl rfl (by decide)))))) rfl ?_
                rintro v1 L1 ⟨_, ⟨rfl, ao12, ca12, ⟨hA10, hb35, hb36, hb37⟩, rfl⟩, rfl⟩
                show JL _ _ _ _ ((143, .bool (fgV y e)) :: _) [⟨nb4, cu8 (([] : List UInt8) ++ b) ++ sp2, 5, (0, 0)⟩, ⟨nb5, [.slice ao11 ((fgZ y e).length) ca11, I64 ((okE e (decide (FgOk y e)):Int))], 85, (0, 0)⟩, ⟨nb6, [I64 (kd), I64 (s), U64 nn, .slice ax p cx], 70, (0, 0)⟩, ⟨nb14, [.slice ao11 ((fgZ y e).length) ca11, I64 ((okE e (decide (FgOk y e)):Int))], 85, (0, 0)⟩, ⟨nb3, [errV 36 (okE e (decide (FgOk y e))), .slice ao12 ((fgZ y e).length) ca12], 123, (0, 0)⟩]
                refine JL_val _ (Ev_move rfl) rfl ?_
                refine JL_val (.bool (!((fgV y e) == (fgV y e)))) (Ev_bin _ _ _ rfl rfl (fun _ => eqGuard_bool ..) fun _ => neq_bool Try.underlying4) rfl ?_
                refine JL_nil ?_
                refine JQ_then ?_
                refine JC_condF _ rfl (by rw [show ((fgV y e) == (fgV y e)) = true from (beq_self_eq_true _)]; rfl) ?_
                refine JC_skip ?_
                refine JQ_in_normal ?_
                refine JQ_then ?_
                refine JC_seq ?_
                refine JC_draw 158 3 [(0, Ptr nb3 0), (2, .agg (List.toArray (α := Value) ([.slice ao11 ((fgZ y e).length) ca11, I64 ((okE e (decide (FgOk y e)):Int))])))] Try.mixed rfl (by decide +kernel) ?_
                refine DP_one ⟨[], [0, 2], [], [0, 2], [1]⟩ 1 _ rfl rfl (by decide +kernel) rfl ⟨⟨_, rfl, Qok_val rfl (Ev_move rfl)⟩, ⟨_, rfl, Qok_val rfl (Ev_load rfl (Ld_agg Try.isAgg85 Try.sizeOf85 rfl (MemAt.ent 1 rfl (Seg.whole _))))⟩, trivial⟩ rfl (Cok_step rfl (Step_callP 64 [Ptr nb3 0] (I64 ((leftN (okE e (decide (FgOk y e))) ((fgZ y e).length):Int))) (Cl_func [Ptr nb3 0] Try.call64 rfl) (fun w1 hw1 => left_w nb3 (okE e (decide (FgOk y e))) ao12 ((fgZ y e).length) ca12 w1 (RdA.of hw1 (MemAt.ent 4 rfl (Seg.whole _)) (by simp))))) ?_
                rintro v1 L1 ⟨rfl, rfl⟩
                refine ⟨[], ?_⟩
                show DP _ _ _ _ _ _ _ _ [⟨nb4, cu8 (([] : List UInt8) ++ b) ++ sp2, 5, (0, 0)⟩, ⟨nb5, [.slice ao11 ((fgZ y e).length) ca11, I64 ((okE e (decide (FgOk y e)):Int))], 85, (0, 0)⟩, ⟨nb6, [I64 (kd), I64 (s), U64 nn, .slice ax p cx], 70, (0, 0)⟩, ⟨nb14, [.slice ao11 ((fgZ y e).length) ca11, I64 ((okE e (decide (FgOk y e)):Int))], 85, (0, 0)⟩, ⟨nb3, [errV 36 (okE e (decide (FgOk y e))), .slice ao12 ((fgZ y e).length) ca12], 123, (0, 0)⟩]
                refine DP_one ⟨[1], [0, 2], [0], [2], [3]⟩ 3 _ rfl rfl (by decide +kernel) rfl ⟨⟨_, rfl, Qok_val rfl (Ev_load rfl (Ld_agg Try.isAgg85 Try.sizeOf85 rfl (MemAt.ent 1 rfl (Seg.whole _))))⟩, trivial⟩ rfl (Cok_step rfl (Step_callP 65 [.agg (List.toArray (α := Value) ([.slice ao11 ((fgZ y e).length) ca11, I64 ((okE e (decide (FgOk y e)):Int))]))] (I64 ((leftN (okE e (decide (FgOk y e))) ((fgZ y e).length):Int))) (Cl_func [.agg (List.toArray (α := Value) ([.slice ao11 ((fgZ y e).length) ca11, I64 ((okE e (decide (FgOk y e)):Int))]))] Try.call65 rfl) (fun w1 hw1 => rleft_w ao11 ((fgZ y e).length) ca11 (okE e (decide (FgOk y e))) w1 ))) ?_
                rintro v1 L1 ⟨rfl, rfl⟩
                refine ⟨[(4, .bool (decide (((leftN (okE e (decide (FgOk y e))) ((fgZ y e).length):Int)) ≠ ((leftN (okE e (decide (FgOk y e))) ((fgZ y e).length):Int)))))], ?_⟩
                show DP _ _ _ _ _ _ _ _ [⟨nb4, cu8 (([] : List UInt8) ++ b) ++ sp2, 5, (0, 0)⟩, ⟨nb5, [.slice ao11 ((fgZ y e).length) ca11, I64 ((okE e (decide (FgOk y e)):Int))], 85, (0, 0)⟩, ⟨nb6, [I64 (kd), I64 (s), U64 nn, .slice ax p cx], 70, (0, 0)⟩, ⟨nb14, [.slice ao11 ((fgZ y e).length) ca11, I64 ((okE e (decide (FgOk y e)):Int))], 85, (0, 0)⟩, ⟨nb3, [errV 36 (okE e (decide (FgOk y e))), .slice ao12 ((fgZ y e).length) ca12], 123, (0, 0)⟩]
                refine DP_end ⟨[1, 3], [0, 2, 4], [0, 2], [4], []⟩ rfl rfl (by decide +kernel) rfl ⟨⟨_, rfl, Qok_val rfl (Ev_bini rfl rfl fun _ => bin_neq_i _ _)⟩, trivial⟩ ?_
                refine K_sub (F' := [(146, Ptr nb3 0), (147, I64 ((leftN (okE e (decide (FgOk y e))) ((fgZ y e).length):Int))), (148, .agg (List.toArray (α := Value) ([.slice ao11 ((fgZ y e).length) ca11, I64 ((okE e (decide (FgOk y e)):Int))]))), (149, I64 ((leftN (okE e (decide (FgOk y e))) ((fgZ y e).length):Int))), (150, .bool (decide (((leftN (okE e (decide (FgOk y e))) ((fgZ y e).length):Int)) ≠ ((leftN (okE e (decide (FgOk y e))) ((fgZ y e).length):Int))))), (6, Ptr nb3 0), (7, Ptr nb5 0), (49, .slice ab n cb), (50, I64 ((n:Int))), (51, I64 ((q:Int))), (52, .bool (decide (((q:Int)) < ((n:Int))))), (53, Ptr rowb (4*q + rowo)), (54, .agg (List.toArray (α := Value) ([I64 (kd), I64 (s), U64 nn, .slice ax p cx]))), (10, Ptr nb6 0), (55, Ptr nb6 0), (56, I64 (kd)), (57, U64 (u64i (kd))), (58, U64 ((u64i (kd)) % (6:UInt64))), (73, .bool (decide (((u64i (kd)) % (6:UInt64)) = (0:UInt64)))), (72, .bool (decide (((u64i (kd)) % (6:UInt64)) = (0:UInt64)))), (89, .bool (decide (((u64i (kd)) % (6:UInt64)) = (1:UInt64)))), (88, .bool (decide (((u64i (kd)) % (6:UInt64)) = (1:UInt64)))), (106, .bool (decide (((u64i (kd)) % (6:UInt64)) = (2:UInt64)))), (105, .bool (decide (((u64i (kd)) % (6:UInt64)) = (2:UInt64)))), (123, .bool (decide (((u64i (kd)) % (6:UInt64)) = (3:UInt64)))), (122, .bool (decide (((u64i (kd)) % (6:UInt64)) = (3:UInt64)))), (135, .bool (decide (((u64i (kd)) % (6:UInt64)) = (4:UInt64)))), (134, .bool (decide (((u64i (kd)) % (6:UInt64)) = (4:UInt64)))), (137, .agg (List.toArray (α := Value) ([.slice am yn cm, I64 ((e:Int))]))), (138, .tuple #[.bool (fgV y e), .agg (List.toArray (α := Value) ([.slice ao11 ((fgZ y e).length) ca11, I64 ((okE e (decide (FgOk y e)):Int))]))]), (136, .tuple #[.bool (fgV y e), .agg (List.toArray (α := Value) ([.slice ao11 ((fgZ y e).length) ca11, I64 ((okE e (decide (FgOk y e)):Int))]))]), (139, .bool (fgV y e)), (140, .agg (List.toArray (α := Value) ([.slice ao11 ((fgZ y e).length) ca11, I64 ((okE e (decide (FgOk y e)):Int))]))), (20, Ptr nb14 0), (19, .bool (fgV y e)), (141, .agg (List.toArray (α := Value) ([.slice ao11 ((fgZ y e).length) ca11, I64 ((okE e (decide (FgOk y e)):Int))]))), (142, Ptr nb3 0), (143, .bool (fgV y e)), (144, .bool (fgV y e)), (145, .bool (!((fgV y e) == (fgV y e))))]) (Sub.cons (by kernel_rfl) (Sub.cons (by kernel_rfl) (Sub.cons (by kernel_rfl) (Sub.cons (by kernel_rfl) (Sub.cons (by kernel_rfl) (Sub.cons (by kernel_rfl) (Sub.cons (by kernel_rfl) (Sub.cons (by kernel_rfl) (Sub.cons (by kernel_rfl) (Sub.cons (by kernel_rfl) (Sub.cons (by kernel_rfl) (Sub.cons (by kernel_rfl) (Sub.cons (by kernel_rfl) (Sub.cons (by kernel_rfl) (Sub.cons (by kernel_rfl) (Sub.cons (by kernel_rfl) (Sub.cons (by kernel_rfl) (Sub.cons (by kernel_rfl) (Sub.cons (by kernel_rfl) (Sub.cons (by kernel_rfl) (Sub.cons (by kernel_rfl) (Sub.cons (by kernel_rfl) (Sub.cons (by kernel_rfl) (Sub.cons (by kernel_rfl) (Sub.cons (by kernel_rfl) (Sub.cons (by kernel_rfl) (Sub.cons (by kernel_rfl) (Sub.cons (by kernel_rfl) (Sub.cons (by kernel_rfl) (Sub.cons (by kernel_rfl) (Sub.cons (by kernel_rfl) (Sub.cons (by kernel_rfl) (Sub.cons (by kernel_rfl) (Sub.cons (by kernel_rfl) (Sub.cons (by kernel_rfl) (Sub.cons (by kernel_rfl) (Sub.cons (by kernel_rfl) (Sub.cons (by kernel_rfl) (Sub.cons (by kernel_rfl) (Sub.cons (by kernel_rfl) (Sub.nil))))))))))))))))))))))))))))))))))))))))) ?_
                show JQ _ _ _ [(146, Ptr nb3 0), (147, I64 ((leftN (okE e (decide (FgOk y e))) ((fgZ y e).length):Int))), (148, .agg (List.toArray (α := Value) ([.slice ao11 ((fgZ y e).length) ca11, I64 ((okE e (decide (FgOk y e)):Int))]))), (149, I64 ((leftN (okE e (decide (FgOk y e))) ((fgZ y e).length):Int))), (150, .bool (decide (((leftN (okE e (decide (FgOk y e))) ((fgZ y e).length):Int)) ≠ ((leftN (okE e (decide (FgOk y e))) ((fgZ y e).length):Int))))), (6, Ptr nb3 0), (7, Ptr nb5 0), (49, .slice ab n cb), (50, I64 ((n:Int))), (51, I64 ((q:Int))), (52, .bool (decide (((q:Int)) < ((n:Int))))), (53, Ptr rowb (4*q + rowo)), (54, .agg (List.toArray (α := Value) ([I64 (kd), I64 (s), U64 nn, .slice ax p cx]))), (10, Ptr nb6 0), (55, Ptr nb6 0), (56, I64 (kd)), (57, U64 (u64i (kd))), (58, U64 ((u64i (kd)) % (6:UInt64))), (73, .bool (decide (((u64i (kd)) % (6:UInt64)) = (0:UInt64)))), (72, .bool (decide (((u64i (kd)) % (6:UInt64)) = (0:UInt64)))), (89, .bool (decide (((u64i (kd)) % (6:UInt64)) = (1:UInt64)))), (88, .bool (decide (((u64i (kd)) % (6:UInt64)) = (1:UInt64)))), (106, .bool (decide (((u64i (kd)) % (6:UInt64)) = (2:UInt64)))), (105, .bool (decide (((u64i (kd)) % (6:UInt64)) = (2:UInt64)))), (123, .bool (decide (((u64i (kd)) % (6:UInt64)) = (3:UInt64)))), (122, .bool (decide (((u64i (kd)) % (6:UInt64)) = (3:UInt64)))), (135, .bool (decide (((u64i (kd)) % (6:UInt64)) = (4:UInt64)))), (134, .bool (decide (((u64i (kd)) % (6:UInt64)) = (4:UInt64)))), (137, .agg (List.toArray (α := Value) ([.slice am yn cm, I64 ((e:Int))]))), (138, .tuple #[.bool (fgV y e), .agg (List.toArray (α := Value) ([.slice ao11 ((fgZ y e).length) ca11, I64 ((okE e (decide (FgOk y e)):Int))]))]), (136, .tuple #[.bool (fgV y e), .agg (List.toArray (α := Value) ([.slice ao11 ((fgZ y e).length) ca11, I64 ((okE e (decide (FgOk y e)):Int))]))]), (139, .bool (fgV y e)), (140, .agg (List.toArray (α := Value) ([.slice ao11 ((fgZ y e).length) ca11, I64 ((okE e (decide (FgOk y e)):Int))]))), (20, Ptr nb14 0), (19, .bool (fgV y e)), (141, .agg (List.toArray (α := Value) ([.slice ao11 ((fgZ y e).length) ca11, I64 ((okE e (decide (FgOk y e)):Int))]))), (142, Ptr nb3 0), (143, .bool (fgV y e)), (144, .bool (fgV y e)), (145, .bool (!((fgV y e) == (fgV y e))))] _
                refine JQ_then ?_
                refine JC_condF _ rfl (by simp) ?_
                refine JC_skip ?_
                refine JQ_in_normal ?_
                refine JQ_then ?_
                refine JC_region ?_
                refine JL_val (I64 ((q:Int) + 1)) (Ev_bini rfl rfl fun _ => bin_add_i _ _ ((q:Int) + 1) (by omega) (by omega)) rfl ?_
                refine JL_val _ (Ev_move rfl) rfl ?_
                refine JL_nil ?_
                refine JQ_thenK ?_
                refine K_mask [true, true, false, false, true] ?_
                show K _ _ [⟨nb4, cu8 (([] : List UInt8) ++ b) ++ sp2, 5, (0, 0)⟩, ⟨nb5, [.slice ao11 ((fgZ y e).length) ca11, I64 ((okE e (decide (FgOk y e)):Int))], 85, (0, 0)⟩, ⟨nb3, [errV 36 (okE e (decide (FgOk y e))), .slice ao12 ((fgZ y e).length) ca12], 123, (0, 0)⟩] _
                refine K_pick [2, 0, 1] (by decide) ?_
                show K _ _ [⟨nb3, [errV 36 (okE e (decide (FgOk y e))), .slice ao12 ((fgZ y e).length) ca12], 123, (0, 0)⟩, ⟨nb4, cu8 (([] : List UInt8) ++ b) ++ sp2, 5, (0, 0)⟩, ⟨nb5, [.slice ao11 ((fgZ y e).length) ca11, I64 ((okE e (decide (FgOk y e)):Int))], 85, (0, 0)⟩] _
                refine K_next (q + 1, (okE e (decide (FgOk y e))), (fgZ y e), ((fgZ y e).length), ao12, ca12, ao11, ca11) ⟨by omega, rfl, by omega, by omega, by omega, by omega, by omega, (fun w M h => hA10 w M (hA w M h)), (hA9 _ _ hm)⟩ (by first | (simp; omega) | simp | (dsimp only; omega) | omega) (Sub.cons rfl (Sub.cons rfl (Sub.cons rfl (Sub.cons rfl (Sub.cons rfl (Sub.nil)))))) rfl
              ·
                have hp31 : ¬ (((u64i (kd)) % (6:UInt64)) = (4:UInt64)) := of_decide_eq_false hb31
                refine JC_seq ?_
                refine JC_region ?_
                refine JL_val _ (Ev_move rfl) rfl ?_
                refine JL_step (Step_callW 63 [Ptr nb3 0, .nilIface] 0 ⟨nb3, [errV 36 e, .slice ao yn c], 123, (0, 0)⟩ _ (fun v e' l' => v = .tuple #[] ∧ e' = ⟨nb3, [errV 36 (erN e 0), .slice ao yn c], 123, (0, 0)⟩ ∧ l' = []) (Cl_func [Ptr nb3 0, .nilIface] Try.call63 rfl) rfl (by rintro v l ⟨rfl, rfl⟩; exact ⟨_, _, rfl, rfl, rfl, rfl, rfl⟩) (fun w1 hw1 => failRd_c nb3 e 0 (.slice ao yn c) w1 (hw1.ent _ (List.mem_of_getElem? (i := 0) rfl)))) rfl ?_
                rintro v1 L1 ⟨_, _, ⟨rfl, rfl, rfl⟩, rfl⟩
                show JL _ _ _ _ ((60, .tuple #[]) :: _) [⟨nb3, [errV 36 (erN e 0), .slice ao yn c], 123, (0, 0)⟩, ⟨nb4, cu8 (([] : List UInt8) ++ b) ++ sp2, 5, (0, 0)⟩, ⟨nb5, [.slice am yn cm, I64 ((e:Int))], 85, (0, 0)⟩, ⟨nb6, [I64 (kd), I64 (s), U64 nn, .slice ax p cx], 70, (0, 0)⟩]
                refine JL_nil ?_
                refine JQ_then ?_
                refine JC_seq ?_
                refine JC_region ?_
                refine JL_val (Ptr nb6 2) (Ev_fieldAddr 2 44 1 Try.underlying70 rfl Try.sizeOf44 rfl rfl) rfl ?_
                refine JL_val (U64 nn) (Ev_load rfl (Ld_one Try.isAgg44 (MemAt.ent 3 rfl (Seg.tail (Seg.tail (Seg.head)))))) rfl ?_
                refine JL_val (U64 (nn % (4:UInt64))) (Ev_bini rfl rfl fun _ => bin_rem_u64 nn (4:UInt64) (by decide)) rfl ?_
                refine JL_val (.bool (decide ((nn % (4:UInt64)) = (0:UInt64)))) (Ev_bini rfl rfl fun _ => bin_eql_u64 (nn % (4:UInt64)) (0:UInt64)) rfl ?_
                refine JL_nil ?_
                refine JQ_then ?_
                refine JC_cond (decide ((nn % (4:UInt64)) = (0:UInt64))) rfl (fun hb38 => ?_) (fun hb38 => ?_)
                ·
                  have hp38 : (nn % (4:UInt64)) = (0:UInt64) := of_decide_eq_true hb38
                  refine JC_seq ?_
                  refine JC_region ?_
                  refine JL_val _ (Ev_move rfl) rfl ?_
                  refine JL_val (.iface 36 (I64 (6:Int))) (Ev_iface Try.underlying36 rfl rfl) rfl ?_
                  refine JL_step (Step_callW 63 [Ptr nb3 0, .iface 36 (I64 (6:Int))] 0 ⟨nb3, [errV 36 (erN e 0), .slice ao yn c], 123, (0, 0)⟩ _ (fun v e' l' => v = .tuple #[] ∧ e' = ⟨nb3, [errV 36 (erN (erN e 0) 6), .slice ao yn c], 123, (0, 0)⟩ ∧ l' = []) (Cl_func [Ptr nb3 0, .iface 36 (I64 (6:Int))] Try.call63 rfl) rfl (by rintro v l ⟨rfl, rfl⟩; exact ⟨_, _, rfl, rfl, rfl, rfl, rfl⟩) (fun w1 hw1 => failRdi_c nb3 (erN e 0) 6 (.slice ao yn c) w1 (by decide) (hw1.ent _ (List.mem_of_getElem? (i := 0) rfl)))) rfl ?_
                  rintro v1 L1 ⟨_, _, ⟨rfl, rfl, rfl⟩, rfl⟩
                  show JL _ _ _ _ ((67, .tuple #[]) :: _) [⟨nb3, [errV 36 (erN (erN e 0) 6), .slice ao yn c], 123, (0, 0)⟩, ⟨nb4, cu8 (([] : List UInt8) ++ b) ++ sp2, 5, (0, 0)⟩, ⟨nb5, [.slice am yn cm, I64 ((e:Int))], 85, (0, 0)⟩, ⟨nb6, [I64 (kd), I64 (s), U64 nn, .slice ax p cx], 70, (0, 0)⟩]
                  refine JL_nil ?_
                  refine JQ_then ?_
                  refine JC_seq ?_
                  refine JC_region ?_
                  refine JL_val (Ptr nb5 1) (Ev_fieldAddr 1 3 1 Try.underlying85 rfl Try.sizeOf3 rfl rfl) rfl ?_
                  refine JL_val (I64 ((e:Int))) (Ev_load rfl (Ld_one Try.isAgg3 (MemAt.ent 2 rfl (Seg.tail (Seg.head))))) rfl ?_
                  refine JL_val (.bool (decide (((e:Int)) = (0:Int)))) (Ev_bini rfl rfl fun _ => bin_eql_i _ _) rfl ?_
                  refine JL_nil ?_
                  refine JQ_then ?_
                  refine JC_cond (decide (((e:Int)) = (0:Int))) rfl (fun hb39 => ?_) (fun hb39 => ?_)
                  ·
                    have hp39 : ((e:Int)) = (0:Int) := of_decide_eq_true hb39
                    refine JC_region ?_
                    refine JL_val (Ptr nb5 1) (Ev_fieldAddr 1 3 1 Try.underlying85 rfl Try.sizeOf3 rfl rfl) rfl ?_
                    refine JL_step (Step_store 2 nb5 1 1 ([.slice am yn cm, I64 ((e:Int))]) 85 (I64 (6:Int)) ([I64 (6:Int)]) ([.slice am yn cm, I64 (6:Int)]) rfl rfl rfl rfl Try.sizeOf3 rfl (by simp [Value.oneCell']) (Nat.le_of_ble_eq_true rfl) (rfl)) rfl ?_
                    rintro v1 L1 ⟨rfl, rfl⟩
                    show JL _ _ _ _ _ [⟨nb3, [errV 36 (erN (erN e 0) 6), .slice ao yn c], 123, (0, 0)⟩, ⟨nb4, cu8 (([] : List UInt8) ++ b) ++ sp2, 5, (0, 0)⟩, ⟨nb5, [.slice am yn cm, I64 (6:Int)], 85, (0, 0)⟩, ⟨nb6, [I64 (kd), I64 (s), U64 nn, .slice ax p cx], 70, (0, 0)⟩]
                    refine JL_nil ?_
                    refine JQ_in_normal ?_
                    refine JQ_then ?_
                    refine JC_seq ?_
                    rw [show erN (erN e 0) 6 = 6 from by by_cases he0 : e = 0 <;> simp [erN, he0] <;> omega]
                    show JC _ _ _ _ [⟨nb3, [errV 36 6, .slice ao yn c], 123, (0, 0)⟩, ⟨nb4, cu8 (([] : List UInt8) ++ b) ++ sp2, 5, (0, 0)⟩, ⟨nb5, [.slice am yn cm, I64 (6:Int)], 85, (0, 0)⟩, ⟨nb6, [I64 (kd), I64 (s), U64 nn, .slice ax p cx], 70, (0, 0)⟩]
                    refine JC_draw 158 3 [(0, Ptr nb3 0), (2, .agg (List.toArray (α := Value) ([.slice am yn cm, I64 (6:Int)])))] Try.mixed rfl (by decide +kernel) ?_
                    refine DP_one ⟨[], [0, 2], [], [0, 2], [1]⟩ 1 _ rfl rfl (by decide +kernel) rfl ⟨⟨_, rfl, Qok_val rfl (Ev_move rfl)⟩, ⟨_, rfl, Qok_val rfl (Ev_load rfl (Ld_agg Try.isAgg85 Try.sizeOf85 rfl (MemAt.ent 2 rfl (Seg.whole _))))⟩, trivial⟩ rfl (Cok_step rfl (Step_callP 64 [Ptr nb3 0] (I64 ((leftN 6 yn:Int))) (Cl_func [Ptr nb3 0] Try.call64 rfl) (fun w1 hw1 => left_w nb3 6 ao yn c w1 (RdA.of hw1 (MemAt.ent 0 rfl (Seg.whole _)) (by simp))))) ?_
                    rintro v1 L1 ⟨rfl, rfl⟩
                    refine ⟨[], ?_⟩
                    show DP _ _ _ _ _ _ _ _ [⟨nb3, [errV 36 6, .slice ao yn c], 123, (0, 0)⟩, ⟨nb4, cu8 (([] : List UInt8) ++ b) ++ sp2, 5, (0, 0)⟩, ⟨nb5, [.slice am yn cm, I64 (6:Int)], 85, (0, 0)⟩, ⟨nb6, [I64 (kd), I64 (s), U64 nn, .slice ax p cx], 70, (0, 0)⟩]
                    refine DP_one ⟨[1], [0, 2], [0], [2], [3]⟩ 3 _ rfl rfl (by decide +kernel) rfl ⟨⟨_, rfl, Qok_val rfl (Ev_load rfl (Ld_agg Try.isAgg85 Try.sizeOf85 rfl (MemAt.ent 2 rfl (Seg.whole _))))⟩, trivial⟩ rfl (Cok_step rfl (Step_callP 65 [.agg (List.toArray (α := Value) ([.slice am yn cm, I64 (6:Int)]))] (I64 ((leftN 6 yn:Int))) (Cl_func [.agg (List.toArray (α := Value) ([.slice am yn cm, I64 (6:Int)]))] Try.call65 rfl) (fun w1 hw1 => rleft_w am yn cm 6 w1 ))) ?_
                    rintro v1 L1 ⟨rfl, rfl⟩
                    refine ⟨[(4, .bool (decide (((leftN 6 yn:Int)) ≠ ((leftN 6 yn:Int)))))], ?_⟩
                    show DP _ _ _ _ _ _ _ _ [⟨nb3, [errV 36 6, .slice ao yn c], 123, (0, 0)⟩, ⟨nb4, cu8 (([] : List UInt8) ++ b) ++ sp2, 5, (0, 0)⟩, ⟨nb5, [.slice am yn cm, I64 (6:Int)], 85, (0, 0)⟩, ⟨nb6, [I64 (kd), I64 (s), U64 nn, .slice ax p cx], 70, (0, 0)⟩]
                    refine DP_end ⟨[1, 3], [0, 2, 4], [0, 2], [4], []⟩ rfl rfl (by decide +kernel) rfl ⟨⟨_, rfl, Qok_val rfl (Ev_bini rfl rfl fun _ => bin_neq_i _ _)⟩, trivial⟩ ?_
                    refine K_sub (F' := [(146, Ptr nb3 0), (147, I64 ((leftN 6 yn:Int))), (148, .agg (List.toArray (α := Value) ([.slice am yn cm, I64 (6:Int)]))), (149, I64 ((leftN 6 yn:Int))), (150, .bool (decide (((leftN 6 yn:Int)) ≠ ((leftN 6 yn:Int))))), (6, Ptr nb3 0), (7, Ptr nb5 0), (49, .slice ab n cb), (50, I64 ((n:Int))), (51, I64 ((q:Int))), (52, .bool (decide (((q:Int)) < ((n:Int))))), (53, Ptr rowb (4*q + rowo)), (54, .agg (List.toArray (α := Value) ([I64 (kd), I64 (s), U64 nn, .slice ax p cx]))), (10, Ptr nb6 0), (55, Ptr nb6 0), (56, I64 (kd)), (57, U64 (u64i (kd))), (58, U64 ((u64i (kd)) % (6:UInt64))), (73, .bool (decide (((u64i (kd)) % (6:UInt64)) = (0:UInt64)))), (72, .bool (decide (((u64i (kd)) % (6:UInt64)) = (0:UInt64)))), (89, .bool (decide (((u64i (kd)) % (6:UInt64)) = (1:UInt64)))), (88, .bool (decide (((u64i (kd)) % (6:UInt64)) = (1:UInt64)))), (106, .bool (decide (((u64i (kd)) % (6:UInt64)) = (2:UInt64)))), (105, .bool (decide (((u64i (kd)) % (6:UInt64)) = (2:UInt64)))), (123, .bool (decide (((u64i (kd)) % (6:UInt64)) = (3:UInt64)))), (122, .bool (decide (((u64i (kd)) % (6:UInt64)) = (3:UInt64)))), (135, .bool (decide (((u64i (kd)) % (6:UInt64)) = (4:UInt64)))), (134, .bool (decide (((u64i (kd)) % (6:UInt64)) = (4:UInt64)))), (59, Ptr nb3 0), (61, Ptr nb6 2), (62, U64 nn), (63, U64 (nn % (4:UInt64))), (64, .bool (decide ((nn % (4:UInt64)) = (0:UInt64)))), (65, Ptr nb3 0), (66, .iface 36 (I64 (6:Int))), (68, Ptr nb5 1), (69, I64 ((e:Int))), (70, .bool (decide (((e:Int)) = (0:Int)))), (71, Ptr nb5 1)]) (Sub.cons (by kernel_rfl) (Sub.cons (by kernel_rfl) (Sub.cons (by kernel_rfl) (Sub.cons (by kernel_rfl) (Sub.cons (by kernel_rfl) (Sub.cons (by kernel_rfl) (Sub.cons (by kernel_rfl) (Sub.cons (by kernel_rfl) (Sub.cons (by kernel_rfl) (Sub.cons (by kernel_rfl) (Sub.cons (by kernel_rfl) (Sub.cons (by kernel_rfl) (Sub.cons (by kernel_rfl) (Sub.cons (by kernel_rfl) (Sub.cons (by kernel_rfl) (Sub.cons (by kernel_rfl) (Sub.cons (by kernel_rfl) (Sub.cons (by kernel_rfl) (Sub.cons (by kernel_rfl) (Sub.cons (by kernel_rfl) (Sub.cons (by kernel_rfl) (Sub.cons (by kernel_rfl) (Sub.cons (by kernel_rfl) (Sub.cons (by kernel_rfl) (Sub.cons (by kernel_rfl) (Sub.cons (by kernel_rfl) (Sub.cons (by kernel_rfl) (Sub.cons (by kernel_rfl) (Sub.cons (by kernel_rfl) (Sub.cons (by kernel_rfl) (Sub.cons (by kernel_rfl) (Sub.cons (by kernel_rfl) (Sub.cons (by kernel_rfl) (Sub.cons (by kernel_rfl) (Sub.cons (by kernel_rfl) (Sub.cons (by kernel_rfl) (Sub.cons (by kernel_rfl) (Sub.cons (by kernel_rfl) (Sub.cons (by kernel_rfl) (Sub.nil)))))))))))))))))))))))))))))))))))))))) ?_
                    show JQ _ _ _ [(146, Ptr nb3 0), (147, I64 ((leftN 6 yn:Int))), (148, .agg (List.toArray (α := Value) ([.slice am yn cm, I64 (6:Int)]))), (149, I64 ((leftN 6 yn:Int))), (150, .bool (decide (((leftN 6 yn:Int)) ≠ ((leftN 6 yn:Int))))), (6, Ptr nb3 0), (7, Ptr nb5 0), (49, .slice ab n cb), (50, I64 ((n:Int))), (51, I64 ((q:Int))), (52, .bool (decide (((q:Int)) < ((n:Int))))), (53, Ptr rowb (4*q + rowo)), (54, .agg (List.toArray (α := Value) ([I64 (kd), I64 (s), U64 nn, .slice ax p cx]))), (10, Ptr nb6 0), (55, Ptr nb6 0), (56, I64 (kd)), (57, U64 (u64i (kd))), (58, U64 ((u64i (kd)) % (6:UInt64))), (73, .bool (decide (((u64i (kd)) % (6:UInt64)) = (0:UInt64)))), (72, .bool (decide (((u64i (kd)) % (6:UInt64)) = (0:UInt64)))), (89, .bool (decide (((u64i (kd)) % (6:UInt64)) = (1:UInt64)))), (88, .bool (decide (((u64i (kd)) % (6:UInt64)) = (1:UInt64)))), (106, .bool (decide (((u64i (kd)) % (6:UInt64)) = (2:UInt64)))), (105, .bool (decide (((u64i (kd)) % (6:UInt64)) = (2:UInt64)))), (123, .bool (decide (((u64i (kd)) % (6:UInt64)) = (3:UInt64)))), (122, .bool (decide (((u64i (kd)) % (6:UInt64)) = (3:UInt64)))), (135, .bool (decide (((u64i (kd)) % (6:UInt64)) = (4:UInt64)))), (134, .bool (decide (((u64i (kd)) % (6:UInt64)) = (4:UInt64)))), (59, Ptr nb3 0), (61, Ptr nb6 2), (62, U64 nn), (63, U64 (nn % (4:UInt64))), (64, .bool (decide ((nn % (4:UInt64)) = (0:UInt64)))), (65, Ptr nb3 0), (66, .iface 36 (I64 (6:Int))), (68, Ptr nb5 1), (69, I64 ((e:Int))), (70, .bool (decide (((e:Int)) = (0:Int)))), (71, Ptr nb5 1)] _
                    refine JQ_then ?_
                    refine JC_condF _ rfl (by simp) ?_
                    refine JC_skip ?_
                    refine JQ_in_normal ?_
                    refine JQ_then ?_
                    refine JC_region ?_
                    refine JL_val (I64 ((q:Int) + 1)) (Ev_bini rfl rfl fun _ => bin_add_i _ _ ((q:Int) + 1) (by omega) (by omega)) rfl ?_
                    refine JL_val _ (Ev_move rfl) rfl ?_
                    refine JL_nil ?_
                    refine JQ_thenK ?_
                    refine K_mask [true, true, true, false] ?_
                    show K _ _ [⟨nb3, [errV 36 6, .slice ao yn c], 123, (0, 0)⟩, ⟨nb4, cu8 (([] : List UInt8) ++ b) ++ sp2, 5, (0, 0)⟩, ⟨nb5, [.slice am yn cm, I64 (6:Int)], 85, (0, 0)⟩] _
                    refine K_next (q + 1, 6, y, yn, ao, c, am, cm) ⟨by omega, hyn, by omega, by omega, by omega, by omega, by omega, hA, hm⟩ (by first | (simp; omega) | simp | (dsimp only; omega) | omega) (Sub.cons rfl (Sub.cons rfl (Sub.cons rfl (Sub.cons rfl (Sub.cons rfl (Sub.nil)))))) rfl
                  ·
                    have hp39 : ¬ (((e:Int)) = (0:Int)) := of_decide_eq_false hb39
                    refine JC_skip ?_
                    refine JQ_in_normal ?_
                    refine JQ_then ?_
                    refine JC_seq ?_
                    rw [show erN (erN e 0) 6 = e from by by_cases he0 : e = 0 <;> simp [erN, he0] <;> omega]
                    show JC _ _ _ _ [⟨nb3, [errV 36 e, .slice ao yn c], 123, (0, 0)⟩, ⟨nb4, cu8 (([] : List UInt8) ++ b) ++ sp2, 5, (0, 0)⟩, ⟨nb5, [.slice am yn cm, I64 ((e:Int))], 85, (0, 0)⟩, ⟨nb6, [I64 (kd), I64 (s), U64 nn, .slice ax p cx], 70, (0, 0)⟩]
                    refine JC_draw 158 3 [(0, Ptr nb3 0), (2, .agg (List.toArray (α := Value) ([.slice am yn cm, I64 ((e:Int))])))] Try.mixed rfl (by decide +kernel) ?_
                    refine DP_one ⟨[], [0, 2], [], [0, 2], [1]⟩ 1 _ rfl rfl (by decide +kernel) rfl ⟨⟨_, rfl, Qok_val rfl (Ev_move rfl)⟩, ⟨_, rfl, Qok_val rfl (Ev_load rfl (Ld_agg Try.isAgg85 Try.sizeOf85 rfl (MemAt.ent 2 rfl (Seg.whole _))))⟩, trivial⟩ rfl (Cok_step rfl (Step_callP 64 [Ptr nb3 0] (I64 ((leftN e yn:Int))) (Cl_func [Ptr nb3 0] Try.call64 rfl) (fun w1 hw1 => left_w nb3 e ao yn c w1 (RdA.of hw1 (MemAt.ent 0 rfl (Seg.whole _)) (by simp))))) ?_
                    rintro v1 L1 ⟨rfl, rfl⟩
                    refine ⟨[], ?_⟩
                    show DP _ _ _ _ _ _ _ _ [⟨nb3, [errV 36 e, .slice ao yn c], 123, (0, 0)⟩, ⟨nb4, cu8 (([] : List UInt8) ++ b) ++ sp2, 5, (0, 0)⟩, ⟨nb5, [.slice am yn cm, I64 ((e:Int))], 85, (0, 0)⟩, ⟨nb6, [I64 (kd), I64 (s), U64 nn, .slice ax p cx], 70, (0, 0)⟩]
                    refine DP_one ⟨[1], [0, 2], [0], [2], [3]⟩ 3 _ rfl rfl (by decide +kernel) rfl ⟨⟨_, rfl, Qok_val rfl (Ev_load rfl (Ld_agg Try.isAgg85 Try.sizeOf85 rfl (MemAt.ent 2 rfl (Seg.whole _))))⟩, trivial⟩ rfl (Cok_step rfl (Step_callP 65 [.agg (List.toArray (α := Value) ([.slice am yn cm, I64 ((e:Int))]))] (I64 ((leftN e yn:Int))) (Cl_func [.agg (List.toArray (α := Value) ([.slice am yn cm, I64 ((e:Int))]))] Try.call65 rfl) (fun w1 hw1 => rleft_w am yn cm e w1 ))) ?_
                    rintro v1 L1 ⟨rfl, rfl⟩
                    refine ⟨[(4, .bool (decide (((leftN e yn:Int)) ≠ ((leftN e yn:Int)))))], ?_⟩
                    show DP _ _ _ _ _ _ _ _ [⟨nb3, [errV 36 e, .slice ao yn c], 123, (0, 0)⟩, ⟨nb4, cu8 (([] : List UInt8) ++ b) ++ sp2, 5, (0, 0)⟩, ⟨nb5, [.slice am yn cm, I64 ((e:Int))], 85, (0, 0)⟩, ⟨nb6, [I64 (kd), I64 (s), U64 nn, .slice ax p cx], 70, (0, 0)⟩]
                    refine DP_end ⟨[1, 3], [0, 2, 4], [0, 2], [4], []⟩ rfl rfl (by decide +kernel) rfl ⟨⟨_, rfl, Qok_val rfl (Ev_bini rfl rfl fun _ => bin_neq_i _ _)⟩, trivial⟩ ?_
                    refine K_sub (F' := [(146, Ptr nb3 0), (147, I64 ((leftN e yn:Int))), (148, .agg (List.toArray (α := Value) ([.slice am yn cm, I64 ((e:Int))]))), (149, I64 ((leftN e yn:Int))), (150, .bool (decide (((leftN e yn:Int)) ≠ ((leftN e yn:Int))))), (6, Ptr nb3 0), (7, Ptr nb5 0), (49, .slice ab n cb), (50, I64 ((n:Int))), (51, I64 ((q:Int))), (52, .bool (decide (((q:Int)) < ((n:Int))))), (53, Ptr rowb (4*q + rowo)), (54, .agg (List.toArray (α := Value) ([I64 (kd), I64 (s), U64 nn, .slice ax p cx]))), (10, Ptr nb6 0), (55, Ptr nb6 0), (56, I64 (kd)), (57, U64 (u64i (kd))), (58, U64 ((u64i (kd)) % (6:UInt64))), (73, .bool (decide (((u64i (kd)) % (6:UInt64)) = (0:UInt64)))), (72, .bool (decide (((u64i (kd)) % (6:UInt64)) = (0:UInt64)))), (89, .bool (decide (((u64i (kd)) % (6:UInt64)) = (1:UInt64)))), (88, .bool (decide (((u64i (kd)) % (6:UInt64)) = (1:UInt64)))), (106, .bool (decide (((u64i (kd)) % (6:UInt64)) = (2:UInt64)))), (105, .bool (decide (((u64i (kd)) % (6:UInt64)) = (2:UInt64)))), (123, .bool (decide (((u64i (kd)) % (6:UInt64)) = (3:UInt64)))), (122, .bool (decide (((u64i (kd)) % (6:UInt64)) = (3:UInt64)))), (135, .bool (decide (((u64i (kd)) % (6:UInt64)) = (4:UInt64)))), (134, .bool (decide (((u64i (kd)) % (6:UInt64)) = (4:UInt64)))), (59, Ptr nb3 0), (61, Ptr nb6 2), (62, U64 nn), (63, U64 (nn % (4:UInt64))), (64, .bool (decide ((nn % (4:UInt64)) = (0:UInt64)))), (65, Ptr nb3 0), (66, .iface 36 (I64 (6:Int))), (68, Ptr nb5 1), (69, I64 ((e:Int))), (70, .bool (decide (((e:Int)) = (0:Int))))]) (Sub.cons (by kernel_rfl) (Sub.cons (by kernel_rfl) (Sub.cons (by kernel_rfl) (Sub.cons (by kernel_rfl) (Sub.cons (by kernel_rfl) (Sub.cons (by kernel_rfl) (Sub.cons (by kernel_rfl) (Sub.cons (by kernel_rfl) (Sub.cons (by kernel_rfl) (Sub.cons (by kernel_rfl) (Sub.cons (by kernel_rfl) (Sub.cons (by kernel_rfl) (Sub.cons (by kernel_rfl) (Sub.cons (by kernel_rfl) (Sub.cons (by kernel_rfl) (Sub.cons (by kernel_rfl) (Sub.cons (by kernel_rfl) (Sub.cons (by kernel_rfl) (Sub.cons (by kernel_rfl) (Sub.cons (by kernel_rfl) (Sub.cons (by kernel_rfl) (Sub.cons (by kernel_rfl) (Sub.cons (by kernel_rfl) (Sub.cons (by kernel_rfl) (Sub.cons (by kernel_rfl) (Sub.cons (by kernel_rfl) (Sub.cons (by kernel_rfl) (Sub.cons (by kernel_rfl) (Sub.cons (by kernel_rfl) (Sub.cons (by kernel_rfl) (Sub.cons (by kernel_rfl) (Sub.cons (by kernel_rfl) (Sub.cons (by kernel_rfl) (Sub.cons (by kernel_rfl) (Sub.cons (by kernel_rfl) (Sub.cons (by kernel_rfl) (Sub.cons (by kernel_rfl) (Sub.cons (by kernel_rfl) (Sub.nil))))))))))))))))))))))))))))))))))))))) ?_
                    show JQ _ _ _ [(146, Ptr nb3 0), (147, I64 ((leftN e yn:Int))), (148, .agg (List.toArray (α := Value) ([.slice am yn cm, I64 ((e:Int))]))), (149, I64 ((leftN e yn:Int))), (150, .bool (decide (((leftN e yn:Int)) ≠ ((leftN e yn:Int))))), (6, Ptr nb3 0), (7, Ptr nb5 0), (49, .slice ab n cb), (50, I64 ((n:Int))), (51, I64 ((q:Int))), (52, .bool (decide (((q:Int)) < ((n:Int))))), (53, Ptr rowb (4*q + rowo)), (54, .agg (List.toArray (α := Value) ([I64 (kd), I64 (s), U64 nn, .slice ax p cx]))), (10, Ptr nb6 0), (55, Ptr nb6 0), (56, I64 (kd)), (57, U64 (u64i (kd))), (58, U64 ((u64i (kd)) % (6:UInt64))), (73, .bool (decide (((u64i (kd)) % (6:UInt64)) = (0:UInt64)))), (72, .bool (decide (((u64i (kd)) % (6:UInt64)) = (0:UInt64)))), (89, .bool (decide (((u64i (kd)) % (6:UInt64)) = (1:UInt64)))), (88, .bool (decide (((u64i (kd)) % (6:UInt64)) = (1:UInt64)))), (106, .bool (decide (((u64i (kd)) % (6:UInt64)) = (2:UInt64)))), (105, .bool (decide (((u64i (kd)) % (6:UInt64)) = (2:UInt64)))), (123, .bool (decide (((u64i (kd)) % (6:UInt64)) = (3:UInt64)))), (122, .bool (decide (((u64i (kd)) % (6:UInt64)) = (3:UInt64)))), (135, .bool (decide (((u64i (kd)) % (6:UInt64)) = (4:UInt64)))), (134, .bool (decide (((u64i (kd)) % (6:UInt64)) = (4:UInt64)))), (59, Ptr nb3 0), (61, Ptr nb6 2), (62, U64 nn), (63, U64 (nn % (4:UInt64))), (64, .bool (decide ((nn % (4:UInt64)) = (0:UInt64)))), (65, Ptr nb3 0), (66, .iface 36 (I64 (6:Int))), (68, Ptr nb5 1), (69, I64 ((e:Int))), (70, .bool (decide (((e:Int)) = (0:Int))))] _
                    refine JQ_then ?_
                    refine JC_condF _ rfl (by simp) ?_
                    refine JC_skip ?_
                    refine JQ_in_normal ?_
                    refine JQ_then ?_
                    refine JC_region ?_
                    refine JL_val (I64 ((q:Int) + 1)) (Ev_bini rfl rfl fun _ => bin_add_i _ _ ((q:Int) + 1) (by omega) (by omega)) rfl ?_
                    refine JL_val _ (Ev_move rfl) rfl ?_
                    refine JL_nil ?_
                    refine JQ_thenK ?_
                    refine K_mask [true, true, true, false] ?_
                    show K _ _ [⟨nb3, [errV 36 e, .slice ao yn c], 123, (0, 0)⟩, ⟨nb4, cu8 (([] : List UInt8) ++ b) ++ sp2, 5, (0, 0)⟩, ⟨nb5, [.slice am yn cm, I64 ((e:Int))], 85, (0, 0)⟩] _
                    refine K_next (q + 1, e, y, yn, ao, c, am, cm) ⟨by omega, hyn, by omega, by omega, by omega, by omega, by omega, hA, hm⟩ (by first | (simp; omega) | simp | (dsimp only; omega) | omega) (Sub.cons rfl (Sub.cons rfl (Sub.cons rfl (Sub.cons rfl (Sub.cons rfl (Sub.nil)))))) rfl
                ·
                  have hp38 : ¬ ((nn % (4:UInt64)) = (0:UInt64)) := of_decide_eq_false hb38
                  refine JC_skip ?_
                  refine JQ_in_normal ?_
                  refine JQ_then ?_
                  refine JC_seq ?_
                  rw [show erN e 0 = e from by by_cases he0 : e = 0 <;> simp [erN, he0] <;> omega]
                  show JC _ _ _ _ [⟨nb3, [errV 36 e, .slice ao yn c], 123, (0, 0)⟩, ⟨nb4, cu8 (([] : List UInt8) ++ b) ++ sp2, 5, (0, 0)⟩, ⟨nb5, [.slice am yn cm, I64 ((e:Int))], 85, (0, 0)⟩, ⟨nb6, [I64 (kd), I64 (s), U64 nn, .slice ax p cx], 70, (0, 0)⟩]
                  refine JC_draw 158 3 [(0, Ptr nb3 0), (2, .agg (List.toArray (α := Value) ([.slice am yn cm, I64 ((e:Int))])))] Try.mixed rfl (by decide +kernel) ?_
                  refine DP_one ⟨[], [0, 2], [], [0, 2], [1]⟩ 1 _ rfl rfl (by decide +kernel) rfl ⟨⟨_, rfl, Qok_val rfl (Ev_move rfl)⟩, ⟨_, rfl, Qok_val rfl (Ev_load rfl (Ld_agg Try.isAgg85 Try.sizeOf85 rfl (MemAt.ent 2 rfl (Seg.whole _))))⟩, trivial⟩ rfl (Cok_step rfl (Step_callP 64 [Ptr nb3 0] (I64 ((leftN e yn:Int))) (Cl_func [Ptr nb3 0] Try.call64 rfl) (fun w1 hw1 => left_w nb3 e ao yn c w1 (RdA.of hw1 (MemAt.ent 0 rfl (Seg.whole _)) (by simp))))) ?_
                  rintro v1 L1 ⟨rfl, rfl⟩
                  refine ⟨[], ?_⟩
                  show DP _ _ _ _ _ _ _ _ [⟨nb3, [errV 36 e, .slice ao yn c], 123, (0, 0)⟩, ⟨nb4, cu8 (([] : List UInt8) ++ b) ++ sp2, 5, (0, 0)⟩, ⟨nb5, [.slice am yn cm, I64 ((e:Int))], 85, (0, 0)⟩, ⟨nb6, [I64 (kd), I64 (s), U64 nn, .slice ax p cx], 70, (0, 0)⟩]
                  refine DP_one ⟨[1], [0, 2], [0], [2], [3]⟩ 3 _ rfl rfl (by decide +kernel) rfl ⟨⟨_, rfl, Qok_val rfl (Ev_load rfl (Ld_agg Try.isAgg85 Try.sizeOf85 rfl (MemAt.ent 2 rfl (Seg.whole _))))⟩, trivial⟩ rfl (Cok_step rfl (Step_callP 65 [.agg (List.toArray (α := Value) ([.slice am yn cm, I64 ((e:Int))]))] (I64 ((leftN e yn:Int))) (Cl_func [.agg (List.toArray (α := Value) ([.slice am yn cm, I64 ((e:Int))]))] Try.call65 rfl) (fun w1 hw1 => rleft_w am yn cm e w1 ))) ?_
                  rintro v1 L1 ⟨rfl, rfl⟩
                  refine ⟨[(4, .bool (decide (((leftN e yn:Int)) ≠ ((leftN e yn:Int)))))], ?_⟩
                  show DP _ _ _ _ _ _ _ _ [⟨nb3, [errV 36 e, .slice ao yn c], 123, (0, 0)⟩, ⟨nb4, cu8 (([] : List UInt8) ++ b) ++ sp2, 5, (0, 0)⟩, ⟨nb5, [.slice am yn cm, I64 ((e:Int))], 85, (0, 0)⟩, ⟨nb6, [I64 (kd), I64 (s), U64 nn, .slice ax p cx], 70, (0, 0)⟩]
                  refine DP_end ⟨[1, 3], [0, 2, 4], [0, 2], [4], []⟩ rfl rfl (by decide +kernel) rfl ⟨⟨_, rfl, Qok_val rfl (Ev_bini rfl rfl fun _ => bin_neq_i _ _)⟩, trivial⟩ ?_
                  refine K_sub (F' := [(146, Ptr nb3 0), (147, I64 ((leftN e yn:Int))), (148, .agg (List.toArray (α := Value) ([.slice am yn cm, I64 ((e:Int))]))), (149, I64 ((leftN e yn:Int))), (150, .bool (decide (((leftN e yn:Int)) ≠ ((leftN e yn:Int))))), (6, Ptr nb3 0), (7, Ptr nb5 0), (49, .slice ab n cb), (50, I64 ((n:Int))), (51, I64 ((q:Int))), (52, .bool (decide (((q:Int)) < ((n:Int))))), (53, Ptr rowb (4*q + rowo)), (54, .agg (List.toArray (α := Value) ([I64 (kd), I64 (s), U64 nn, .slice ax p cx]))), (10, Ptr nb6 0), (55, Ptr nb6 0), (56, I64 (kd)), (57, U64 (u64i (kd))), (58, U64 ((u64i (kd)) % (6:UInt64))), (73, .bool (decide (((u64i (kd)) % (6:UInt64)) = (0:UInt64)))), (72, .bool (decide (((u64i (kd)) % (6:UInt64)) = (0:UInt64)))), (89, .bool (decide (((u64i (kd)) % (6:UInt64)) = (1:UInt64)))), (88, .bool (decide (((u64i (kd)) % (6:UInt64)) = (1:UInt64)))), (106, .bool (decide (((u64i (kd)) % (6:UInt64)) = (2:UInt64)))), (105, .bool (decide (((u64i (kd)) % (6:UInt64)) = (2:UInt64)))), (123, .bool (decide (((u64i (kd)) % (6:UInt64)) = (3:UInt64)))), (122, .bool (decide (((u64i (kd)) % (6:UInt64)) = (3:UInt64)))), (135, .bool (decide (((u64i (kd)) % (6:UInt64)) = (4:UInt64)))), (134, .bool (decide (((u64i (kd)) % (6:UInt64)) = (4:UInt64)))), (59, Ptr nb3 0), (61, Ptr nb6 2), (62, U64 nn), (63, U64 (nn % (4:UInt64))), (64, .bool (decide ((nn % (4:UInt64)) = (0:UInt64))))]) (Sub.cons (by kernel_rfl) (Sub.cons (by kernel_rfl) (Sub.cons (by kernel_rfl) (Sub.cons (by kernel_rfl) (Sub.cons (by kernel_rfl) (Sub.cons (by kernel_rfl) (Sub.cons (by kernel_rfl) (Sub.cons (by kernel_rfl) (Sub.cons (by kernel_rfl) (Sub.cons (by kernel_rfl) (Sub.cons (by kernel_rfl) (Sub.cons (by kernel_rfl) (Sub.cons (by kernel_rfl) (Sub.cons (by kernel_rfl) (Sub.cons (by kernel_rfl) (Sub.cons (by kernel_rfl) (Sub.cons (by kernel_rfl) (Sub.cons (by kernel_rfl) (Sub.cons (by kernel_rfl) (Sub.cons (by kernel_rfl) (Sub.cons (by kernel_rfl) (Sub.cons (by kernel_rfl) (Sub.cons (by kernel_rfl) (Sub.cons (by kernel_rfl) (Sub.cons (by kernel_rfl) (Sub.cons (by kernel_rfl) (Sub.cons (by kernel_rfl) (Sub.cons (by kernel_rfl) (Sub.cons (by kernel_rfl) (Sub.cons (by kernel_rfl) (Sub.cons (by kernel_rfl) (Sub.cons (by kernel_rfl) (Sub.cons (by kernel_rfl) (Sub.nil)))))))))))))))))))))))))))))))))) ?_
                  show JQ _ _ _ [(146, Ptr nb3 0), (147, I64 ((leftN e yn:Int))), (148, .agg (List.toArray (α := Value) ([.slice am yn cm, I64 ((e:Int))]))), (149, I64 ((leftN e yn:Int))), (150, .bool (decide (((leftN e yn:Int)) ≠ ((leftN e yn:Int))))), (6, Ptr nb3 0), (7, Ptr nb5 0), (49, .slice ab n cb), (50, I64 ((n:Int))), (51, I64 ((q:Int))), (52, .bool (decide (((q:Int)) < ((n:Int))))), (53, Ptr rowb (4*q + rowo)), (54, .agg (List.toArray (α := Value) ([I64 (kd), I64 (s), U64 nn, .slice ax p cx]))), (10, Ptr nb6 0), (55, Ptr nb6 0), (56, I64 (kd)), (57, U64 (u64i (kd))), (58, U64 ((u64i (kd)) % (6:UInt64))), (73, .bool (decide (((u64i (kd)) % (6:UInt64)) = (0:UInt64)))), (72, .bool (decide (((u64i (kd)) % (6:UInt64)) = (0:UInt64)))), (89, .bool (decide (((u64i (kd)) % (6:UInt64)) = (1:UInt64)))), (88, .bool (decide (((u64i (kd)) % (6:UInt64)) = (1:UInt64)))), (106, .bool (decide (((u64i (kd)) % (6:UInt64)) = (2:UInt64)))), (105, .bool (decide (((u64i (kd)) % (6:UInt64)) = (2:UInt64)))), (123, .bool (decide (((u64i (kd)) % (6:UInt64)) = (3:UInt64)))), (122, .bool (decide (((u64i (kd)) % (6:UInt64)) = (3:UInt64)))), (135, .bool (decide (((u64i (kd)) % (6:UInt64)) = (4:UInt64)))), (134, .bool (decide (((u64i (kd)) % (6:UInt64)) = (4:UInt64)))), (59, Ptr nb3 0), (61, Ptr nb6 2), (62, U64 nn), (63, U64 (nn % (4:UInt64))), (64, .bool (decide ((nn % (4:UInt64)) = (0:UInt64))))] _
                  refine JQ_then ?_
                  refine JC_condF _ rfl (by simp) ?_
                  refine JC_skip ?_
                  refine JQ_in_normal ?_
                  refine JQ_then ?_
                  refine JC_region ?_
                  refine JL_val (I64 ((q:Int) + 1)) (Ev_bini rfl rfl fun _ => bin_add_i _ _ ((q:Int) + 1) (by omega) (by omega)) rfl ?_
                  refine JL_val _ (Ev_move rfl) rfl ?_
                  refine JL_nil ?_
                  refine JQ_thenK ?_
                  refine K_mask [true, true, true, false] ?_
                  show K _ _ [⟨nb3, [errV 36 e, .slice ao yn c], 123, (0, 0)⟩, ⟨nb4, cu8 (([] : List UInt8) ++ b) ++ sp2, 5, (0, 0)⟩, ⟨nb5, [.slice am yn cm, I64 ((e:Int))], 85, (0, 0)⟩] _
                  refine K_next (q + 1, e, y, yn, ao, c, am, cm) ⟨by omega, hyn, by omega, by omega, by omega, by omega, by omega, hA, hm⟩ (by first | (simp; omega) | simp | (dsimp only; omega) | omega) (Sub.cons rfl (Sub.cons rfl (Sub.cons rfl (Sub.cons rfl (Sub.cons rfl (Sub.nil)))))) rfl
    ·
      have hp2 : ¬ (((q:Int)) < ((n:Int))) := of_decide_eq_false hb2
      refine JC_exit ?_
      refine JQ_then_exit ?_
      refine JQ_then_exit ?_
      refine JQ_in_same ?_
      refine JQ_then ?_
      refine JC_seq ?_
      refine JC_draw 158 4 [(0, Ptr nb3 0), (3, .agg (List.toArray (α := Value) ([.slice am yn cm, I64 ((e:Int))])))] Try.mixed rfl (by decide +kernel) ?_
      refine DP_one ⟨[], [0, 3], [], [0, 3], [1]⟩ 1 _ rfl rfl (by decide +kernel) rfl ⟨⟨_, rfl, Qok_val rfl (Ev_move rfl)⟩, ⟨_, rfl, Qok_val rfl (Ev_load rfl (Ld_agg Try.isAgg85 Try.sizeOf85 rfl (MemAt.ent 2 rfl (Seg.whole _))))⟩, trivial⟩ rfl (Cok_step rfl (Step_callP 66 [Ptr nb3 0] (errV 36 (endN e yn)) (Cl_func [Ptr nb3 0] Try.call66 rfl) (fun w1 hw1 => end_w nb3 e ao yn c w1 (RdA.of hw1 (MemAt.ent 0 rfl (Seg.whole _)) (by simp))))) ?_
      rintro v1 L1 ⟨rfl, rfl⟩
      refine ⟨[], ?_⟩
      show DP _ _ _ _ _ _ _ _ [⟨nb3, [errV 36 e, .slice ao yn c], 123, (0, 0)⟩, ⟨nb4, cu8 (([] : List UInt8) ++ b) ++ sp2, 5, (0, 0)⟩, ⟨nb5, [.slice am yn cm, I64 ((e:Int))], 85, (0, 0)⟩]
      refine DP_one ⟨[1], [0, 3], [0], [3], [2]⟩ 2 _ rfl rfl (by decide +kernel) rfl ⟨⟨_, rfl, Qok_val rfl (Ev_load rfl (Ld_agg Try.isAgg85 Try.sizeOf85 rfl (MemAt.ent 2 rfl (Seg.whole _))))⟩, trivial⟩ rfl (Cok_step rfl (Step_callP 51 [errV 36 (endN e yn)] (I64 ((endN e yn:Int))) (Cl_func [errV 36 (endN e yn)] Try.call51 rfl) (fun w1 hw1 => errNum_w (endN e yn) w1))) ?_
      rintro v1 L1 ⟨rfl, rfl⟩
      refine ⟨[], ?_⟩
      show DP _ _ _ _ _ _ _ _ [⟨nb3, [errV 36 e, .slice ao yn c], 123, (0, 0)⟩, ⟨nb4, cu8 (([] : List UInt8) ++ b) ++ sp2, 5, (0, 0)⟩, ⟨nb5, [.slice am yn cm, I64 ((e:Int))], 85, (0, 0)⟩]
      refine DP_one ⟨[1, 2], [0, 3], [0], [3], [4]⟩ 4 _ rfl rfl (by decide +kernel) rfl ⟨⟨_, rfl, Qok_val rfl (Ev_load rfl (Ld_agg Try.isAgg85 Try.sizeOf85 rfl (MemAt.ent 2 rfl (Seg.whole _))))⟩, trivial⟩ rfl (Cok_step rfl (Step_callP 67 [.agg (List.toArray (α := Value) ([.slice am yn cm, I64 ((e:Int))]))] (I64 ((endN e yn:Int))) (Cl_func [.agg (List.toArray (α := Value) ([.slice am yn cm, I64 ((e:Int))]))] Try.call67 rfl) (fun w1 hw1 => rend_w am yn cm e w1 ))) ?_
      rintro v1 L1 ⟨rfl, rfl⟩
      refine ⟨[(5, .bool (decide (((endN e yn:Int)) = ((endN e yn:Int))))), (6, .bool (decide (((endN e yn:Int)) = ((endN e yn:Int)))))], ?_⟩
      show DP _ _ _ _ _ _ _ _ [⟨nb3, [errV 36 e, .slice ao yn c], 123, (0, 0)⟩, ⟨nb4, cu8 (([] : List UInt8) ++ b) ++ sp2, 5, (0, 0)⟩, ⟨nb5, [.slice am yn cm, I64 ((e:Int))], 85, (0, 0)⟩]
      refine DP_end ⟨[1, 2, 4], [0, 3, 5, 6], [0, 3], [5, 6], []⟩ rfl rfl (by decide +kernel) rfl ⟨⟨_, rfl, Qok_val rfl (Ev_bini rfl rfl fun _ => bin_eql_i _ _)⟩, ⟨_, rfl, Qok_val rfl (Ev_assign rfl)⟩, trivial⟩ ?_
      refine K_sub (F' := [(4, .bool (decide (((endN e yn:Int)) = ((endN e yn:Int)))))]) (Sub.cons (by kernel_rfl) (Sub.nil)) ?_
      show JQ _ _ _ [(4, .bool (decide (((endN e yn:Int)) = ((endN e yn:Int)))))] _
      refine JQ_then ?_
      refine JC_ret ?_
      refine JQ_ret (.bool (decide (((endN e yn:Int)) = ((endN e yn:Int))))) (res1 Try.results12 (RV_tmp rfl)) fun w1 hw1 => ?_
      exact ⟨_, [], rfl, ⟨by rw [show (decide (((endN e yn:Int)) = ((endN e yn:Int)))) = true from (by simp)], rfl⟩, hw1.sub (by simp) (by simp)⟩

theorem octetsReads_w (az : Option Addr) (nz cz : Nat) (b : List UInt8) (ab : Option Addr) (n cb : Nat) (al : List ActV) (w : World) (hb : b.length = nz ∧ nz ≤ cz ∧ cz ≤ maxLen ∧ RdB w [] az b) (hlen : al.length = n) (hG : ∀ a ∈ al, ActG w a) (hv : RdV w ab (al.flatMap actC)) (hnb : n ≤ 140737488351232) : Calls Try.prog 12 #[.slice az nz cz, .slice ab n cb] w (Post w [] (fun v L => v = .bool true ∧ L = [])) := by
  by_cases h7 : nz ≤ 70000
  · by_cases hl : LongP al n
    · exact octReadsL_c az nz cz b ab n cb al w hb hlen hG hv hnb h7 hl
    · exact octReadsS_c az nz cz b ab n cb al w hb hlen hG hv hnb h7 hl
  · exact octReadsB_c az nz cz b ab n cb al w hb hlen hG hv hnb (by omega)

end Go.Proofs.Ytncoifiafklkjaa
