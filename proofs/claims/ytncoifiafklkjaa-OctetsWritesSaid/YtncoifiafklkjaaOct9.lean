import Derived.Test.YtncoifiafklkjaaOct8
namespace Go.Proofs.Ytncoifiafklkjaa
open Go Go.Sx
set_option linter.unusedVariables false
set_option linter.unusedSimpArgs false
set_option maxRecDepth 100000
attribute [local irreducible] mid zr8 zr32 zr64 numK rnK ftN valK rvalK
theorem octWritesL_c (ab : Option Addr) (n cb : Nat) (al : List ActV) (w : World) (hlen : al.length = n) (hG : ∀ a ∈ al, ActG w a) (hv : RdV w ab (al.flatMap actC)) (hnb : n ≤ 140737488351232) (hlong : LongP al n) : Calls Try.prog 11 #[.slice ab n cb] w (Post w [] (fun v L => v = .bool true ∧ L = [])) := by
  refine enter w [] 161 [] [.slice ab n cb] Try.func11 rfl rfl (by simp) (Hp.start (by simp) (by simp) (by simp)) ?_
  show JC _ _ _ [(0, .slice ab n cb)] _
  refine JC_seq ?_
  refine JC_region ?_
  refine JL_val _ (Ev_assign rfl) rfl ?_
  refine JL_nil ?_
  refine JQ_then ?_
  refine JC_seq ?_
  refine JC_seq ?_
  refine JC_region ?_
  refine JL_step (Step_callP 38 [] (.bool true) (Cl_func [] Try.call38 rfl) (fun w1 hw1 => alive1_c  w1 )) rfl ?_
  rintro v1 L1 ⟨rfl, rfl⟩
  show JL _ _ _ _ ((14, .bool true) :: _) []
  refine JL_val (.bool (!true)) (Ev_not rfl) rfl ?_
  refine JL_nil ?_
  refine JQ_then ?_
  refine JC_condF _ rfl rfl ?_
  refine JC_skip ?_
  refine JQ_then ?_
  refine JC_seq ?_
  refine JC_seq ?_
  refine JC_region ?_
  refine JL_val _ (Ev_move rfl) rfl ?_
  refine JL_step (Step_callP 39 [.slice ab n cb] (.bool (decide (LongP al n))) (Cl_func [.slice ab n cb] Try.call39 rfl) (fun w1 hw1 => long_c ab n cb al w1 hlen (actG_at hw1 rfl hG) (rdV_at hw1 rfl hv) hnb)) rfl ?_
  rintro v1 L1 ⟨rfl, rfl⟩
  show JL _ _ _ _ ((17, .bool (decide (LongP al n))) :: _) []
  refine JL_nil ?_
  refine JQ_then ?_
  refine JC_condT _ rfl (decide_eq_true hlong) ?_
  refine JC_seq ?_
  refine JC_region ?_
  refine JL_val _ (Ev_assign rfl) rfl ?_
  refine JL_nil ?_
  refine JQ_then ?_
  refine JC_ret ?_
  refine JQ_then_ret ?_
  refine JQ_ret (.bool true) (res1 Try.results11 (RV_tmp rfl)) fun w1 hw1 => ?_
  exact ⟨_, [], rfl, ⟨by rw [show (true) = true from rfl], rfl⟩, hw1.sub (by simp) (by simp)⟩

set_option maxHeartbeats 4000000 in
theorem octWritesS_c (ab : Option Addr) (n cb : Nat) (al : List ActV) (w : World) (hlen : al.length = n) (hG : ∀ a ∈ al, ActG w a) (hv : RdV w ab (al.flatMap actC)) (hnb : n ≤ 140737488351232) (hlong : ¬ LongP al n) : Calls Try.prog 11 #[.slice ab n cb] w (Post w [] (fun v L => v = .bool true ∧ L = [])) := by
  have hmx : maxLen = 9223372036854775807 := rfl
  obtain ⟨hl1, hl2⟩ : n ≤ 41 ∧ sumP al n ≤ 200000 := Classical.byContradiction fun h => hlong h
  refine enter w [] 161 [] [.slice ab n cb] Try.func11 rfl rfl (by simp) (Hp.start (by simp) (by simp) (by simp)) ?_
  show JC _ _ _ [(0, .slice ab n cb)] _
  refine JC_seq ?_
  refine JC_region ?_
  refine JL_val _ (Ev_assign rfl) rfl ?_
  refine JL_nil ?_
  refine JQ_then ?_
  refine JC_seq ?_
  refine JC_seq ?_
  refine JC_region ?_
  refine JL_step (Step_callP 38 [] (.bool true) (Cl_func [] Try.call38 rfl) (fun w1 hw1 => alive1_c  w1 )) rfl ?_
  rintro v1 L1 ⟨rfl, rfl⟩
  show JL _ _ _ _ ((14, .bool true) :: _) []
  refine JL_val (.bool (!true)) (Ev_not rfl) rfl ?_
  refine JL_nil ?_
  refine JQ_then ?_
  refine JC_condF _ rfl rfl ?_
  refine JC_skip ?_
  refine JQ_then ?_
  refine JC_seq ?_
  refine JC_seq ?_
  refine JC_region ?_
  refine JL_val _ (Ev_move rfl) rfl ?_
  refine JL_step (Step_callP 39 [.slice ab n cb] (.bool (decide (LongP al n))) (Cl_func [.slice ab n cb] Try.call39 rfl) (fun w1 hw1 => long_c ab n cb al w1 hlen (actG_at hw1 rfl hG) (rdV_at hw1 rfl hv) hnb)) rfl ?_
  rintro v1 L1 ⟨rfl, rfl⟩
  show JL _ _ _ _ ((17, .bool (decide (LongP al n))) :: _) []
  refine JL_nil ?_
  refine JQ_then ?_
  refine JC_condF _ rfl (decide_eq_false hlong) ?_
  refine JC_skip ?_
  refine JQ_then ?_
  refine JC_seq ?_
  refine JC_region ?_
  refine JL_val (.agg (List.toArray (α := Value) ([.nilIface, .slice none 0 0]))) (Ev_build [] _ rfl (fun _ => by kernel_rfl)) rfl ?_
  refine JL_step (Step_box (.agg (List.toArray (α := Value) ([.nilIface, .slice none 0 0]))) ([.nilIface, .slice none 0 0]) rfl (by first | rfl | simp)) rfl ?_
  rintro v1 L1 ⟨nb1, hnb1, rfl, rfl⟩
  show JL _ _ _ _ ((19, Ptr nb1 0) :: _) [⟨nb1, [.nilIface, .slice none 0 0], 66, (0, 0)⟩]
  refine JL_val (.agg (List.toArray (α := Value) ([.slice none 0 0, I64 (0:Int)]))) (Ev_build [] _ rfl (fun _ => by kernel_rfl)) rfl ?_
  refine JL_step (Step_alloc _ ([.slice none 0 0, I64 (0:Int)]) Try.zeroValue68 (by kernel_rfl)) rfl ?_
  rintro v1 L1 ⟨nb2, hnb2, rfl, rfl⟩
  show JL _ _ _ _ ((4, Ptr nb2 0) :: _) [⟨nb1, [.nilIface, .slice none 0 0], 66, (0, 0)⟩, ⟨nb2, [.slice none 0 0, I64 (0:Int)], 68, (0, 0)⟩]
  refine JL_val _ (Ev_assign rfl) rfl ?_
  refine JL_step (Step_store 1 nb2 0 2 ([.slice none 0 0, I64 (0:Int)]) 68 (.agg (List.toArray (α := Value) ([.slice none 0 0, I64 (0:Int)]))) ([.slice none 0 0, I64 (0:Int)]) ([.slice none 0 0, I64 (0:Int)]) rfl rfl rfl (by first | rfl | simp) Try.sizeOf68 rfl (by simp [Value.oneCell']) (Nat.le_of_ble_eq_true rfl) (lay_whole (by simp []))) rfl ?_
  rintro v1 L1 ⟨rfl, rfl⟩
  show JL _ _ _ _ _ [⟨nb1, [.nilIface, .slice none 0 0], 66, (0, 0)⟩, ⟨nb2, [.slice none 0 0, I64 (0:Int)], 68, (0, 0)⟩]
  refine JL_nil ?_
  refine JQ_then ?_
  refine JC_seq ?_
  refine JC_region ?_
  refine JL_val _ (Ev_assign rfl) rfl ?_
  refine JL_nil ?_
  refine JQ_then ?_
  refine JC_seq ?_
  refine JC_seq ?_
  refine JC_region ?_
  refine JL_val _ (Ev_move rfl) rfl ?_
  refine JL_val (I64 ((n:Int))) (Ev_len Try.underlying60 rfl) rfl ?_
  refine JL_val _ (Ev_move rfl) rfl ?_
  refine JL_nil ?_
  refine JQ_then ?_
  refine JC_block ?_
  refine JC_loop (ι := (Nat × Nat × Option Addr × Nat) ⊕ (Nat × Nat × List UInt8 × Nat × Nat × List Value × Nat × Nat × List Value × Nat)) (fun x => match x with | .inl ⟨i, e, am, cm⟩ => [(3, Ptr nb1 0), (4, Ptr nb2 0), (21, .slice ab n cb), (22, I64 ((n:Int))), (23, I64 ((i:Int))), (5, .pointer none)] | .inr ⟨i, e, o, m, gw, spw, cpw, gm, spm, cpm⟩ => [(3, Ptr nb1 0), (4, Ptr nb2 0), (21, .slice ab n cb), (22, I64 ((n:Int))), (23, I64 ((i:Int))), (5, .pointer none)]) (fun x => match x with | .inl ⟨i, e, am, cm⟩ => [⟨nb1, [errV 36 e, .slice none 0 0], 66, (0, 0)⟩, ⟨nb2, [.slice am 0 cm, I64 ((e:Int))], 68, (0, 0)⟩] | .inr ⟨i, e, o, m, gw, spw, cpw, gm, spm, cpm⟩ => [⟨nb1, [errV 36 e, Slc gw 0 m cpw], 66, (0, 0)⟩, ⟨nb2, [Slc gm 0 m cpm, I64 ((e:Int))], 68, (0, 0)⟩, ⟨gw, cu8 o ++ spw, 5, (0, 0)⟩, ⟨gm, cu8 o ++ spm, 5, (0, 0)⟩]) (fun x => match x with | .inl ⟨i, e, am, cm⟩ => i ≤ n ∧ 0 ≤ i | .inr ⟨i, e, o, m, gw, spw, cpw, gm, spm, cpm⟩ => i ≤ n ∧ o.length = m ∧ m ≤ 34 * i + sumP al i ∧ spw.length = cpw - m ∧ m ≤ cpw ∧ cpw ≤ maxLen ∧ spm.length = cpm - m ∧ m ≤ cpm ∧ cpm ≤ maxLen) (fun x => match x with | .inl ⟨i, e, am, cm⟩ => n - i | .inr ⟨i, e, o, m, gw, spw, cpw, gm, spm, cpm⟩ => n - i) (.inl (0, 0, none, 0)) ⟨by omega, by omega⟩ (Sub.cons rfl (Sub.cons rfl (Sub.cons rfl (Sub.cons rfl (Sub.cons rfl (Sub.cons rfl (Sub.nil))))))) rfl ?_
  rintro (⟨i, e, am, cm⟩ | ⟨i, e, o, m, gw, spw, cpw, gm, spm, cpm⟩) hx
  ·
    obtain ⟨hx1, hx0⟩ := hx
    show JC _ _ _ [(3, Ptr nb1 0), (4, Ptr nb2 0), (21, .slice ab n cb), (22, I64 ((n:Int))), (23, I64 ((i:Int))), (5, .pointer none)] [⟨nb1, [errV 36 e, .slice none 0 0], 66, (0, 0)⟩, ⟨nb2, [.slice am 0 cm, I64 ((e:Int))], 68, (0, 0)⟩]
    refine JC_seq ?_
    refine JC_region ?_
    refine JL_val (.bool (decide (((i:Int)) < ((n:Int))))) (Ev_bini rfl rfl fun _ => bin_lss_i _ _) rfl ?_
    refine JL_nil ?_
    refine JQ_then ?_
    refine JC_seq ?_
    refine JC_cond (decide (((i:Int)) < ((n:Int)))) rfl (fun hb1 => ?_) (fun hb1 => ?_)
    ·
      have hp1 : ((i:Int)) < ((n:Int)) := of_decide_eq_true hb1
      refine JC_skip ?_
      refine JQ_then ?_
      refine JC_seq ?_
      refine JC_block ?_
      refine JC_seq ?_
      obtain ⟨a, ha⟩ : ∃ a, al[i]? = some a := ⟨al[i]'(by omega), by simp⟩
      obtain ⟨rowb, rowo, hrowa, hrow⟩ := rows_at actC_len (by decide) hv ha
      have hG1 := hG _ (List.mem_of_getElem? ha)
      have hsum := sumP_succ ha
      have hsle : sumP al (i + 1) ≤ sumP al n := sumP_le al (by omega)
      obtain ⟨kd, s, nn, ax, p, cx, z⟩ := a
      obtain ⟨hkd, hsb, hz, hcn, hcc, hr, hp⟩ := hG1
      dsimp only [actC] at hkd hsb hz hcn hcc hr hp hrow hsum
      refine JC_region ?_
      refine JL_val (Ptr rowb (4*i + rowo)) (Ev_indexSlG 70 4 (4*i + rowo) Try.underlying60 Try.sizeOf70 rfl hrowa rfl (by omega) (by omega) (by omega)) rfl ?_
      refine JL_val (.agg (List.toArray (α := Value) ([I64 (kd), I64 (s), U64 nn, .slice ax p cx]))) (Ev_load rfl (Ld_agg Try.isAgg70 Try.sizeOf70 rfl (MemAt.seg (hrow.mem (by simp)) (Seg.whole _) (by omega)))) rfl ?_
      refine JL_step (Step_alloc _ ([I64 (0:Int), I64 (0:Int), U64 (0:UInt64), .slice none 0 0]) Try.zeroValue70 (by kernel_rfl)) rfl ?_
      rintro v1 L1 ⟨nb3, hnb3, rfl, rfl⟩
      show JL _ _ _ _ ((7, Ptr nb3 0) :: _) [⟨nb1, [errV 36 e, .slice none 0 0], 66, (0, 0)⟩, ⟨nb2, [.slice am 0 cm, I64 ((e:Int))], 68, (0, 0)⟩, ⟨nb3, [I64 (0:Int), I64 (0:Int), U64 (0:UInt64), .slice none 0 0], 70, (0, 0)⟩]
      refine JL_step (Step_store 2 nb3 0 4 ([I64 (0:Int), I64 (0:Int), U64 (0:UInt64), .slice none 0 0]) 70 (.agg (List.toArray (α := Value) ([I64 (kd), I64 (s), U64 nn, .slice ax p cx]))) ([I64 (kd), I64 (s), U64 nn, .slice ax p cx]) ([I64 (kd), I64 (s), U64 nn, .slice ax p cx]) rfl rfl rfl (by first | rfl | simp) Try.sizeOf70 rfl (by simp [Value.oneCell']) (Nat.le_of_ble_eq_true rfl) (lay_whole (by simp []))) rfl ?_
      rintro v1 L1 ⟨rfl, rfl⟩
      show JL _ _ _ _ _ [⟨nb1, [errV 36 e, .slice none 0 0], 66, (0, 0)⟩, ⟨nb2, [.slice am 0 cm, I64 ((e:Int))], 68, (0, 0)⟩, ⟨nb3, [I64 (kd), I64 (s), U64 nn, .slice ax p cx], 70, (0, 0)⟩]
      refine JL_nil ?_
      refine JQ_then ?_
      refine JC_seq ?_
      refine JC_region ?_
      refine JL_val _ (Ev_move rfl) rfl ?_
      refine JL_val _ (Ev_assign rfl) rfl ?_
      refine JL_nil ?_
      refine JQ_then ?_
      refine JC_seq ?_
      refine JC_seq ?_
      refine JC_region ?_
      refine JL_val (Ptr nb3 0) (Ev_fieldAddr 0 3 1 Try.underlying70 rfl Try.sizeOf3 rfl rfl) rfl ?_
      refine JL_val (I64 (kd)) (Ev_load rfl (Ld_one Try.isAgg3 (MemAt.ent 2 rfl (Seg.head)))) rfl ?_
      refine JL_val (U64 (u64i (kd))) (Ev_conv _ _ rfl fun _ => conv_i64_u64i (by rw [Try.underlying3]; rfl) Try.underlying49 (kd)) rfl ?_
      refine JL_val (U64 ((u64i (kd)) % (6:UInt64))) (Ev_bini rfl rfl fun _ => bin_rem_u64 (u64i (kd)) (6:UInt64) (by decide)) rfl ?_
      refine JL_nil ?_
      refine JQ_then ?_
      refine JC_block ?_
      refine JC_seq ?_
      refine JC_region ?_
      refine JL_val (.bool (decide (((u64i (kd)) % (6:UInt64)) = (0:UInt64)))) (Ev_bini rfl rfl fun _ => bin_eql_u64 ((u64i (kd)) % (6:UInt64)) (0:UInt64)) rfl ?_
      refine JL_val _ (Ev_assign rfl) rfl ?_
      refine JL_nil ?_
      refine JQ_then ?_
      refine JC_cond (decide (((u64i (kd)) % (6:UInt64)) = (0:UInt64))) rfl (fun hb2 => ?_) (fun hb2 => ?_)
      ·
        have hp2 : ((u64i (kd)) % (6:UInt64)) = (0:UInt64) := of_decide_eq_true hb2
        refine JC_seq ?_
        by_cases hsz : Szd s
        ·
          obtain ⟨k, rfl⟩ : ∃ k : Nat, s = k := ⟨s.toNat, by have := hsz; unfold Szd at this; omega⟩
          have hk8 : k ≤ 8 := by have := hsz; unfold Szd at this; omega
          by_cases hx : ftN nn k = 0
          ·
            refine JC_draw 161 4 [(0, Ptr nb1 0), (1, Ptr nb3 2), (2, U64 nn), (3, Ptr nb3 1), (4, I64 ((k:Int))), (6, .agg (List.toArray (α := Value) ([.slice am 0 cm, I64 ((e:Int))]))), (7, Ptr nb3 2), (8, U64 nn), (9, Ptr nb3 1), (10, I64 ((k:Int)))] Try.mixed rfl (by decide +kernel) ?_
            refine DP_one ⟨[], [0, 1, 2, 3, 4, 6, 7, 8, 9, 10], [], [0, 1, 2, 3, 4, 6, 7, 8, 9, 10], [5]⟩ 5 _ rfl rfl (by decide +kernel) rfl ⟨⟨_, rfl, Qok_val rfl (Ev_move rfl)⟩, ⟨_, rfl, Qok_val rfl (Ev_fieldAddr 2 44 1 Try.underlying70 rfl Try.sizeOf44 rfl rfl)⟩, ⟨_, rfl, Qok_val rfl (Ev_load rfl (Ld_one Try.isAgg44 (MemAt.ent 2 rfl (Seg.tail (Seg.tail (Seg.head))))))⟩, ⟨_, rfl, Qok_val rfl (Ev_fieldAddr 1 3 1 Try.underlying70 rfl Try.sizeOf3 rfl rfl)⟩, ⟨_, rfl, Qok_val rfl (Ev_load rfl (Ld_one Try.isAgg3 (MemAt.ent 2 rfl (Seg.tail (Seg.head)))))⟩, ⟨_, rfl, Qok_val rfl (Ev_load rfl (Ld_agg Try.isAgg68 Try.sizeOf68 rfl (MemAt.ent 1 rfl (Seg.whole _))))⟩, ⟨_, rfl, Qok_val rfl (Ev_fieldAddr 2 44 1 Try.underlying70 rfl Try.sizeOf44 rfl rfl)⟩, ⟨_, rfl, Qok_val rfl (Ev_load rfl (Ld_one Try.isAgg44 (MemAt.ent 2 rfl (Seg.tail (Seg.tail (Seg.head))))))⟩, ⟨_, rfl, Qok_val rfl (Ev_fieldAddr 1 3 1 Try.underlying70 rfl Try.sizeOf3 rfl rfl)⟩, ⟨_, rfl, Qok_val rfl (Ev_load rfl (Ld_one Try.isAgg3 (MemAt.ent 2 rfl (Seg.tail (Seg.head)))))⟩, trivial⟩ rfl (Cok_step rfl (Step_call 40 _ [true, false, false] [nb1] _ (Cl_func [Ptr nb1 0, U64 nn, I64 ((k:Int))] Try.call40 rfl) rfl (fun w1 hw1 => numN_c nb1 k (errV 36 e) nn k w1 (hw1.ent _ (List.mem_of_getElem? (i := 0) rfl)) hsz (fit_ok hx) (by omega)))) ?_
            rintro v1 L1 ⟨_, ⟨rfl, nb4, sp1, cp1, rfl, hc1, hc2, hc3⟩, rfl⟩
            refine ⟨[], ?_⟩
            show DP _ _ _ _ _ _ _ _ [⟨nb2, [.slice am 0 cm, I64 ((e:Int))], 68, (0, 0)⟩, ⟨nb3, [I64 (kd), I64 ((k:Int)), U64 nn, .slice ax p cx], 70, (0, 0)⟩, ⟨nb1, [errV 36 e, Slc nb4 0 k cp1], 66, (0, 0)⟩, ⟨nb4, cu8 (numK k nn k) ++ sp1, 5, (0, 0)⟩]
            refine DP_one ⟨[5], [0, 1, 2, 3, 4, 6, 7, 8, 9, 10], [0, 1, 2, 3, 4], [6, 7, 8, 9, 10], [11]⟩ 11 _ rfl rfl (by decide +kernel) rfl ⟨⟨_, rfl, Qok_val rfl (Ev_load rfl (Ld_agg Try.isAgg68 Try.sizeOf68 rfl (MemAt.ent 0 rfl (Seg.whole _))))⟩, ⟨_, rfl, Qok_val rfl (Ev_fieldAddr 2 44 1 Try.underlying70 rfl Try.sizeOf44 rfl rfl)⟩, ⟨_, rfl, Qok_val rfl (Ev_load rfl (Ld_one Try.isAgg44 (MemAt.ent 1 rfl (Seg.tail (Seg.tail (Seg.head))))))⟩, ⟨_, rfl, Qok_val rfl (Ev_fieldAddr 1 3 1 Try.underlying70 rfl Try.sizeOf3 rfl rfl)⟩, ⟨_, rfl, Qok_val rfl (Ev_load rfl (Ld_one Try.isAgg3 (MemAt.ent 1 rfl (Seg.tail (Seg.head)))))⟩, trivial⟩ rfl (Cok_step rfl (Step_callN 41 [.agg (List.toArray (α := Value) ([.slice am 0 cm, I64 ((e:Int))])), U64 nn, I64 ((k:Int))] _ (Cl_func [.agg (List.toArray (α := Value) ([.slice am 0 cm, I64 ((e:Int))])), U64 nn, I64 ((k:Int))] Try.call41 rfl) (fun w1 hw1 => rnumOk_c am 0 cm ([] : List UInt8) ((e:Int)) nn k k w1 rfl (by omega) RdB.nil hsz hx (by omega)))) ?_
            rintro v1 L1 ⟨_, ⟨nb5, sp2, cp2, rfl, rfl, hc4, hc5, hc6⟩, rfl⟩
            refine ⟨[(12, Ptr nb1 0)], ?_⟩
            show DP _ _ _ _ _ _ _ _ [⟨nb2, [.slice am 0 cm, I64 ((e:Int))], 68, (0, 0)⟩, ⟨nb3, [I64 (kd), I64 ((k:Int)), U64 nn, .slice ax p cx], 70, (0, 0)⟩, ⟨nb1, [errV 36 e, Slc nb4 0 k cp1], 66, (0, 0)⟩, ⟨nb4, cu8 (numK k nn k) ++ sp1, 5, (0, 0)⟩, ⟨nb5, cu8 (([] : List UInt8) ++ numK k nn k) ++ sp2, 5, (0, 0)⟩]
            refine DP_one ⟨[5, 11], [0, 1, 2, 3, 4, 6, 7, 8, 9, 10, 12], [0, 1, 2, 3, 4, 6, 7, 8, 9, 10], [12], [13]⟩ 13 _ rfl rfl (by decide +kernel) rfl ⟨⟨_, rfl, Qok_val rfl (Ev_assign rfl)⟩, trivial⟩ rfl (Cok_step rfl (Step_store 0 nb2 0 2 ([.slice am 0 cm, I64 ((e:Int))]) 68 (.agg (List.toArray (α := Value) ([Slc nb5 0 k cp2, I64 ((e:Int))]))) ([Slc nb5 0 k cp2, I64 ((e:Int))]) ([Slc nb5 0 k cp2, I64 ((e:Int))]) rfl rfl rfl (by first | rfl | simp) Try.sizeOf68 rfl (by simp [Value.oneCell']) (Nat.le_of_ble_eq_true rfl) (lay_whole (by simp [])))) ?_
            rintro v1 L1 ⟨rfl, rfl⟩
            refine ⟨[], ?_⟩
            show DP _ _ _ _ _ _ _ _ [⟨nb2, [Slc nb5 0 k cp2, I64 ((e:Int))], 68, (0, 0)⟩, ⟨nb3, [I64 (kd), I64 ((k:Int)), U64 nn, .slice ax p cx], 70, (0, 0)⟩, ⟨nb1, [errV 36 e, Slc nb4 0 k cp1], 66, (0, 0)⟩, ⟨nb4, cu8 (numK k nn k) ++ sp1, 5, (0, 0)⟩, ⟨nb5, cu8 (([] : List UInt8) ++ numK k nn k) ++ sp2, 5, (0, 0)⟩]
            refine DP_end ⟨[5, 11, 13], [0, 1, 2, 3, 4, 6, 7, 8, 9, 10, 12], [0, 1, 2, 3, 4, 6, 7, 8, 9, 10, 12], [], []⟩ rfl rfl (by decide +kernel) rfl trivial ?_
            refine K_sub (F' := [(34, Ptr nb1 0), (35, Ptr nb3 2), (36, U64 nn), (37, Ptr nb3 1), (38, I64 ((k:Int))), (39, Ptr nb1 0), (40, .agg (List.toArray (α := Value) ([.slice am 0 cm, I64 ((e:Int))]))), (41, Ptr nb3 2), (42, U64 nn), (43, Ptr nb3 1), (44, I64 ((k:Int))), (45, .agg (List.toArray (α := Value) ([Slc nb5 0 k cp2, I64 ((e:Int))]))), (8, Ptr nb1 0), (3, Ptr nb1 0), (4, Ptr nb2 0), (21, .slice ab n cb), (22, I64 ((n:Int))), (23, I64 ((i:Int))), (5, .pointer none), (24, .bool (decide (((i:Int)) < ((n:Int))))), (25, Ptr rowb (4*i + rowo)), (26, .agg (List.toArray (α := Value) ([I64 (kd), I64 ((k:Int)), U64 nn, .slice ax p cx]))), (7, Ptr nb3 0), (27, Ptr nb1 0), (28, Ptr nb3 0), (29, I64 (kd)), (30, U64 (u64i (kd))), (31, U64 ((u64i (kd)) % (6:UInt64))), (33, .bool (decide (((u64i (kd)) % (6:UInt64)) = (0:UInt64)))), (32, .bool (decide (((u64i (kd)) % (6:UInt64)) = (0:UInt64))))]) (Sub.cons (by kernel_rfl) (Sub.cons (by kernel_rfl) (Sub.cons (by kernel_rfl) (Sub.cons (by kernel_rfl) (Sub.cons (by kernel_rfl) (Sub.cons (by kernel_rfl) (Sub.cons (by kernel_rfl) (Sub.cons (by kernel_rfl) (Sub.cons (by kernel_rfl) (Sub.cons (by kernel_rfl) (Sub.cons (by kernel_rfl) (Sub.cons (by kernel_rfl) (Sub.cons (by kernel_rfl) (Sub.cons (by kernel_rfl) (Sub.cons (by kernel_rfl) (Sub.cons (by kernel_rfl) (Sub.cons (by kernel_rfl) (Sub.cons (by kernel_rfl) (Sub.cons (by kernel_rfl) (Sub.cons (by kernel_rfl) (Sub.cons (by kernel_rfl) (Sub.cons (by kernel_rfl) (Sub.cons (by kernel_rfl) (Sub.cons (by kernel_rfl) (Sub.cons (by kernel_rfl) (Sub.cons (by kernel_rfl) (Sub.cons (by kernel_rfl) (Sub.cons (by kernel_rfl) (Sub.cons (by kernel_rfl) (Sub.cons (by kernel_rfl) (Sub.nil))))))))))))))))))))))))))))))) ?_
            show JQ _ _ _ [(34, Ptr nb1 0), (35, Ptr nb3 2), (36, U64 nn), (37, Ptr nb3 1), (38, I64 ((k:Int))), (39, Ptr nb1 0), (40, .agg (List.toArray (α := Value) ([.slice am 0 cm, I64 ((e:Int))]))), (41, Ptr nb3 2), (42, U64 nn), (43, Ptr nb3 1), (44, I64 ((k:Int))), (45, .agg (List.toArray (α := Value) ([Slc nb5 0 k cp2, I64 ((e:Int))]))), (8, Ptr nb1 0), (3, Ptr nb1 0), (4, Ptr nb2 0), (21, .slice ab n cb), (22, I64 ((n:Int))), (23, I64 ((i:Int))), (5, .pointer none), (24, .bool (decide (((i:Int)) < ((n:Int))))), (25, Ptr rowb (4*i + rowo)), (26, .agg (List.toArray (α := Value) ([I64 (kd), I64 ((k:Int)), U64 nn, .slice ax p cx]))), (7, Ptr nb3 0), (27, Ptr nb1 0), (28, Ptr nb3 0), (29, I64 (kd)), (30, U64 (u64i (kd))), (31, U64 ((u64i (kd)) % (6:UInt64))), (33, .bool (decide (((u64i (kd)) % (6:UInt64)) = (0:UInt64)))), (32, .bool (decide (((u64i (kd)) % (6:UInt64)) = (0:UInt64))))] _
            refine JQ_then ?_
            refine JC_region ?_
            refine JL_val _ (Ev_move rfl) rfl ?_
            refine JL_val (Ptr nb3 2) (Ev_fieldAddr 2 44 1 Try.underlying70 rfl Try.sizeOf44 rfl rfl) rfl ?_
            refine JL_val (U64 nn) (Ev_load rfl (Ld_one Try.isAgg44 (MemAt.ent 1 rfl (Seg.tail (Seg.tail (Seg.head)))))) rfl ?_
            refine JL_val (Ptr nb3 1) (Ev_fieldAddr 1 3 1 Try.underlying70 rfl Try.sizeOf3 rfl rfl) rfl ?_
            refine JL_val (I64 ((k:Int))) (Ev_load rfl (Ld_one Try.isAgg3 (MemAt.ent 1 rfl (Seg.tail (Seg.head))))) rfl ?_
            refine JL_step (Step_callP 40 [.pointer none, U64 nn, I64 ((k:Int))] (.pointer none) (Cl_func [.pointer none, U64 nn, I64 ((k:Int))] Try.call40 rfl) (fun w1 _ => numNil_c nn ((k:Int)) w1)) rfl ?_
            rintro v1 L1 ⟨rfl, rfl⟩
            show JL _ _ _ _ ((51, .pointer none) :: _) [⟨nb2, [Slc nb5 0 k cp2, I64 ((e:Int))], 68, (0, 0)⟩, ⟨nb3, [I64 (kd), I64 ((k:Int)), U64 nn, .slice ax p cx], 70, (0, 0)⟩, ⟨nb1, [errV 36 e, Slc nb4 0 k cp1], 66, (0, 0)⟩, ⟨nb4, cu8 (numK k nn k) ++ sp1, 5, (0, 0)⟩, ⟨nb5, cu8 (([] : List UInt8) ++ numK k nn k) ++ sp2, 5, (0, 0)⟩]
            refine JL_val _ (Ev_assign rfl) rfl ?_
            refine JL_nil ?_
            refine JQ_in_normal ?_
            refine JQ_then ?_
            refine JC_seq ?_
            refine JC_region ?_
            refine JL_val _ (Ev_move rfl) rfl ?_
            refine JL_val _ (Ev_move rfl) rfl ?_
            refine JL_val (.bool false) (Ev_bin _ _ _ rfl rfl (fun _ => eqGuard_ptr ..) fun w => neq_ptr_same Try.underlying62 (Try.sizeOf66 w) (by decide)) rfl ?_
            refine JL_val _ (Ev_move rfl) rfl ?_
            refine JL_gval 3 117 false _ _ rfl rfl rfl (Ev_move rfl) rfl ?_
            refine JL_gval 3 117 false _ (.bool false) rfl rfl rfl (Ev_bin _ _ _ rfl rfl (fun _ => eqGuard_ptr ..) fun _ => neq_ptr_nil_nil Try.underlying62) rfl ?_
            refine JL_val _ (Ev_pickF _ rfl rfl rfl) rfl ?_
            refine JL_nil ?_
            refine JQ_then ?_
            refine JC_condF _ rfl rfl ?_
            refine JC_skip ?_
            refine JQ_in_normal ?_
            refine JQ_then ?_
            refine JC_region ?_
            refine JL_val (I64 ((i:Int) + 1)) (Ev_bini rfl rfl fun _ => bin_add_i _ _ ((i:Int) + 1) (by omega) (by omega)) rfl ?_
            refine JL_val _ (Ev_move rfl) rfl ?_
            refine JL_nil ?_
            refine JQ_thenK ?_
            refine K_mask [true, false, true, true, true] ?_
            show K _ _ [⟨nb2, [Slc nb5 0 k cp2, I64 ((e:Int))], 68, (0, 0)⟩, ⟨nb1, [errV 36 e, Slc nb4 0 k cp1], 66, (0, 0)⟩, ⟨nb4, cu8 (numK k nn k) ++ sp1, 5, (0, 0)⟩, ⟨nb5, cu8 (([] : List UInt8) ++ numK k nn k) ++ sp2, 5, (0, 0)⟩] _
            refine K_pick [1, 0, 2, 3] (by decide) ?_
            show K _ _ [⟨nb1, [errV 36 e, Slc nb4 0 k cp1], 66, (0, 0)⟩, ⟨nb2, [Slc nb5 0 k cp2, I64 ((e:Int))], 68, (0, 0)⟩, ⟨nb4, cu8 (numK k nn k) ++ sp1, 5, (0, 0)⟩, ⟨nb5, cu8 (([] : List UInt8) ++ numK k nn k) ++ sp2, 5, (0, 0)⟩] _
            refine K_next (.inr (i + 1, e, numK k nn k, k, nb4, sp1, cp1, nb5, sp2, cp2)) ⟨by omega, (show (numK k nn k).length = k from (numK_len _ _ _)), by rw [hsum]; omega, (by have := hc1; omega), (by omega), hc3, (by have := hc4; omega), (by omega), hc6⟩ (by first | (simp; omega) | simp | (dsimp only; omega) | omega) (Sub.cons rfl (Sub.cons rfl (Sub.cons rfl (Sub.cons rfl (Sub.cons rfl (Sub.cons rfl (Sub.nil))))))) rfl
          ·
            refine JC_draw 161 4 [(0, Ptr nb1 0), (1, Ptr nb3 2), (2, U64 nn), (3, Ptr nb3 1), (4, I64 ((k:Int))), (6, .agg (List.toArray (α := Value) ([.slice am 0 cm, I64 ((e:Int))]))), (7, Ptr nb3 2), (8, U64 nn), (9, Ptr nb3 1), (10, I64 ((k:Int)))] Try.mixed rfl (by decide +kernel) ?_
            refine DP_one ⟨[], [0, 1, 2, 3, 4, 6, 7, 8, 9, 10], [], [0, 1, 2, 3, 4, 6, 7, 8, 9, 10], [5]⟩ 5 _ rfl rfl (by decide +kernel) rfl ⟨⟨_, rfl, Qok_val rfl (Ev_move rfl)⟩, ⟨_, rfl, Qok_val rfl (Ev_fieldAddr 2 44 1 Try.underlying70 rfl Try.sizeOf44 rfl rfl)⟩, ⟨_, rfl, Qok_val rfl (Ev_load rfl (Ld_one Try.isAgg44 (MemAt.ent 2 rfl (Seg.tail (Seg.tail (Seg.head))))))⟩, ⟨_, rfl, Qok_val rfl (Ev_fieldAddr 1 3 1 Try.underlying70 rfl Try.sizeOf3 rfl rfl)⟩, ⟨_, rfl, Qok_val rfl (Ev_load rfl (Ld_one Try.isAgg3 (MemAt.ent 2 rfl (Seg.tail (Seg.head)))))⟩, ⟨_, rfl, Qok_val rfl (Ev_load rfl (Ld_agg Try.isAgg68 Try.sizeOf68 rfl (MemAt.ent 1 rfl (Seg.whole _))))⟩, ⟨_, rfl, Qok_val rfl (Ev_fieldAddr 2 44 1 Try.underlying70 rfl Try.sizeOf44 rfl rfl)⟩, ⟨_, rfl, Qok_val rfl (Ev_load rfl (Ld_one Try.isAgg44 (MemAt.ent 2 rfl (Seg.tail (Seg.tail (Seg.head))))))⟩, ⟨_, rfl, Qok_val rfl (Ev_fieldAddr 1 3 1 Try.underlying70 rfl Try.sizeOf3 rfl rfl)⟩, ⟨_, rfl, Qok_val rfl (Ev_load rfl (Ld_one Try.isAgg3 (MemAt.ent 2 rfl (Seg.tail (Seg.head)))))⟩, trivial⟩ rfl (Cok_step rfl (Step_call 40 _ [true, false, false] [nb1] _ (Cl_func [Ptr nb1 0, U64 nn, I64 ((k:Int))] Try.call40 rfl) rfl (fun w1 hw1 => numB2_c nb1 e (.slice none 0 0) nn k w1 (hw1.ent _ (List.mem_of_getElem? (i := 0) rfl)) hsz (fit_lt hsz hx) (fit_ne hsz hx)))) ?_
            rintro v1 L1 ⟨_, ⟨rfl, rfl⟩, rfl⟩
            refine ⟨[], ?_⟩
            show DP _ _ _ _ _ _ _ _ [⟨nb2, [.slice am 0 cm, I64 ((e:Int))], 68, (0, 0)⟩, ⟨nb3, [I64 (kd), I64 ((k:Int)), U64 nn, .slice ax p cx], 70, (0, 0)⟩, ⟨nb1, [errV 36 (erN e 1), .slice none 0 0], 66, (0, 0)⟩]
            refine DP_one ⟨[5], [0, 1, 2, 3, 4, 6, 7, 8, 9, 10], [0, 1, 2, 3, 4], [6, 7, 8, 9, 10], [11]⟩ 11 _ rfl rfl (by decide +kernel) rfl ⟨⟨_, rfl, Qok_val rfl (Ev_load rfl (Ld_agg Try.isAgg68 Try.sizeOf68 rfl (MemAt.ent 0 rfl (Seg.whole _))))⟩, ⟨_, rfl, Qok_val rfl (Ev_fieldAddr 2 44 1 Try.underlying70 rfl Try.sizeOf44 rfl rfl)⟩, ⟨_, rfl, Qok_val rfl (Ev_load rfl (Ld_one Try.isAgg44 (MemAt.ent 1 rfl (Seg.tail (Seg.tail (Seg.head))))))⟩, ⟨_, rfl, Qok_val rfl (Ev_fieldAddr 1 3 1 Try.underlying70 rfl Try.sizeOf3 rfl rfl)⟩, ⟨_, rfl, Qok_val rfl (Ev_load rfl (Ld_one Try.isAgg3 (MemAt.ent 1 rfl (Seg.tail (Seg.head)))))⟩, trivial⟩ rfl (Cok_step rfl (Step_callP 41 [.agg (List.toArray (α := Value) ([.slice am 0 cm, I64 ((e:Int))])), U64 nn, I64 ((k:Int))] (.agg (List.toArray (α := Value) ([.slice am 0 cm, I64 ((erN e 1:Int))]))) (Cl_func [.agg (List.toArray (α := Value) ([.slice am 0 cm, I64 ((e:Int))])), U64 nn, I64 ((k:Int))] Try.call41 rfl) (fun w1 hw1 => rnumB2_c am 0 cm e nn k w1 hsz hx))) ?_
            rintro v1 L1 ⟨rfl, rfl⟩
            refine ⟨[(12, Ptr nb1 0)], ?_⟩
            show DP _ _ _ _ _ _ _ _ [⟨nb2, [.slice am 0 cm, I64 ((e:Int))], 68, (0, 0)⟩, ⟨nb3, [I64 (kd), I64 ((k:Int)), U64 nn, .slice ax p cx], 70, (0, 0)⟩, ⟨nb1, [errV 36 (erN e 1), .slice none 0 0], 66, (0, 0)⟩]
            refine DP_one ⟨[5, 11], [0, 1, 2, 3, 4, 6, 7, 8, 9, 10, 12], [0, 1, 2, 3, 4, 6, 7, 8, 9, 10], [12], [13]⟩ 13 _ rfl rfl (by decide +kernel) rfl ⟨⟨_, rfl, Qok_val rfl (Ev_assign rfl)⟩, trivial⟩ rfl (Cok_step rfl (Step_store 0 nb2 0 2 ([.slice am 0 cm, I64 ((e:Int))]) 68 (.agg (List.toArray (α := Value) ([.slice am 0 cm, I64 ((erN e 1:Int))]))) ([.slice am 0 cm, I64 ((erN e 1:Int))]) ([.slice am 0 cm, I64 ((erN e 1:Int))]) rfl rfl rfl (by first | rfl | simp) Try.sizeOf68 rfl (by simp [Value.oneCell']) (Nat.le_of_ble_eq_true rfl) (lay_whole (by simp [])))) ?_
            rintro v1 L1 ⟨rfl, rfl⟩
            refine ⟨[], ?_⟩
            show DP _ _ _ _ _ _ _ _ [⟨nb2, [.slice am 0 cm, I64 ((erN e 1:Int))], 68, (0, 0)⟩, ⟨nb3, [I64 (kd), I64 ((k:Int)), U64 nn, .slice ax p cx], 70, (0, 0)⟩, ⟨nb1, [errV 36 (erN e 1), .slice none 0 0], 66, (0, 0)⟩]
            refine DP_end ⟨[5, 11, 13], [0, 1, 2, 3, 4, 6, 7, 8, 9, 10, 12], [0, 1, 2, 3, 4, 6, 7, 8, 9, 10, 12], [], []⟩ rfl rfl (by decide +kernel) rfl trivial ?_
            refine K_sub (F' := [(34, Ptr nb1 0), (35, Ptr nb3 2), (36, U64 nn), (37, Ptr nb3 1), (38, I64 ((k:Int))), (39, Ptr nb1 0), (40, .agg (List.toArray (α := Value) ([.slice am 0 cm, I64 ((e:Int))]))), (41, Ptr nb3 2), (42, U64 nn), (43, Ptr nb3 1), (44, I64 ((k:Int))), (45, .agg (List.toArray (α := Value) ([.slice am 0 cm, I64 ((erN e 1:Int))]))), (8, Ptr nb1 0), (3, Ptr nb1 0), (4, Ptr nb2 0), (21, .slice ab n cb), (22, I64 ((n:Int))), (23, I64 ((i:Int))), (5, .pointer none), (24, .bool (decide (((i:Int)) < ((n:Int))))), (25, Ptr rowb (4*i + rowo)), (26, .agg (List.toArray (α := Value) ([I64 (kd), I64 ((k:Int)), U64 nn, .slice ax p cx]))), (7, Ptr nb3 0), (27, Ptr nb1 0), (28, Ptr nb3 0), (29, I64 (kd)), (30, U64 (u64i (kd))), (31, U64 ((u64i (kd)) % (6:UInt64))), (33, .bool (decide (((u64i (kd)) % (6:UInt64)) = (0:UInt64)))), (32, .bool (decide (((u64i (kd)) % (6:UInt64)) = (0:UInt64))))]) (Sub.cons (by kernel_rfl) (Sub.cons (by kernel_rfl) (Sub.cons (by kernel_rfl) (Sub.cons (by kernel_rfl) (Sub.cons (by kernel_rfl) (Sub.cons (by kernel_rfl) (Sub.cons (by kernel_rfl) (Sub.cons (by kernel_rfl) (Sub.cons (by kernel_rfl) (Sub.cons (by kernel_rfl) (Sub.cons (by kernel_rfl) (Sub.cons (by kernel_rfl) (Sub.cons (by kernel_rfl) (Sub.cons (by kernel_rfl) (Sub.cons (by kernel_rfl) (Sub.cons (by kernel_rfl) (Sub.cons (by kernel_rfl) (Sub.cons (by kernel_rfl) (Sub.cons (by kernel_rfl) (Sub.cons (by kernel_rfl) (Sub.cons (by kernel_rfl) (Sub.cons (by kernel_rfl) (Sub.cons (by kernel_rfl) (Sub.cons (by kernel_rfl) (Sub.cons (by kernel_rfl) (Sub.cons (by kernel_rfl) (Sub.cons (by kernel_rfl) (Sub.cons (by kernel_rfl) (Sub.cons (by kernel_rfl) (Sub.cons (by kernel_rfl) (Sub.nil))))))))))))))))))))))))))))))) ?_
            show JQ _ _ _ [(34, Ptr nb1 0), (35, Ptr nb3 2), (36, U64 nn), (37, Ptr nb3 1), (38, I64 ((k:Int))), (39, Ptr nb1 0), (40, .agg (List.toArray (α := Value) ([.slice am 0 cm, I64 ((e:Int))]))), (41, Ptr nb3 2), (42, U64 nn), (43, Ptr nb3 1), (44, I64 ((k:Int))), (45, .agg (List.toArray (α := Value) ([.slice am 0 cm, I64 ((erN e 1:Int))]))), (8, Ptr nb1 0), (3, Ptr nb1 0), (4, Ptr nb2 0), (21, .slice ab n cb), (22, I64 ((n:Int))), (23, I64 ((i:Int))), (5, .pointer none), (24, .bool (decide (((i:Int)) < ((n:Int))))), (25, Ptr rowb (4*i + rowo)), (26, .agg (List.toArray (α := Value) ([I64 (kd), I64 ((k:Int)), U64 nn, .slice ax p cx]))), (7, Ptr nb3 0), (27, Ptr nb1 0), (28, Ptr nb3 0), (29, I64 (kd)), (30, U64 (u64i (kd))), (31, U64 ((u64i (kd)) % (6:UInt64))), (33, .bool (decide (((u64i (kd)) % (6:UInt64)) = (0:UInt64)))), (32, .bool (decide (((u64i (kd)) % (6:UInt64)) = (0:UInt64))))] _
            refine JQ_then ?_
            refine JC_region ?_
            refine JL_val _ (Ev_move rfl) rfl ?_
            refine JL_val (Ptr nb3 2) (Ev_fieldAddr 2 44 1 Try.underlying70 rfl Try.sizeOf44 rfl rfl) rfl ?_
            refine JL_val (U64 nn) (Ev_load rfl (Ld_one Try.isAgg44 (MemAt.ent 1 rfl (Seg.tail (Seg.tail (Seg.head)))))) rfl ?_
            refine JL_val (Ptr nb3 1) (Ev_fieldAddr 1 3 1 Try.underlying70 rfl Try.sizeOf3 rfl rfl) rfl ?_
            refine JL_val (I64 ((k:Int))) (Ev_load rfl (Ld_one Try.isAgg3 (MemAt.ent 1 rfl (Seg.tail (Seg.head))))) rfl ?_
            refine JL_step (Step_callP 40 [.pointer none, U64 nn, I64 ((k:Int))] (.pointer none) (Cl_func [.pointer none, U64 nn, I64 ((k:Int))] Try.call40 rfl) (fun w1 _ => numNil_c nn ((k:Int)) w1)) rfl ?_
            rintro v1 L1 ⟨rfl, rfl⟩
            show JL _ _ _ _ ((51, .pointer none) :: _) [⟨nb2, [.slice am 0 cm, I64 ((erN e 1:Int))], 68, (0, 0)⟩, ⟨nb3, [I64 (kd), I64 ((k:Int)), U64 nn, .slice ax p cx], 70, (0, 0)⟩, ⟨nb1, [errV 36 (erN e 1), .slice none 0 0], 66, (0, 0)⟩]
            refine JL_val _ (Ev_assign rfl) rfl ?_
            refine JL_nil ?_
            refine JQ_in_normal ?_
            refine JQ_then ?_
            refine JC_seq ?_
            refine JC_region ?_
            refine JL_val _ (Ev_move rfl) rfl ?_
            refine JL_val _ (Ev_move rfl) rfl ?_
            refine JL_val (.bool false) (Ev_bin _ _ _ rfl rfl (fun _ => eqGuard_ptr ..) fun w => neq_ptr_same Try.underlying62 (Try.sizeOf66 w) (by decide)) rfl ?_
            refine JL_val _ (Ev_move rfl) rfl ?_
            refine JL_gval 3 117 false _ _ rfl rfl rfl (Ev_move rfl) rfl ?_
            refine JL_gval 3 117 false _ (.bool false) rfl rfl rfl (Ev_bin _ _ _ rfl rfl (fun _ => eqGuard_ptr ..) fun _ => neq_ptr_nil_nil Try.underlying62) rfl ?_
            refine JL_val _ (Ev_pickF _ rfl rfl rfl) rfl ?_
            refine JL_nil ?_
            refine JQ_then ?_
            refine JC_condF _ rfl rfl ?_
            refine JC_skip ?_
            refine JQ_in_normal ?_
            refine JQ_then ?_
            refine JC_region ?_
            refine JL_val (I64 ((i:Int) + 1)) (Ev_bini rfl rfl fun _ => bin_add_i _ _ ((i:Int) + 1) (by omega) (by omega)) rfl ?_
            refine JL_val _ (Ev_move rfl) rfl ?_
            refine JL_nil ?_
            refine JQ_thenK ?_
            refine K_mask [true, false, true] ?_
            show K _ _ [⟨nb2, [.slice am 0 cm, I64 ((erN e 1:Int))], 68, (0, 0)⟩, ⟨nb1, [errV 36 (erN e 1), .slice none 0 0], 66, (0, 0)⟩] _
            refine K_pick [1, 0] (by decide) ?_
            show K _ _ [⟨nb1, [errV 36 (erN e 1), .slice none 0 0], 66, (0, 0)⟩, ⟨nb2, [.slice am 0 cm, I64 ((erN e 1:Int))], 68, (0, 0)⟩] _
            refine K_next (.inl (i + 1, (erN e 1), am, cm)) ⟨by omega, by omega⟩ (by first | (simp; omega) | simp | (dsimp only; omega) | omega) (Sub.cons rfl (Sub.cons rfl (Sub.cons rfl (Sub.cons rfl (Sub.cons rfl (Sub.cons rfl (Sub.nil))))))) rfl
        ·
          refine JC_draw 161 4 [(0, Ptr nb1 0), (1, Ptr nb3 2), (2, U64 nn), (3, Ptr nb3 1), (4, I64 (s)), (6, .agg (List.toArray (α := Value) ([.slice am 0 cm, I64 ((e:Int))]))), (7, Ptr nb3 2), (8, U64 nn), (9, Ptr nb3 1), (10, I64 (s))] Try.mixed rfl (by decide +kernel) ?_
          refine DP_one ⟨[], [0, 1, 2, 3, 4, 6, 7, 8, 9, 10], [], [0, 1, 2, 3, 4, 6, 7, 8, 9, 10], [5]⟩ 5 _ rfl rfl (by decide +kernel) rfl ⟨⟨_, rfl, Qok_val rfl (Ev_move rfl)⟩, ⟨_, rfl, Qok_val rfl (Ev_fieldAddr 2 44 1 Try.underlying70 rfl Try.sizeOf44 rfl rfl)⟩, ⟨_, rfl, Qok_val rfl (Ev_load rfl (Ld_one Try.isAgg44 (MemAt.ent 2 rfl (Seg.tail (Seg.tail (Seg.head))))))⟩, ⟨_, rfl, Qok_val rfl (Ev_fieldAddr 1 3 1 Try.underlying70 rfl Try.sizeOf3 rfl rfl)⟩, ⟨_, rfl, Qok_val rfl (Ev_load rfl (Ld_one Try.isAgg3 (MemAt.ent 2 rfl (Seg.tail (Seg.head)))))⟩, ⟨_, rfl, Qok_val rfl (Ev_load rfl (Ld_agg Try.isAgg68 Try.sizeOf68 rfl (MemAt.ent 1 rfl (Seg.whole _))))⟩, ⟨_, rfl, Qok_val rfl (Ev_fieldAddr 2 44 1 Try.underlying70 rfl Try.sizeOf44 rfl rfl)⟩, ⟨_, rfl, Qok_val rfl (Ev_load rfl (Ld_one Try.isAgg44 (MemAt.ent 2 rfl (Seg.tail (Seg.tail (Seg.head))))))⟩, ⟨_, rfl, Qok_val rfl (Ev_fieldAddr 1 3 1 Try.underlying70 rfl Try.sizeOf3 rfl rfl)⟩, ⟨_, rfl, Qok_val rfl (Ev_load rfl (Ld_one Try.isAgg3 (MemAt.ent 2 rfl (Seg.tail (Seg.head)))))⟩, trivial⟩ rfl (Cok_step rfl (Step_call 40 _ [true, false, false] [nb1] _ (Cl_func [Ptr nb1 0, U64 nn, I64 (s)] Try.call40 rfl) rfl (fun w1 hw1 => numB1_c nb1 e (.slice none 0 0) nn s w1 (hw1.ent _ (List.mem_of_getElem? (i := 0) rfl)) hsz))) ?_
          rintro v1 L1 ⟨_, ⟨rfl, rfl⟩, rfl⟩
          refine ⟨[], ?_⟩
          show DP _ _ _ _ _ _ _ _ [⟨nb2, [.slice am 0 cm, I64 ((e:Int))], 68, (0, 0)⟩, ⟨nb3, [I64 (kd), I64 (s), U64 nn, .slice ax p cx], 70, (0, 0)⟩, ⟨nb1, [errV 36 (erN e 1), .slice none 0 0], 66, (0, 0)⟩]
          refine DP_one ⟨[5], [0, 1, 2, 3, 4, 6, 7, 8, 9, 10], [0, 1, 2, 3, 4], [6, 7, 8, 9, 10], [11]⟩ 11 _ rfl rfl (by decide +kernel) rfl ⟨⟨_, rfl, Qok_val rfl (Ev_load rfl (Ld_agg Try.isAgg68 Try.sizeOf68 rfl (MemAt.ent 0 rfl (Seg.whole _))))⟩, ⟨_, rfl, Qok_val rfl (Ev_fieldAddr 2 44 1 Try.underlying70 rfl Try.sizeOf44 rfl rfl)⟩, ⟨_, rfl, Qok_val rfl (Ev_load rfl (Ld_one Try.isAgg44 (MemAt.ent 1 rfl (Seg.tail (Seg.tail (Seg.head))))))⟩, ⟨_, rfl, Qok_val rfl (Ev_fieldAddr 1 3 1 Try.underlying70 rfl Try.sizeOf3 rfl rfl)⟩, ⟨_, rfl, Qok_val rfl (Ev_load rfl (Ld_one Try.isAgg3 (MemAt.ent 1 rfl (Seg.tail (Seg.head)))))⟩, trivial⟩ rfl (Cok_step rfl (Step_callP 41 [.agg (List.toArray (α := Value) ([.slice am 0 cm, I64 ((e:Int))])), U64 nn, I64 (s)] (.agg (List.toArray (α := Value) ([.slice am 0 cm, I64 ((erN e 1:Int))]))) (Cl_func [.agg (List.toArray (α := Value) ([.slice am 0 cm, I64 ((e:Int))])), U64 nn, I64 (s)] Try.call41 rfl) (fun w1 hw1 => rnumB1_c am 0 cm e nn s w1 hsz))) ?_
          rintro v1 L1 ⟨rfl, rfl⟩
          refine ⟨[(12, Ptr nb1 0)], ?_⟩
          show DP _ _ _ _ _ _ _ _ [⟨nb2, [.slice am 0 cm, I64 ((e:Int))], 68, (0, 0)⟩, ⟨nb3, [I64 (kd), I64 (s), U64 nn, .slice ax p cx], 70, (0, 0)⟩, ⟨nb1, [errV 36 (erN e 1), .slice none 0 0], 66, (0, 0)⟩]
          refine DP_one ⟨[5, 11], [0, 1, 2, 3, 4, 6, 7, 8, 9, 10, 12], [0, 1, 2, 3, 4, 6, 7, 8, 9, 10], [12], [13]⟩ 13 _ rfl rfl (by decide +kernel) rfl ⟨⟨_, rfl, Qok_val rfl (Ev_assign rfl)⟩, trivial⟩ rfl (Cok_step rfl (Step_store 0 nb2 0 2 ([.slice am 0 cm, I64 ((e:Int))]) 68 (.agg (List.toArray (α := Value) ([.slice am 0 cm, I64 ((erN e 1:Int))]))) ([.slice am 0 cm, I64 ((erN e 1:Int))]) ([.slice am 0 cm, I64 ((erN e 1:Int))]) rfl rfl rfl (by first | rfl | simp) Try.sizeOf68 rfl (by simp [Value.oneCell']) (Nat.le_of_ble_eq_true rfl) (lay_whole (by simp [])))) ?_
          rintro v1 L1 ⟨rfl, rfl⟩
          refine ⟨[], ?_⟩
          show DP _ _ _ _ _ _ _ _ [⟨nb2, [.slice am 0 cm, I64 ((erN e 1:Int))], 68, (0, 0)⟩, ⟨nb3, [I64 (kd), I64 (s), U64 nn, .slice ax p cx], 70, (0, 0)⟩, ⟨nb1, [errV 36 (erN e 1), .slice none 0 0], 66, (0, 0)⟩]
          refine DP_end ⟨[5, 11, 13], [0, 1, 2, 3, 4, 6, 7, 8, 9, 10, 12], [0, 1, 2, 3, 4, 6, 7, 8, 9, 10, 12], [], []⟩ rfl rfl (by decide +kernel) rfl trivial ?_
          refine K_sub (F' := [(34, Ptr nb1 0), (35, Ptr nb3 2), (36, U64 nn), (37, Ptr nb3 1), (38, I64 (s)), (39, Ptr nb1 0), (40, .agg (List.toArray (α := Value) ([.slice am 0 cm, I64 ((e:Int))]))), (41, Ptr nb3 2), (42, U64 nn), (43, Ptr nb3 1), (44, I64 (s)), (45, .agg (List.toArray (α := Value) ([.slice am 0 cm, I64 ((erN e 1:Int))]))), (8, Ptr nb1 0), (3, Ptr nb1 0), (4, Ptr nb2 0), (21, .slice ab n cb), (22, I64 ((n:Int))), (23, I64 ((i:Int))), (5, .pointer none), (24, .bool (decide (((i:Int)) < ((n:Int))))), (25, Ptr rowb (4*i + rowo)), (26, .agg (List.toArray (α := Value) ([I64 (kd), I64 (s), U64 nn, .slice ax p cx]))), (7, Ptr nb3 0), (27, Ptr nb1 0), (28, Ptr nb3 0), (29, I64 (kd)), (30, U64 (u64i (kd))), (31, U64 ((u64i (kd)) % (6:UInt64))), (33, .bool (decide (((u64i (kd)) % (6:UInt64)) = (0:UInt64)))), (32, .bool (decide (((u64i (kd)) % (6:UInt64)) = (0:UInt64))))]) (Sub.cons (by kernel_rfl) (Sub.cons (by kernel_rfl) (Sub.cons (by kernel_rfl) (Sub.cons (by kernel_rfl) (Sub.cons (by kernel_rfl) (Sub.cons (by kernel_rfl) (Sub.cons (by kernel_rfl) (Sub.cons (by kernel_rfl) (Sub.cons (by kernel_rfl) (Sub.cons (by kernel_rfl) (Sub.cons (by kernel_rfl) (Sub.cons (by kernel_rfl) (Sub.cons (by kernel_rfl) (Sub.cons (by kernel_rfl) (Sub.cons (by kernel_rfl) (Sub.cons (by kernel_rfl) (Sub.cons (by kernel_rfl) (Sub.cons (by kernel_rfl) (Sub.cons (by kernel_rfl) (Sub.cons (by kernel_rfl) (Sub.cons (by kernel_rfl) (Sub.cons (by kernel_rfl) (Sub.cons (by kernel_rfl) (Sub.cons (by kernel_rfl) (Sub.cons (by kernel_rfl) (Sub.cons (by kernel_rfl) (Sub.cons (by kernel_rfl) (Sub.cons (by kernel_rfl) (Sub.cons (by kernel_rfl) (Sub.cons (by kernel_rfl) (Sub.nil))))))))))))))))))))))))))))))) ?_
          show JQ _ _ _ [(34, Ptr nb1 0), (35, Ptr nb3 2), (36, U64 nn), (37, Ptr nb3 1), (38, I64 (s)), (39, Ptr nb1 0), (40, .agg (List.toArray (α := Value) ([.slice am 0 cm, I64 ((e:Int))]))), (41, Ptr nb3 2), (42, U64 nn), (43, Ptr nb3 1), (44, I64 (s)), (45, .agg (List.toArray (α := Value) ([.slice am 0 cm, I64 ((erN e 1:Int))]))), (8, Ptr nb1 0), (3, Ptr nb1 0), (4, Ptr nb2 0), (21, .slice ab n cb), (22, I64 ((n:Int))), (23, I64 ((i:Int))), (5, .pointer none), (24, .bool (decide (((i:Int)) < ((n:Int))))), (25, Ptr rowb (4*i + rowo)), (26, .agg (List.toArray (α := Value) ([I64 (kd), I64 (s), U64 nn, .slice ax p cx]))), (7, Ptr nb3 0), (27, Ptr nb1 0), (28, Ptr nb3 0), (29, I64 (kd)), (30, U64 (u64i (kd))), (31, U64 ((u64i (kd)) % (6:UInt64))), (33, .bool (decide (((u64i (kd)) % (6:UInt64)) = (0:UInt64)))), (32, .bool (decide (((u64i (kd)) % (6:UInt64)) = (0:UInt64))))] _
          refine JQ_then ?_
          refine JC_region ?_
          refine JL_val _ (Ev_move rfl) rfl ?_
          refine JL_val (Ptr nb3 2) (Ev_fieldAddr 2 44 1 Try.underlying70 rfl Try.sizeOf44 rfl rfl) rfl ?_
          refine JL_val (U64 nn) (Ev_load rfl (Ld_one Try.isAgg44 (MemAt.ent 1 rfl (Seg.tail (Seg.tail (Seg.head)))))) rfl ?_
          refine JL_val (Ptr nb3 1) (Ev_fieldAddr 1 3 1 Try.underlying70 rfl Try.sizeOf3 rfl rfl) rfl ?_
          refine JL_val (I64 (s)) (Ev_load rfl (Ld_one Try.isAgg3 (MemAt.ent 1 rfl (Seg.tail (Seg.head))))) rfl ?_
          refine JL_step (Step_callP 40 [.pointer none, U64 nn, I64 (s)] (.pointer none) (Cl_func [.pointer none, U64 nn, I64 (s)] Try.call40 rfl) (fun w1 _ => numNil_c nn (s) w1)) rfl ?_
          rintro v1 L1 ⟨rfl, rfl⟩
          show JL _ _ _ _ ((51, .pointer none) :: _) [⟨nb2, [.slice am 0 cm, I64 ((erN e 1:Int))], 68, (0, 0)⟩, ⟨nb3, [I64 (kd), I64 (s), U64 nn, .slice ax p cx], 70, (0, 0)⟩, ⟨nb1, [errV 36 (erN e 1), .slice none 0 0], 66, (0, 0)⟩]
          refine JL_val _ (Ev_assign rfl) rfl ?_
          refine JL_nil ?_
          refine JQ_in_normal ?_
          refine JQ_then ?_
          refine JC_seq ?_
          refine JC_region ?_
          refine JL_val _ (Ev_move rfl) rfl ?_
          refine JL_val _ (Ev_move rfl) rfl ?_
          refine JL_val (.bool false) (Ev_bin _ _ _ rfl rfl (fun _ => eqGuard_ptr ..) fun w => neq_ptr_same Try.underlying62 (Try.sizeOf66 w) (by decide)) rfl ?_
          refine JL_val _ (Ev_move rfl) rfl ?_
          refine JL_gval 3 117 false _ _ rfl rfl rfl (Ev_move rfl) rfl ?_
          refine JL_gval 3 117 false _ (.bool false) rfl rfl rfl (Ev_bin _ _ _ rfl rfl (fun _ => eqGuard_ptr ..) fun _ => neq_ptr_nil_nil Try.underlying62) rfl ?_
          refine JL_val _ (Ev_pickF _ rfl rfl rfl) rfl ?_
          refine JL_nil ?_
          refine JQ_then ?_
          refine JC_condF _ rfl rfl ?_
          refine JC_skip ?_
          refine JQ_in_normal ?_
          refine JQ_then ?_
          refine JC_region ?_
          refine JL_val (I64 ((i:Int) + 1)) (Ev_bini rfl rfl fun _ => bin_add_i _ _ ((i:Int) + 1) (by omega) (by omega)) rfl ?_
          refine JL_val _ (Ev_move rfl) rfl ?_
          refine JL_nil ?_
          refine JQ_thenK ?_
          refine K_mask [true, false, true] ?_
          show K _ _ [⟨nb2, [.slice am 0 cm, I64 ((erN e 1:Int))], 68, (0, 0)⟩, ⟨nb1, [errV 36 (erN e 1), .slice none 0 0], 66, (0, 0)⟩] _
          refine K_pick [1, 0] (by decide) ?_
          show K _ _ [⟨nb1, [errV 36 (erN e 1), .slice none 0 0], 66, (0, 0)⟩, ⟨nb2, [.slice am 0 cm, I64 ((erN e 1:Int))], 68, (0, 0)⟩] _
          refine K_next (.inl (i + 1, (erN e 1), am, cm)) ⟨by omega, by omega⟩ (by first | (simp; omega) | simp | (dsimp only; omega) | omega) (Sub.cons rfl (Sub.cons rfl (Sub.cons rfl (Sub.cons rfl (Sub.cons rfl (Sub.cons rfl (Sub.nil))))))) rfl
      ·
        have hp2 : ¬ (((u64i (kd)) % (6:UInt64)) = (0:UInt64)) := of_decide_eq_false hb2
        refine JC_seq ?_
        refine JC_region ?_
        refine JL_val (.bool (decide (((u64i (kd)) % (6:UInt64)) = (1:UInt64)))) (Ev_bini rfl rfl fun _ => bin_eql_u64 ((u64i (kd)) % (6:UInt64)) (1:UInt64)) rfl ?_
        refine JL_val _ (Ev_assign rfl) rfl ?_
        refine JL_nil ?_
        refine JQ_then ?_
        refine JC_cond (decide (((u64i (kd)) % (6:UInt64)) = (1:UInt64))) rfl (fun hb3 => ?_) (fun hb3 => ?_)
        ·
          have hp3 : ((u64i (kd)) % (6:UInt64)) = (1:UInt64) := of_decide_eq_true hb3
          refine JC_seq ?_
          by_cases hple : p ≤ 65535
          ·
            refine JC_draw 161 4 [(0, Ptr nb1 0), (1, Ptr nb3 3), (2, .slice ax p cx), (4, .agg (List.toArray (α := Value) ([.slice am 0 cm, I64 ((e:Int))]))), (5, Ptr nb3 3), (6, .slice ax p cx)] Try.mixed rfl (by decide +kernel) ?_
            refine DP_one ⟨[], [0, 1, 2, 4, 5, 6], [], [0, 1, 2, 4, 5, 6], [3]⟩ 3 _ rfl rfl (by decide +kernel) rfl ⟨⟨_, rfl, Qok_val rfl (Ev_move rfl)⟩, ⟨_, rfl, Qok_val rfl (Ev_fieldAddr 3 38 1 Try.underlying70 rfl Try.sizeOf38 rfl rfl)⟩, ⟨_, rfl, Qok_val rfl (Ev_load rfl (Ld_one Try.isAgg38 (MemAt.ent 2 rfl (Seg.tail (Seg.tail (Seg.tail (Seg.head)))))))⟩, ⟨_, rfl, Qok_val rfl (Ev_load rfl (Ld_agg Try.isAgg68 Try.sizeOf68 rfl (MemAt.ent 1 rfl (Seg.whole _))))⟩, ⟨_, rfl, Qok_val rfl (Ev_fieldAddr 3 38 1 Try.underlying70 rfl Try.sizeOf38 rfl rfl)⟩, ⟨_, rfl, Qok_val rfl (Ev_load rfl (Ld_one Try.isAgg38 (MemAt.ent 2 rfl (Seg.tail (Seg.tail (Seg.tail (Seg.head)))))))⟩, trivial⟩ rfl (Cok_step rfl (Step_call 42 _ [true, false, false] [nb1] _ (Cl_func [Ptr nb1 0, .slice ax p cx] Try.call42 rfl) rfl (fun w1 hw1 => bytesN_c nb1 (p + 2) (errV 36 e) ax p cx z w1 (hw1.ent _ (List.mem_of_getElem? (i := 0) rfl)) hz (hr.at (M' := [nb1]) hw1 (hw1.apart [0] _ rfl)) (by omega) (by omega)))) ?_
            rintro v1 L1 ⟨_, ⟨rfl, nb6, sp3, cp3, rfl, hc7, hc8, hc9⟩, rfl⟩
            refine ⟨[], ?_⟩
            show DP _ _ _ _ _ _ _ _ [⟨nb2, [.slice am 0 cm, I64 ((e:Int))], 68, (0, 0)⟩, ⟨nb3, [I64 (kd), I64 (s), U64 nn, .slice ax p cx], 70, (0, 0)⟩, ⟨nb1, [errV 36 e, Slc nb6 0 (p + 2) cp3], 66, (0, 0)⟩, ⟨nb6, cu8 (numK 2 (UInt64.ofNat p) 2 ++ z) ++ sp3, 5, (0, 0)⟩]
            refine DP_one ⟨[3], [0, 1, 2, 4, 5, 6], [0, 1, 2], [4, 5, 6], [7]⟩ 7 _ rfl rfl (by decide +kernel) rfl ⟨⟨_, rfl, Qok_val rfl (Ev_load rfl (Ld_agg Try.isAgg68 Try.sizeOf68 rfl (MemAt.ent 0 rfl (Seg.whole _))))⟩, ⟨_, rfl, Qok_val rfl (Ev_fieldAddr 3 38 1 Try.underlying70 rfl Try.sizeOf38 rfl rfl)⟩, ⟨_, rfl, Qok_val rfl (Ev_load rfl (Ld_one Try.isAgg38 (MemAt.ent 1 rfl (Seg.tail (Seg.tail (Seg.tail (Seg.head)))))))⟩, trivial⟩ rfl (Cok_step rfl (Step_callN 43 [.agg (List.toArray (α := Value) ([.slice am 0 cm, I64 ((e:Int))])), .slice ax p cx] _ (Cl_func [.agg (List.toArray (α := Value) ([.slice am 0 cm, I64 ((e:Int))])), .slice ax p cx] Try.call43 rfl) (fun w1 hw1 => rbytesOk_c am 0 cm ([] : List UInt8) ((e:Int)) ax p cx z (p + 2) w1 rfl (by omega) RdB.nil hz (by omega) (hr.at (M' := []) hw1 (by simp)) (by omega)))) ?_
            rintro v1 L1 ⟨_, ⟨nb7, sp4, cp4, rfl, rfl, hc10, hc11, hc12⟩, rfl⟩
            refine ⟨[(8, Ptr nb1 0)], ?_⟩
            show DP _ _ _ _ _ _ _ _ [⟨nb2, [.slice am 0 cm, I64 ((e:Int))], 68, (0, 0)⟩, ⟨nb3, [I64 (kd), I64 (s), U64 nn, .slice ax p cx], 70, (0, 0)⟩, ⟨nb1, [errV 36 e, Slc nb6 0 (p + 2) cp3], 66, (0, 0)⟩, ⟨nb6, cu8 (numK 2 (UInt64.ofNat p) 2 ++ z) ++ sp3, 5, (0, 0)⟩, ⟨nb7, cu8 ((([] : List UInt8) ++ numK 2 (UInt64.ofNat p) 2) ++ z) ++ sp4, 5, (0, 0)⟩]
            refine DP_one ⟨[3, 7], [0, 1, 2, 4, 5, 6, 8], [0, 1, 2, 4, 5, 6], [8], [9]⟩ 9 _ rfl rfl (by decide +kernel) rfl ⟨⟨_, rfl, Qok_val rfl (Ev_assign rfl)⟩, trivial⟩ rfl (Cok_step rfl (Step_store 0 nb2 0 2 ([.slice am 0 cm, I64 ((e:Int))]) 68 (.agg (List.toArray (α := Value) ([Slc nb7 0 (p + 2) cp4, I64 ((e:Int))]))) ([Slc nb7 0 (p + 2) cp4, I64 ((e:Int))]) ([Slc nb7 0 (p + 2) cp4, I64 ((e:Int))]) rfl rfl rfl (by first | rfl | simp) Try.sizeOf68 rfl (by simp [Value.oneCell']) (Nat.le_of_ble_eq_true rfl) (lay_whole (by simp [])))) ?_
            rintro v1 L1 ⟨rfl, rfl⟩
            refine ⟨[], ?_⟩
            show DP _ _ _ _ _ _ _ _ [⟨nb2, [Slc nb7 0 (p + 2) cp4, I64 ((e:Int))], 68, (0, 0)⟩, ⟨nb3, [I64 (kd), I64 (s), U64 nn, .slice ax p cx], 70, (0, 0)⟩, ⟨nb1, [errV 36 e, Slc nb6 0 (p + 2) cp3], 66, (0, 0)⟩, ⟨nb6, cu8 (numK 2 (UInt64.ofNat p) 2 ++ z) ++ sp3, 5, (0, 0)⟩, ⟨nb7, cu8 ((([] : List UInt8) ++ numK 2 (UInt64.ofNat p) 2) ++ z) ++ sp4, 5, (0, 0)⟩]
            refine DP_end ⟨[3, 7, 9], [0, 1, 2, 4, 5, 6, 8], [0, 1, 2, 4, 5, 6, 8], [], []⟩ rfl rfl (by decide +kernel) rfl trivial ?_
            refine K_sub (F' := [(54, Ptr nb1 0), (55, Ptr nb3 3), (56, .slice ax p cx), (57, Ptr nb1 0), (58, .agg (List.toArray (α := Value) ([.slice am 0 cm, I64 ((e:Int))]))), (59, Ptr nb3 3), (60, .slice ax p cx), (61, .agg (List.toArray (α := Value) ([Slc nb7 0 (p + 2) cp4, I64 ((e:Int))]))), (8, Ptr nb1 0), (3, Ptr nb1 0), (4, Ptr nb2 0), (21, .slice ab n cb), (22, I64 ((n:Int))), (23, I64 ((i:Int))), (5, .pointer none), (24, .bool (decide (((i:Int)) < ((n:Int))))), (25, Ptr rowb (4*i + rowo)), (26, .agg (List.toArray (α := Value) ([I64 (kd), I64 (s), U64 nn, .slice ax p cx]))), (7, Ptr nb3 0), (27, Ptr nb1 0), (28, Ptr nb3 0), (29, I64 (kd)), (30, U64 (u64i (kd))), (31, U64 ((u64i (kd)) % (6:UInt64))), (33, .bool (decide (((u64i (kd)) % (6:UInt64)) = (0:UInt64)))), (32, .bool (decide (((u64i (kd)) % (6:UInt64)) = (0:UInt64)))), (53, .bool (decide (((u64i (kd)) % (6:UInt64)) = (1:UInt64)))), (52, .bool (decide (((u64i (kd)) % (6:UInt64)) = (1:UInt64))))]) (Sub.cons (by kernel_rfl) (Sub.cons (by kernel_rfl) (Sub.cons (by kernel_rfl) (Sub.cons (by kernel_rfl) (Sub.cons (by kernel_rfl) (Sub.cons (by kernel_rfl) (Sub.cons (by kernel_rfl) (Sub.cons (by kernel_rfl) (Sub.cons (by kernel_rfl) (Sub.cons (by kernel_rfl) (Sub.cons (by kernel_rfl) (Sub.cons (by kernel_rfl) (Sub.cons (by kernel_rfl) (Sub.cons (by kernel_rfl) (Sub.cons (by kernel_rfl) (Sub.cons (by kernel_rfl) (Sub.cons (by kernel_rfl) (Sub.cons (by kernel_rfl) (Sub.cons (by kernel_rfl) (Sub.cons (by kernel_rfl) (Sub.cons (by kernel_rfl) (Sub.cons (by kernel_rfl) (Sub.cons (by kernel_rfl) (Sub.cons (by kernel_rfl) (Sub.cons (by kernel_rfl) (Sub.cons (by kernel_rfl) (Sub.cons (by kernel_rfl) (Sub.cons (by kernel_rfl) (Sub.nil))))))))))))))))))))))))))))) ?_
            show JQ _ _ _ [(54, Ptr nb1 0), (55, Ptr nb3 3), (56, .slice ax p cx), (57, Ptr nb1 0), (58, .agg (List.toArray (α := Value) ([.slice am 0 cm, I64 ((e:Int))]))), (59, Ptr nb3 3), (60, .slice ax p cx), (61, .agg (List.toArray (α := Value) ([Slc nb7 0 (p + 2) cp4, I64 ((e:Int))]))), (8, Ptr nb1 0), (3, Ptr nb1 0), (4, Ptr nb2 0), (21, .slice ab n cb), (22, I64 ((n:Int))), (23, I64 ((i:Int))), (5, .pointer none), (24, .bool (decide (((i:Int)) < ((n:Int))))), (25, Ptr rowb (4*i + rowo)), (26, .agg (List.toArray (α := Value) ([I64 (kd), I64 (s), U64 nn, .slice ax p cx]))), (7, Ptr nb3 0), (27, Ptr nb1 0), (28, Ptr nb3 0), (29, I64 (kd)), (30, U64 (u64i (kd))), (31, U64 ((u64i (kd)) % (6:UInt64))), (33, .bool (decide (((u64i (kd)) % (6:UInt64)) = (0:UInt64)))), (32, .bool (decide (((u64i (kd)) % (6:UInt64)) = (0:UInt64)))), (53, .bool (decide (((u64i (kd)) % (6:UInt64)) = (1:UInt64)))), (52, .bool (decide (((u64i (kd)) % (6:UInt64)) = (1:UInt64))))] _
            refine JQ_then ?_
            refine JC_region ?_
            refine JL_val _ (Ev_move rfl) rfl ?_
            refine JL_val (Ptr nb3 3) (Ev_fieldAddr 3 38 1 Try.underlying70 rfl Try.sizeOf38 rfl rfl) rfl ?_
            refine JL_val (.slice ax p cx) (Ev_load rfl (Ld_one Try.isAgg38 (MemAt.ent 1 rfl (Seg.tail (Seg.tail (Seg.tail (Seg.head))))))) rfl ?_
            refine JL_step (Step_callP 42 [.pointer none, .slice ax p cx] (.pointer none) (Cl_func [.pointer none, .slice ax p cx] Try.call42 rfl) (fun w1 _ => bytesWNil_c (.slice ax p cx) w1)) rfl ?_
            rintro v1 L1 ⟨rfl, rfl⟩
            show JL _ _ _ _ ((65, .pointer none) :: _) [⟨nb2, [Slc nb7 0 (p + 2) cp4, I64 ((e:Int))], 68, (0, 0)⟩, ⟨nb3, [I64 (kd), I64 (s), U64 nn, .slice ax p cx], 70, (0, 0)⟩, ⟨nb1, [errV 36 e, Slc nb6 0 (p + 2) cp3], 66, (0, 0)⟩, ⟨nb6, cu8 (numK 2 (UInt64.ofNat p) 2 ++ z) ++ sp3, 5, (0, 0)⟩, ⟨nb7, cu8 ((([] : List UInt8) ++ numK 2 (UInt64.ofNat p) 2) ++ z) ++ sp4, 5, (0, 0)⟩]
            refine JL_val _ (Ev_assign rfl) rfl ?_
            refine JL_nil ?_
            refine JQ_in_normal ?_
            refine JQ_then ?_
            refine JC_seq ?_
            refine JC_region ?_
            refine JL_val _ (Ev_move rfl) rfl ?_
            refine JL_val _ (Ev_move rfl) rfl ?_
            refine JL_val (.bool false) (Ev_bin _ _ _ rfl rfl (fun _ => eqGuard_ptr ..) fun w => neq_ptr_same Try.underlying62 (Try.sizeOf66 w) (by decide)) rfl ?_
            refine JL_val _ (Ev_move rfl) rfl ?_
            refine JL_gval 3 117 false _ _ rfl rfl rfl (Ev_move rfl) rfl ?_
            refine JL_gval 3 117 false _ (.bool false) rfl rfl rfl (Ev_bin _ _ _ rfl rfl (fun _ => eqGuard_ptr ..) fun _ => neq_ptr_nil_nil Try.underlying62) rfl ?_
            refine JL_val _ (Ev_pickF _ rfl rfl rfl) rfl ?_
            refine JL_nil ?_
            refine JQ_then ?_
            refine JC_condF _ rfl rfl ?_
            refine JC_skip ?_
            refine JQ_in_normal ?_
            refine JQ_then ?_
            refine JC_region ?_
            refine JL_val (I64 ((i:Int) + 1)) (Ev_bini rfl rfl fun _ => bin_add_i _ _ ((i:Int) + 1) (by omega) (by omega)) rfl ?_
            refine JL_val _ (Ev_move rfl) rfl ?_
            refine JL_nil ?_
            refine JQ_thenK ?_
            refine K_mask [true, false, true, true, true] ?_
            show K _ _ [⟨nb2, [Slc nb7 0 (p + 2) cp4, I64 ((e:Int))], 68, (0, 0)⟩, ⟨nb1, [errV 36 e, Slc nb6 0 (p + 2) cp3], 66, (0, 0)⟩, ⟨nb6, cu8 (numK 2 (UInt64.ofNat p) 2 ++ z) ++ sp3, 5, (0, 0)⟩, ⟨nb7, cu8 ((([] : List UInt8) ++ numK 2 (UInt64.ofNat p) 2) ++ z) ++ sp4, 5, (0, 0)⟩] _
            refine K_pick [1, 0, 2, 3] (by decide) ?_
            show K _ _ [⟨nb1, [errV 36 e, Slc nb6 0 (p + 2) cp3], 66, (0, 0)⟩, ⟨nb2, [Slc nb7 0 (p + 2) cp4, I64 ((e:Int))], 68, (0, 0)⟩, ⟨nb6, cu8 (numK 2 (UInt64.ofNat p) 2 ++ z) ++ sp3, 5, (0, 0)⟩, ⟨nb7, cu8 ((([] : List UInt8) ++ numK 2 (UInt64.ofNat p) 2) ++ z) ++ sp4, 5, (0, 0)⟩] _
            refine K_next (.inr (i + 1, e, numK 2 (UInt64.ofNat p) 2 ++ z, (p + 2), nb6, sp3, cp3, nb7, sp4, cp4)) ⟨by omega, (show (numK 2 (UInt64.ofNat p) 2 ++ z).length = (p + 2) from (by rw [List.length_append, numK_len, hz]; omega)), by rw [hsum]; omega, (by have := hc7; omega), (by omega), hc9, (by have := hc10; omega), (by omega), hc12⟩ (by first | (simp; omega) | simp | (dsimp only; omega) | omega) (Sub.cons rfl (Sub.cons rfl (Sub.cons rfl (Sub.cons rfl (Sub.cons rfl (Sub.cons rfl (Sub.nil))))))) rfl
          ·
            refine JC_draw 161 4 [(0, Ptr nb1 0), (1, Ptr nb3 3), (2, .slice ax p cx), (4, .agg (List.toArray (α := Value) ([.slice am 0 cm, I64 ((e:Int))]))), (5, Ptr nb3 3), (6, .slice ax p cx)] Try.mixed rfl (by decide +kernel) ?_
            refine DP_one ⟨[], [0, 1, 2, 4, 5, 6], [], [0, 1, 2, 4, 5, 6], [3]⟩ 3 _ rfl rfl (by decide +kernel) rfl ⟨⟨_, rfl, Qok_val rfl (Ev_move rfl)⟩, ⟨_, rfl, Qok_val rfl (Ev_fieldAddr 3 38 1 Try.underlying70 rfl Try.sizeOf38 rfl rfl)⟩, ⟨_, rfl, Qok_val rfl (Ev_load rfl (Ld_one Try.isAgg38 (MemAt.ent 2 rfl (Seg.tail (Seg.tail (Seg.tail (Seg.head)))))))⟩, ⟨_, rfl, Qok_val rfl (Ev_load rfl (Ld_agg Try.isAgg68 Try.sizeOf68 rfl (MemAt.ent 1 rfl (Seg.whole _))))⟩, ⟨_, rfl, Qok_val rfl (Ev_fieldAddr 3 38 1 Try.underlying70 rfl Try.sizeOf38 rfl rfl)⟩, ⟨_, rfl, Qok_val rfl (Ev_load rfl (Ld_one Try.isAgg38 (MemAt.ent 2 rfl (Seg.tail (Seg.tail (Seg.tail (Seg.head)))))))⟩, trivial⟩ rfl (Cok_step rfl (Step_call 42 _ [true, false, false] [nb1] _ (Cl_func [Ptr nb1 0, .slice ax p cx] Try.call42 rfl) rfl (fun w1 hw1 => bytesB_c nb1 e (.slice none 0 0) ax p cx w1 (hw1.ent _ (List.mem_of_getElem? (i := 0) rfl)) (by omega)))) ?_
            rintro v1 L1 ⟨_, ⟨rfl, rfl⟩, rfl⟩
            refine ⟨[], ?_⟩
            show DP _ _ _ _ _ _ _ _ [⟨nb2, [.slice am 0 cm, I64 ((e:Int))], 68, (0, 0)⟩, ⟨nb3, [I64 (kd), I64 (s), U64 nn, .slice ax p cx], 70, (0, 0)⟩, ⟨nb1, [errV 36 (erN e 3), .slice none 0 0], 66, (0, 0)⟩]
            refine DP_one ⟨[3], [0, 1, 2, 4, 5, 6], [0, 1, 2], [4, 5, 6], [7]⟩ 7 _ rfl rfl (by decide +kernel) rfl ⟨⟨_, rfl, Qok_val rfl (Ev_load rfl (Ld_agg Try.isAgg68 Try.sizeOf68 rfl (MemAt.ent 0 rfl (Seg.whole _))))⟩, ⟨_, rfl, Qok_val rfl (Ev_fieldAddr 3 38 1 Try.underlying70 rfl Try.sizeOf38 rfl rfl)⟩, ⟨_, rfl, Qok_val rfl (Ev_load rfl (Ld_one Try.isAgg38 (MemAt.ent 1 rfl (Seg.tail (Seg.tail (Seg.tail (Seg.head)))))))⟩, trivial⟩ rfl (Cok_step rfl (Step_callP 43 [.agg (List.toArray (α := Value) ([.slice am 0 cm, I64 ((e:Int))])), .slice ax p cx] (.agg (List.toArray (α := Value) ([.slice am 0 cm, I64 ((erN e 3:Int))]))) (Cl_func [.agg (List.toArray (α := Value) ([.slice am 0 cm, I64 ((e:Int))])), .slice ax p cx] Try.call43 rfl) (fun w1 hw1 => rbytesB_c am 0 cm e ax p cx w1 (by omega)))) ?_
            rintro v1 L1 ⟨rfl, rfl⟩
            refine ⟨[(8, Ptr nb1 0)], ?_⟩
            show DP _ _ _ _ _ _ _ _ [⟨nb2, [.slice am 0 cm, I64 ((e:Int))], 68, (0, 0)⟩, ⟨nb3, [I64 (kd), I64 (s), U64 nn, .slice ax p cx], 70, (0, 0)⟩, ⟨nb1, [errV 36 (erN e 3), .slice none 0 0], 66, (0, 0)⟩]
            refine DP_one ⟨[3, 7], [0, 1, 2, 4, 5, 6, 8], [0, 1, 2, 4, 5, 6], [8], [9]⟩ 9 _ rfl rfl (by decide +kernel) rfl ⟨⟨_, rfl, Qok_val rfl (Ev_assign rfl)⟩, trivial⟩ rfl (Cok_step rfl (Step_store 0 nb2 0 2 ([.slice am 0 cm, I64 ((e:Int))]) 68 (.agg (List.toArray (α := Value) ([.slice am 0 cm, I64 ((erN e 3:Int))]))) ([.slice am 0 cm, I64 ((erN e 3:Int))]) ([.slice am 0 cm, I64 ((erN e 3:Int))]) rfl rfl rfl (by first | rfl | simp) Try.sizeOf68 rfl (by simp [Value.oneCell']) (Nat.le_of_ble_eq_true rfl) (lay_whole (by simp [])))) ?_
            rintro v1 L1 ⟨rfl, rfl⟩
            refine ⟨[], ?_⟩
            show DP _ _ _ _ _ _ _ _ [⟨nb2, [.slice am 0 cm, I64 ((erN e 3:Int))], 68, (0, 0)⟩, ⟨nb3, [I64 (kd), I64 (s), U64 nn, .slice ax p cx], 70, (0, 0)⟩, ⟨nb1, [errV 36 (erN e 3), .slice none 0 0], 66, (0, 0)⟩]
            refine DP_end ⟨[3, 7, 9], [0, 1, 2, 4, 5, 6, 8], [0, 1, 2, 4, 5, 6, 8], [], []⟩ rfl rfl (by decide +kernel) rfl trivial ?_
            refine K_sub (F' := [(54, Ptr nb1 0), (55, Ptr nb3 3), (56, .slice ax p cx), (57, Ptr nb1 0), (58, .agg (List.toArray (α := Value) ([.slice am 0 cm, I64 ((e:Int))]))), (59, Ptr nb3 3), (60, .slice ax p cx), (61, .agg (List.toArray (α := Value) ([.slice am 0 cm, I64 ((erN e 3:Int))]))), (8, Ptr nb1 0), (3, Ptr nb1 0), (4, Ptr nb2 0), (21, .slice ab n cb), (22, I64 ((n:Int))), (23, I64 ((i:Int))), (5, .pointer none), (24, .bool (decide (((i:Int)) < ((n:Int))))), (25, Ptr rowb (4*i + rowo)), (26, .agg (List.toArray (α := Value) ([I64 (kd), I64 (s), U64 nn, .slice ax p cx]))), (7, Ptr nb3 0), (27, Ptr nb1 0), (28, Ptr nb3 0), (29, I64 (kd)), (30, U64 (u64i (kd))), (31, U64 ((u64i (kd)) % (6:UInt64))), (33, .bool (decide (((u64i (kd)) % (6:UInt64)) = (0:UInt64)))), (32, .bool (decide (((u64i (kd)) % (6:UInt64)) = (0:UInt64)))), (53, .bool (decide (((u64i (kd)) % (6:UInt64)) = (1:UInt64)))), (52, .bool (decide (((u64i (kd)) % (6:UInt64)) = (1:UInt64))))]) (Sub.cons (by kernel_rfl) (Sub.cons (by kernel_rfl) (Sub.cons (by kernel_rfl) (Sub.cons (by kernel_rfl) (Sub.cons (by kernel_rfl) (Sub.cons (by kernel_rfl) (Sub.cons (by kernel_rfl) (Sub.cons (by kernel_rfl) (Sub.cons (by kernel_rfl) (Sub.cons (by kernel_rfl) (Sub.cons (by kernel_rfl) (Sub.cons (by kernel_rfl) (Sub.cons (by kernel_rfl) (Sub.cons (by kernel_rfl) (Sub.cons (by kernel_rfl) (Sub.cons (by kernel_rfl) (Sub.cons (by kernel_rfl) (Sub.cons (by kernel_rfl) (Sub.cons (by kernel_rfl) (Sub.cons (by kernel_rfl) (Sub.cons (by kernel_rfl) (Sub.cons (by kernel_rfl) (Sub.cons (by kernel_rfl) (Sub.cons (by kernel_rfl) (Sub.cons (by kernel_rfl) (Sub.cons (by kernel_rfl) (Sub.cons (by kernel_rfl) (Sub.cons (by kernel_rfl) (Sub.nil))))))))))))))))))))))))))))) ?_
            show JQ _ _ _ [(54, Ptr nb1 0), (55, Ptr nb3 3), (56, .slice ax p cx), (57, Ptr nb1 0), (58, .agg (List.toArray (α := Value) ([.slice am 0 cm, I64 ((e:Int))]))), (59, Ptr nb3 3), (60, .slice ax p cx), (61, .agg (List.toArray (α := Value) ([.slice am 0 cm, I64 ((erN e 3:Int))]))), (8, Ptr nb1 0), (3, Ptr nb1 0), (4, Ptr nb2 0), (21, .slice ab n cb), (22, I64 ((n:Int))), (23, I64 ((i:Int))), (5, .pointer none), (24, .bool (decide (((i:Int)) < ((n:Int))))), (25, Ptr rowb (4*i + rowo)), (26, .agg (List.toArray (α := Value) ([I64 (kd), I64 (s), U64 nn, .slice ax p cx]))), (7, Ptr nb3 0), (27, Ptr nb1 0), (28, Ptr nb3 0), (29, I64 (kd)), (30, U64 (u64i (kd))), (31, U64 ((u64i (kd)) % (6:UInt64))), (33, .bool (decide (((u64i (kd)) % (6:UInt64)) = (0:UInt64)))), (32, .bool (decide (((u64i (kd)) % (6:UInt64)) = (0:UInt64)))), (53, .bool (decide (((u64i (kd)) % (6:UInt64)) = (1:UInt64)))), (52, .bool (decide (((u64i (kd)) % (6:UInt64)) = (1:UInt64))))] _
            refine JQ_then ?_
            refine JC_region ?_
            refine JL_val _ (Ev_move rfl) rfl ?_
            refine JL_val (Ptr nb3 3) (Ev_fieldAddr 3 38 1 Try.underlying70 rfl Try.sizeOf38 rfl rfl) rfl ?_
            refine JL_val (.slice ax p cx) (Ev_load rfl (Ld_one Try.isAgg38 (MemAt.ent 1 rfl (Seg.tail (Seg.tail (Seg.tail (Seg.head))))))) rfl ?_
            refine JL_step (Step_callP 42 [.pointer none, .slice ax p cx] (.pointer none) (Cl_func [.pointer none, .slice ax p cx] Try.call42 rfl) (fun w1 _ => bytesWNil_c (.slice ax p cx) w1)) rfl ?_
            rintro v1 L1 ⟨rfl, rfl⟩
            show JL _ _ _ _ ((65, .pointer none) :: _) [⟨nb2, [.slice am 0 cm, I64 ((erN e 3:Int))], 68, (0, 0)⟩, ⟨nb3, [I64 (kd), I64 (s), U64 nn, .slice ax p cx], 70, (0, 0)⟩, ⟨nb1, [errV 36 (erN e 3), .slice none 0 0], 66, (0, 0)⟩]
            refine JL_val _ (Ev_assign rfl) rfl ?_
            refine JL_nil ?_
            refine JQ_in_normal ?_
            refine JQ_then ?_
            refine JC_seq ?_
            refine JC_region ?_
            refine JL_val _ (Ev_move rfl) rfl ?_
            refine JL_val _ (Ev_move rfl) rfl ?_
            refine JL_val (.bool false) (Ev_bin _ _ _ rfl rfl (fun _ => eqGuard_ptr ..) fun w => neq_ptr_same Try.underlying62 (Try.sizeOf66 w) (by decide)) rfl ?_
            refine JL_val _ (Ev_move rfl) rfl ?_
            refine JL_gval 3 117 false _ _ rfl rfl rfl (Ev_move rfl) rfl ?_
            refine JL_gval 3 117 false _ (.bool false) rfl rfl rfl (Ev_bin _ _ _ rfl rfl (fun _ => eqGuard_ptr ..) fun _ => neq_ptr_nil_nil Try.underlying62) rfl ?_
            refine JL_val _ (Ev_pickF _ rfl rfl rfl) rfl ?_
            refine JL_nil ?_
            refine JQ_then ?_
            refine JC_condF _ rfl rfl ?_
            refine JC_skip ?_
            refine JQ_in_normal ?_
            refine JQ_then ?_
            refine JC_region ?_
            refine JL_val (I64 ((i:Int) + 1)) (Ev_bini rfl rfl fun _ => bin_add_i _ _ ((i:Int) + 1) (by omega) (by omega)) rfl ?_
            refine JL_val _ (Ev_move rfl) rfl ?_
            refine JL_nil ?_
            refine JQ_thenK ?_
            refine K_mask [true, false, true] ?_
            show K _ _ [⟨nb2, [.slice am 0 cm, I64 ((erN e 3:Int))], 68, (0, 0)⟩, ⟨nb1, [errV 36 (erN e 3), .slice none 0 0], 66, (0, 0)⟩] _
            refine K_pick [1, 0] (by decide) ?_
            show K _ _ [⟨nb1, [errV 36 (erN e 3), .slice none 0 0], 66, (0, 0)⟩, ⟨nb2, [.slice am 0 cm, I64 ((erN e 3:Int))], 68, (0, 0)⟩] _
            refine K_next (.inl (i + 1, (erN e 3), am, cm)) ⟨by omega, by omega⟩ (by first | (simp; omega) | simp | (dsimp only; omega) | omega) (Sub.cons rfl (Sub.cons rfl (Sub.cons rfl (Sub.cons rfl (Sub.cons rfl (Sub.cons rfl (Sub.nil))))))) rfl
        ·
          have hp3 : ¬ (((u64i (kd)) % (6:UInt64)) = (1:UInt64)) := of_decide_eq_false hb3
          refine JC_seq ?_
          refine JC_region ?_
          refine JL_val (.bool (decide (((u64i (kd)) % (6:UInt64)) = (2:UInt64)))) (Ev_bini rfl rfl fun _ => bin_eql_u64 ((u64i (kd)) % (6:UInt64)) (2:UInt64)) rfl ?_
          refine JL_val _ (Ev_assign rfl) rfl ?_
          refine JL_nil ?_
          refine JQ_then ?_
          refine JC_cond (decide (((u64i (kd)) % (6:UInt64)) = (2:UInt64))) rfl (fun hb4 => ?_) (fun hb4 => ?_)
          ·
            have hp4 : ((u64i (kd)) % (6:UInt64)) = (2:UInt64) := of_decide_eq_true hb4
            refine JC_seq ?_
            by_cases hp0 : p = 0
            ·
              subst hp0
              refine JC_draw 161 4 [(0, Ptr nb1 0), (1, Ptr nb3 3), (2, .slice ax 0 cx), (4, .agg (List.toArray (α := Value) ([.slice am 0 cm, I64 ((e:Int))]))), (5, Ptr nb3 3), (6, .slice ax 0 cx)] Try.mixed rfl (by decide +kernel) ?_
              refine DP_one ⟨[], [0, 1, 2, 4, 5, 6], [], [0, 1, 2, 4, 5, 6], [3]⟩ 3 _ rfl rfl (by decide +kernel) rfl ⟨⟨_, rfl, Qok_val rfl (Ev_move rfl)⟩, ⟨_, rfl, Qok_val rfl (Ev_fieldAddr 3 38 1 Try.underlying70 rfl Try.sizeOf38 rfl rfl)⟩, ⟨_, rfl, Qok_val rfl (Ev_load rfl (Ld_one Try.isAgg38 (MemAt.ent 2 rfl (Seg.tail (Seg.tail (Seg.tail (Seg.head)))))))⟩, ⟨_, rfl, Qok_val rfl (Ev_load rfl (Ld_agg Try.isAgg68 Try.sizeOf68 rfl (MemAt.ent 1 rfl (Seg.whole _))))⟩, ⟨_, rfl, Qok_val rfl (Ev_fieldAddr 3 38 1 Try.underlying70 rfl Try.sizeOf38 rfl rfl)⟩, ⟨_, rfl, Qok_val rfl (Ev_load rfl (Ld_one Try.isAgg38 (MemAt.ent 2 rfl (Seg.tail (Seg.tail (Seg.tail (Seg.head)))))))⟩, trivial⟩ rfl (Cok_step rfl (Step_callW 44 [Ptr nb1 0, .slice ax 0 cx] 0 ⟨nb1, [errV 36 e, .slice none 0 0], 66, (0, 0)⟩ _ (fun v e' l' => v = Ptr nb1 0 ∧ e' = ⟨nb1, [errV 36 e, .slice none 0 0], 66, (0, 0)⟩ ∧ l' = []) (Cl_func [Ptr nb1 0, .slice ax 0 cx] Try.call44 rfl) rfl (by rintro v l ⟨rfl, rfl⟩; exact ⟨_, _, rfl, rfl, rfl, rfl, rfl⟩) (fun w1 hw1 => rawE_c nb1 (errV 36 e) ax cx w1 (hw1.ent _ (List.mem_of_getElem? (i := 0) rfl))))) ?_
              rintro v1 L1 ⟨_, _, ⟨rfl, rfl, rfl⟩, rfl⟩
              refine ⟨[], ?_⟩
              show DP _ _ _ _ _ _ _ _ [⟨nb1, [errV 36 e, .slice none 0 0], 66, (0, 0)⟩, ⟨nb2, [.slice am 0 cm, I64 ((e:Int))], 68, (0, 0)⟩, ⟨nb3, [I64 (kd), I64 (s), U64 nn, .slice ax 0 cx], 70, (0, 0)⟩]
              refine DP_one ⟨[3], [0, 1, 2, 4, 5, 6], [0, 1, 2], [4, 5, 6], [7]⟩ 7 _ rfl rfl (by decide +kernel) rfl ⟨⟨_, rfl, Qok_val rfl (Ev_load rfl (Ld_agg Try.isAgg68 Try.sizeOf68 rfl (MemAt.ent 1 rfl (Seg.whole _))))⟩, ⟨_, rfl, Qok_val rfl (Ev_fieldAddr 3 38 1 Try.underlying70 rfl Try.sizeOf38 rfl rfl)⟩, ⟨_, rfl, Qok_val rfl (Ev_load rfl (Ld_one Try.isAgg38 (MemAt.ent 2 rfl (Seg.tail (Seg.tail (Seg.tail (Seg.head)))))))⟩, trivial⟩ rfl (Cok_step rfl (Step_callN 45 [.agg (List.toArray (α := Value) ([.slice am 0 cm, I64 ((e:Int))])), .slice ax 0 cx] _ (Cl_func [.agg (List.toArray (α := Value) ([.slice am 0 cm, I64 ((e:Int))])), .slice ax 0 cx] Try.call45 rfl) (fun w1 hw1 => rraw_c am 0 cm ([] : List UInt8) ((e:Int)) ax 0 cx ([] : List UInt8) 0 w1 rfl (by omega) RdB.nil rfl (by omega) RdB.nil (by omega)))) ?_
              rintro v1 L1 ⟨_, ⟨nb8, sp5, cp5, rfl, rfl, hc13, hc14, hc15⟩, rfl⟩
              refine ⟨[(8, Ptr nb1 0)], ?_⟩
              show DP _ _ _ _ _ _ _ _ [⟨nb1, [errV 36 e, .slice none 0 0], 66, (0, 0)⟩, ⟨nb2, [.slice am 0 cm, I64 ((e:Int))], 68, (0, 0)⟩, ⟨nb3, [I64 (kd), I64 (s), U64 nn, .slice ax 0 cx], 70, (0, 0)⟩, ⟨nb8, cu8 (([] : List UInt8) ++ ([] : List UInt8)) ++ sp5, 5, (0, 0)⟩]
              refine DP_one ⟨[3, 7], [0, 1, 2, 4, 5, 6, 8], [0, 1, 2, 4, 5, 6], [8], [9]⟩ 9 _ rfl rfl (by decide +kernel) rfl ⟨⟨_, rfl, Qok_val rfl (Ev_assign rfl)⟩, trivial⟩ rfl (Cok_step rfl (Step_store 1 nb2 0 2 ([.slice am 0 cm, I64 ((e:Int))]) 68 (.agg (List.toArray (α := Value) ([Slc nb8 0 0 cp5, I64 ((e:Int))]))) ([Slc nb8 0 0 cp5, I64 ((e:Int))]) ([Slc nb8 0 0 cp5, I64 ((e:Int))]) rfl rfl rfl (by first | rfl | simp) Try.sizeOf68 rfl (by simp [Value.oneCell']) (Nat.le_of_ble_eq_true rfl) (lay_whole (by simp [])))) ?_
              rintro v1 L1 ⟨rfl, rfl⟩
              refine ⟨[], ?_⟩
              show DP _ _ _ _ _ _ _ _ [⟨nb1, [errV 36 e, .slice none 0 0], 66, (0, 0)⟩, ⟨nb2, [Slc nb8 0 0 cp5, I64 ((e:Int))], 68, (0, 0)⟩, ⟨nb3, [I64 (kd), I64 (s), U64 nn, .slice ax 0 cx], 70, (0, 0)⟩, ⟨nb8, cu8 (([] : List UInt8) ++ ([] : List UInt8)) ++ sp5, 5, (0, 0)⟩]
              refine DP_end ⟨[3, 7, 9], [0, 1, 2, 4, 5, 6, 8], [0, 1, 2, 4, 5, 6, 8], [], []⟩ rfl rfl (by decide +kernel) rfl trivial ?_
              refine K_sub (F' := [(68, Ptr nb1 0), (69, Ptr nb3 3), (70, .slice ax 0 cx), (71, Ptr nb1 0), (72, .agg (List.toArray (α := Value) ([.slice am 0 cm, I64 ((e:Int))]))), (73, Ptr nb3 3), (74, .slice ax 0 cx), (75, .agg (List.toArray (α := Value) ([Slc nb8 0 0 cp5, I64 ((e:Int))]))), (8, Ptr nb1 0), (3, Ptr nb1 0), (4, Ptr nb2 0), (21, .slice ab n cb), (22, I64 ((n:Int))), (23, I64 ((i:Int))), (5, .pointer none), (24, .bool (decide (((i:Int)) < ((n:Int))))), (25, Ptr rowb (4*i + rowo)), (26, .agg (List.toArray (α := Value) ([I64 (kd), I64 (s), U64 nn, .slice ax 0 cx]))), (7, Ptr nb3 0), (27, Ptr nb1 0), (28, Ptr nb3 0), (29, I64 (kd)), (30, U64 (u64i (kd))), (31, U64 ((u64i (kd)) % (6:UInt64))), (33, .bool (decide (((u64i (kd)) % (6:UInt64)) = (0:UInt64)))), (32, .bool (decide (((u64i (kd)) % (6:UInt64)) = (0:UInt64)))), (53, .bool (decide (((u64i (kd)) % (6:UInt64)) = (1:UInt64)))), (52, .bool (decide (((u64i (kd)) % (6:UInt64)) = (1:UInt64)))), (67, .bool (decide (((u64i (kd)) % (6:UInt64)) = (2:UInt64)))), (66, .bool (decide (((u64i (kd)) % (6:UInt64)) = (2:UInt64))))]) (Sub.cons (by kernel_rfl) (Sub.cons (by kernel_rfl) (Sub.cons (by kernel_rfl) (Sub.cons (by kernel_rfl) (Sub.cons (by kernel_rfl) (Sub.cons (by kernel_rfl) (Sub.cons (by kernel_rfl) (Sub.cons (by kernel_rfl) (Sub.cons (by kernel_rfl) (Sub.cons (by kernel_rfl) (Sub.cons (by kernel_rfl) (Sub.cons (by kernel_rfl) (Sub.cons (by kernel_rfl) (Sub.cons (by kernel_rfl) (Sub.cons (by kernel_rfl) (Sub.cons (by kernel_rfl) (Sub.cons (by kernel_rfl) (Sub.cons (by kernel_rfl) (Sub.cons (by kernel_rfl) (Sub.cons (by kernel_rfl) (Sub.cons (by kernel_rfl) (Sub.cons (by kernel_rfl) (Sub.cons (by kernel_rfl) (Sub.cons (by kernel_rfl) (Sub.cons (by kernel_rfl) (Sub.cons (by kernel_rfl) (Sub.cons (by kernel_rfl) (Sub.cons (by kernel_rfl) (Sub.cons (by kernel_rfl) (Sub.cons (by kernel_rfl) (Sub.nil))))))))))))))))))))))))))))))) ?_
              show JQ _ _ _ [(68, Ptr nb1 0), (69, Ptr nb3 3), (70, .slice ax 0 cx), (71, Ptr nb1 0), (72, .agg (List.toArray (α := Value) ([.slice am 0 cm, I64 ((e:Int))]))), (73, Ptr nb3 3), (74, .slice ax 0 cx), (75, .agg (List.toArray (α := Value) ([Slc nb8 0 0 cp5, I64 ((e:Int))]))), (8, Ptr nb1 0), (3, Ptr nb1 0), (4, Ptr nb2 0), (21, .slice ab n cb), (22, I64 ((n:Int))), (23, I64 ((i:Int))), (5, .pointer none), (24, .bool (decide (((i:Int)) < ((n:Int))))), (25, Ptr rowb (4*i + rowo)), (26, .agg (List.toArray (α := Value) ([I64 (kd), I64 (s), U64 nn, .slice ax 0 cx]))), (7, Ptr nb3 0), (27, Ptr nb1 0), (28, Ptr nb3 0), (29, I64 (kd)), (30, U64 (u64i (kd))), (31, U64 ((u64i (kd)) % (6:UInt64))), (33, .bool (decide (((u64i (kd)) % (6:UInt64)) = (0:UInt64)))), (32, .bool (decide (((u64i (kd)) % (6:UInt64)) = (0:UInt64)))), (53, .bool (decide (((u64i (kd)) % (6:UInt64)) = (1:UInt64)))), (52, .bool (decide (((u64i (kd)) % (6:UInt64)) = (1:UInt64)))), (67, .bool (decide (((u64i (kd)) % (6:UInt64)) = (2:UInt64)))), (66, .bool (decide (((u64i (kd)) % (6:UInt64)) = (2:UInt64))))] _
              refine JQ_then ?_
              refine JC_region ?_
              refine JL_val _ (Ev_move rfl) rfl ?_
              refine JL_val (Ptr nb3 3) (Ev_fieldAddr 3 38 1 Try.underlying70 rfl Try.sizeOf38 rfl rfl) rfl ?_
              refine JL_val (.slice ax 0 cx) (Ev_load rfl (Ld_one Try.isAgg38 (MemAt.ent 2 rfl (Seg.tail (Seg.tail (Seg.tail (Seg.head))))))) rfl ?_
              refine JL_step (Step_callP 44 [.pointer none, .slice ax 0 cx] (.pointer none) (Cl_func [.pointer none, .slice ax 0 cx] Try.call44 rfl) (fun w1 _ => rawNil_c (.slice ax 0 cx) w1)) rfl ?_
              rintro v1 L1 ⟨rfl, rfl⟩
              show JL _ _ _ _ ((79, .pointer none) :: _) [⟨nb1, [errV 36 e, .slice none 0 0], 66, (0, 0)⟩, ⟨nb2, [Slc nb8 0 0 cp5, I64 ((e:Int))], 68, (0, 0)⟩, ⟨nb3, [I64 (kd), I64 (s), U64 nn, .slice ax 0 cx], 70, (0, 0)⟩, ⟨nb8, cu8 (([] : List UInt8) ++ ([] : List UInt8)) ++ sp5, 5, (0, 0)⟩]
              refine JL_val _ (Ev_assign rfl) rfl ?_
              refine JL_nil ?_
              refine JQ_in_normal ?_
              refine JQ_then ?_
              refine JC_seq ?_
              refine JC_region ?_
              refine JL_val _ (Ev_move rfl) rfl ?_
              refine JL_val _ (Ev_move rfl) rfl ?_
              refine JL_val (.bool false) (Ev_bin _ _ _ rfl rfl (fun _ => eqGuard_ptr ..) fun w => neq_ptr_same Try.underlying62 (Try.sizeOf66 w) (by decide)) rfl ?_
              refine JL_val _ (Ev_move rfl) rfl ?_
              refine JL_gval 3 117 false _ _ rfl rfl rfl (Ev_move rfl) rfl ?_
              refine JL_gval 3 117 false _ (.bool false) rfl rfl rfl (Ev_bin _ _ _ rfl rfl (fun _ => eqGuard_ptr ..) fun _ => neq_ptr_nil_nil Try.underlying62) rfl ?_
              refine JL_val _ (Ev_pickF _ rfl rfl rfl) rfl ?_
              refine JL_nil ?_
              refine JQ_then ?_
              refine JC_condF _ rfl rfl ?_
              refine JC_skip ?_
              refine JQ_in_normal ?_
              refine JQ_then ?_
              refine JC_region ?_
              refine JL_val (I64 ((i:Int) + 1)) (Ev_bini rfl rfl fun _ => bin_add_i _ _ ((i:Int) + 1) (by omega) (by omega)) rfl ?_
              refine JL_val _ (Ev_move rfl) rfl ?_
              refine JL_nil ?_
              refine JQ_thenK ?_
              refine K_mask [true, true, false, true] ?_
              show K _ _ [⟨nb1, [errV 36 e, .slice none 0 0], 66, (0, 0)⟩, ⟨nb2, [Slc nb8 0 0 cp5, I64 ((e:Int))], 68, (0, 0)⟩, ⟨nb8, cu8 (([] : List UInt8) ++ ([] : List UInt8)) ++ sp5, 5, (0, 0)⟩] _
              refine K_pick [0, 1] (by decide) ?_
              show K _ _ [⟨nb1, [errV 36 e, .slice none 0 0], 66, (0, 0)⟩, ⟨nb2, [Slc nb8 0 0 cp5, I64 ((e:Int))], 68, (0, 0)⟩] _
              refine K_next (.inl (i + 1, e, (some ⟨nb8, 0, none⟩), cp5)) ⟨by omega, by omega⟩ (by first | (simp; omega) | simp | (dsimp only; omega) | omega) (Sub.cons rfl (Sub.cons rfl (Sub.cons rfl (Sub.cons rfl (Sub.cons rfl (Sub.cons rfl (Sub.nil))))))) rfl
            ·
              refine JC_draw 161 4 [(0, Ptr nb1 0), (1, Ptr nb3 3), (2, .slice ax p cx), (4, .agg (List.toArray (α := Value) ([.slice am 0 cm, I64 ((e:Int))]))), (5, Ptr nb3 3), (6, .slice ax p cx)] Try.mixed rfl (by decide +kernel) ?_
              refine DP_one ⟨[], [0, 1, 2, 4, 5, 6], [], [0, 1, 2, 4, 5, 6], [3]⟩ 3 _ rfl rfl (by decide +kernel) rfl ⟨⟨_, rfl, Qok_val rfl (Ev_move rfl)⟩, ⟨_, rfl, Qok_val rfl (Ev_fieldAddr 3 38 1 Try.underlying70 rfl Try.sizeOf38 rfl rfl)⟩, ⟨_, rfl, Qok_val rfl (Ev_load rfl (Ld_one Try.isAgg38 (MemAt.ent 2 rfl (Seg.tail (Seg.tail (Seg.tail (Seg.head)))))))⟩, ⟨_, rfl, Qok_val rfl (Ev_load rfl (Ld_agg Try.isAgg68 Try.sizeOf68 rfl (MemAt.ent 1 rfl (Seg.whole _))))⟩, ⟨_, rfl, Qok_val rfl (Ev_fieldAddr 3 38 1 Try.underlying70 rfl Try.sizeOf38 rfl rfl)⟩, ⟨_, rfl, Qok_val rfl (Ev_load rfl (Ld_one Try.isAgg38 (MemAt.ent 2 rfl (Seg.tail (Seg.tail (Seg.tail (Seg.head)))))))⟩, trivial⟩ rfl (Cok_step rfl (Step_call 44 _ [true, false, false] [nb1] _ (Cl_func [Ptr nb1 0, .slice ax p cx] Try.call44 rfl) rfl (fun w1 hw1 => rawN_c nb1 p (errV 36 e) ax p cx z w1 (hw1.ent _ (List.mem_of_getElem? (i := 0) rfl)) hz (by omega) (hr.at (M' := [nb1]) hw1 (hw1.apart [0] _ rfl)) (by omega) (by omega)))) ?_
              rintro v1 L1 ⟨_, ⟨rfl, nb9, sp6, cp6, rfl, hc16, hc17, hc18⟩, rfl⟩
              refine ⟨[], ?_⟩
              show DP _ _ _ _ _ _ _ _ [⟨nb2, [.slice am 0 cm, I64 ((e:Int))], 68, (0, 0)⟩, ⟨nb3, [I64 (kd), I64 (s), U64 nn, .slice ax p cx], 70, (0, 0)⟩, ⟨nb1, [errV 36 e, Slc nb9 0 p cp6], 66, (0, 0)⟩, ⟨nb9, cu8 z ++ sp6, 5, (0, 0)⟩]
              refine DP_one ⟨[3], [0, 1, 2, 4, 5, 6], [0, 1, 2], [4, 5, 6], [7]⟩ 7 _ rfl rfl (by decide +kernel) rfl ⟨⟨_, rfl, Qok_val rfl (Ev_load rfl (Ld_agg Try.isAgg68 Try.sizeOf68 rfl (MemAt.ent 0 rfl (Seg.whole _))))⟩, ⟨_, rfl, Qok_val rfl (Ev_fieldAddr 3 38 1 Try.underlying70 rfl Try.sizeOf38 rfl rfl)⟩, ⟨_, rfl, Qok_val rfl (Ev_load rfl (Ld_one Try.isAgg38 (MemAt.ent 1 rfl (Seg.tail (Seg.tail (Seg.tail (Seg.head)))))))⟩, trivial⟩ rfl (Cok_step rfl (Step_callN 45 [.agg (List.toArray (α := Value) ([.slice am 0 cm, I64 ((e:Int))])), .slice ax p cx] _ (Cl_func [.agg (List.toArray (α := Value) ([.slice am 0 cm, I64 ((e:Int))])), .slice ax p cx] Try.call45 rfl) (fun w1 hw1 => rraw_c am 0 cm ([] : List UInt8) ((e:Int)) ax p cx z p w1 rfl (by omega) RdB.nil hz (by omega) (hr.at (M' := []) hw1 (by simp)) (by omega)))) ?_
              rintro v1 L1 ⟨_, ⟨nb10, sp7, cp7, rfl, rfl, hc19, hc20, hc21⟩, rfl⟩
              refine ⟨[(8, Ptr nb1 0)], ?_⟩
              show DP _ _ _ _ _ _ _ _ [⟨nb2, [.slice am 0 cm, I64 ((e:Int))], 68, (0, 0)⟩, ⟨nb3, [I64 (kd), I64 (s), U64 nn, .slice ax p cx], 70, (0, 0)⟩, ⟨nb1, [errV 36 e, Slc nb9 0 p cp6], 66, (0, 0)⟩, ⟨nb9, cu8 z ++ sp6, 5, (0, 0)⟩, ⟨nb10, cu8 (([] : List UInt8) ++ z) ++ sp7, 5, (0, 0)⟩]
              refine DP_one ⟨[3, 7], [0, 1, 2, 4, 5, 6, 8], [0, 1, 2, 4, 5, 6], [8], [9]⟩ 9 _ rfl rfl (by decide +kernel) rfl ⟨⟨_, rfl, Qok_val rfl (Ev_assign rfl)⟩, trivial⟩ rfl (Cok_step rfl (Step_store 0 nb2 0 2 ([.slice am 0 cm, I64 ((e:Int))]) 68 (.agg (List.toArray (α := Value) ([Slc nb10 0 p cp7, I64 ((e:Int))]))) ([Slc nb10 0 p cp7, I64 ((e:Int))]) ([Slc nb10 0 p cp7, I64 ((e:Int))]) rfl rfl rfl (by first | rfl | simp) Try.sizeOf68 rfl (by simp [Value.oneCell']) (Nat.le_of_ble_eq_true rfl) (lay_whole (by simp [])))) ?_
              rintro v1 L1 ⟨rfl, rfl⟩
              refine ⟨[], ?_⟩
              show DP _ _ _ _ _ _ _ _ [⟨nb2, [Slc nb10 0 p cp7, I64 ((e:Int))], 68, (0, 0)⟩, ⟨nb3, [I64 (kd), I64 (s), U64 nn, .slice ax p cx], 70, (0, 0)⟩, ⟨nb1, [errV 36 e, Slc nb9 0 p cp6], 66, (0, 0)⟩, ⟨nb9, cu8 z ++ sp6, 5, (0, 0)⟩, ⟨nb10, cu8 (([] : List UInt8) ++ z) ++ sp7, 5, (0, 0)⟩]
              refine DP_end ⟨[3, 7, 9], [0, 1, 2, 4, 5, 6, 8], [0, 1, 2, 4, 5, 6, 8], [], []⟩ rfl rfl (by decide +kernel) rfl trivial ?_
              refine K_sub (F' := [(68, Ptr nb1 0), (69, Ptr nb3 3), (70, .slice ax p cx), (71, Ptr nb1 0), (72, .agg (List.toArray (α := Value) ([.slice am 0 cm, I64 ((e:Int))]))), (73, Ptr nb3 3), (74, .slice ax p cx), (75, .agg (List.toArray (α := Value) ([Slc nb10 0 p cp7, I64 ((e:Int))]))), (8, Ptr nb1 0), (3, Ptr nb1 0), (4, Ptr nb2 0), (21, .slice ab n cb), (22, I64 ((n:Int))), (23, I64 ((i:Int))), (5, .pointer none), (24, .bool (decide (((i:Int)) < ((n:Int))))), (25, Ptr rowb (4*i + rowo)), (26, .agg (List.toArray (α := Value) ([I64 (kd), I64 (s), U64 nn, .slice ax p cx]))), (7, Ptr nb3 0), (27, Ptr nb1 0), (28, Ptr nb3 0), (29, I64 (kd)), (30, U64 (u64i (kd))), (31, U64 ((u64i (kd)) % (6:UInt64))), (33, .bool (decide (((u64i (kd)) % (6:UInt64)) = (0:UInt64)))), (32, .bool (decide (((u64i (kd)) % (6:UInt64)) = (0:UInt64)))), (53, .bool (decide (((u64i (kd)) % (6:UInt64)) = (1:UInt64)))), (52, .bool (decide (((u64i (kd)) % (6:UInt64)) = (1:UInt64)))), (67, .bool (decide (((u64i (kd)) % (6:UInt64)) = (2:UInt64)))), (66, .bool (decide (((u64i (kd)) % (6:UInt64)) = (2:UInt64))))]) (Sub.cons (by kernel_rfl) (Sub.cons (by kernel_rfl) (Sub.cons (by kernel_rfl) (Sub.cons (by kernel_rfl) (Sub.cons (by kernel_rfl) (Sub.cons (by kernel_rfl) (Sub.cons (by kernel_rfl) (Sub.cons (by kernel_rfl) (Sub.cons (by kernel_rfl) (Sub.cons (by kernel_rfl) (Sub.cons (by kernel_rfl) (Sub.cons (by kernel_rfl) (Sub.cons (by kernel_rfl) (Sub.cons (by kernel_rfl) (Sub.cons (by kernel_rfl) (Sub.cons (by kernel_rfl) (Sub.cons (by kernel_rfl) (Sub.cons (by kernel_rfl) (Sub.cons (by kernel_rfl) (Sub.cons (by kernel_rfl) (Sub.cons (by kernel_rfl) (Sub.cons (by kernel_rfl) (Sub.cons (by kernel_rfl) (Sub.cons (by kernel_rfl) (Sub.cons (by kernel_rfl) (Sub.cons (by kernel_rfl) (Sub.cons (by kernel_rfl) (Sub.cons (by kernel_rfl) (Sub.cons (by kernel_rfl) (Sub.cons (by kernel_rfl) (Sub.nil))))))))))))))))))))))))))))))) ?_
              show JQ _ _ _ [(68, Ptr nb1 0), (69, Ptr nb3 3), (70, .slice ax p cx), (71, Ptr nb1 0), (72, .agg (List.toArray (α := Value) ([.slice am 0 cm, I64 ((e:Int))]))), (73, Ptr nb3 3), (74, .slice ax p cx), (75, .agg (List.toArray (α := Value) ([Slc nb10 0 p cp7, I64 ((e:Int))]))), (8, Ptr nb1 0), (3, Ptr nb1 0), (4, Ptr nb2 0), (21, .slice ab n cb), (22, I64 ((n:Int))), (23, I64 ((i:Int))), (5, .pointer none), (24, .bool (decide (((i:Int)) < ((n:Int))))), (25, Ptr rowb (4*i + rowo)), (26, .agg (List.toArray (α := Value) ([I64 (kd), I64 (s), U64 nn, .slice ax p cx]))), (7, Ptr nb3 0), (27, Ptr nb1 0), (28, Ptr nb3 0), (29, I64 (kd)), (30, U64 (u64i (kd))), (31, U64 ((u64i (kd)) % (6:UInt64))), (33, .bool (decide (((u64i (kd)) % (6:UInt64)) = (0:UInt64)))), (32, .bool (decide (((u64i (kd)) % (6:UInt64)) = (0:UInt64)))), (53, .bool (decide (((u64i (kd)) % (6:UInt64)) = (1:UInt64)))), (52, .bool (decide (((u64i (kd)) % (6:UInt64)) = (1:UInt64)))), (67, .bool (decide (((u64i (kd)) % (6:UInt64)) = (2:UInt64)))), (66, .bool (decide (((u64i (kd)) % (6:UInt64)) = (2:UInt64))))] _
              refine JQ_then ?_
              refine JC_region ?_
              refine JL_val _ (Ev_move rfl) rfl ?_
              refine JL_val (Ptr nb3 3) (Ev_fieldAddr 3 38 1 Try.underlying70 rfl Try.sizeOf38 rfl rfl) rfl ?_
              refine JL_val (.slice ax p cx) (Ev_load rfl (Ld_one Try.isAgg38 (MemAt.ent 1 rfl (Seg.tail (Seg.tail (Seg.tail (Seg.head))))))) rfl ?_
              refine JL_step (Step_callP 44 [.pointer none, .slice ax p cx] (.pointer none) (Cl_func [.pointer none, .slice ax p cx] Try.call44 rfl) (fun w1 _ => rawNil_c (.slice ax p cx) w1)) rfl ?_
              rintro v1 L1 ⟨rfl, rfl⟩
              show JL _ _ _ _ ((79, .pointer none) :: _) [⟨nb2, [Slc nb10 0 p cp7, I64 ((e:Int))], 68, (0, 0)⟩, ⟨nb3, [I64 (kd), I64 (s), U64 nn, .slice ax p cx], 70, (0, 0)⟩, ⟨nb1, [errV 36 e, Slc nb9 0 p cp6], 66, (0, 0)⟩, ⟨nb9, cu8 z ++ sp6, 5, (0, 0)⟩, ⟨nb10, cu8 (([] : List UInt8) ++ z) ++ sp7, 5, (0, 0)⟩]
              refine JL_val _ (Ev_assign rfl) rfl ?_
              refine JL_nil ?_
              refine JQ_in_normal ?_
              refine JQ_then ?_
              refine JC_seq ?_
              refine JC_region ?_
              refine JL_val _ (Ev_move rfl) rfl ?_
              refine JL_val _ (Ev_move rfl) rfl ?_
              refine JL_val (.bool false) (Ev_bin _ _ _ rfl rfl (fun _ => eqGuard_ptr ..) fun w => neq_ptr_same Try.underlying62 (Try.sizeOf66 w) (by decide)) rfl ?_
              refine JL_val _ (Ev_move rfl) rfl ?_
              refine JL_gval 3 117 false _ _ rfl rfl rfl (Ev_move rfl) rfl ?_
              refine JL_gval 3 117 false _ (.bool false) rfl rfl rfl (Ev_bin _ _ _ rfl rfl (fun _ => eqGuard_ptr ..) fun _ => neq_ptr_nil_nil Try.underlying62) rfl ?_
              refine JL_val _ (Ev_pickF _ rfl rfl rfl) rfl ?_
              refine JL_nil ?_
              refine JQ_then ?_
              refine JC_condF _ rfl rfl ?_
              refine JC_skip ?_
              refine JQ_in_normal ?_
              refine JQ_then ?_
              refine JC_region ?_
              refine JL_val (I64 ((i:Int) + 1)) (Ev_bini rfl rfl fun _ => bin_add_i _ _ ((i:Int) + 1) (by omega) (by omega)) rfl ?_
              refine JL_val _ (Ev_move rfl) rfl ?_
              refine JL_nil ?_
              refine JQ_thenK ?_
              refine K_mask [true, false, true, true, true] ?_
              show K _ _ [⟨nb2, [Slc nb10 0 p cp7, I64 ((e:Int))], 68, (0, 0)⟩, ⟨nb1, [errV 36 e, Slc nb9 0 p cp6], 66, (0, 0)⟩, ⟨nb9, cu8 z ++ sp6, 5, (0, 0)⟩, ⟨nb10, cu8 (([] : List UInt8) ++ z) ++ sp7, 5, (0, 0)⟩] _
              refine K_pick [1, 0, 2, 3] (by decide) ?_
              show K _ _ [⟨nb1, [errV 36 e, Slc nb9 0 p cp6], 66, (0, 0)⟩, ⟨nb2, [Slc nb10 0 p cp7, I64 ((e:Int))], 68, (0, 0)⟩, ⟨nb9, cu8 z ++ sp6, 5, (0, 0)⟩, ⟨nb10, cu8 (([] : List UInt8) ++ z) ++ sp7, 5, (0, 0)⟩] _
              refine K_next (.inr (i + 1, e, z, p, nb9, sp6, cp6, nb10, sp7, cp7)) ⟨by omega, hz, by rw [hsum]; omega, (by have := hc16; omega), (by omega), hc18, (by have := hc19; omega), (by omega), hc21⟩ (by first | (simp; omega) | simp | (dsimp only; omega) | omega) (Sub.cons rfl (Sub.cons rfl (Sub.cons rfl (Sub.cons rfl (Sub.cons rfl (Sub.cons rfl (Sub.nil))))))) rfl
          ·
            have hp4 : ¬ (((u64i (kd)) % (6:UInt64)) = (2:UInt64)) := of_decide_eq_false hb4
            refine JC_seq ?_
            refine JC_region ?_
            refine JL_val (.bool (decide (((u64i (kd)) % (6:UInt64)) = (3:UInt64)))) (Ev_bini rfl rfl fun _ => bin_eql_u64 ((u64i (kd)) % (6:UInt64)) (3:UInt64)) rfl ?_
            refine JL_val _ (Ev_assign rfl) rfl ?_
            refine JL_nil ?_
            refine JQ_then ?_
            refine JC_cond (decide (((u64i (kd)) % (6:UInt64)) = (3:UInt64))) rfl (fun hb5 => ?_) (fun hb5 => ?_)
            ·
              have hp5 : ((u64i (kd)) % (6:UInt64)) = (3:UInt64) := of_decide_eq_true hb5
              refine JC_seq ?_
              refine JC_region ?_
              refine JL_val (Ptr nb3 3) (Ev_fieldAddr 3 38 1 Try.underlying70 rfl Try.sizeOf38 rfl rfl) rfl ?_
              refine JL_val (.slice ax p cx) (Ev_load rfl (Ld_one Try.isAgg38 (MemAt.ent 2 rfl (Seg.tail (Seg.tail (Seg.tail (Seg.head))))))) rfl ?_
              refine JL_step (Step_callP 46 [.slice ax p cx] (.agg (cu8 (hashL z)).toArray) (Cl_func [.slice ax p cx] Try.call46 rfl) (fun w1 hw1 => hash_w ax p cx z w1 hz (hr.at (M' := []) hw1 (by simp)))) rfl ?_
              rintro v1 L1 ⟨rfl, rfl⟩
              show JL _ _ _ _ ((84, .agg (cu8 (hashL z)).toArray) :: _) [⟨nb1, [errV 36 e, .slice none 0 0], 66, (0, 0)⟩, ⟨nb2, [.slice am 0 cm, I64 ((e:Int))], 68, (0, 0)⟩, ⟨nb3, [I64 (kd), I64 (s), U64 nn, .slice ax p cx], 70, (0, 0)⟩]
              refine JL_step (Step_alloc _ (cu8 (zr8 32)) Try.zeroValue76 (by kernel_rfl)) rfl ?_
              rintro v1 L1 ⟨nb11, hnb11, rfl, rfl⟩
              show JL _ _ _ _ ((9, Ptr nb11 0) :: _) [⟨nb1, [errV 36 e, .slice none 0 0], 66, (0, 0)⟩, ⟨nb2, [.slice am 0 cm, I64 ((e:Int))], 68, (0, 0)⟩, ⟨nb3, [I64 (kd), I64 (s), U64 nn, .slice ax p cx], 70, (0, 0)⟩, ⟨nb11, cu8 (zr8 32), 76, (0, 0)⟩]
              refine JL_step (Step_store 3 nb11 0 32 (cu8 (zr8 32)) 76 (.agg (cu8 (hashL z)).toArray) (cu8 (hashL z)) (cu8 (hashL z)) rfl rfl rfl (by first | rfl | simp) Try.sizeOf76 (len_cu8 (hashL_len z)) (by first | exact one_u8 | exact one_u32 | exact one_u64 | (simp [cu8, cu32, cu64, Value.oneCell']; done)) (by simp [(zr8_len 32)]) (lay_whole (by simp [(zr8_len 32), (hashL_len z)]))) rfl ?_
              rintro v1 L1 ⟨rfl, rfl⟩
              show JL _ _ _ _ _ [⟨nb1, [errV 36 e, .slice none 0 0], 66, (0, 0)⟩, ⟨nb2, [.slice am 0 cm, I64 ((e:Int))], 68, (0, 0)⟩, ⟨nb3, [I64 (kd), I64 (s), U64 nn, .slice ax p cx], 70, (0, 0)⟩, ⟨nb11, cu8 (hashL z), 76, (0, 0)⟩]
              refine JL_nil ?_
              refine JQ_then ?_
              refine JC_seq ?_
              refine JC_draw 161 4 [(0, Ptr nb1 0), (1, .agg (cu8 (hashL z)).toArray), (3, .agg (List.toArray (α := Value) ([.slice am 0 cm, I64 ((e:Int))]))), (4, Slc nb11 0 32 32)] Try.mixed rfl (by decide +kernel) ?_
              refine DP_one ⟨[], [0, 1, 3, 4], [], [0, 1, 3, 4], [2]⟩ 2 _ rfl rfl (by decide +kernel) rfl ⟨⟨_, rfl, Qok_val rfl (Ev_move rfl)⟩, ⟨_, rfl, Qok_val rfl (Ev_load rfl (Ld_agg Try.isAgg76 Try.sizeOf76 (len_cu8 (hashL_len z)) (MemAt.ent 3 rfl (Seg.whole _))))⟩, ⟨_, rfl, Qok_val rfl (Ev_load rfl (Ld_agg Try.isAgg68 Try.sizeOf68 rfl (MemAt.ent 1 rfl (Seg.whole _))))⟩, ⟨_, rfl, Qok_val rfl (Ev_sliceA 32 5 1 0 32 0 32 Try.underlying76 Try.sizeOf5 rfl rfl rfl (by omega) (by omega) (by omega) (by omega) (by omega) 32 (by omega))⟩, trivial⟩ rfl (Cok_step rfl (Step_call 47 _ [true, false, false, false] [nb1] _ (Cl_func [Ptr nb1 0, .agg (cu8 (hashL z)).toArray] Try.call47 rfl) rfl (fun w1 hw1 => hashN_c nb1 32 (errV 36 e) (hashL z) w1 (hw1.ent _ (List.mem_of_getElem? (i := 0) rfl)) (hashL_len z) (by omega)))) ?_
              rintro v1 L1 ⟨_, ⟨rfl, nb12, sp8, cp8, rfl, hc22, hc23, hc24⟩, rfl⟩
              refine ⟨[], ?_⟩
              show DP _ _ _ _ _ _ _ _ [⟨nb2, [.slice am 0 cm, I64 ((e:Int))], 68, (0, 0)⟩, ⟨nb3, [I64 (kd), I64 (s), U64 nn, .slice ax p cx], 70, (0, 0)⟩, ⟨nb11, cu8 (hashL z), 76, (0, 0)⟩, ⟨nb1, [errV 36 e, Slc nb12 0 32 cp8], 66, (0, 0)⟩, ⟨nb12, cu8 (hashL z) ++ sp8, 5, (0, 0)⟩]
              refine DP_one ⟨[2], [0, 1, 3, 4], [0, 1], [3, 4], [5]⟩ 5 _ rfl rfl (by decide +kernel) rfl ⟨⟨_, rfl, Qok_val rfl (Ev_load rfl (Ld_agg Try.isAgg68 Try.sizeOf68 rfl (MemAt.ent 0 rfl (Seg.whole _))))⟩, ⟨_, rfl, Qok_val rfl (Ev_sliceA 32 5 1 0 32 0 32 Try.underlying76 Try.sizeOf5 rfl rfl rfl (by omega) (by omega) (by omega) (by omega) (by omega) 32 (by omega))⟩, trivial⟩ rfl (Cok_step rfl (Step_callN 45 [.agg (List.toArray (α := Value) ([.slice am 0 cm, I64 ((e:Int))])), Slc nb11 0 32 32] _ (Cl_func [.agg (List.toArray (α := Value) ([.slice am 0 cm, I64 ((e:Int))])), Slc nb11 0 32 32] Try.call45 rfl) (fun w1 hw1 => rraw_c am 0 cm ([] : List UInt8) ((e:Int)) (some ⟨nb11, 0, none⟩) 32 32 (hashL z) 32 w1 rfl (by omega) RdB.nil (hashL_len z) (by omega) (RdB.of hw1 (MemAt.ent 2 rfl (Seg.whole _)) (by simp)) (by omega)))) ?_
              rintro v1 L1 ⟨_, ⟨nb13, sp9, cp9, rfl, rfl, hc25, hc26, hc27⟩, rfl⟩
              refine ⟨[(6, Ptr nb1 0)], ?_⟩
              show DP _ _ _ _ _ _ _ _ [⟨nb2, [.slice am 0 cm, I64 ((e:Int))], 68, (0, 0)⟩, ⟨nb3, [I64 (kd), I64 (s), U64 nn, .slice ax p cx], 70, (0, 0)⟩, ⟨nb11, cu8 (hashL z), 76, (0, 0)⟩, ⟨nb1, [errV 36 e, Slc nb12 0 32 cp8], 66, (0, 0)⟩, ⟨nb12, cu8 (hashL z) ++ sp8, 5, (0, 0)⟩, ⟨nb13, cu8 (([] : List UInt8) ++ (hashL z)) ++ sp9, 5, (0, 0)⟩]
              refine DP_one ⟨[2, 5], [0, 1, 3, 4, 6], [0, 1, 3, 4], [6], [7]⟩ 7 _ rfl rfl (by decide +kernel) rfl ⟨⟨_, rfl, Qok_val rfl (Ev_assign rfl)⟩, trivial⟩ rfl (Cok_step rfl (Step_store 0 nb2 0 2 ([.slice am 0 cm, I64 ((e:Int))]) 68 (.agg (List.toArray (α := Value) ([Slc nb13 0 32 cp9, I64 ((e:Int))]))) ([Slc nb13 0 32 cp9, I64 ((e:Int))]) ([Slc nb13 0 32 cp9, I64 ((e:Int))]) rfl rfl rfl (by first | rfl | simp) Try.sizeOf68 rfl (by simp [Value.oneCell']) (Nat.le_of_ble_eq_true rfl) (lay_whole (by simp [])))) ?_
              rintro v1 L1 ⟨rfl, rfl⟩
              refine ⟨[], ?_⟩
              show DP _ _ _ _ _ _ _ _ [⟨nb2, [Slc nb13 0 32 cp9, I64 ((e:Int))], 68, (0, 0)⟩, ⟨nb3, [I64 (kd), I64 (s), U64 nn, .slice ax p cx], 70, (0, 0)⟩, ⟨nb11, cu8 (hashL z), 76, (0, 0)⟩, ⟨nb1, [errV 36 e, Slc nb12 0 32 cp8], 66, (0, 0)⟩, ⟨nb12, cu8 (hashL z) ++ sp8, 5, (0, 0)⟩, ⟨nb13, cu8 (([] : List UInt8) ++ (hashL z)) ++ sp9, 5, (0, 0)⟩]
              refine DP_end ⟨[2, 5, 7], [0, 1, 3, 4, 6], [0, 1, 3, 4, 6], [], []⟩ rfl rfl (by decide +kernel) rfl trivial ?_
              refine K_sub (F' := [(85, Ptr nb1 0), (86, .agg (cu8 (hashL z)).toArray), (87, Ptr nb1 0), (88, .agg (List.toArray (α := Value) ([.slice am 0 cm, I64 ((e:Int))]))), (89, Slc nb11 0 32 32), (90, .agg (List.toArray (α := Value) ([Slc nb13 0 32 cp9, I64 ((e:Int))]))), (8, Ptr nb1 0), (3, Ptr nb1 0), (4, Ptr nb2 0), (21, .slice ab n cb), (22, I64 ((n:Int))), (23, I64 ((i:Int))), (5, .pointer none), (24, .bool (decide (((i:Int)) < ((n:Int))))), (25, Ptr rowb (4*i + rowo)), (26, .agg (List.toArray (α := Value) ([I64 (kd), I64 (s), U64 nn, .slice ax p cx]))), (7, Ptr nb3 0), (27, Ptr nb1 0), (28, Ptr nb3 0), (29, I64 (kd)), (30, U64 (u64i (kd))), (31, U64 ((u64i (kd)) % (6:UInt64))), (33, .bool (decide (((u64i (kd)) % (6:UInt64)) = (0:UInt64)))), (32, .bool (decide (((u64i (kd)) % (6:UInt64)) = (0:UInt64)))), (53, .bool (decide (((u64i (kd)) % (6:UInt64)) = (1:UInt64)))), (52, .bool (decide (((u64i (kd)) % (6:UInt64)) = (1:UInt64)))), (67, .bool (decide (((u64i (kd)) % (6:UInt64)) = (2:UInt64)))), (66, .bool (decide (((u64i (kd)) % (6:UInt64)) = (2:UInt64)))), (81, .bool (decide (((u64i (kd)) % (6:UInt64)) = (3:UInt64)))), (80, .bool (decide (((u64i (kd)) % (6:UInt64)) = (3:UInt64)))), (82, Ptr nb3 3), (83, .slice ax p cx), (84, .agg (cu8 (hashL z)).toArray), (9, Ptr nb11 0)]) (Sub.cons (by kernel_rfl) (Sub.cons (by kernel_rfl) (Sub.cons (by kernel_rfl) (Sub.cons (by kernel_rfl) (Sub.cons (by kernel_rfl) (Sub.cons (by kernel_rfl) (Sub.cons (by kernel_rfl) (Sub.cons (by kernel_rfl) (Sub.cons (by kernel_rfl) (Sub.cons (by kernel_rfl) (Sub.cons (by kernel_rfl) (Sub.cons (by kernel_rfl) (Sub.cons (by kernel_rfl) (Sub.cons (by kernel_rfl) (Sub.cons (by kernel_rfl) (Sub.cons (by kernel_rfl) (Sub.cons (by kernel_rfl) (Sub.cons (by kernel_rfl) (Sub.cons (by kernel_rfl) (Sub.cons (by kernel_rfl) (Sub.cons (by kernel_rfl) (Sub.cons (by kernel_rfl) (Sub.cons (by kernel_rfl) (Sub.cons (by kernel_rfl) (Sub.cons (by kernel_rfl) (Sub.cons (by kernel_rfl) (Sub.cons (by kernel_rfl) (Sub.cons (by kernel_rfl) (Sub.cons (by kernel_rfl) (Sub.cons (by kernel_rfl) (Sub.cons (by kernel_rfl) (Sub.cons (by kernel_rfl) (Sub.cons (by kernel_rfl) (Sub.cons (by kernel_rfl) (Sub.nil))))))))))))))))))))))))))))))))))) ?_
              show JQ _ _ _ [(85, Ptr nb1 0), (86, .agg (cu8 (hashL z)).toArray), (87, Ptr nb1 0), (88, .agg (List.toArray (α := Value) ([.slice am 0 cm, I64 ((e:Int))]))), (89, Slc nb11 0 32 32), (90, .agg (List.toArray (α := Value) ([Slc nb13 0 32 cp9, I64 ((e:Int))]))), (8, Ptr nb1 0), (3, Ptr nb1 0), (4, Ptr nb2 0), (21, .slice ab n cb), (22, I64 ((n:Int))), (23, I64 ((i:Int))), (5, .pointer none), (24, .bool (decide (((i:Int)) < ((n:Int))))), (25, Ptr rowb (4*i + rowo)), (26, .agg (List.toArray (α := Value) ([I64 (kd), I64 (s), U64 nn, .slice ax p cx]))), (7, Ptr nb3 0), (27, Ptr nb1 0), (28, Ptr nb3 0), (29, I64 (kd)), (30, U64 (u64i (kd))), (31, U64 ((u64i (kd)) % (6:UInt64))), (33, .bool (decide (((u64i (kd)) % (6:UInt64)) = (0:UInt64)))), (32, .bool (decide (((u64i (kd)) % (6:UInt64)) = (0:UInt64)))), (53, .bool (decide (((u64i (kd)) % (6:UInt64)) = (1:UInt64)))), (52, .bool (decide (((u64i (kd)) % (6:UInt64)) = (1:UInt64)))), (67, .bool (decide (((u64i (kd)) % (6:UInt64)) = (2:UInt64)))), (66, .bool (decide (((u64i (kd)) % (6:UInt64)) = (2:UInt64)))), (81, .bool (decide (((u64i (kd)) % (6:UInt64)) = (3:UInt64)))), (80, .bool (decide (((u64i (kd)) % (6:UInt64)) = (3:UInt64)))), (82, Ptr nb3 3), (83, .slice ax p cx), (84, .agg (cu8 (hashL z)).toArray), (9, Ptr nb11 0)] _
              refine JQ_then ?_
              refine JC_region ?_
              refine JL_val _ (Ev_move rfl) rfl ?_
              refine JL_val (.agg (cu8 (hashL z)).toArray) (Ev_load rfl (Ld_agg Try.isAgg76 Try.sizeOf76 (len_cu8 (hashL_len z)) (MemAt.ent 2 rfl (Seg.whole _)))) rfl ?_
              refine JL_step (Step_callP 47 [.pointer none, .agg (cu8 (hashL z)).toArray] (.pointer none) (Cl_func [.pointer none, .agg (cu8 (hashL z)).toArray] Try.call47 rfl) (fun w1 _ => hashWNil_c (hashL z) w1 (hashL_len z))) rfl ?_
              rintro v1 L1 ⟨rfl, rfl⟩
              show JL _ _ _ _ ((93, .pointer none) :: _) [⟨nb2, [Slc nb13 0 32 cp9, I64 ((e:Int))], 68, (0, 0)⟩, ⟨nb3, [I64 (kd), I64 (s), U64 nn, .slice ax p cx], 70, (0, 0)⟩, ⟨nb11, cu8 (hashL z), 76, (0, 0)⟩, ⟨nb1, [errV 36 e, Slc nb12 0 32 cp8], 66, (0, 0)⟩, ⟨nb12, cu8 (hashL z) ++ sp8, 5, (0, 0)⟩, ⟨nb13, cu8 (([] : List UInt8) ++ (hashL z)) ++ sp9, 5, (0, 0)⟩]
              refine JL_val _ (Ev_assign rfl) rfl ?_
              refine JL_nil ?_
              refine JQ_in_normal ?_
              refine JQ_then ?_
              refine JC_seq ?_
              refine JC_region ?_
              refine JL_val _ (Ev_move rfl) rfl ?_
              refine JL_val _ (Ev_move rfl) rfl ?_
              refine JL_val (.bool false) (Ev_bin _ _ _ rfl rfl (fun _ => eqGuard_ptr ..) fun w => neq_ptr_same Try.underlying62 (Try.sizeOf66 w) (by decide)) rfl ?_
              refine JL_val _ (Ev_move rfl) rfl ?_
              refine JL_gval 3 117 false _ _ rfl rfl rfl (Ev_move rfl) rfl ?_
              refine JL_gval 3 117 false _ (.bool false) rfl rfl rfl (Ev_bin _ _ _ rfl rfl (fun _ => eqGuard_ptr ..) fun _ => neq_ptr_nil_nil Try.underlying62) rfl ?_
              refine JL_val _ (Ev_pickF _ rfl rfl rfl) rfl ?_
              refine JL_nil ?_
              refine JQ_then ?_
              refine JC_condF _ rfl rfl ?_
              refine JC_skip ?_
              refine JQ_in_normal ?_
              refine JQ_then ?_
              refine JC_region ?_
              refine JL_val (I64 ((i:Int) + 1)) (Ev_bini rfl rfl fun _ => bin_add_i _ _ ((i:Int) + 1) (by omega) (by omega)) rfl ?_
              refine JL_val _ (Ev_move rfl) rfl ?_
              refine JL_nil ?_
              refine JQ_thenK ?_
              refine K_mask [true, false, false, true, true, true] ?_
              show K _ _ [⟨nb2, [Slc nb13 0 32 cp9, I64 ((e:Int))], 68, (0, 0)⟩, ⟨nb1, [errV 36 e, Slc nb12 0 32 cp8], 66, (0, 0)⟩, ⟨nb12, cu8 (hashL z) ++ sp8, 5, (0, 0)⟩, ⟨nb13, cu8 (([] : List UInt8) ++ (hashL z)) ++ sp9, 5, (0, 0)⟩] _
              refine K_pick [1, 0, 2, 3] (by decide) ?_
              show K _ _ [⟨nb1, [errV 36 e, Slc nb12 0 32 cp8], 66, (0, 0)⟩, ⟨nb2, [Slc nb13 0 32 cp9, I64 ((e:Int))], 68, (0, 0)⟩, ⟨nb12, cu8 (hashL z) ++ sp8, 5, (0, 0)⟩, ⟨nb13, cu8 (([] : List UInt8) ++ (hashL z)) ++ sp9, 5, (0, 0)⟩] _
              refine K_next (.inr (i + 1, e, hashL z, 32, nb12, sp8, cp8, nb13, sp9, cp9)) ⟨by omega, (show (hashL z).length = 32 from (hashL_len z)), by rw [hsum]; omega, (by have := hc22; omega), (by omega), hc24, (by have := hc25; omega), (by omega), hc27⟩ (by first | (simp; omega) | simp | (dsimp only; omega) | omega) (Sub.cons rfl (Sub.cons rfl (Sub.cons rfl (Sub.cons rfl (Sub.cons rfl (Sub.cons rfl (Sub.nil))))))) rfl
            ·
              have hp5 : ¬ (((u64i (kd)) % (6:UInt64)) = (3:UInt64)) := of_decide_eq_false hb5
              refine JC_seq ?_
              refine JC_region ?_
              refine JL_val (.bool (decide (((u64i (kd)) % (6:UInt64)) = (4:UInt64)))) (Ev_bini rfl rfl fun _ => bin_eql_u64 ((u64i (kd)) % (6:UInt64)) (4:UInt64)) rfl ?_
              refine JL_val _ (Ev_assign rfl) rfl ?_
              refine JL_nil ?_
              refine JQ_then ?_
              refine JC_cond (decide (((u64i (kd)) % (6:UInt64)) = (4:UInt64))) rfl (fun hb6 => ?_) (fun hb6 => ?_)
              ·
                have hp6 : ((u64i (kd)) % (6:UInt64)) = (4:UInt64) := of_decide_eq_true hb6
                refine JC_seq ?_
                refine JC_draw 161 4 [(0, Ptr nb1 0), (1, Ptr nb3 2), (2, U64 nn), (3, U64 (nn % (2:UInt64))), (4, .bool (decide ((nn % (2:UInt64)) = (1:UInt64)))), (6, .agg (List.toArray (α := Value) ([.slice am 0 cm, I64 ((e:Int))]))), (7, Ptr nb3 2), (8, U64 nn), (9, U64 (nn % (2:UInt64))), (10, .bool (decide ((nn % (2:UInt64)) = (1:UInt64))))] Try.mixed rfl (by decide +kernel) ?_
                refine DP_one ⟨[], [0, 1, 2, 3, 4, 6, 7, 8, 9, 10], [], [0, 1, 2, 3, 4, 6, 7, 8, 9, 10], [5]⟩ 5 _ rfl rfl (by decide +kernel) rfl ⟨⟨_, rfl, Qok_val rfl (Ev_move rfl)⟩, ⟨_, rfl, Qok_val rfl (Ev_fieldAddr 2 44 1 Try.underlying70 rfl Try.sizeOf44 rfl rfl)⟩, ⟨_, rfl, Qok_val rfl (Ev_load rfl (Ld_one Try.isAgg44 (MemAt.ent 2 rfl (Seg.tail (Seg.tail (Seg.head))))))⟩, ⟨_, rfl, Qok_val rfl (Ev_bini rfl rfl fun _ => bin_rem_u64 nn (2:UInt64) (by decide))⟩, ⟨_, rfl, Qok_val rfl (Ev_bini rfl rfl fun _ => bin_eql_u64 (nn % (2:UInt64)) (1:UInt64))⟩, ⟨_, rfl, Qok_val rfl (Ev_load rfl (Ld_agg Try.isAgg68 Try.sizeOf68 rfl (MemAt.ent 1 rfl (Seg.whole _))))⟩, ⟨_, rfl, Qok_val rfl (Ev_fieldAddr 2 44 1 Try.underlying70 rfl Try.sizeOf44 rfl rfl)⟩, ⟨_, rfl, Qok_val rfl (Ev_load rfl (Ld_one Try.isAgg44 (MemAt.ent 2 rfl (Seg.tail (Seg.tail (Seg.head))))))⟩, ⟨_, rfl, Qok_val rfl (Ev_bini rfl rfl fun _ => bin_rem_u64 nn (2:UInt64) (by decide))⟩, ⟨_, rfl, Qok_val rfl (Ev_bini rfl rfl fun _ => bin_eql_u64 (nn % (2:UInt64)) (1:UInt64))⟩, trivial⟩ rfl (Cok_step rfl (Step_call 48 _ [true, false, false] [nb1] _ (Cl_func [Ptr nb1 0, .bool (decide ((nn % (2:UInt64)) = (1:UInt64)))] Try.call48 rfl) rfl (fun w1 hw1 => flagN_c nb1 1 (errV 36 e) (decide ((nn % (2:UInt64)) = (1:UInt64))) w1 (hw1.ent _ (List.mem_of_getElem? (i := 0) rfl)) (by omega)))) ?_
                rintro v1 L1 ⟨_, ⟨rfl, nb14, sp10, cp10, rfl, hc28, hc29, hc30⟩, rfl⟩
                refine ⟨[], ?_⟩
                show DP _ _ _ _ _ _ _ _ [⟨nb2, [.slice am 0 cm, I64 ((e:Int))], 68, (0, 0)⟩, ⟨nb3, [I64 (kd), I64 (s), U64 nn, .slice ax p cx], 70, (0, 0)⟩, ⟨nb1, [errV 36 e, Slc nb14 0 1 cp10], 66, (0, 0)⟩, ⟨nb14, cu8 (numK 1 (bitU (decide ((nn % (2:UInt64)) = (1:UInt64)))) 1) ++ sp10, 5, (0, 0)⟩]
                refine DP_one ⟨[5], [0, 1, 2, 3, 4, 6, 7, 8, 9, 10], [0, 1, 2, 3, 4], [6, 7, 8, 9, 10], [11]⟩ 11 _ rfl rfl (by decide +kernel) rfl ⟨⟨_, rfl, Qok_val rfl (Ev_load rfl (Ld_agg Try.isAgg68 Try.sizeOf68 rfl (MemAt.ent 0 rfl (Seg.whole _))))⟩, ⟨_, rfl, Qok_val rfl (Ev_fieldAddr 2 44 1 Try.underlying70 rfl Try.sizeOf44 rfl rfl)⟩, ⟨_, rfl, Qok_val rfl (Ev_load rfl (Ld_one Try.isAgg44 (MemAt.ent 1 rfl (Seg.tail (Seg.tail (Seg.head))))))⟩, ⟨_, rfl, Qok_val rfl (Ev_bini rfl rfl fun _ => bin_rem_u64 nn (2:UInt64) (by decide))⟩, ⟨_, rfl, Qok_val rfl (Ev_bini rfl rfl fun _ => bin_eql_u64 (nn % (2:UInt64)) (1:UInt64))⟩, trivial⟩ rfl (Cok_step rfl (Step_callN 49 [.agg (List.toArray (α := Value) ([.slice am 0 cm, I64 ((e:Int))])), .bool (decide ((nn % (2:UInt64)) = (1:UInt64)))] _ (Cl_func [.agg (List.toArray (α := Value) ([.slice am 0 cm, I64 ((e:Int))])), .bool (decide ((nn % (2:UInt64)) = (1:UInt64)))] Try.call49 rfl) (fun w1 hw1 => rflag_c am 0 cm ([] : List UInt8) ((e:Int)) (decide ((nn % (2:UInt64)) = (1:UInt64))) 1 w1 rfl (by omega) RdB.nil (by omega)))) ?_
                rintro v1 L1 ⟨_, ⟨nb15, sp11, cp11, rfl, rfl, hc31, hc32, hc33⟩, rfl⟩
                refine ⟨[(12, Ptr nb1 0)], ?_⟩
                show DP _ _ _ _ _ _ _ _ [⟨nb2, [.slice am 0 cm, I64 ((e:Int))], 68, (0, 0)⟩, ⟨nb3, [I64 (kd), I64 (s), U64 nn, .slice ax p cx], 70, (0, 0)⟩, ⟨nb1, [errV 36 e, Slc nb14 0 1 cp10], 66, (0, 0)⟩, ⟨nb14, cu8 (numK 1 (bitU (decide ((nn % (2:UInt64)) = (1:UInt64)))) 1) ++ sp10, 5, (0, 0)⟩, ⟨nb15, cu8 (([] : List UInt8) ++ numK 1 (bitU (decide ((nn % (2:UInt64)) = (1:UInt64)))) 1) ++ sp11, 5, (0, 0)⟩]
                refine DP_one ⟨[5, 11], [0, 1, 2, 3, 4, 6, 7, 8, 9, 10, 12], [0, 1, 2, 3, 4, 6, 7, 8, 9, 10], [12], [13]⟩ 13 _ rfl rfl (by decide +kernel) rfl ⟨⟨_, rfl, Qok_val rfl (Ev_assign rfl)⟩, trivial⟩ rfl (Cok_step rfl (Step_store 0 nb2 0 2 ([.slice am 0 cm, I64 ((e:Int))]) 68 (.agg (List.toArray (α := Value) ([Slc nb15 0 1 cp11, I64 ((e:Int))]))) ([Slc nb15 0 1 cp11, I64 ((e:Int))]) ([Slc nb15 0 1 cp11, I64 ((e:Int))]) rfl rfl rfl (by first | rfl | simp) Try.sizeOf68 rfl (by simp [Value.oneCell']) (Nat.le_of_ble_eq_true rfl) (lay_whole (by simp [])))) ?_
                rintro v1 L1 ⟨rfl, rfl⟩
                refine ⟨[], ?_⟩
                show DP _ _ _ _ _ _ _ _ [⟨nb2, [Slc nb15 0 1 cp11, I64 ((e:Int))], 68, (0, 0)⟩, ⟨nb3, [I64 (kd), I64 (s), U64 nn, .slice ax p cx], 70, (0, 0)⟩, ⟨nb1, [errV 36 e, Slc nb14 0 1 cp10], 66, (0, 0)⟩, ⟨nb14, cu8 (numK 1 (bitU (decide ((nn % (2:UInt64)) = (1:UInt64)))) 1) ++ sp10, 5, (0, 0)⟩, ⟨nb15, cu8 (([] : List UInt8) ++ numK 1 (bitU (decide ((nn % (2:UInt64)) = (1:UInt64)))) 1) ++ sp11, 5, (0, 0)⟩]
                refine DP_end ⟨[5, 11, 13], [0, 1, 2, 3, 4, 6, 7, 8, 9, 10, 12], [0, 1, 2, 3, 4, 6, 7, 8, 9, 10, 12], [], []⟩ rfl rfl (by decide +kernel) rfl trivial ?_
                refine K_sub (F' := [(96, Ptr nb1 0), (97, Ptr nb3 2), (98, U64 nn), (99, U64 (nn % (2:UInt64))), (100, .bool (decide ((nn % (2:UInt64)) = (1:UInt64)))), (101, Ptr nb1 0), (102, .agg (List.toArray (α := Value) ([.slice am 0 cm, I64 ((e:Int))]))), (103, Ptr nb3 2), (104, U64 nn), (105, U64 (nn % (2:UInt64))), (106, .bool (decide ((nn % (2:UInt64)) = (1:UInt64)))), (107, .agg (List.toArray (α := Value) ([Slc nb15 0 1 cp11, I64 ((e:Int))]))), (8, Ptr nb1 0), (3, Ptr nb1 0), (4, Ptr nb2 0), (21, .slice ab n cb), (22, I64 ((n:Int))), (23, I64 ((i:Int))), (5, .pointer none), (24, .bool (decide (((i:Int)) < ((n:Int))))), (25, Ptr rowb (4*i + rowo)), (26, .agg (List.toArray (α := Value) ([I64 (kd), I64 (s), U64 nn, .slice ax p cx]))), (7, Ptr nb3 0), (27, Ptr nb1 0), (28, Ptr nb3 0), (29, I64 (kd)), (30, U64 (u64i (kd))), (31, U64 ((u64i (kd)) % (6:UInt64))), (33, .bool (decide (((u64i (kd)) % (6:UInt64)) = (0:UInt64)))), (32, .bool (decide (((u64i (kd)) % (6:UInt64)) = (0:UInt64)))), (53, .bool (decide (((u64i (kd)) % (6:UInt64)) = (1:UInt64)))), (52, .bool (decide (((u64i (kd)) % (6:UInt64)) = (1:UInt64)))), (67, .bool (decide (((u64i (kd)) % (6:UInt64)) = (2:UInt64)))), (66, .bool (decide (((u64i (kd)) % (6:UInt64)) = (2:UInt64)))), (81, .bool (decide (((u64i (kd)) % (6:UInt64)) = (3:UInt64)))), (80, .bool (decide (((u64i (kd)) % (6:UInt64)) = (3:UInt64)))), (95, .bool (decide (((u64i (kd)) % (6:UInt64)) = (4:UInt64)))), (94, .bool (decide (((u64i (kd)) % (6:UInt64)) = (4:UInt64))))]) (Sub.cons (by kernel_rfl) (Sub.cons (by kernel_rfl) (Sub.cons (by kernel_rfl) (Sub.cons (by kernel_rfl) (Sub.cons (by kernel_rfl) (Sub.cons (by kernel_rfl) (Sub.cons (by kernel_rfl) (Sub.cons (by kernel_rfl) (Sub.cons (by kernel_rfl) (Sub.cons (by kernel_rfl) (Sub.cons (by kernel_rfl) (Sub.cons (by kernel_rfl) (Sub.cons (by kernel_rfl) (Sub.cons (by kernel_rfl) (Sub.cons (by kernel_rfl) (Sub.cons (by kernel_rfl) (Sub.cons (by kernel_rfl) (Sub.cons (by kernel_rfl) (Sub.cons (by kernel_rfl) (Sub.cons (by kernel_rfl) (Sub.cons (by kernel_rfl) (Sub.cons (by kernel_rfl) (Sub.cons (by kernel_rfl) (Sub.cons (by kernel_rfl) (Sub.cons (by kernel_rfl) (Sub.cons (by kernel_rfl) (Sub.cons (by kernel_rfl) (Sub.cons (by kernel_rfl) (Sub.cons (by kernel_rfl) (Sub.cons (by kernel_rfl) (Sub.cons (by kernel_rfl) (Sub.cons (by kernel_rfl) (Sub.cons (by kernel_rfl) (Sub.cons (by kernel_rfl) (Sub.cons (by kernel_rfl) (Sub.cons (by kernel_rfl) (Sub.cons (by kernel_rfl) (Sub.cons (by kernel_rfl) (Sub.nil))))))))))))))))))))))))))))))))))))))) ?_
                show JQ _ _ _ [(96, Ptr nb1 0), (97, Ptr nb3 2), (98, U64 nn), (99, U64 (nn % (2:UInt64))), (100, .bool (decide ((nn % (2:UInt64)) = (1:UInt64)))), (101, Ptr nb1 0), (102, .agg (List.toArray (α := Value) ([.slice am 0 cm, I64 ((e:Int))]))), (103, Ptr nb3 2), (104, U64 nn), (105, U64 (nn % (2:UInt64))), (106, .bool (decide ((nn % (2:UInt64)) = (1:UInt64)))), (107, .agg (List.toArray (α := Value) ([Slc nb15 0 1 cp11, I64 ((e:Int))]))), (8, Ptr nb1 0), (3, Ptr nb1 0), (4, Ptr nb2 0), (21, .slice ab n cb), (22, I64 ((n:Int))), (23, I64 ((i:Int))), (5, .pointer none), (24, .bool (decide (((i:Int)) < ((n:Int))))), (25, Ptr rowb (4*i + rowo)), (26, .agg (List.toArray (α := Value) ([I64 (kd), I64 (s), U64 nn, .slice ax p cx]))), (7, Ptr nb3 0), (27, Ptr nb1 0), (28, Ptr nb3 0), (29, I64 (kd)), (30, U64 (u64i (kd))), (31, U64 ((u64i (kd)) % (6:UInt64))), (33, .bool (decide (((u64i (kd)) % (6:UInt64)) = (0:UInt64)))), (32, .bool (decide (((u64i (kd)) % (6:UInt64)) = (0:UInt64)))), (53, .bool (decide (((u64i (kd)) % (6:UInt64)) = (1:UInt64)))), (52, .bool (decide (((u64i (kd)) % (6:UInt64)) = (1:UInt64)))), (67, .bool (decide (((u64i (kd)) % (6:UInt64)) = (2:UInt64)))), (66, .bool (decide (((u64i (kd)) % (6:UInt64)) = (2:UInt64)))), (81, .bool (decide (((u64i (kd)) % (6:UInt64)) = (3:UInt64)))), (80, .bool (decide (((u64i (kd)) % (6:UInt64)) = (3:UInt64)))), (95, .bool (decide (((u64i (kd)) % (6:UInt64)) = (4:UInt64)))), (94, .bool (decide (((u64i (kd)) % (6:UInt64)) = (4:UInt64))))] _
                refine JQ_then ?_
                refine JC_region ?_
                refine JL_val _ (Ev_move rfl) rfl ?_
                refine JL_val (Ptr nb3 2) (Ev_fieldAddr 2 44 1 Try.underlying70 rfl Try.sizeOf44 rfl rfl) rfl ?_
                refine JL_val (U64 nn) (Ev_load rfl (Ld_one Try.isAgg44 (MemAt.ent 1 rfl (Seg.tail (Seg.tail (Seg.head)))))) rfl ?_
                refine JL_val (U64 (nn % (2:UInt64))) (Ev_bini rfl rfl fun _ => bin_rem_u64 nn (2:UInt64) (by decide)) rfl ?_
                refine JL_val (.bool (decide ((nn % (2:UInt64)) = (1:UInt64)))) (Ev_bini rfl rfl fun _ => bin_eql_u64 (nn % (2:UInt64)) (1:UInt64)) rfl ?_
                refine JL_step (Step_callP 48 [.pointer none, .bool (decide ((nn % (2:UInt64)) = (1:UInt64)))] (.pointer none) (Cl_func [.pointer none, .bool (decide ((nn % (2:UInt64)) = (1:UInt64)))] Try.call48 rfl) (fun w1 _ => flagWNil_c (decide ((nn % (2:UInt64)) = (1:UInt64))) w1)) rfl ?_
                rintro v1 L1 ⟨rfl, rfl⟩
                show JL _ _ _ _ ((113, .pointer none) :: _) [⟨nb2, [Slc nb15 0 1 cp11, I64 ((e:Int))], 68, (0, 0)⟩, ⟨nb3, [I64 (kd), I64 (s), U64 nn, .slice ax p cx], 70, (0, 0)⟩, ⟨nb1, [errV 36 e, Slc nb14 0 1 cp10], 66, (0, 0)⟩, ⟨nb14, cu8 (numK 1 (bitU (decide ((nn % (2:UInt64)) = (1:UInt64)))) 1) ++ sp10, 5, (0, 0)⟩, ⟨nb15, cu8 (([] : List UInt8) ++ numK 1 (bitU (decide ((nn % (2:UInt64)) = (1:UInt64)))) 1) ++ sp11, 5, (0, 0)⟩]
                refine JL_val _ (Ev_assign rfl) rfl ?_
                refine JL_nil ?_
                refine JQ_in_normal ?_
                refine JQ_then ?_
                refine JC_seq ?_
                refine JC_region ?_
                refine JL_val _ (Ev_move rfl) rfl ?_
                refine JL_val _ (Ev_move rfl) rfl ?_
                refine JL_val (.bool false) (Ev_bin _ _ _ rfl rfl (fun _ => eqGuard_ptr ..) fun w => neq_ptr_same Try.underlying62 (Try.sizeOf66 w) (by decide)) rfl ?_
                refine JL_val _ (Ev_move rfl) rfl ?_
                refine JL_gval 3 117 false _ _ rfl rfl rfl (Ev_move rfl) rfl ?_
                refine JL_gval 3 117 false _ (.bool false) rfl rfl rfl (Ev_bin _ _ _ rfl rfl (fun _ => eqGuard_ptr ..) fun _ => neq_ptr_nil_nil Try.underlying62) rfl ?_
                refine JL_val _ (Ev_pickF _ rfl rfl rfl) rfl ?_
                refine JL_nil ?_
                refine JQ_then ?_
                refine JC_condF _ rfl rfl ?_
                refine JC_skip ?_
                refine JQ_in_normal ?_
                refine JQ_then ?_
                refine JC_region ?_
                refine JL_val (I64 ((i:Int) + 1)) (Ev_bini rfl rfl fun _ => bin_add_i _ _ ((i:Int) + 1) (by omega) (by omega)) rfl ?_
                refine JL_val _ (Ev_move rfl) rfl ?_
                refine JL_nil ?_
                refine JQ_thenK ?_
                refine K_mask [true, false, true, true, true] ?_
                show K _ _ [⟨nb2, [Slc nb15 0 1 cp11, I64 ((e:Int))], 68, (0, 0)⟩, ⟨nb1, [errV 36 e, Slc nb14 0 1 cp10], 66, (0, 0)⟩, ⟨nb14, cu8 (numK 1 (bitU (decide ((nn % (2:UInt64)) = (1:UInt64)))) 1) ++ sp10, 5, (0, 0)⟩, ⟨nb15, cu8 (([] : List UInt8) ++ numK 1 (bitU (decide ((nn % (2:UInt64)) = (1:UInt64)))) 1) ++ sp11, 5, (0, 0)⟩] _
                refine K_pick [1, 0, 2, 3] (by decide) ?_
                show K _ _ [⟨nb1, [errV 36 e, Slc nb14 0 1 cp10], 66, (0, 0)⟩, ⟨nb2, [Slc nb15 0 1 cp11, I64 ((e:Int))], 68, (0, 0)⟩, ⟨nb14, cu8 (numK 1 (bitU (decide ((nn % (2:UInt64)) = (1:UInt64)))) 1) ++ sp10, 5, (0, 0)⟩, ⟨nb15, cu8 (([] : List UInt8) ++ numK 1 (bitU (decide ((nn % (2:UInt64)) = (1:UInt64)))) 1) ++ sp11, 5, (0, 0)⟩] _
                refine K_next (.inr (i + 1, e, numK 1 (bitU (decide ((nn % (2:UInt64)) = (1:UInt64)))) 1, 1, nb14, sp10, cp10, nb15, sp11, cp11)) ⟨by omega, (show (numK 1 (bitU (decide ((nn % (2:UInt64)) = (1:UInt64)))) 1).length = 1 from (numK_len _ _ _)), by rw [hsum]; omega, (by have := hc28; omega), (by omega), hc30, (by have := hc31; omega), (by omega), hc33⟩ (by first | (simp; omega) | simp | (dsimp only; omega) | omega) (Sub.cons rfl (Sub.cons rfl (Sub.cons rfl (Sub.cons rfl (Sub.cons rfl (Sub.cons rfl (Sub.nil))))))) rfl
              ·
                have hp6 : ¬ (((u64i (kd)) % (6:UInt64)) = (4:UInt64)) := of_decide_eq_false hb6
                refine JC_skip ?_
                refine JQ_in_normal ?_
                refine JQ_then ?_
                refine JC_seq ?_
                refine JC_region ?_
                refine JL_val _ (Ev_move rfl) rfl ?_
                refine JL_val _ (Ev_move rfl) rfl ?_
                refine JL_val (.bool false) (Ev_bin _ _ _ rfl rfl (fun _ => eqGuard_ptr ..) fun w => neq_ptr_same Try.underlying62 (Try.sizeOf66 w) (by decide)) rfl ?_
                refine JL_val _ (Ev_move rfl) rfl ?_
                refine JL_gval 3 117 false _ _ rfl rfl rfl (Ev_move rfl) rfl ?_
                refine JL_gval 3 117 false _ (.bool false) rfl rfl rfl (Ev_bin _ _ _ rfl rfl (fun _ => eqGuard_ptr ..) fun _ => neq_ptr_nil_nil Try.underlying62) rfl ?_
                refine JL_val _ (Ev_pickF _ rfl rfl rfl) rfl ?_
                refine JL_nil ?_
                refine JQ_then ?_
                refine JC_condF _ rfl rfl ?_
                refine JC_skip ?_
                refine JQ_in_normal ?_
                refine JQ_then ?_
                refine JC_region ?_
                refine JL_val (I64 ((i:Int) + 1)) (Ev_bini rfl rfl fun _ => bin_add_i _ _ ((i:Int) + 1) (by omega) (by omega)) rfl ?_
                refine JL_val _ (Ev_move rfl) rfl ?_
                refine JL_nil ?_
                refine JQ_thenK ?_
                refine K_mask [true, true, false] ?_
                show K _ _ [⟨nb1, [errV 36 e, .slice none 0 0], 66, (0, 0)⟩, ⟨nb2, [.slice am 0 cm, I64 ((e:Int))], 68, (0, 0)⟩] _
                refine K_next (.inl (i + 1, e, am, cm)) ⟨by omega, by omega⟩ (by first | (simp; omega) | simp | (dsimp only; omega) | omega) (Sub.cons rfl (Sub.cons rfl (Sub.cons rfl (Sub.cons rfl (Sub.cons rfl (Sub.cons rfl (Sub.nil))))))) rfl
    ·
      have hp1 : ¬ (((i:Int)) < ((n:Int))) := of_decide_eq_false hb1
      refine JC_exit ?_
      refine JQ_then_exit ?_
      refine JQ_then_exit ?_
      refine JQ_in_same ?_
      refine JQ_then ?_
      refine JC_seq ?_
      have hse : sumP al i ≤ sumP al n := sumP_le al hx1
      by_cases he : e = 0
      ·
        refine JC_region ?_
        refine JL_val _ (Ev_move rfl) rfl ?_
        refine JL_step (Step_callP 50 [Ptr nb1 0] (.tuple #[.slice none 0 0, .nilIface]) (Cl_func [Ptr nb1 0] Try.call50 rfl) (fun w1 hw1 => doneN_c nb1 e w1 (RdA.of hw1 (MemAt.ent 0 rfl (Seg.whole _)) (by simp)) he)) rfl ?_
        rintro v1 L1 ⟨rfl, rfl⟩
        show JL _ _ _ _ ((124, .tuple #[.slice none 0 0, .nilIface]) :: _) [⟨nb1, [errV 36 e, .slice none 0 0], 66, (0, 0)⟩, ⟨nb2, [.slice am 0 cm, I64 ((e:Int))], 68, (0, 0)⟩]
        refine JL_val _ (Ev_move rfl) rfl ?_
        refine JL_val _ (Ev_extract rfl rfl) rfl ?_
        refine JL_val _ (Ev_extract rfl rfl) rfl ?_
        refine JL_val _ (Ev_assign rfl) rfl ?_
        refine JL_val _ (Ev_assign rfl) rfl ?_
        refine JL_nil ?_
        refine JQ_then ?_
        refine JC_seq ?_
        refine JC_region ?_
        refine JL_val _ (Ev_move rfl) rfl ?_
        refine JL_step (Step_callP 50 [.pointer none] (.tuple #[.slice none 0 0, .iface 36 (I64 (11:Int))]) (Cl_func [.pointer none] Try.call50 rfl) (fun w1 hw1 => doneNil_c w1)) rfl ?_
        rintro v1 L1 ⟨rfl, rfl⟩
        show JL _ _ _ _ ((129, .tuple #[.slice none 0 0, .iface 36 (I64 (11:Int))]) :: _) [⟨nb1, [errV 36 e, .slice none 0 0], 66, (0, 0)⟩, ⟨nb2, [.slice am 0 cm, I64 ((e:Int))], 68, (0, 0)⟩]
        refine JL_val _ (Ev_move rfl) rfl ?_
        refine JL_val _ (Ev_extract rfl rfl) rfl ?_
        refine JL_val _ (Ev_extract rfl rfl) rfl ?_
        refine JL_val _ (Ev_assign rfl) rfl ?_
        refine JL_val _ (Ev_assign rfl) rfl ?_
        refine JL_nil ?_
        refine JQ_then ?_
        refine JC_seq ?_
        refine JC_seq ?_
        refine JC_region ?_
        refine JL_val (Ptr nb2 1) (Ev_fieldAddr 1 3 1 Try.underlying68 rfl Try.sizeOf3 rfl rfl) rfl ?_
        refine JL_val (I64 ((e:Int))) (Ev_load rfl (Ld_one Try.isAgg3 (MemAt.ent 1 rfl (Seg.tail (Seg.head))))) rfl ?_
        refine JL_val (.bool (decide (((e:Int)) ≠ (0:Int)))) (Ev_bini rfl rfl fun _ => bin_neq_i _ _) rfl ?_
        refine JL_nil ?_
        refine JQ_then ?_
        refine JC_cond (decide (((e:Int)) ≠ (0:Int))) rfl (fun hb7 => ?_) (fun hb7 => ?_)
        ·
          have hp7 : ((e:Int)) ≠ (0:Int) := of_decide_eq_true hb7
          exfalso; omega
        ·
          have hp7 : ¬ (((e:Int)) ≠ (0:Int)) := of_decide_eq_false hb7
          refine JC_skip ?_
          refine JQ_then ?_
          refine JC_seq ?_
          refine JC_region ?_
          refine JL_val _ (Ev_move rfl) rfl ?_
          refine JL_val (.bool true) (Ev_bin _ _ _ rfl rfl (fun _ => eqGuard_nn ..) fun _ => eql_if_nil_nil Try.underlying30) rfl ?_
          refine JL_val _ (Ev_move rfl) rfl ?_
          refine JL_gval 2 151 true _ _ rfl rfl rfl (Ev_move rfl) rfl ?_
          refine JL_gval 2 151 true _ (Ptr nb2 0) rfl rfl rfl (Ev_fieldAddr 0 38 1 Try.underlying68 rfl Try.sizeOf38 rfl rfl) rfl ?_
          refine JL_gval 2 151 true _ (.slice am 0 cm) rfl rfl rfl (Ev_load rfl (Ld_one Try.isAgg38 (MemAt.ent 1 rfl (Seg.head)))) rfl ?_
          refine JL_gstep 2 151 true _ rfl rfl rfl (Step_callP 25 [.slice none 0 0, .slice am 0 cm] (.bool (decide (([] : List UInt8) = ([] : List UInt8)))) (Cl_func [.slice none 0 0, .slice am 0 cm] Try.call25 rfl) (fun w1 hw1 => bytes_c none am 0 0 0 cm ([] : List UInt8) ([] : List UInt8) w1 rfl rfl RdB.nil RdB.nil)) rfl ?_
          rintro v1 L1 ⟨rfl, rfl⟩
          show JL _ _ _ _ ((155, .bool (decide (([] : List UInt8) = ([] : List UInt8)))) :: _) [⟨nb1, [errV 36 e, .slice none 0 0], 66, (0, 0)⟩, ⟨nb2, [.slice am 0 cm, I64 ((e:Int))], 68, (0, 0)⟩]
          refine JL_val _ (Ev_pickT _ rfl rfl rfl) rfl ?_
          refine JL_val _ (Ev_move rfl) rfl ?_
          refine JL_gval 8 157 true _ _ rfl rfl (decide_eq_true rfl) (Ev_move rfl) rfl ?_
          refine JL_gstep 8 157 true _ rfl rfl (decide_eq_true rfl) (Step_callP 24 [.iface 36 (I64 (11:Int)), I64 (11:Int)] (.bool true) (Cl_func [.iface 36 (I64 (11:Int)), I64 (11:Int)] Try.call24 rfl) (fun w1 hw1 => is_c 11 11 w1)) rfl ?_
          rintro v1 L1 ⟨rfl, rfl⟩
          show JL _ _ _ _ ((159, .bool true) :: _) [⟨nb1, [errV 36 e, .slice none 0 0], 66, (0, 0)⟩, ⟨nb2, [.slice am 0 cm, I64 ((e:Int))], 68, (0, 0)⟩]
          refine JL_val _ (Ev_pickT _ rfl (decide_eq_true rfl) rfl) rfl ?_
          refine JL_val _ (Ev_assign rfl) rfl ?_
          refine JL_nil ?_
          refine JQ_then ?_
          refine JC_ret ?_
          refine JQ_ret (.bool true) (res1 Try.results11 (RV_tmp rfl)) fun w1 hw1 => ?_
          exact ⟨_, [], rfl, ⟨by rw [show (true) = true from rfl], rfl⟩, hw1.sub (by simp) (by simp)⟩
      ·
        refine JC_region ?_
        refine JL_val _ (Ev_move rfl) rfl ?_
        refine JL_step (Step_callP 50 [Ptr nb1 0] (.tuple #[.slice none 0 0, errV 36 e]) (Cl_func [Ptr nb1 0] Try.call50 rfl) (fun w1 hw1 => doneE_c nb1 e (.slice none 0 0) w1 (RdA.of hw1 (MemAt.ent 0 rfl (Seg.whole _)) (by simp)) he)) rfl ?_
        rintro v1 L1 ⟨rfl, rfl⟩
        show JL _ _ _ _ ((124, .tuple #[.slice none 0 0, errV 36 e]) :: _) [⟨nb1, [errV 36 e, .slice none 0 0], 66, (0, 0)⟩, ⟨nb2, [.slice am 0 cm, I64 ((e:Int))], 68, (0, 0)⟩]
        refine JL_val _ (Ev_move rfl) rfl ?_
        refine JL_val _ (Ev_extract rfl rfl) rfl ?_
        refine JL_val _ (Ev_extract rfl rfl) rfl ?_
        refine JL_val _ (Ev_assign rfl) rfl ?_
        refine JL_val _ (Ev_assign rfl) rfl ?_
        refine JL_nil ?_
        refine JQ_then ?_
        refine JC_seq ?_
        refine JC_region ?_
        refine JL_val _ (Ev_move rfl) rfl ?_
        refine JL_step (Step_callP 50 [.pointer none] (.tuple #[.slice none 0 0, .iface 36 (I64 (11:Int))]) (Cl_func [.pointer none] Try.call50 rfl) (fun w1 hw1 => doneNil_c w1)) rfl ?_
        rintro v1 L1 ⟨rfl, rfl⟩
        show JL _ _ _ _ ((129, .tuple #[.slice none 0 0, .iface 36 (I64 (11:Int))]) :: _) [⟨nb1, [errV 36 e, .slice none 0 0], 66, (0, 0)⟩, ⟨nb2, [.slice am 0 cm, I64 ((e:Int))], 68, (0, 0)⟩]
        refine JL_val _ (Ev_move rfl) rfl ?_
        refine JL_val _ (Ev_extract rfl rfl) rfl ?_
        refine JL_val _ (Ev_extract rfl rfl) rfl ?_
        refine JL_val _ (Ev_assign rfl) rfl ?_
        refine JL_val _ (Ev_assign rfl) rfl ?_
        refine JL_nil ?_
        refine JQ_then ?_
        refine JC_seq ?_
        refine JC_seq ?_
        refine JC_region ?_
        refine JL_val (Ptr nb2 1) (Ev_fieldAddr 1 3 1 Try.underlying68 rfl Try.sizeOf3 rfl rfl) rfl ?_
        refine JL_val (I64 ((e:Int))) (Ev_load rfl (Ld_one Try.isAgg3 (MemAt.ent 1 rfl (Seg.tail (Seg.head))))) rfl ?_
        refine JL_val (.bool (decide (((e:Int)) ≠ (0:Int)))) (Ev_bini rfl rfl fun _ => bin_neq_i _ _) rfl ?_
        refine JL_nil ?_
        refine JQ_then ?_
        refine JC_cond (decide (((e:Int)) ≠ (0:Int))) rfl (fun hb8 => ?_) (fun hb8 => ?_)
        ·
          have hp8 : ((e:Int)) ≠ (0:Int) := of_decide_eq_true hb8
          refine JC_seq ?_
          refine JC_draw 161 3 [(0, errV 36 e), (2, Ptr nb2 1), (3, I64 ((e:Int)))] Try.mixed rfl (by decide +kernel) ?_
          refine DP_one ⟨[], [0, 2, 3], [], [0, 2, 3], [1]⟩ 1 _ rfl rfl (by decide +kernel) rfl ⟨⟨_, rfl, Qok_val rfl (Ev_move rfl)⟩, ⟨_, rfl, Qok_val rfl (Ev_fieldAddr 1 3 1 Try.underlying68 rfl Try.sizeOf3 rfl rfl)⟩, ⟨_, rfl, Qok_val rfl (Ev_load rfl (Ld_one Try.isAgg3 (MemAt.ent 1 rfl (Seg.tail (Seg.head)))))⟩, trivial⟩ rfl (Cok_step rfl (Step_callP 51 [errV 36 e] (I64 ((e:Int))) (Cl_func [errV 36 e] Try.call51 rfl) (fun w1 hw1 => errNum_w e w1))) ?_
          rintro v1 L1 ⟨rfl, rfl⟩
          refine ⟨[(4, .bool (decide (((e:Int)) = ((e:Int))))), (5, .bool (decide (((e:Int)) = ((e:Int))))), (6, .slice none 0 0), (7, I64 (0:Int)), (8, .bool (decide ((0:Int) = (0:Int)))), (9, .bool (decide ((0:Int) = (0:Int)))), (10, .bool (decide ((0:Int) = (0:Int)))), (11, .iface 36 (I64 (11:Int)))], ?_⟩
          show DP _ _ _ _ _ _ _ _ [⟨nb1, [errV 36 e, .slice none 0 0], 66, (0, 0)⟩, ⟨nb2, [.slice am 0 cm, I64 ((e:Int))], 68, (0, 0)⟩]
          refine DP_one ⟨[1], [0, 2, 3, 4, 5, 6, 7, 8, 9, 10, 11], [0], [2, 3, 4, 5, 6, 7, 8, 9, 10, 11], [12]⟩ 12 _ rfl rfl (by decide +kernel) rfl ⟨⟨_, rfl, Qok_val rfl (Ev_fieldAddr 1 3 1 Try.underlying68 rfl Try.sizeOf3 rfl rfl)⟩, ⟨_, rfl, Qok_val rfl (Ev_load rfl (Ld_one Try.isAgg3 (MemAt.ent 1 rfl (Seg.tail (Seg.head)))))⟩, ⟨_, rfl, Qok_val rfl (Ev_bini rfl rfl fun _ => bin_eql_i _ _)⟩, ⟨_, rfl, Qok_val rfl (Ev_move rfl)⟩, ⟨_, rfl, Qok_gval 5 140 true _ rfl rfl rfl (by simp) (Ev_move rfl)⟩, ⟨_, rfl, Qok_gval 5 140 true _ rfl rfl rfl (by simp) (Ev_len Try.underlying38 rfl)⟩, ⟨_, rfl, Qok_gval 5 140 true _ rfl rfl rfl (by simp) (Ev_bini rfl rfl fun _ => bin_eql_i _ _)⟩, ⟨_, rfl, Qok_val rfl (Ev_pickT _ rfl (by simp) rfl)⟩, ⟨_, rfl, Qok_val rfl (Ev_move rfl)⟩, ⟨_, rfl, Qok_gval 10 145 true _ rfl rfl rfl (by decide) (Ev_move rfl)⟩, trivial⟩ rfl (Cok_gstep 10 145 true _ rfl rfl rfl (by decide) (Step_callP 24 [.iface 36 (I64 (11:Int)), I64 (11:Int)] (.bool true) (Cl_func [.iface 36 (I64 (11:Int)), I64 (11:Int)] Try.call24 rfl) (fun w1 hw1 => is_c 11 11 w1))) ?_
          rintro v1 L1 ⟨rfl, rfl⟩
          refine ⟨[(13, .bool true), (14, .bool true)], ?_⟩
          show DP _ _ _ _ _ _ _ _ [⟨nb1, [errV 36 e, .slice none 0 0], 66, (0, 0)⟩, ⟨nb2, [.slice am 0 cm, I64 ((e:Int))], 68, (0, 0)⟩]
          refine DP_end ⟨[1, 12], [0, 2, 3, 4, 5, 6, 7, 8, 9, 10, 11, 13, 14], [0, 2, 3, 4, 5, 6, 7, 8, 9, 10, 11], [13, 14], []⟩ rfl rfl (by decide +kernel) rfl ⟨⟨_, rfl, Qok_val rfl (Ev_pickT _ rfl (by decide) rfl)⟩, ⟨_, rfl, Qok_val rfl (Ev_assign rfl)⟩, trivial⟩ ?_
          refine K_sub (F' := [(2, .bool true), (4, Ptr nb2 0), (10, .slice none 0 0), (11, errV 36 e), (13, .iface 36 (I64 (11:Int)))]) (Sub.cons (by kernel_rfl) (Sub.cons (by kernel_rfl) (Sub.cons (by kernel_rfl) (Sub.cons (by kernel_rfl) (Sub.cons (by kernel_rfl) (Sub.nil)))))) ?_
          show JQ _ _ _ [(2, .bool true), (4, Ptr nb2 0), (10, .slice none 0 0), (11, errV 36 e), (13, .iface 36 (I64 (11:Int)))] _
          refine JQ_then ?_
          refine JC_ret ?_
          refine JQ_then_ret ?_
          refine JQ_ret (.bool true) (res1 Try.results11 (RV_tmp rfl)) fun w1 hw1 => ?_
          exact ⟨_, [], rfl, ⟨by rw [show (true) = true from rfl], rfl⟩, hw1.sub (by simp) (by simp)⟩
        ·
          have hp8 : ¬ (((e:Int)) ≠ (0:Int)) := of_decide_eq_false hb8
          exfalso; omega
  ·
    obtain ⟨hx1, ho, hx2, hy1, hy2, hy3, hj1, hj2, hj3⟩ := hx
    show JC _ _ _ [(3, Ptr nb1 0), (4, Ptr nb2 0), (21, .slice ab n cb), (22, I64 ((n:Int))), (23, I64 ((i:Int))), (5, .pointer none)] [⟨nb1, [errV 36 e, Slc gw 0 m cpw], 66, (0, 0)⟩, ⟨nb2, [Slc gm 0 m cpm, I64 ((e:Int))], 68, (0, 0)⟩, ⟨gw, cu8 o ++ spw, 5, (0, 0)⟩, ⟨gm, cu8 o ++ spm, 5, (0, 0)⟩]
    refine JC_seq ?_
    refine JC_region ?_
    refine JL_val (.bool (decide (((i:Int)) < ((n:Int))))) (Ev_bini rfl rfl fun _ => bin_lss_i _ _) rfl ?_
    refine JL_nil ?_
    refine JQ_then ?_
    refine JC_seq ?_
    refine JC_cond (decide (((i:Int)) < ((n:Int)))) rfl (fun hb9 => ?_) (fun hb9 => ?_)
    ·
      have hp9 : ((i:Int)) < ((n:Int)) := of_decide_eq_true hb9
      refine JC_skip ?_
      refine JQ_then ?_
      refine JC_seq ?_
      refine JC_block ?_
      refine JC_seq ?_
      obtain ⟨a, ha⟩ : ∃ a, al[i]? = some a := ⟨al[i]'(by omega), by simp⟩
      obtain ⟨rowb, rowo, hrowa, hrow⟩ := rows_at actC_len (by decide) hv ha
      have hG1 := hG _ (List.mem_of_getElem? ha)
      have hsum := sumP_succ ha
      have hsle : sumP al (i + 1) ≤ sumP al n := sumP_le al (by omega)
      obtain ⟨kd, s, nn, ax, p, cx, z⟩ := a
      obtain ⟨hkd, hsb, hz, hcn, hcc, hr, hp⟩ := hG1
      dsimp only [actC] at hkd hsb hz hcn hcc hr hp hrow hsum
      refine JC_region ?_
      refine JL_val (Ptr rowb (4*i + rowo)) (Ev_indexSlG 70 4 (4*i + rowo) Try.underlying60 Try.sizeOf70 rfl hrowa rfl (by omega) (by omega) (by omega)) rfl ?_
      refine JL_val (.agg (List.toArray (α := Value) ([I64 (kd), I64 (s), U64 nn, .slice ax p cx]))) (Ev_load rfl (Ld_agg Try.isAgg70 Try.sizeOf70 rfl (MemAt.seg (hrow.mem (by simp)) (Seg.whole _) (by omega)))) rfl ?_
      refine JL_step (Step_alloc _ ([I64 (0:Int), I64 (0:Int), U64 (0:UInt64), .slice none 0 0]) Try.zeroValue70 (by kernel_rfl)) rfl ?_
      rintro v1 L1 ⟨nb16, hnb16, rfl, rfl⟩
      show JL _ _ _ _ ((7, Ptr nb16 0) :: _) [⟨nb1, [errV 36 e, Slc gw 0 m cpw], 66, (0, 0)⟩, ⟨nb2, [Slc gm 0 m cpm, I64 ((e:Int))], 68, (0, 0)⟩, ⟨gw, cu8 o ++ spw, 5, (0, 0)⟩, ⟨gm, cu8 o ++ spm, 5, (0, 0)⟩, ⟨nb16, [I64 (0:Int), I64 (0:Int), U64 (0:UInt64), .slice none 0 0], 70, (0, 0)⟩]
      refine JL_step (Step_store 4 nb16 0 4 ([I64 (0:Int), I64 (0:Int), U64 (0:UInt64), .slice none 0 0]) 70 (.agg (List.toArray (α := Value) ([I64 (kd), I64 (s), U64 nn, .slice ax p cx]))) ([I64 (kd), I64 (s), U64 nn, .slice ax p cx]) ([I64 (kd), I64 (s), U64 nn, .slice ax p cx]) rfl rfl rfl (by first | rfl | simp) Try.sizeOf70 rfl (by simp [Value.oneCell']) (Nat.le_of_ble_eq_true rfl) (lay_whole (by simp []))) rfl ?_
      rintro v1 L1 ⟨rfl, rfl⟩
      show JL _ _ _ _ _ [⟨nb1, [errV 36 e, Slc gw 0 m cpw], 66, (0, 0)⟩, ⟨nb2, [Slc gm 0 m cpm, I64 ((e:Int))], 68, (0, 0)⟩, ⟨gw, cu8 o ++ spw, 5, (0, 0)⟩, ⟨gm, cu8 o ++ spm, 5, (0, 0)⟩, ⟨nb16, [I64 (kd), I64 (s), U64 nn, .slice ax p cx], 70, (0, 0)⟩]
      refine JL_nil ?_
      refine JQ_then ?_
      refine JC_seq ?_
      refine JC_region ?_
      refine JL_val _ (Ev_move rfl) rfl ?_
      refine JL_val _ (Ev_assign rfl) rfl ?_
      refine JL_nil ?_
      refine JQ_then ?_
      refine JC_seq ?_
      refine JC_seq ?_
      refine JC_region ?_
      refine JL_val (Ptr nb16 0) (Ev_fieldAddr 0 3 1 Try.underlying70 rfl Try.sizeOf3 rfl rfl) rfl ?_
      refine JL_val (I64 (kd)) (Ev_load rfl (Ld_one Try.isAgg3 (MemAt.ent 4 rfl (Seg.head)))) rfl ?_
      refine JL_val (U64 (u64i (kd))) (Ev_conv _ _ rfl fun _ => conv_i64_u64i (by rw [Try.underlying3]; rfl) Try.underlying49 (kd)) rfl ?_
      refine JL_val (U64 ((u64i (kd)) % (6:UInt64))) (Ev_bini rfl rfl fun _ => bin_rem_u64 (u64i (kd)) (6:UInt64) (by decide)) rfl ?_
      refine JL_nil ?_
      refine JQ_then ?_
      refine JC_block ?_
      refine JC_seq ?_
      refine JC_region ?_
      refine JL_val (.bool (decide (((u64i (kd)) % (6:UInt64)) = (0:UInt64)))) (Ev_bini rfl rfl fun _ => bin_eql_u64 ((u64i (kd)) % (6:UInt64)) (0:UInt64)) rfl ?_
      refine JL_val _ (Ev_assign rfl) rfl ?_
      refine JL_nil ?_
      refine JQ_then ?_
      refine JC_cond (decide (((u64i (kd)) % (6:UInt64)) = (0:UInt64))) rfl (fun hb10 => ?_) (fun hb10 => ?_)
      ·
        have hp10 : ((u64i (kd)) % (6:UInt64)) = (0:UInt64) := of_decide_eq_true hb10
        refine JC_seq ?_
        by_cases hsz : Szd s
        ·
          obtain ⟨k, rfl⟩ : ∃ k : Nat, s = k := ⟨s.toNat, by have := hsz; unfold Szd at this; omega⟩
          have hk8 : k ≤ 8 := by have := hsz; unfold Szd at this; omega
          by_cases hx : ftN nn k = 0
          ·
            refine JC_draw 161 4 [(0, Ptr nb1 0), (1, Ptr nb16 2), (2, U64 nn), (3, Ptr nb16 1), (4, I64 ((k:Int))), (6, .agg (List.toArray (α := Value) ([Slc gm 0 m cpm, I64 ((e:Int))]))), (7, Ptr nb16 2), (8, U64 nn), (9, Ptr nb16 1), (10, I64 ((k:Int)))] Try.mixed rfl (by decide +kernel) ?_
            refine DP_one ⟨[], [0, 1, 2, 3, 4, 6, 7, 8, 9, 10], [], [0, 1, 2, 3, 4, 6, 7, 8, 9, 10], [5]⟩ 5 _ rfl rfl (by decide +kernel) rfl ⟨⟨_, rfl, Qok_val rfl (Ev_move rfl)⟩, ⟨_, rfl, Qok_val rfl (Ev_fieldAddr 2 44 1 Try.underlying70 rfl Try.sizeOf44 rfl rfl)⟩, ⟨_, rfl, Qok_val rfl (Ev_load rfl (Ld_one Try.isAgg44 (MemAt.ent 4 rfl (Seg.tail (Seg.tail (Seg.head))))))⟩, ⟨_, rfl, Qok_val rfl (Ev_fieldAddr 1 3 1 Try.underlying70 rfl Try.sizeOf3 rfl rfl)⟩, ⟨_, rfl, Qok_val rfl (Ev_load rfl (Ld_one Try.isAgg3 (MemAt.ent 4 rfl (Seg.tail (Seg.head)))))⟩, ⟨_, rfl, Qok_val rfl (Ev_load rfl (Ld_agg Try.isAgg68 Try.sizeOf68 rfl (MemAt.ent 1 rfl (Seg.whole _))))⟩, ⟨_, rfl, Qok_val rfl (Ev_fieldAddr 2 44 1 Try.underlying70 rfl Try.sizeOf44 rfl rfl)⟩, ⟨_, rfl, Qok_val rfl (Ev_load rfl (Ld_one Try.isAgg44 (MemAt.ent 4 rfl (Seg.tail (Seg.tail (Seg.head))))))⟩, ⟨_, rfl, Qok_val rfl (Ev_fieldAddr 1 3 1 Try.underlying70 rfl Try.sizeOf3 rfl rfl)⟩, ⟨_, rfl, Qok_val rfl (Ev_load rfl (Ld_one Try.isAgg3 (MemAt.ent 4 rfl (Seg.tail (Seg.head)))))⟩, trivial⟩ rfl (Cok_step rfl (Step_call 40 _ [true, false, true, false, false] [nb1, gw] _ (Cl_func [Ptr nb1 0, U64 nn, I64 ((k:Int))] Try.call40 rfl) rfl (fun w1 hw1 => numO_c nb1 gw m cpw (k + m) (errV 36 e) o spw nn k w1 (hw1.ent _ (List.mem_of_getElem? (i := 0) rfl)) (hw1.ent _ (List.mem_of_getElem? (i := 2) rfl)) (hw1.ne (i := 0) (j := 2) rfl rfl (by decide)) ho hy1 hy2 hy3 (by omega) hsz (fit_ok hx) (by omega)))) ?_
            rintro v1 L1 ⟨_, ⟨rfl, nb17, sp12, cp12, rfl, hc34, hc35, hc36⟩, rfl⟩
            refine ⟨[], ?_⟩
            show DP _ _ _ _ _ _ _ _ [⟨nb2, [Slc gm 0 m cpm, I64 ((e:Int))], 68, (0, 0)⟩, ⟨gm, cu8 o ++ spm, 5, (0, 0)⟩, ⟨nb16, [I64 (kd), I64 ((k:Int)), U64 nn, .slice ax p cx], 70, (0, 0)⟩, ⟨nb1, [errV 36 e, Slc nb17 0 (k + m) cp12], 66, (0, 0)⟩, ⟨nb17, cu8 (o ++ numK k nn k) ++ sp12, 5, (0, 0)⟩]
            refine DP_one ⟨[5], [0, 1, 2, 3, 4, 6, 7, 8, 9, 10], [0, 1, 2, 3, 4], [6, 7, 8, 9, 10], [11]⟩ 11 _ rfl rfl (by decide +kernel) rfl ⟨⟨_, rfl, Qok_val rfl (Ev_load rfl (Ld_agg Try.isAgg68 Try.sizeOf68 rfl (MemAt.ent 0 rfl (Seg.whole _))))⟩, ⟨_, rfl, Qok_val rfl (Ev_fieldAddr 2 44 1 Try.underlying70 rfl Try.sizeOf44 rfl rfl)⟩, ⟨_, rfl, Qok_val rfl (Ev_load rfl (Ld_one Try.isAgg44 (MemAt.ent 2 rfl (Seg.tail (Seg.tail (Seg.head))))))⟩, ⟨_, rfl, Qok_val rfl (Ev_fieldAddr 1 3 1 Try.underlying70 rfl Try.sizeOf3 rfl rfl)⟩, ⟨_, rfl, Qok_val rfl (Ev_load rfl (Ld_one Try.isAgg3 (MemAt.ent 2 rfl (Seg.tail (Seg.head)))))⟩, trivial⟩ rfl (Cok_step rfl (Step_callN 41 [.agg (List.toArray (α := Value) ([Slc gm 0 m cpm, I64 ((e:Int))])), U64 nn, I64 ((k:Int))] _ (Cl_func [.agg (List.toArray (α := Value) ([Slc gm 0 m cpm, I64 ((e:Int))])), U64 nn, I64 ((k:Int))] Try.call41 rfl) (fun w1 hw1 => rnumOk_c (some ⟨gm, 0, none⟩) m cpm o ((e:Int)) nn k (k + m) w1 ho (by omega) (RdB.of hw1 (MemAt.ent 1 rfl (Seg.left (Seg.whole _))) (by simp)) hsz hx (by omega)))) ?_
            rintro v1 L1 ⟨_, ⟨nb18, sp13, cp13, rfl, rfl, hc37, hc38, hc39⟩, rfl⟩
            refine ⟨[(12, Ptr nb1 0)], ?_⟩
            show DP _ _ _ _ _ _ _ _ [⟨nb2, [Slc gm 0 m cpm, I64 ((e:Int))], 68, (0, 0)⟩, ⟨gm, cu8 o ++ spm, 5, (0, 0)⟩, ⟨nb16, [I64 (kd), I64 ((k:Int)), U64 nn, .slice ax p cx], 70, (0, 0)⟩, ⟨nb1, [errV 36 e, Slc nb17 0 (k + m) cp12], 66, (0, 0)⟩, ⟨nb17, cu8 (o ++ numK k nn k) ++ sp12, 5, (0, 0)⟩, ⟨nb18, cu8 (o ++ numK k nn k) ++ sp13, 5, (0, 0)⟩]
            refine DP_one ⟨[5, 11], [0, 1, 2, 3, 4, 6, 7, 8, 9, 10, 12], [0, 1, 2, 3, 4, 6, 7, 8, 9, 10], [12], [13]⟩ 13 _ rfl rfl (by decide +kernel) rfl ⟨⟨_, rfl, Qok_val rfl (Ev_assign rfl)⟩, trivial⟩ rfl (Cok_step rfl (Step_store 0 nb2 0 2 ([Slc gm 0 m cpm, I64 ((e:Int))]) 68 (.agg (List.toArray (α := Value) ([Slc nb18 0 (k + m) cp13, I64 ((e:Int))]))) ([Slc nb18 0 (k + m) cp13, I64 ((e:Int))]) ([Slc nb18 0 (k + m) cp13, I64 ((e:Int))]) rfl rfl rfl (by first | rfl | simp) Try.sizeOf68 rfl (by simp [Value.oneCell']) (Nat.le_of_ble_eq_true rfl) (lay_whole (by simp [])))) ?_
            rintro v1 L1 ⟨rfl, rfl⟩
            refine ⟨[], ?_⟩
            show DP _ _ _ _ _ _ _ _ [⟨nb2, [Slc nb18 0 (k + m) cp13, I64 ((e:Int))], 68, (0, 0)⟩, ⟨gm, cu8 o ++ spm, 5, (0, 0)⟩, ⟨nb16, [I64 (kd), I64 ((k:Int)), U64 nn, .slice ax p cx], 70, (0, 0)⟩, ⟨nb1, [errV 36 e, Slc nb17 0 (k + m) cp12], 66, (0, 0)⟩, ⟨nb17, cu8 (o ++ numK k nn k) ++ sp12, 5, (0, 0)⟩, ⟨nb18, cu8 (o ++ numK k nn k) ++ sp13, 5, (0, 0)⟩]
            refine DP_end ⟨[5, 11, 13], [0, 1, 2, 3, 4, 6, 7, 8, 9, 10, 12], [0, 1, 2, 3, 4, 6, 7, 8, 9, 10, 12], [], []⟩ rfl rfl (by decide +kernel) rfl trivial ?_
            refine K_sub (F' := [(34, Ptr nb1 0), (35, Ptr nb16 2), (36, U64 nn), (37, Ptr nb16 1), (38, I64 ((k:Int))), (39, Ptr nb1 0), (40, .agg (List.toArray (α := Value) ([Slc gm 0 m cpm, I64 ((e:Int))]))), (41, Ptr nb16 2), (42, U64 nn), (43, Ptr nb16 1), (44, I64 ((k:Int))), (45, .agg (List.toArray (α := Value) ([Slc nb18 0 (k + m) cp13, I64 ((e:Int))]))), (8, Ptr nb1 0), (3, Ptr nb1 0), (4, Ptr nb2 0), (21, .slice ab n cb), (22, I64 ((n:Int))), (23, I64 ((i:Int))), (5, .pointer none), (24, .bool (decide (((i:Int)) < ((n:Int))))), (25, Ptr rowb (4*i + rowo)), (26, .agg (List.toArray (α := Value) ([I64 (kd), I64 ((k:Int)), U64 nn, .slice ax p cx]))), (7, Ptr nb16 0), (27, Ptr nb1 0), (28, Ptr nb16 0), (29, I64 (kd)), (30, U64 (u64i (kd))), (31, U64 ((u64i (kd)) % (6:UInt64))), (33, .bool (decide (((u64i (kd)) % (6:UInt64)) = (0:UInt64)))), (32, .bool (decide (((u64i (kd)) % (6:UInt64)) = (0:UInt64))))]) (Sub.cons (by kernel_rfl) (Sub.cons (by kernel_rfl) (Sub.cons (by kernel_rfl) (Sub.cons (by kernel_rfl) (Sub.cons (by kernel_rfl) (Sub.cons (by kernel_rfl) (Sub.cons (by kernel_rfl) (Sub.cons (by kernel_rfl) (Sub.cons (by kernel_rfl) (Sub.cons (by kernel_rfl) (Sub.cons (by kernel_rfl) (Sub.cons (by kernel_rfl) (Sub.cons (by kernel_rfl) (Sub.cons (by kernel_rfl) (Sub.cons (by kernel_rfl) (Sub.cons (by kernel_rfl) (Sub.cons (by kernel_rfl) (Sub.cons (by kernel_rfl) (Sub.cons (by kernel_rfl) (Sub.cons (by kernel_rfl) (Sub.cons (by kernel_rfl) (Sub.cons (by kernel_rfl) (Sub.cons (by kernel_rfl) (Sub.cons (by kernel_rfl) (Sub.cons (by kernel_rfl) (Sub.cons (by kernel_rfl) (Sub.cons (by kernel_rfl) (Sub.cons (by kernel_rfl) (Sub.cons (by kernel_rfl) (Sub.cons (by kernel_rfl) (Sub.nil))))))))))))))))))))))))))))))) ?_
            show JQ _ _ _ [(34, Ptr nb1 0), (35, Ptr nb16 2), (36, U64 nn), (37, Ptr nb16 1), (38, I64 ((k:Int))), (39, Ptr nb1 0), (40, .agg (List.toArray (α := Value) ([Slc gm 0 m cpm, I64 ((e:Int))]))), (41, Ptr nb16 2), (42, U64 nn), (43, Ptr nb16 1), (44, I64 ((k:Int))), (45, .agg (List.toArray (α := Value) ([Slc nb18 0 (k + m) cp13, I64 ((e:Int))]))), (8, Ptr nb1 0), (3, Ptr nb1 0), (4, Ptr nb2 0), (21, .slice ab n cb), (22, I64 ((n:Int))), (23, I64 ((i:Int))), (5, .pointer none), (24, .bool (decide (((i:Int)) < ((n:Int))))), (25, Ptr rowb (4*i + rowo)), (26, .agg (List.toArray (α := Value) ([I64 (kd), I64 ((k:Int)), U64 nn, .slice ax p cx]))), (7, Ptr nb16 0), (27, Ptr nb1 0), (28, Ptr nb16 0), (29, I64 (kd)), (30, U64 (u64i (kd))), (31, U64 ((u64i (kd)) % (6:UInt64))), (33, .bool (decide (((u64i (kd)) % (6:UInt64)) = (0:UInt64)))), (32, .bool (decide (((u64i (kd)) % (6:UInt64)) = (0:UInt64))))] _
            refine JQ_then ?_
            refine JC_region ?_
            refine JL_val _ (Ev_move rfl) rfl ?_
            refine JL_val (Ptr nb16 2) (Ev_fieldAddr 2 44 1 Try.underlying70 rfl Try.sizeOf44 rfl rfl) rfl ?_
            refine JL_val (U64 nn) (Ev_load rfl (Ld_one Try.isAgg44 (MemAt.ent 2 rfl (Seg.tail (Seg.tail (Seg.head)))))) rfl ?_
            refine JL_val (Ptr nb16 1) (Ev_fieldAddr 1 3 1 Try.underlying70 rfl Try.sizeOf3 rfl rfl) rfl ?_
            refine JL_val (I64 ((k:Int))) (Ev_load rfl (Ld_one Try.isAgg3 (MemAt.ent 2 rfl (Seg.tail (Seg.head))))) rfl ?_
            refine JL_step (Step_callP 40 [.pointer none, U64 nn, I64 ((k:Int))] (.pointer none) (Cl_func [.pointer none, U64 nn, I64 ((k:Int))] Try.call40 rfl) (fun w1 _ => numNil_c nn ((k:Int)) w1)) rfl ?_
            rintro v1 L1 ⟨rfl, rfl⟩
            show JL _ _ _ _ ((51, .pointer none) :: _) [⟨nb2, [Slc nb18 0 (k + m) cp13, I64 ((e:Int))], 68, (0, 0)⟩, ⟨gm, cu8 o ++ spm, 5, (0, 0)⟩, ⟨nb16, [I64 (kd), I64 ((k:Int)), U64 nn, .slice ax p cx], 70, (0, 0)⟩, ⟨nb1, [errV 36 e, Slc nb17 0 (k + m) cp12], 66, (0, 0)⟩, ⟨nb17, cu8 (o ++ numK k nn k) ++ sp12, 5, (0, 0)⟩, ⟨nb18, cu8 (o ++ numK k nn k) ++ sp13, 5, (0, 0)⟩]
            refine JL_val _ (Ev_assign rfl) rfl ?_
            refine JL_nil ?_
            refine JQ_in_normal ?_
            refine JQ_then ?_
            refine JC_seq ?_
            refine JC_region ?_
            refine JL_val _ (Ev_move rfl) rfl ?_
            refine JL_val _ (Ev_move rfl) rfl ?_
            refine JL_val (.bool false) (Ev_bin _ _ _ rfl rfl (fun _ => eqGuard_ptr ..) fun w => neq_ptr_same Try.underlying62 (Try.sizeOf66 w) (by decide)) rfl ?_
            refine JL_val _ (Ev_move rfl) rfl ?_
            refine JL_gval 3 117 false _ _ rfl rfl rfl (Ev_move rfl) rfl ?_
            refine JL_gval 3 117 false _ (.bool false) rfl rfl rfl (Ev_bin _ _ _ rfl rfl (fun _ => eqGuard_ptr ..) fun _ => neq_ptr_nil_nil Try.underlying62) rfl ?_
            refine JL_val _ (Ev_pickF _ rfl rfl rfl) rfl ?_
            refine JL_nil ?_
            refine JQ_then ?_
            refine JC_condF _ rfl rfl ?_
            refine JC_skip ?_
            refine JQ_in_normal ?_
            refine JQ_then ?_
            refine JC_region ?_
            refine JL_val (I64 ((i:Int) + 1)) (Ev_bini rfl rfl fun _ => bin_add_i _ _ ((i:Int) + 1) (by omega) (by omega)) rfl ?_
            refine JL_val _ (Ev_move rfl) rfl ?_
            refine JL_nil ?_
            refine JQ_thenK ?_
            refine K_mask [true, false, false, true, true, true] ?_
            show K _ _ [⟨nb2, [Slc nb18 0 (k + m) cp13, I64 ((e:Int))], 68, (0, 0)⟩, ⟨nb1, [errV 36 e, Slc nb17 0 (k + m) cp12], 66, (0, 0)⟩, ⟨nb17, cu8 (o ++ numK k nn k) ++ sp12, 5, (0, 0)⟩, ⟨nb18, cu8 (o ++ numK k nn k) ++ sp13, 5, (0, 0)⟩] _
            refine K_pick [1, 0, 2, 3] (by decide) ?_
            show K _ _ [⟨nb1, [errV 36 e, Slc nb17 0 (k + m) cp12], 66, (0, 0)⟩, ⟨nb2, [Slc nb18 0 (k + m) cp13, I64 ((e:Int))], 68, (0, 0)⟩, ⟨nb17, cu8 (o ++ numK k nn k) ++ sp12, 5, (0, 0)⟩, ⟨nb18, cu8 (o ++ numK k nn k) ++ sp13, 5, (0, 0)⟩] _
            refine K_next (.inr (i + 1, e, o ++ numK k nn k, (k + m), nb17, sp12, cp12, nb18, sp13, cp13)) ⟨by omega, (show (o ++ numK k nn k).length = (k + m) from (by rw [List.length_append, ho, numK_len] <;> omega)), by rw [hsum]; omega, (by have := hc34; omega), (by omega), hc36, (by have := hc37; omega), (by omega), hc39⟩ (by first | (simp; omega) | simp | (dsimp only; omega) | omega) (Sub.cons rfl (Sub.cons rfl (Sub.cons rfl (Sub.cons rfl (Sub.cons rfl (Sub.cons rfl (Sub.nil))))))) rfl
          ·
            refine JC_draw 161 4 [(0, Ptr nb1 0), (1, Ptr nb16 2), (2, U64 nn), (3, Ptr nb16 1), (4, I64 ((k:Int))), (6, .agg (List.toArray (α := Value) ([Slc gm 0 m cpm, I64 ((e:Int))]))), (7, Ptr nb16 2), (8, U64 nn), (9, Ptr nb16 1), (10, I64 ((k:Int)))] Try.mixed rfl (by decide +kernel) ?_
            refine DP_one ⟨[], [0, 1, 2, 3, 4, 6, 7, 8, 9, 10], [], [0, 1, 2, 3, 4, 6, 7, 8, 9, 10], [5]⟩ 5 _ rfl rfl (by decide +kernel) rfl ⟨⟨_, rfl, Qok_val rfl (Ev_move rfl)⟩, ⟨_, rfl, Qok_val rfl (Ev_fieldAddr 2 44 1 Try.underlying70 rfl Try.sizeOf44 rfl rfl)⟩, ⟨_, rfl, Qok_val rfl (Ev_load rfl (Ld_one Try.isAgg44 (MemAt.ent 4 rfl (Seg.tail (Seg.tail (Seg.head))))))⟩, ⟨_, rfl, Qok_val rfl (Ev_fieldAddr 1 3 1 Try.underlying70 rfl Try.sizeOf3 rfl rfl)⟩, ⟨_, rfl, Qok_val rfl (Ev_load rfl (Ld_one Try.isAgg3 (MemAt.ent 4 rfl (Seg.tail (Seg.head)))))⟩, ⟨_, rfl, Qok_val rfl (Ev_load rfl (Ld_agg Try.isAgg68 Try.sizeOf68 rfl (MemAt.ent 1 rfl (Seg.whole _))))⟩, ⟨_, rfl, Qok_val rfl (Ev_fieldAddr 2 44 1 Try.underlying70 rfl Try.sizeOf44 rfl rfl)⟩, ⟨_, rfl, Qok_val rfl (Ev_load rfl (Ld_one Try.isAgg44 (MemAt.ent 4 rfl (Seg.tail (Seg.tail (Seg.head))))))⟩, ⟨_, rfl, Qok_val rfl (Ev_fieldAddr 1 3 1 Try.underlying70 rfl Try.sizeOf3 rfl rfl)⟩, ⟨_, rfl, Qok_val rfl (Ev_load rfl (Ld_one Try.isAgg3 (MemAt.ent 4 rfl (Seg.tail (Seg.head)))))⟩, trivial⟩ rfl (Cok_step rfl (Step_callW 40 [Ptr nb1 0, U64 nn, I64 ((k:Int))] 0 ⟨nb1, [errV 36 e, Slc gw 0 m cpw], 66, (0, 0)⟩ _ (fun v e' l' => v = Ptr nb1 0 ∧ e' = ⟨nb1, [errV 36 (erN e 1), Slc gw 0 m cpw], 66, (0, 0)⟩ ∧ l' = []) (Cl_func [Ptr nb1 0, U64 nn, I64 ((k:Int))] Try.call40 rfl) rfl (by rintro v l ⟨rfl, rfl⟩; exact ⟨_, _, rfl, rfl, rfl, rfl, rfl⟩) (fun w1 hw1 => numB2_c nb1 e (Slc gw 0 m cpw) nn k w1 (hw1.ent _ (List.mem_of_getElem? (i := 0) rfl)) hsz (fit_lt hsz hx) (fit_ne hsz hx)))) ?_
            rintro v1 L1 ⟨_, _, ⟨rfl, rfl, rfl⟩, rfl⟩
            refine ⟨[], ?_⟩
            show DP _ _ _ _ _ _ _ _ [⟨nb1, [errV 36 (erN e 1), Slc gw 0 m cpw], 66, (0, 0)⟩, ⟨nb2, [Slc gm 0 m cpm, I64 ((e:Int))], 68, (0, 0)⟩, ⟨gw, cu8 o ++ spw, 5, (0, 0)⟩, ⟨gm, cu8 o ++ spm, 5, (0, 0)⟩, ⟨nb16, [I64 (kd), I64 ((k:Int)), U64 nn, .slice ax p cx], 70, (0, 0)⟩]
            refine DP_one ⟨[5], [0, 1, 2, 3, 4, 6, 7, 8, 9, 10], [0, 1, 2, 3, 4], [6, 7, 8, 9, 10], [11]⟩ 11 _ rfl rfl (by decide +kernel) rfl ⟨⟨_, rfl, Qok_val rfl (Ev_load rfl (Ld_agg Try.isAgg68 Try.sizeOf68 rfl (MemAt.ent 1 rfl (Seg.whole _))))⟩, ⟨_, rfl, Qok_val rfl (Ev_fieldAddr 2 44 1 Try.underlying70 rfl Try.sizeOf44 rfl rfl)⟩, ⟨_, rfl, Qok_val rfl (Ev_load rfl (Ld_one Try.isAgg44 (MemAt.ent 4 rfl (Seg.tail (Seg.tail (Seg.head))))))⟩, ⟨_, rfl, Qok_val rfl (Ev_fieldAddr 1 3 1 Try.underlying70 rfl Try.sizeOf3 rfl rfl)⟩, ⟨_, rfl, Qok_val rfl (Ev_load rfl (Ld_one Try.isAgg3 (MemAt.ent 4 rfl (Seg.tail (Seg.head)))))⟩, trivial⟩ rfl (Cok_step rfl (Step_callP 41 [.agg (List.toArray (α := Value) ([Slc gm 0 m cpm, I64 ((e:Int))])), U64 nn, I64 ((k:Int))] (.agg (List.toArray (α := Value) ([Slc gm 0 m cpm, I64 ((erN e 1:Int))]))) (Cl_func [.agg (List.toArray (α := Value) ([Slc gm 0 m cpm, I64 ((e:Int))])), U64 nn, I64 ((k:Int))] Try.call41 rfl) (fun w1 hw1 => rnumB2_c (some ⟨gm, 0, none⟩) m cpm e nn k w1 hsz hx))) ?_
            rintro v1 L1 ⟨rfl, rfl⟩
            refine ⟨[(12, Ptr nb1 0)], ?_⟩
            show DP _ _ _ _ _ _ _ _ [⟨nb1, [errV 36 (erN e 1), Slc gw 0 m cpw], 66, (0, 0)⟩, ⟨nb2, [Slc gm 0 m cpm, I64 ((e:Int))], 68, (0, 0)⟩, ⟨gw, cu8 o ++ spw, 5, (0, 0)⟩, ⟨gm, cu8 o ++ spm, 5, (0, 0)⟩, ⟨nb16, [I64 (kd), I64 ((k:Int)), U64 nn, .slice ax p cx], 70, (0, 0)⟩]
            refine DP_one ⟨[5, 11], [0, 1, 2, 3, 4, 6, 7, 8, 9, 10, 12], [0, 1, 2, 3, 4, 6, 7, 8, 9, 10], [12], [13]⟩ 13 _ rfl rfl (by decide +kernel) rfl ⟨⟨_, rfl, Qok_val rfl (Ev_assign rfl)⟩, trivial⟩ rfl (Cok_step rfl (Step_store 1 nb2 0 2 ([Slc gm 0 m cpm, I64 ((e:Int))]) 68 (.agg (List.toArray (α := Value) ([Slc gm 0 m cpm, I64 ((erN e 1:Int))]))) ([Slc gm 0 m cpm, I64 ((erN e 1:Int))]) ([Slc gm 0 m cpm, I64 ((erN e 1:Int))]) rfl rfl rfl (by first | rfl | simp) Try.sizeOf68 rfl (by simp [Value.oneCell']) (Nat.le_of_ble_eq_true rfl) (lay_whole (by simp [])))) ?_
            rintro v1 L1 ⟨rfl, rfl⟩
            refine ⟨[], ?_⟩
            show DP _ _ _ _ _ _ _ _ [⟨nb1, [errV 36 (erN e 1), Slc gw 0 m cpw], 66, (0, 0)⟩, ⟨nb2, [Slc gm 0 m cpm, I64 ((erN e 1:Int))], 68, (0, 0)⟩, ⟨gw, cu8 o ++ spw, 5, (0, 0)⟩, ⟨gm, cu8 o ++ spm, 5, (0, 0)⟩, ⟨nb16, [I64 (kd), I64 ((k:Int)), U64 nn, .slice ax p cx], 70, (0, 0)⟩]
            refine DP_end ⟨[5, 11, 13], [0, 1, 2, 3, 4, 6, 7, 8, 9, 10, 12], [0, 1, 2, 3, 4, 6, 7, 8, 9, 10, 12], [], []⟩ rfl rfl (by decide +kernel) rfl trivial ?_
            refine K_sub (F' := [(34, Ptr nb1 0), (35, Ptr nb16 2), (36, U64 nn), (37, Ptr nb16 1), (38, I64 ((k:Int))), (39, Ptr nb1 0), (40, .agg (List.toArray (α := Value) ([Slc gm 0 m cpm, I64 ((e:Int))]))), (41, Ptr nb16 2), (42, U64 nn), (43, Ptr nb16 1), (44, I64 ((k:Int))), (45, .agg (List.toArray (α := Value) ([Slc gm 0 m cpm, I64 ((erN e 1:Int))]))), (8, Ptr nb1 0), (3, Ptr nb1 0), (4, Ptr nb2 0), (21, .slice ab n cb), (22, I64 ((n:Int))), (23, I64 ((i:Int))), (5, .pointer none), (24, .bool (decide (((i:Int)) < ((n:Int))))), (25, Ptr rowb (4*i + rowo)), (26, .agg (List.toArray (α := Value) ([I64 (kd), I64 ((k:Int)), U64 nn, .slice ax p cx]))), (7, Ptr nb16 0), (27, Ptr nb1 0), (28, Ptr nb16 0), (29, I64 (kd)), (30, U64 (u64i (kd))), (31, U64 ((u64i (kd)) % (6:UInt64))), (33, .bool (decide (((u64i (kd)) % (6:UInt64)) = (0:UInt64)))), (32, .bool (decide (((u64i (kd)) % (6:UInt64)) = (0:UInt64))))]) (Sub.cons (by kernel_rfl) (Sub.cons (by kernel_rfl) (Sub.cons (by kernel_rfl) (Sub.cons (by kernel_rfl) (Sub.cons (by kernel_rfl) (Sub.cons (by kernel_rfl) (Sub.cons (by kernel_rfl) (Sub.cons (by kernel_rfl) (Sub.cons (by kernel_rfl) (Sub.cons (by kernel_rfl) (Sub.cons (by kernel_rfl) (Sub.cons (by kernel_rfl) (Sub.cons (by kernel_rfl) (Sub.cons (by kernel_rfl) (Sub.cons (by kernel_rfl) (Sub.cons (by kernel_rfl) (Sub.cons (by kernel_rfl) (Sub.cons (by kernel_rfl) (Sub.cons (by kernel_rfl) (Sub.cons (by kernel_rfl) (Sub.cons (by kernel_rfl) (Sub.cons (by kernel_rfl) (Sub.cons (by kernel_rfl) (Sub.cons (by kernel_rfl) (Sub.cons (by kernel_rfl) (Sub.cons (by kernel_rfl) (Sub.cons (by kernel_rfl) (Sub.cons (by kernel_rfl) (Sub.cons (by kernel_rfl) (Sub.cons (by kernel_rfl) (Sub.nil))))))))))))))))))))))))))))))) ?_
            show JQ _ _ _ [(34, Ptr nb1 0), (35, Ptr nb16 2), (36, U64 nn), (37, Ptr nb16 1), (38, I64 ((k:Int))), (39, Ptr nb1 0), (40, .agg (List.toArray (α := Value) ([Slc gm 0 m cpm, I64 ((e:Int))]))), (41, Ptr nb16 2), (42, U64 nn), (43, Ptr nb16 1), (44, I64 ((k:Int))), (45, .agg (List.toArray (α := Value) ([Slc gm 0 m cpm, I64 ((erN e 1:Int))]))), (8, Ptr nb1 0), (3, Ptr nb1 0), (4, Ptr nb2 0), (21, .slice ab n cb), (22, I64 ((n:Int))), (23, I64 ((i:Int))), (5, .pointer none), (24, .bool (decide (((i:Int)) < ((n:Int))))), (25, Ptr rowb (4*i + rowo)), (26, .agg (List.toArray (α := Value) ([I64 (kd), I64 ((k:Int)), U64 nn, .slice ax p cx]))), (7, Ptr nb16 0), (27, Ptr nb1 0), (28, Ptr nb16 0), (29, I64 (kd)), (30, U64 (u64i (kd))), (31, U64 ((u64i (kd)) % (6:UInt64))), (33, .bool (decide (((u64i (kd)) % (6:UInt64)) = (0:UInt64)))), (32, .bool (decide (((u64i (kd)) % (6:UInt64)) = (0:UInt64))))] _
            refine JQ_then ?_
            refine JC_region ?_
            refine JL_val _ (Ev_move rfl) rfl ?_
            refine JL_val (Ptr nb16 2) (Ev_fieldAddr 2 44 1 Try.underlying70 rfl Try.sizeOf44 rfl rfl) rfl ?_
            refine JL_val (U64 nn) (Ev_load rfl (Ld_one Try.isAgg44 (MemAt.ent 4 rfl (Seg.tail (Seg.tail (Seg.head)))))) rfl ?_
            refine JL_val (Ptr nb16 1) (Ev_fieldAddr 1 3 1 Try.underlying70 rfl Try.sizeOf3 rfl rfl) rfl ?_
            refine JL_val (I64 ((k:Int))) (Ev_load rfl (Ld_one Try.isAgg3 (MemAt.ent 4 rfl (Seg.tail (Seg.head))))) rfl ?_
            refine JL_step (Step_callP 40 [.pointer none, U64 nn, I64 ((k:Int))] (.pointer none) (Cl_func [.pointer none, U64 nn, I64 ((k:Int))] Try.call40 rfl) (fun w1 _ => numNil_c nn ((k:Int)) w1)) rfl ?_
            rintro v1 L1 ⟨rfl, rfl⟩
            show JL _ _ _ _ ((51, .pointer none) :: _) [⟨nb1, [errV 36 (erN e 1), Slc gw 0 m cpw], 66, (0, 0)⟩, ⟨nb2, [Slc gm 0 m cpm, I64 ((erN e 1:Int))], 68, (0, 0)⟩, ⟨gw, cu8 o ++ spw, 5, (0, 0)⟩, ⟨gm, cu8 o ++ spm, 5, (0, 0)⟩, ⟨nb16, [I64 (kd), I64 ((k:Int)), U64 nn, .slice ax p cx], 70, (0, 0)⟩]
            refine JL_val _ (Ev_assign rfl) rfl ?_
            refine JL_nil ?_
            refine JQ_in_normal ?_
            refine JQ_then ?_
            refine JC_seq ?_
            refine JC_region ?_
            refine JL_val _ (Ev_move rfl) rfl ?_
            refine JL_val _ (Ev_move rfl) rfl ?_
            refine JL_val (.bool false) (Ev_bin _ _ _ rfl rfl (fun _ => eqGuard_ptr ..) fun w => neq_ptr_same Try.underlying62 (Try.sizeOf66 w) (by decide)) rfl ?_
            refine JL_val _ (Ev_move rfl) rfl ?_
            refine JL_gval 3 117 false _ _ rfl rfl rfl (Ev_move rfl) rfl ?_
            refine JL_gval 3 117 false _ (.bool false) rfl rfl rfl (Ev_bin _ _ _ rfl rfl (fun _ => eqGuard_ptr ..) fun _ => neq_ptr_nil_nil Try.underlying62) rfl ?_
            refine JL_val _ (Ev_pickF _ rfl rfl rfl) rfl ?_
            refine JL_nil ?_
            refine JQ_then ?_
            refine JC_condF _ rfl rfl ?_
            refine JC_skip ?_
            refine JQ_in_normal ?_
            refine JQ_then ?_
            refine JC_region ?_
            refine JL_val (I64 ((i:Int) + 1)) (Ev_bini rfl rfl fun _ => bin_add_i _ _ ((i:Int) + 1) (by omega) (by omega)) rfl ?_
            refine JL_val _ (Ev_move rfl) rfl ?_
            refine JL_nil ?_
            refine JQ_thenK ?_
            refine K_mask [true, true, true, true, false] ?_
            show K _ _ [⟨nb1, [errV 36 (erN e 1), Slc gw 0 m cpw], 66, (0, 0)⟩, ⟨nb2, [Slc gm 0 m cpm, I64 ((erN e 1:Int))], 68, (0, 0)⟩, ⟨gw, cu8 o ++ spw, 5, (0, 0)⟩, ⟨gm, cu8 o ++ spm, 5, (0, 0)⟩] _
            refine K_next (.inr (i + 1, (erN e 1), o, m, gw, spw, cpw, gm, spm, cpm)) ⟨by omega, ho, by rw [hsum]; omega, (by have := hy1; omega), (by omega), hy3, (by have := hj1; omega), (by omega), hj3⟩ (by first | (simp; omega) | simp | (dsimp only; omega) | omega) (Sub.cons rfl (Sub.cons rfl (Sub.cons rfl (Sub.cons rfl (Sub.cons rfl (Sub.cons rfl (Sub.nil))))))) rfl
        ·
          refine JC_draw 161 4 [(0, Ptr nb1 0), (1, Ptr nb16 2), (2, U64 nn), (3, Ptr nb16 1), (4, I64 (s)), (6, .agg (List.toArray (α := Value) ([Slc gm 0 m cpm, I64 ((e:Int))]))), (7, Ptr nb16 2), (8, U64 nn), (9, Ptr nb16 1), (10, I64 (s))] Try.mixed rfl (by decide +kernel) ?_
          refine DP_one ⟨[], [0, 1, 2, 3, 4, 6, 7, 8, 9, 10], [], [0, 1, 2, 3, 4, 6, 7, 8, 9, 10], [5]⟩ 5 _ rfl rfl (by decide +kernel) rfl ⟨⟨_, rfl, Qok_val rfl (Ev_move rfl)⟩, ⟨_, rfl, Qok_val rfl (Ev_fieldAddr 2 44 1 Try.underlying70 rfl Try.sizeOf44 rfl rfl)⟩, ⟨_, rfl, Qok_val rfl (Ev_load rfl (Ld_one Try.isAgg44 (MemAt.ent 4 rfl (Seg.tail (Seg.tail (Seg.head))))))⟩, ⟨_, rfl, Qok_val rfl (Ev_fieldAddr 1 3 1 Try.underlying70 rfl Try.sizeOf3 rfl rfl)⟩, ⟨_, rfl, Qok_val rfl (Ev_load rfl (Ld_one Try.isAgg3 (MemAt.ent 4 rfl (Seg.tail (Seg.head)))))⟩, ⟨_, rfl, Qok_val rfl (Ev_load rfl (Ld_agg Try.isAgg68 Try.sizeOf68 rfl (MemAt.ent 1 rfl (Seg.whole _))))⟩, ⟨_, rfl, Qok_val rfl (Ev_fieldAddr 2 44 1 Try.underlying70 rfl Try.sizeOf44 rfl rfl)⟩, ⟨_, rfl, Qok_val rfl (Ev_load rfl (Ld_one Try.isAgg44 (MemAt.ent 4 rfl (Seg.tail (Seg.tail (Seg.head))))))⟩, ⟨_, rfl, Qok_val rfl (Ev_fieldAddr 1 3 1 Try.underlying70 rfl Try.sizeOf3 rfl rfl)⟩, ⟨_, rfl, Qok_val rfl (Ev_load rfl (Ld_one Try.isAgg3 (MemAt.ent 4 rfl (Seg.tail (Seg.head)))))⟩, trivial⟩ rfl (Cok_step rfl (Step_callW 40 [Ptr nb1 0, U64 nn, I64 (s)] 0 ⟨nb1, [errV 36 e, Slc gw 0 m cpw], 66, (0, 0)⟩ _ (fun v e' l' => v = Ptr nb1 0 ∧ e' = ⟨nb1, [errV 36 (erN e 1), Slc gw 0 m cpw], 66, (0, 0)⟩ ∧ l' = []) (Cl_func [Ptr nb1 0, U64 nn, I64 (s)] Try.call40 rfl) rfl (by rintro v l ⟨rfl, rfl⟩; exact ⟨_, _, rfl, rfl, rfl, rfl, rfl⟩) (fun w1 hw1 => numB1_c nb1 e (Slc gw 0 m cpw) nn s w1 (hw1.ent _ (List.mem_of_getElem? (i := 0) rfl)) hsz))) ?_
          rintro v1 L1 ⟨_, _, ⟨rfl, rfl, rfl⟩, rfl⟩
          refine ⟨[], ?_⟩
          show DP _ _ _ _ _ _ _ _ [⟨nb1, [errV 36 (erN e 1), Slc gw 0 m cpw], 66, (0, 0)⟩, ⟨nb2, [Slc gm 0 m cpm, I64 ((e:Int))], 68, (0, 0)⟩, ⟨gw, cu8 o ++ spw, 5, (0, 0)⟩, ⟨gm, cu8 o ++ spm, 5, (0, 0)⟩, ⟨nb16, [I64 (kd), I64 (s), U64 nn, .slice ax p cx], 70, (0, 0)⟩]
          refine DP_one ⟨[5], [0, 1, 2, 3, 4, 6, 7, 8, 9, 10], [0, 1, 2, 3, 4], [6, 7, 8, 9, 10], [11]⟩ 11 _ rfl rfl (by decide +kernel) rfl ⟨⟨_, rfl, Qok_val rfl (Ev_load rfl (Ld_agg Try.isAgg68 Try.sizeOf68 rfl (MemAt.ent 1 rfl (Seg.whole _))))⟩, ⟨_, rfl, Qok_val rfl (Ev_fieldAddr 2 44 1 Try.underlying70 rfl Try.sizeOf44 rfl rfl)⟩, ⟨_, rfl, Qok_val rfl (Ev_load rfl (Ld_one Try.isAgg44 (MemAt.ent 4 rfl (Seg.tail (Seg.tail (Seg.head))))))⟩, ⟨_, rfl, Qok_val rfl (Ev_fieldAddr 1 3 1 Try.underlying70 rfl Try.sizeOf3 rfl rfl)⟩, ⟨_, rfl, Qok_val rfl (Ev_load rfl (Ld_one Try.isAgg3 (MemAt.ent 4 rfl (Seg.tail (Seg.head)))))⟩, trivial⟩ rfl (Cok_step rfl (Step_callP 41 [.agg (List.toArray (α := Value) ([Slc gm 0 m cpm, I64 ((e:Int))])), U64 nn, I64 (s)] (.agg (List.toArray (α := Value) ([Slc gm 0 m cpm, I64 ((erN e 1:Int))]))) (Cl_func [.agg (List.toArray (α := Value) ([Slc gm 0 m cpm, I64 ((e:Int))])), U64 nn, I64 (s)] Try.call41 rfl) (fun w1 hw1 => rnumB1_c (some ⟨gm, 0, none⟩) m cpm e nn s w1 hsz))) ?_
          rintro v1 L1 ⟨rfl, rfl⟩
          refine ⟨[(12, Ptr nb1 0)], ?_⟩
          show DP _ _ _ _ _ _ _ _ [⟨nb1, [errV 36 (erN e 1), Slc gw 0 m cpw], 66, (0, 0)⟩, ⟨nb2, [Slc gm 0 m cpm, I64 ((e:Int))], 68, (0, 0)⟩, ⟨gw, cu8 o ++ spw, 5, (0, 0)⟩, ⟨gm, cu8 o ++ spm, 5, (0, 0)⟩, ⟨nb16, [I64 (kd), I64 (s), U64 nn, .slice ax p cx], 70, (0, 0)⟩]
          refine DP_one ⟨[5, 11], [0, 1, 2, 3, 4, 6, 7, 8, 9, 10, 12], [0, 1, 2, 3, 4, 6, 7, 8, 9, 10], [12], [13]⟩ 13 _ rfl rfl (by decide +kernel) rfl ⟨⟨_, rfl, Qok_val rfl (Ev_assign rfl)⟩, trivial⟩ rfl (Cok_step rfl (Step_store 1 nb2 0 2 ([Slc gm 0 m cpm, I64 ((e:Int))]) 68 (.agg (List.toArray (α := Value) ([Slc gm 0 m cpm, I64 ((erN e 1:Int))]))) ([Slc gm 0 m cpm, I64 ((erN e 1:Int))]) ([Slc gm 0 m cpm, I64 ((erN e 1:Int))]) rfl rfl rfl (by first | rfl | simp) Try.sizeOf68 rfl (by simp [Value.oneCell']) (Nat.le_of_ble_eq_true rfl) (lay_whole (by simp [])))) ?_
          rintro v1 L1 ⟨rfl, rfl⟩
          refine ⟨[], ?_⟩
          show DP _ _ _ _ _ _ _ _ [⟨nb1, [errV 36 (erN e 1), Slc gw 0 m cpw], 66, (0, 0)⟩, ⟨nb2, [Slc gm 0 m cpm, I64 ((erN e 1:Int))], 68, (0, 0)⟩, ⟨gw, cu8 o ++ spw, 5, (0, 0)⟩, ⟨gm, cu8 o ++ spm, 5, (0, 0)⟩, ⟨nb16, [I64 (kd), I64 (s), U64 nn, .slice ax p cx], 70, (0, 0)⟩]
          refine DP_end ⟨[5, 11, 13], [0, 1, 2, 3, 4, 6, 7, 8, 9, 10, 12], [0, 1, 2, 3, 4, 6, 7, 8, 9, 10, 12], [], []⟩ rfl rfl (by decide +kernel) rfl trivial ?_
          refine K_sub (F' := [(34, Ptr nb1 0), (35, Ptr nb16 2), (36, U64 nn), (37, Ptr nb16 1), (38, I64 (s)), (39, Ptr nb1 0), (40, .agg (List.toArray (α := Value) ([Slc gm 0 m cpm, I64 ((e:Int))]))), (41, Ptr nb16 2), (42, U64 nn), (43, Ptr nb16 1), (44, I64 (s)), (45, .agg (List.toArray (α := Value) ([Slc gm 0 m cpm, I64 ((erN e 1:Int))]))), (8, Ptr nb1 0), (3, Ptr nb1 0), (4, Ptr nb2 0), (21, .slice ab n cb), (22, I64 ((n:Int))), (23, I64 ((i:Int))), (5, .pointer none), (24, .bool (decide (((i:Int)) < ((n:Int))))), (25, Ptr rowb (4*i + rowo)), (26, .agg (List.toArray (α := Value) ([I64 (kd), I64 (s), U64 nn, .slice ax p cx]))), (7, Ptr nb16 0), (27, Ptr nb1 0), (28, Ptr nb16 0), (29, I64 (kd)), (30, U64 (u64i (kd))), (31, U64 ((u64i (kd)) % (6:UInt64))), (33, .bool (decide (((u64i (kd)) % (6:UInt64)) = (0:UInt64)))), (32, .bool (decide (((u64i (kd)) % (6:UInt64)) = (0:UInt64))))]) (Sub.cons (by kernel_rfl) (Sub.cons (by kernel_rfl) (Sub.cons (by kernel_rfl) (Sub.cons (by kernel_rfl) (Sub.cons (by kernel_rfl) (Sub.cons (by kernel_rfl) (Sub.cons (by kernel_rfl) (Sub.cons (by kernel_rfl) (Sub.cons (by kernel_rfl) (Sub.cons (by kernel_rfl) (Sub.cons (by kernel_rfl) (Sub.cons (by kernel_rfl) (Sub.cons (by kernel_rfl) (Sub.cons (by kernel_rfl) (Sub.cons (by kernel_rfl) (Sub.cons (by kernel_rfl) (Sub.cons (by kernel_rfl) (Sub.cons (by kernel_rfl) (Sub.cons (by kernel_rfl) (Sub.cons (by kernel_rfl) (Sub.cons (by kernel_rfl) (Sub.cons (by kernel_rfl) (Sub.cons (by kernel_rfl) (Sub.cons (by kernel_rfl) (Sub.cons (by kernel_rfl) (Sub.cons (by kernel_rfl) (Sub.cons (by kernel_rfl) (Sub.cons (by kernel_rfl) (Sub.cons (by kernel_rfl) (Sub.cons (by kernel_rfl) (Sub.nil))))))))))))))))))))))))))))))) ?_
          show JQ _ _ _ [(34, Ptr nb1 0), (35, Ptr nb16 2), (36, U64 nn), (37, Ptr nb16 1), (38, I64 (s)), (39, Ptr nb1 0), (40, .agg (List.toArray (α := Value) ([Slc gm 0 m cpm, I64 ((e:Int))]))), (41, Ptr nb16 2), (42, U64 nn), (43, Ptr nb16 1), (44, I64 (s)), (45, .agg (List.toArray (α := Value) ([Slc gm 0 m cpm, I64 ((erN e 1:Int))]))), (8, Ptr nb1 0), (3, Ptr nb1 0), (4, Ptr nb2 0), (21, .slice ab n cb), (22, I64 ((n:Int))), (23, I64 ((i:Int))), (5, .pointer none), (24, .bool (decide (((i:Int)) < ((n:Int))))), (25, Ptr rowb (4*i + rowo)), (26, .agg (List.toArray (α := Value) ([I64 (kd), I64 (s), U64 nn, .slice ax p cx]))), (7, Ptr nb16 0), (27, Ptr nb1 0), (28, Ptr nb16 0), (29, I64 (kd)), (30, U64 (u64i (kd))), (31, U64 ((u64i (kd)) % (6:UInt64))), (33, .bool (decide (((u64i (kd)) % (6:UInt64)) = (0:UInt64)))), (32, .bool (decide (((u64i (kd)) % (6:UInt64)) = (0:UInt64))))] _
          refine JQ_then ?_
          refine JC_region ?_
          refine JL_val _ (Ev_move rfl) rfl ?_
          refine JL_val (Ptr nb16 2) (Ev_fieldAddr 2 44 1 Try.underlying70 rfl Try.sizeOf44 rfl rfl) rfl ?_
          refine JL_val (U64 nn) (Ev_load rfl (Ld_one Try.isAgg44 (MemAt.ent 4 rfl (Seg.tail (Seg.tail (Seg.head)))))) rfl ?_
          refine JL_val (Ptr nb16 1) (Ev_fieldAddr 1 3 1 Try.underlying70 rfl Try.sizeOf3 rfl rfl) rfl ?_
          refine JL_val (I64 (s)) (Ev_load rfl (Ld_one Try.isAgg3 (MemAt.ent 4 rfl (Seg.tail (Seg.head))))) rfl ?_
          refine JL_step (Step_callP 40 [.pointer none, U64 nn, I64 (s)] (.pointer none) (Cl_func [.pointer none, U64 nn, I64 (s)] Try.call40 rfl) (fun w1 _ => numNil_c nn (s) w1)) rfl ?_
          rintro v1 L1 ⟨rfl, rfl⟩
          show JL _ _ _ _ ((51, .pointer none) :: _) [⟨nb1, [errV 36 (erN e 1), Slc gw 0 m cpw], 66, (0, 0)⟩, ⟨nb2, [Slc gm 0 m cpm, I64 ((erN e 1:Int))], 68, (0, 0)⟩, ⟨gw, cu8 o ++ spw, 5, (0, 0)⟩, ⟨gm, cu8 o ++ spm, 5, (0, 0)⟩, ⟨nb16, [I64 (kd), I64 (s), U64 nn, .slice ax p cx], 70, (0, 0)⟩]
          refine JL_val _ (Ev_assign rfl) rfl ?_
          refine JL_nil ?_
          refine JQ_in_normal ?_
          refine JQ_then ?_
          refine JC_seq ?_
          refine JC_region ?_
          refine JL_val _ (Ev_move rfl) rfl ?_
          refine JL_val _ (Ev_move rfl) rfl ?_
          refine JL_val (.bool false) (Ev_bin _ _ _ rfl rfl (fun _ => eqGuard_ptr ..) fun w => neq_ptr_same Try.underlying62 (Try.sizeOf66 w) (by decide)) rfl ?_
          refine JL_val _ (Ev_move rfl) rfl ?_
          refine JL_gval 3 117 false _ _ rfl rfl rfl (Ev_move rfl) rfl ?_
          refine JL_gval 3 117 false _ (.bool false) rfl rfl rfl (Ev_bin _ _ _ rfl rfl (fun _ => eqGuard_ptr ..) fun _ => neq_ptr_nil_nil Try.underlying62) rfl ?_
          refine JL_val _ (Ev_pickF _ rfl rfl rfl) rfl ?_
          refine JL_nil ?_
          refine JQ_then ?_
          refine JC_condF _ rfl rfl ?_
          refine JC_skip ?_
          refine JQ_in_normal ?_
          refine JQ_then ?_
          refine JC_region ?_
          refine JL_val (I64 ((i:Int) + 1)) (Ev_bini rfl rfl fun _ => bin_add_i _ _ ((i:Int) + 1) (by omega) (by omega)) rfl ?_
          refine JL_val _ (Ev_move rfl) rfl ?_
          refine JL_nil ?_
          refine JQ_thenK ?_
          refine K_mask [true, true, true, true, false] ?_
          show K _ _ [⟨nb1, [errV 36 (erN e 1), Slc gw 0 m cpw], 66, (0, 0)⟩, ⟨nb2, [Slc gm 0 m cpm, I64 ((erN e 1:Int))], 68, (0, 0)⟩, ⟨gw, cu8 o ++ spw, 5, (0, 0)⟩, ⟨gm, cu8 o ++ spm, 5, (0, 0)⟩] _
          refine K_next (.inr (i + 1, (erN e 1), o, m, gw, spw, cpw, gm, spm, cpm)) ⟨by omega, ho, by rw [hsum]; omega, (by have := hy1; omega), (by omega), hy3, (by have := hj1; omega), (by omega), hj3⟩ (by first | (simp; omega) | simp | (dsimp only; omega) | omega) (Sub.cons rfl (Sub.cons rfl (Sub.cons rfl (Sub.cons rfl (Sub.cons rfl (Sub.cons rfl (Sub.nil))))))) rfl
      ·
        have hp10 : ¬ (((u64i (kd)) % (6:UInt64)) = (0:UInt64)) := of_decide_eq_false hb10
        refine JC_seq ?_
        refine JC_region ?_
        refine JL_val (.bool (decide (((u64i (kd)) % (6:UInt64)) = (1:UInt64)))) (Ev_bini rfl rfl fun _ => bin_eql_u64 ((u64i (kd)) % (6:UInt64)) (1:UInt64)) rfl ?_
        refine JL_val _ (Ev_assign rfl) rfl ?_
        refine JL_nil ?_
        refine JQ_then ?_
        refine JC_cond (decide (((u64i (kd)) % (6:UInt64)) = (1:UInt64))) rfl (fun hb11 => ?_) (fun hb11 => ?_)
        ·
          have hp11 : ((u64i (kd)) % (6:UInt64)) = (1:UInt64) := of_decide_eq_true hb11
          refine JC_seq ?_
          by_cases hple : p ≤ 65535
          ·
            refine JC_draw 161 4 [(0, Ptr nb1 0), (1, Ptr nb16 3), (2, .slice ax p cx), (4, .agg (List.toArray (α := Value) ([Slc gm 0 m cpm, I64 ((e:Int))]))), (5, Ptr nb16 3), (6, .slice ax p cx)] Try.mixed rfl (by decide +kernel) ?_
            refine DP_one ⟨[], [0, 1, 2, 4, 5, 6], [], [0, 1, 2, 4, 5, 6], [3]⟩ 3 _ rfl rfl (by decide +kernel) rfl ⟨⟨_, rfl, Qok_val rfl (Ev_move rfl)⟩, ⟨_, rfl, Qok_val rfl (Ev_fieldAddr 3 38 1 Try.underlying70 rfl Try.sizeOf38 rfl rfl)⟩, ⟨_, rfl, Qok_val rfl (Ev_load rfl (Ld_one Try.isAgg38 (MemAt.ent 4 rfl (Seg.tail (Seg.tail (Seg.tail (Seg.head)))))))⟩, ⟨_, rfl, Qok_val rfl (Ev_load rfl (Ld_agg Try.isAgg68 Try.sizeOf68 rfl (MemAt.ent 1 rfl (Seg.whole _))))⟩, ⟨_, rfl, Qok_val rfl (Ev_fieldAddr 3 38 1 Try.underlying70 rfl Try.sizeOf38 rfl rfl)⟩, ⟨_, rfl, Qok_val rfl (Ev_load rfl (Ld_one Try.isAgg38 (MemAt.ent 4 rfl (Seg.tail (Seg.tail (Seg.tail (Seg.head)))))))⟩, trivial⟩ rfl (Cok_step rfl (Step_call 42 _ [true, false, true, false, false] [nb1, gw] _ (Cl_func [Ptr nb1 0, .slice ax p cx] Try.call42 rfl) rfl (fun w1 hw1 => bytesO_c nb1 gw m cpw (m + p + 2) (errV 36 e) o spw ax p cx z w1 (hw1.ent _ (List.mem_of_getElem? (i := 0) rfl)) (hw1.ent _ (List.mem_of_getElem? (i := 2) rfl)) (hw1.ne (i := 0) (j := 2) rfl rfl (by decide)) ho hy1 hy2 hy3 (by omega) hz (hr.at (M' := [nb1, gw]) hw1 (hw1.apart [0, 2] _ rfl)) (by omega) (by omega)))) ?_
            rintro v1 L1 ⟨_, ⟨rfl, nb19, sp14, cp14, rfl, hc40, hc41, hc42⟩, rfl⟩
            refine ⟨[], ?_⟩
            show DP _ _ _ _ _ _ _ _ [⟨nb2, [Slc gm 0 m cpm, I64 ((e:Int))], 68, (0, 0)⟩, ⟨gm, cu8 o ++ spm, 5, (0, 0)⟩, ⟨nb16, [I64 (kd), I64 (s), U64 nn, .slice ax p cx], 70, (0, 0)⟩, ⟨nb1, [errV 36 e, Slc nb19 0 (m + p + 2) cp14], 66, (0, 0)⟩, ⟨nb19, cu8 ((o ++ numK 2 (UInt64.ofNat p) 2) ++ z) ++ sp14, 5, (0, 0)⟩]
            refine DP_one ⟨[3], [0, 1, 2, 4, 5, 6], [0, 1, 2], [4, 5, 6], [7]⟩ 7 _ rfl rfl (by decide +kernel) rfl ⟨⟨_, rfl, Qok_val rfl (Ev_load rfl (Ld_agg Try.isAgg68 Try.sizeOf68 rfl (MemAt.ent 0 rfl (Seg.whole _))))⟩, ⟨_, rfl, Qok_val rfl (Ev_fieldAddr 3 38 1 Try.underlying70 rfl Try.sizeOf38 rfl rfl)⟩, ⟨_, rfl, Qok_val rfl (Ev_load rfl (Ld_one Try.isAgg38 (MemAt.ent 2 rfl (Seg.tail (Seg.tail (Seg.tail (Seg.head)))))))⟩, trivial⟩ rfl (Cok_step rfl (Step_callN 43 [.agg (List.toArray (α := Value) ([Slc gm 0 m cpm, I64 ((e:Int))])), .slice ax p cx] _ (Cl_func [.agg (List.toArray (α := Value) ([Slc gm 0 m cpm, I64 ((e:Int))])), .slice ax p cx] Try.call43 rfl) (fun w1 hw1 => rbytesOk_c (some ⟨gm, 0, none⟩) m cpm o ((e:Int)) ax p cx z (m + p + 2) w1 ho (by omega) (RdB.of hw1 (MemAt.ent 1 rfl (Seg.left (Seg.whole _))) (by simp)) hz (by omega) (hr.at (M' := []) hw1 (by simp)) (by omega)))) ?_
            rintro v1 L1 ⟨_, ⟨nb20, sp15, cp15, rfl, rfl, hc43, hc44, hc45⟩, rfl⟩
            refine ⟨[(8, Ptr nb1 0)], ?_⟩
            show DP _ _ _ _ _ _ _ _ [⟨nb2, [Slc gm 0 m cpm, I64 ((e:Int))], 68, (0, 0)⟩, ⟨gm, cu8 o ++ spm, 5, (0, 0)⟩, ⟨nb16, [I64 (kd), I64 (s), U64 nn, .slice ax p cx], 70, (0, 0)⟩, ⟨nb1, [errV 36 e, Slc nb19 0 (m + p + 2) cp14], 66, (0, 0)⟩, ⟨nb19, cu8 ((o ++ numK 2 (UInt64.ofNat p) 2) ++ z) ++ sp14, 5, (0, 0)⟩, ⟨nb20, cu8 ((o ++ numK 2 (UInt64.ofNat p) 2) ++ z) ++ sp15, 5, (0, 0)⟩]
            refine DP_one ⟨[3, 7], [0, 1, 2, 4, 5, 6, 8], [0, 1, 2, 4, 5, 6], [8], [9]⟩ 9 _ rfl rfl (by decide +kernel) rfl ⟨⟨_, rfl, Qok_val rfl (Ev_assign rfl)⟩, trivial⟩ rfl (Cok_step rfl (Step_store 0 nb2 0 2 ([Slc gm 0 m cpm, I64 ((e:Int))]) 68 (.agg (List.toArray (α := Value) ([Slc nb20 0 (m + p + 2) cp15, I64 ((e:Int))]))) ([Slc nb20 0 (m + p + 2) cp15, I64 ((e:Int))]) ([Slc nb20 0 (m + p + 2) cp15, I64 ((e:Int))]) rfl rfl rfl (by first | rfl | simp) Try.sizeOf68 rfl (by simp [Value.oneCell']) (Nat.le_of_ble_eq_true rfl) (lay_whole (by simp [])))) ?_
            rintro v1 L1 ⟨rfl, rfl⟩
            refine ⟨[], ?_⟩
            show DP _ _ _ _ _ _ _ _ [⟨nb2, [Slc nb20 0 (m + p + 2) cp15, I64 ((e:Int))], 68, (0, 0)⟩, ⟨gm, cu8 o ++ spm, 5, (0, 0)⟩, ⟨nb16, [I64 (kd), I64 (s), U64 nn, .slice ax p cx], 70, (0, 0)⟩, ⟨nb1, [errV 36 e, Slc nb19 0 (m + p + 2) cp14], 66, (0, 0)⟩, ⟨nb19, cu8 ((o ++ numK 2 (UInt64.ofNat p) 2) ++ z) ++ sp14, 5, (0, 0)⟩, ⟨nb20, cu8 ((o ++ numK 2 (UInt64.ofNat p) 2) ++ z) ++ sp15, 5, (0, 0)⟩]
            refine DP_end ⟨[3, 7, 9], [0, 1, 2, 4, 5, 6, 8], [0, 1, 2, 4, 5, 6, 8], [], []⟩ rfl rfl (by decide +kernel) rfl trivial ?_
            refine K_sub (F' := [(54, Ptr nb1 0), (55, Ptr nb16 3), (56, .slice ax p cx), (57, Ptr nb1 0), (58, .agg (List.toArray (α := Value) ([Slc gm 0 m cpm, I64 ((e:Int))]))), (59, Ptr nb16 3), (60, .slice ax p cx), (61, .agg (List.toArray (α := Value) ([Slc nb20 0 (m + p + 2) cp15, I64 ((e:Int))]))), (8, Ptr nb1 0), (3, Ptr nb1 0), (4, Ptr nb2 0), (21, .slice ab n cb), (22, I64 ((n:Int))), (23, I64 ((i:Int))), (5, .pointer none), (24, .bool (decide (((i:Int)) < ((n:Int))))), (25, Ptr rowb (4*i + rowo)), (26, .agg (List.toArray (α := Value) ([I64 (kd), I64 (s), U64 nn, .slice ax p cx]))), (7, Ptr nb16 0), (27, Ptr nb1 0), (28, Ptr nb16 0), (29, I64 (kd)), (30, U64 (u64i (kd))), (31, U64 ((u64i (kd)) % (6:UInt64))), (33, .bool (decide (((u64i (kd)) % (6:UInt64)) = (0:UInt64)))), (32, .bool (decide (((u64i (kd)) % (6:UInt64)) = (0:UInt64)))), (53, .bool (decide (((u64i (kd)) % (6:UInt64)) = (1:UInt64)))), (52, .bool (decide (((u64i (kd)) % (6:UInt64)) = (1:UInt64))))]) (Sub.cons (by kernel_rfl) (Sub.cons (by kernel_rfl) (Sub.cons (by kernel_rfl) (Sub.cons (by kernel_rfl) (Sub.cons (by kernel_rfl) (Sub.cons (by kernel_rfl) (Sub.cons (by kernel_rfl) (Sub.cons (by kernel_rfl) (Sub.cons (by kernel_rfl) (Sub.cons (by kernel_rfl) (Sub.cons (by kernel_rfl) (Sub.cons (by kernel_rfl) (Sub.cons (by kernel_rfl) (Sub.cons (by kernel_rfl) (Sub.cons (by kernel_rfl) (Sub.cons (by kernel_rfl) (Sub.cons (by kernel_rfl) (Sub.cons (by kernel_rfl) (Sub.cons (by kernel_rfl) (Sub.cons (by kernel_rfl) (Sub.cons (by kernel_rfl) (Sub.cons (by kernel_rfl) (Sub.cons (by kernel_rfl) (Sub.cons (by kernel_rfl) (Sub.cons (by kernel_rfl) (Sub.cons (by kernel_rfl) (Sub.cons (by kernel_rfl) (Sub.cons (by kernel_rfl) (Sub.nil))))))))))))))))))))))))))))) ?_
            show JQ _ _ _ [(54, Ptr nb1 0), (55, Ptr nb16 3), (56, .slice ax p cx), (57, Ptr nb1 0), (58, .agg (List.toArray (α := Value) ([Slc gm 0 m cpm, I64 ((e:Int))]))), (59, Ptr nb16 3), (60, .slice ax p cx), (61, .agg (List.toArray (α := Value) ([Slc nb20 0 (m + p + 2) cp15, I64 ((e:Int))]))), (8, Ptr nb1 0), (3, Ptr nb1 0), (4, Ptr nb2 0), (21, .slice ab n cb), (22, I64 ((n:Int))), (23, I64 ((i:Int))), (5, .pointer none), (24, .bool (decide (((i:Int)) < ((n:Int))))), (25, Ptr rowb (4*i + rowo)), (26, .agg (List.toArray (α := Value) ([I64 (kd), I64 (s), U64 nn, .slice ax p cx]))), (7, Ptr nb16 0), (27, Ptr nb1 0), (28, Ptr nb16 0), (29, I64 (kd)), (30, U64 (u64i (kd))), (31, U64 ((u64i (kd)) % (6:UInt64))), (33, .bool (decide (((u64i (kd)) % (6:UInt64)) = (0:UInt64)))), (32, .bool (decide (((u64i (kd)) % (6:UInt64)) = (0:UInt64)))), (53, .bool (decide (((u64i (kd)) % (6:UInt64)) = (1:UInt64)))), (52, .bool (decide (((u64i (kd)) % (6:UInt64)) = (1:UInt64))))] _
            refine JQ_then ?_
            refine JC_region ?_
            refine JL_val _ (Ev_move rfl) rfl ?_
            refine JL_val (Ptr nb16 3) (Ev_fieldAddr 3 38 1 Try.underlying70 rfl Try.sizeOf38 rfl rfl) rfl ?_
            refine JL_val (.slice ax p cx) (Ev_load rfl (Ld_one Try.isAgg38 (MemAt.ent 2 rfl (Seg.tail (Seg.tail (Seg.tail (Seg.head))))))) rfl ?_
            refine JL_step (Step_callP 42 [.pointer none, .slice ax p cx] (.pointer none) (Cl_func [.pointer none, .slice ax p cx] Try.call42 rfl) (fun w1 _ => bytesWNil_c (.slice ax p cx) w1)) rfl ?_
            rintro v1 L1 ⟨rfl, rfl⟩
            show JL _ _ _ _ ((65, .pointer none) :: _) [⟨nb2, [Slc nb20 0 (m + p + 2) cp15, I64 ((e:Int))], 68, (0, 0)⟩, ⟨gm, cu8 o ++ spm, 5, (0, 0)⟩, ⟨nb16, [I64 (kd), I64 (s), U64 nn, .slice ax p cx], 70, (0, 0)⟩, ⟨nb1, [errV 36 e, Slc nb19 0 (m + p + 2) cp14], 66, (0, 0)⟩, ⟨nb19, cu8 ((o ++ numK 2 (UInt64.ofNat p) 2) ++ z) ++ sp14, 5, (0, 0)⟩, ⟨nb20, cu8 ((o ++ numK 2 (UInt64.ofNat p) 2) ++ z) ++ sp15, 5, (0, 0)⟩]
            refine JL_val _ (Ev_assign rfl) rfl ?_
            refine JL_nil ?_
            refine JQ_in_normal ?_
            refine JQ_then ?_
            refine JC_seq ?_
            refine JC_region ?_
            refine JL_val _ (Ev_move rfl) rfl ?_
            refine JL_val _ (Ev_move rfl) rfl ?_
            refine JL_val (.bool false) (Ev_bin _ _ _ rfl rfl (fun _ => eqGuard_ptr ..) fun w => neq_ptr_same Try.underlying62 (Try.sizeOf66 w) (by decide)) rfl ?_
            refine JL_val _ (Ev_move rfl) rfl ?_
            refine JL_gval 3 117 false _ _ rfl rfl rfl (Ev_move rfl) rfl ?_
            refine JL_gval 3 117 false _ (.bool false) rfl rfl rfl (Ev_bin _ _ _ rfl rfl (fun _ => eqGuard_ptr ..) fun _ => neq_ptr_nil_nil Try.underlying62) rfl ?_
            refine JL_val _ (Ev_pickF _ rfl rfl rfl) rfl ?_
            refine JL_nil ?_
            refine JQ_then ?_
            refine JC_condF _ rfl rfl ?_
            refine JC_skip ?_
            refine JQ_in_normal ?_
            refine JQ_then ?_
            refine JC_region ?_
            refine JL_val (I64 ((i:Int) + 1)) (Ev_bini rfl rfl fun _ => bin_add_i _ _ ((i:Int) + 1) (by omega) (by omega)) rfl ?_
            refine JL_val _ (Ev_move rfl) rfl ?_
            refine JL_nil ?_
            refine JQ_thenK ?_
            refine K_mask [true, false, false, true, true, true] ?_
            show K _ _ [⟨nb2, [Slc nb20 0 (m + p + 2) cp15, I64 ((e:Int))], 68, (0, 0)⟩, ⟨nb1, [errV 36 e, Slc nb19 0 (m + p + 2) cp14], 66, (0, 0)⟩, ⟨nb19, cu8 ((o ++ numK 2 (UInt64.ofNat p) 2) ++ z) ++ sp14, 5, (0, 0)⟩, ⟨nb20, cu8 ((o ++ numK 2 (UInt64.ofNat p) 2) ++ z) ++ sp15, 5, (0, 0)⟩] _
            refine K_pick [1, 0, 2, 3] (by decide) ?_
            show K _ _ [⟨nb1, [errV 36 e, Slc nb19 0 (m + p + 2) cp14], 66, (0, 0)⟩, ⟨nb2, [Slc nb20 0 (m + p + 2) cp15, I64 ((e:Int))], 68, (0, 0)⟩, ⟨nb19, cu8 ((o ++ numK 2 (UInt64.ofNat p) 2) ++ z) ++ sp14, 5, (0, 0)⟩, ⟨nb20, cu8 ((o ++ numK 2 (UInt64.ofNat p) 2) ++ z) ++ sp15, 5, (0, 0)⟩] _
            refine K_next (.inr (i + 1, e, (o ++ numK 2 (UInt64.ofNat p) 2) ++ z, (m + p + 2), nb19, sp14, cp14, nb20, sp15, cp15)) ⟨by omega, (show ((o ++ numK 2 (UInt64.ofNat p) 2) ++ z).length = (m + p + 2) from (by rw [List.length_append, List.length_append, numK_len, ho, hz]; omega)), by rw [hsum]; omega, (by have := hc40; omega), (by omega), hc42, (by have := hc43; omega), (by omega), hc45⟩ (by first | (simp; omega) | simp | (dsimp only; omega) | omega) (Sub.cons rfl (Sub.cons rfl (Sub.cons rfl (Sub.cons rfl (Sub.cons rfl (Sub.cons rfl (Sub.nil))))))) rfl
          ·
            refine JC_draw 161 4 [(0, Ptr nb1 0), (1, Ptr nb16 3), (2, .slice ax p cx), (4, .agg (List.toArray (α := Value) ([Slc gm 0 m cpm, I64 ((e:Int))]))), (5, Ptr nb16 3), (6, .slice ax p cx)] Try.mixed rfl (by decide +kernel) ?_
            refine DP_one ⟨[], [0, 1, 2, 4, 5, 6], [], [0, 1, 2, 4, 5, 6], [3]⟩ 3 _ rfl rfl (by decide +kernel) rfl ⟨⟨_, rfl, Qok_val rfl (Ev_move rfl)⟩, ⟨_, rfl, Qok_val rfl (Ev_fieldAddr 3 38 1 Try.underlying70 rfl Try.sizeOf38 rfl rfl)⟩, ⟨_, rfl, Qok_val rfl (Ev_load rfl (Ld_one Try.isAgg38 (MemAt.ent 4 rfl (Seg.tail (Seg.tail (Seg.tail (Seg.head)))))))⟩, ⟨_, rfl, Qok_val rfl (Ev_load rfl (Ld_agg Try.isAgg68 Try.sizeOf68 rfl (MemAt.ent 1 rfl (Seg.whole _))))⟩, ⟨_, rfl, Qok_val rfl (Ev_fieldAddr 3 38 1 Try.underlying70 rfl Try.sizeOf38 rfl rfl)⟩, ⟨_, rfl, Qok_val rfl (Ev_load rfl (Ld_one Try.isAgg38 (MemAt.ent 4 rfl (Seg.tail (Seg.tail (Seg.tail (Seg.head)))))))⟩, trivial⟩ rfl (Cok_step rfl (Step_callW 42 [Ptr nb1 0, .slice ax p cx] 0 ⟨nb1, [errV 36 e, Slc gw 0 m cpw], 66, (0, 0)⟩ _ (fun v e' l' => v = Ptr nb1 0 ∧ e' = ⟨nb1, [errV 36 (erN e 3), Slc gw 0 m cpw], 66, (0, 0)⟩ ∧ l' = []) (Cl_func [Ptr nb1 0, .slice ax p cx] Try.call42 rfl) rfl (by rintro v l ⟨rfl, rfl⟩; exact ⟨_, _, rfl, rfl, rfl, rfl, rfl⟩) (fun w1 hw1 => bytesB_c nb1 e (Slc gw 0 m cpw) ax p cx w1 (hw1.ent _ (List.mem_of_getElem? (i := 0) rfl)) (by omega)))) ?_
            rintro v1 L1 ⟨_, _, ⟨rfl, rfl, rfl⟩, rfl⟩
            refine ⟨[], ?_⟩
            show DP _ _ _ _ _ _ _ _ [⟨nb1, [errV 36 (erN e 3), Slc gw 0 m cpw], 66, (0, 0)⟩, ⟨nb2, [Slc gm 0 m cpm, I64 ((e:Int))], 68, (0, 0)⟩, ⟨gw, cu8 o ++ spw, 5, (0, 0)⟩, ⟨gm, cu8 o ++ spm, 5, (0, 0)⟩, ⟨nb16, [I64 (kd), I64 (s), U64 nn, .slice ax p cx], 70, (0, 0)⟩]
            refine DP_one ⟨[3], [0, 1, 2, 4, 5, 6], [0, 1, 2], [4, 5, 6], [7]⟩ 7 _ rfl rfl (by decide +kernel) rfl ⟨⟨_, rfl, Qok_val rfl (Ev_load rfl (Ld_agg Try.isAgg68 Try.sizeOf68 rfl (MemAt.ent 1 rfl (Seg.whole _))))⟩, ⟨_, rfl, Qok_val rfl (Ev_fieldAddr 3 38 1 Try.underlying70 rfl Try.sizeOf38 rfl rfl)⟩, ⟨_, rfl, Qok_val rfl (Ev_load rfl (Ld_one Try.isAgg38 (MemAt.ent 4 rfl (Seg.tail (Seg.tail (Seg.tail (Seg.head)))))))⟩, trivial⟩ rfl (Cok_step rfl (Step_callP 43 [.agg (List.toArray (α := Value) ([Slc gm 0 m cpm, I64 ((e:Int))])), .slice ax p cx] (.agg (List.toArray (α := Value) ([Slc gm 0 m cpm, I64 ((erN e 3:Int))]))) (Cl_func [.agg (List.toArray (α := Value) ([Slc gm 0 m cpm, I64 ((e:Int))])), .slice ax p cx] Try.call43 rfl) (fun w1 hw1 => rbytesB_c (some ⟨gm, 0, none⟩) m cpm e ax p cx w1 (by omega)))) ?_
            rintro v1 L1 ⟨rfl, rfl⟩
            refine ⟨[(8, Ptr nb1 0)], ?_⟩
            show DP _ _ _ _ _ _ _ _ [⟨nb1, [errV 36 (erN e 3), Slc gw 0 m cpw], 66, (0, 0)⟩, ⟨nb2, [Slc gm 0 m cpm, I64 ((e:Int))], 68, (0, 0)⟩, ⟨gw, cu8 o ++ spw, 5, (0, 0)⟩, ⟨gm, cu8 o ++ spm, 5, (0, 0)⟩, ⟨nb16, [I64 (kd), I64 (s), U64 nn, .slice ax p cx], 70, (0, 0)⟩]
            refine DP_one ⟨[3, 7], [0, 1, 2, 4, 5, 6, 8], [0, 1, 2, 4, 5, 6], [8], [9]⟩ 9 _ rfl rfl (by decide +kernel) rfl ⟨⟨_, rfl, Qok_val rfl (Ev_assign rfl)⟩, trivial⟩ rfl (Cok_step rfl (Step_store 1 nb2 0 2 ([Slc gm 0 m cpm, I64 ((e:Int))]) 68 (.agg (List.toArray (α := Value) ([Slc gm 0 m cpm, I64 ((erN e 3:Int))]))) ([Slc gm 0 m cpm, I64 ((erN e 3:Int))]) ([Slc gm 0 m cpm, I64 ((erN e 3:Int))]) rfl rfl rfl (by first | rfl | simp) Try.sizeOf68 rfl (by simp [Value.oneCell']) (Nat.le_of_ble_eq_true rfl) (lay_whole (by simp [])))) ?_
            rintro v1 L1 ⟨rfl, rfl⟩
            refine ⟨[], ?_⟩
            show DP _ _ _ _ _ _ _ _ [⟨nb1, [errV 36 (erN e 3), Slc gw 0 m cpw], 66, (0, 0)⟩, ⟨nb2, [Slc gm 0 m cpm, I64 ((erN e 3:Int))], 68, (0, 0)⟩, ⟨gw, cu8 o ++ spw, 5, (0, 0)⟩, ⟨gm, cu8 o ++ spm, 5, (0, 0)⟩, ⟨nb16, [I64 (kd), I64 (s), U64 nn, .slice ax p cx], 70, (0, 0)⟩]
            refine DP_end ⟨[3, 7, 9], [0, 1, 2, 4, 5, 6, 8], [0, 1, 2, 4, 5, 6, 8], [], []⟩ rfl rfl (by decide +kernel) rfl trivial ?_
            refine K_sub (F' := [(54, Ptr nb1 0), (55, Ptr nb16 3), (56, .slice ax p cx), (57, Ptr nb1 0), (58, .agg (List.toArray (α := Value) ([Slc gm 0 m cpm, I64 ((e:Int))]))), (59, Ptr nb16 3), (60, .slice ax p cx), (61, .agg (List.toArray (α := Value) ([Slc gm 0 m cpm, I64 ((erN e 3:Int))]))), (8, Ptr nb1 0), (3, Ptr nb1 0), (4, Ptr nb2 0), (21, .slice ab n cb), (22, I64 ((n:Int))), (23, I64 ((i:Int))), (5, .pointer none), (24, .bool (decide (((i:Int)) < ((n:Int))))), (25, Ptr rowb (4*i + rowo)), (26, .agg (List.toArray (α := Value) ([I64 (kd), I64 (s), U64 nn, .slice ax p cx]))), (7, Ptr nb16 0), (27, Ptr nb1 0), (28, Ptr nb16 0), (29, I64 (kd)), (30, U64 (u64i (kd))), (31, U64 ((u64i (kd)) % (6:UInt64))), (33, .bool (decide (((u64i (kd)) % (6:UInt64)) = (0:UInt64)))), (32, .bool (decide (((u64i (kd)) % (6:UInt64)) = (0:UInt64)))), (53, .bool (decide (((u64i (kd)) % (6:UInt64)) = (1:UInt64)))), (52, .bool (decide (((u64i (kd)) % (6:UInt64)) = (1:UInt64))))]) (Sub.cons (by kernel_rfl) (Sub.cons (by kernel_rfl) (Sub.cons (by kernel_rfl) (Sub.cons (by kernel_rfl) (Sub.cons (by kernel_rfl) (Sub.cons (by kernel_rfl) (Sub.cons (by kernel_rfl) (Sub.cons (by kernel_rfl) (Sub.cons (by kernel_rfl) (Sub.cons (by kernel_rfl) (Sub.cons (by kernel_rfl) (Sub.cons (by kernel_rfl) (Sub.cons (by kernel_rfl) (Sub.cons (by kernel_rfl) (Sub.cons (by kernel_rfl) (Sub.cons (by kernel_rfl) (Sub.cons (by kernel_rfl) (Sub.cons (by kernel_rfl) (Sub.cons (by kernel_rfl) (Sub.cons (by kernel_rfl) (Sub.cons (by kernel_rfl) (Sub.cons (by kernel_rfl) (Sub.cons (by kernel_rfl) (Sub.cons (by kernel_rfl) (Sub.cons (by kernel_rfl) (Sub.cons (by kernel_rfl) (Sub.cons (by kernel_rfl) (Sub.cons (by kernel_rfl) (Sub.nil))))))))))))))))))))))))))))) ?_
            show JQ _ _ _ [(54, Ptr nb1 0), (55, Ptr nb16 3), (56, .slice ax p cx), (57, Ptr nb1 0), (58, .agg (List.toArray (α := Value) ([Slc gm 0 m cpm, I64 ((e:Int))]))), (59, Ptr nb16 3), (60, .slice ax p cx), (61, .agg (List.toArray (α := Value) ([Slc gm 0 m cpm, I64 ((erN e 3:Int))]))), (8, Ptr nb1 0), (3, Ptr nb1 0), (4, Ptr nb2 0), (21, .slice ab n cb), (22, I64 ((n:Int))), (23, I64 ((i:Int))), (5, .pointer none), (24, .bool (decide (((i:Int)) < ((n:Int))))), (25, Ptr rowb (4*i + rowo)), (26, .agg (List.toArray (α := Value) ([I64 (kd), I64 (s), U64 nn, .slice ax p cx]))), (7, Ptr nb16 0), (27, Ptr nb1 0), (28, Ptr nb16 0), (29, I64 (kd)), (30, U64 (u64i (kd))), (31, U64 ((u64i (kd)) % (6:UInt64))), (33, .bool (decide (((u64i (kd)) % (6:UInt64)) = (0:UInt64)))), (32, .bool (decide (((u64i (kd)) % (6:UInt64)) = (0:UInt64)))), (53, .bool (decide (((u64i (kd)) % (6:UInt64)) = (1:UInt64)))), (52, .bool (decide (((u64i (kd)) % (6:UInt64)) = (1:UInt64))))] _
            refine JQ_then ?_
            refine JC_region ?_
            refine JL_val _ (Ev_move rfl) rfl ?_
            refine JL_val (Ptr nb16 3) (Ev_fieldAddr 3 38 1 Try.underlying70 rfl Try.sizeOf38 rfl rfl) rfl ?_
            refine JL_val (.slice ax p cx) (Ev_load rfl (Ld_one Try.isAgg38 (MemAt.ent 4 rfl (Seg.tail (Seg.tail (Seg.tail (Seg.head))))))) rfl ?_
            refine JL_step (Step_callP 42 [.pointer none, .slice ax p cx] (.pointer none) (Cl_func [.pointer none, .slice ax p cx] Try.call42 rfl) (fun w1 _ => bytesWNil_c (.slice ax p cx) w1)) rfl ?_
            rintro v1 L1 ⟨rfl, rfl⟩
            show JL _ _ _ _ ((65, .pointer none) :: _) [⟨nb1, [errV 36 (erN e 3), Slc gw 0 m cpw], 66, (0, 0)⟩, ⟨nb2, [Slc gm 0 m cpm, I64 ((erN e 3:Int))], 68, (0, 0)⟩, ⟨gw, cu8 o ++ spw, 5, (0, 0)⟩, ⟨gm, cu8 o ++ spm, 5, (0, 0)⟩, ⟨nb16, [I64 (kd), I64 (s), U64 nn, .slice ax p cx], 70, (0, 0)⟩]
            refine JL_val _ (Ev_assign rfl) rfl ?_
            refine JL_nil ?_
            refine JQ_in_normal ?_
            refine JQ_then ?_
            refine JC_seq ?_
            refine JC_region ?_
            refine JL_val _ (Ev_move rfl) rfl ?_
            refine JL_val _ (Ev_move rfl) rfl ?_
            refine JL_val (.bool false) (Ev_bin _ _ _ rfl rfl (fun _ => eqGuard_ptr ..) fun w => neq_ptr_same Try.underlying62 (Try.sizeOf66 w) (by decide)) rfl ?_
            refine JL_val _ (Ev_move rfl) rfl ?_
            refine JL_gval 3 117 false _ _ rfl rfl rfl (Ev_move rfl) rfl ?_
            refine JL_gval 3 117 false _ (.bool false) rfl rfl rfl (Ev_bin _ _ _ rfl rfl (fun _ => eqGuard_ptr ..) fun _ => neq_ptr_nil_nil Try.underlying62) rfl ?_
            refine JL_val _ (Ev_pickF _ rfl rfl rfl) rfl ?_
            refine JL_nil ?_
            refine JQ_then ?_
            refine JC_condF _ rfl rfl ?_
            refine JC_skip ?_
            refine JQ_in_normal ?_
            refine JQ_then ?_
            refine JC_region ?_
            refine JL_val (I64 ((i:Int) + 1)) (Ev_bini rfl rfl fun _ => bin_add_i _ _ ((i:Int) + 1) (by omega) (by omega)) rfl ?_
            refine JL_val _ (Ev_move rfl) rfl ?_
            refine JL_nil ?_
            refine JQ_thenK ?_
            refine K_mask [true, true, true, true, false] ?_
            show K _ _ [⟨nb1, [errV 36 (erN e 3), Slc gw 0 m cpw], 66, (0, 0)⟩, ⟨nb2, [Slc gm 0 m cpm, I64 ((erN e 3:Int))], 68, (0, 0)⟩, ⟨gw, cu8 o ++ spw, 5, (0, 0)⟩, ⟨gm, cu8 o ++ spm, 5, (0, 0)⟩] _
            refine K_next (.inr (i + 1, (erN e 3), o, m, gw, spw, cpw, gm, spm, cpm)) ⟨by omega, ho, by rw [hsum]; omega, (by have := hy1; omega), (by omega), hy3, (by have := hj1; omega), (by omega), hj3⟩ (by first | (simp; omega) | simp | (dsimp only; omega) | omega) (Sub.cons rfl (Sub.cons rfl (Sub.cons rfl (Sub.cons rfl (Sub.cons rfl (Sub.cons rfl (Sub.nil))))))) rfl
        ·
          have hp11 : ¬ (((u64i (kd)) % (6:UInt64)) = (1:UInt64)) := of_decide_eq_false hb11
          refine JC_seq ?_
          refine JC_region ?_
          refine JL_val (.bool (decide (((u64i (kd)) % (6:UInt64)) = (2:UInt64)))) (Ev_bini rfl rfl fun _ => bin_eql_u64 ((u64i (kd)) % (6:UInt64)) (2:UInt64)) rfl ?_
          refine JL_val _ (Ev_assign rfl) rfl ?_
          refine JL_nil ?_
          refine JQ_then ?_
          refine JC_cond (decide (((u64i (kd)) % (6:UInt64)) = (2:UInt64))) rfl (fun hb12 => ?_) (fun hb12 => ?_)
          ·
            have hp12 : ((u64i (kd)) % (6:UInt64)) = (2:UInt64) := of_decide_eq_true hb12
            refine JC_seq ?_
            refine JC_draw 161 4 [(0, Ptr nb1 0), (1, Ptr nb16 3), (2, .slice ax p cx), (4, .agg (List.toArray (α := Value) ([Slc gm 0 m cpm, I64 ((e:Int))]))), (5, Ptr nb16 3), (6, .slice ax p cx)] Try.mixed rfl (by decide +kernel) ?_
            refine DP_one ⟨[], [0, 1, 2, 4, 5, 6], [], [0, 1, 2, 4, 5, 6], [3]⟩ 3 _ rfl rfl (by decide +kernel) rfl ⟨⟨_, rfl, Qok_val rfl (Ev_move rfl)⟩, ⟨_, rfl, Qok_val rfl (Ev_fieldAddr 3 38 1 Try.underlying70 rfl Try.sizeOf38 rfl rfl)⟩, ⟨_, rfl, Qok_val rfl (Ev_load rfl (Ld_one Try.isAgg38 (MemAt.ent 4 rfl (Seg.tail (Seg.tail (Seg.tail (Seg.head)))))))⟩, ⟨_, rfl, Qok_val rfl (Ev_load rfl (Ld_agg Try.isAgg68 Try.sizeOf68 rfl (MemAt.ent 1 rfl (Seg.whole _))))⟩, ⟨_, rfl, Qok_val rfl (Ev_fieldAddr 3 38 1 Try.underlying70 rfl Try.sizeOf38 rfl rfl)⟩, ⟨_, rfl, Qok_val rfl (Ev_load rfl (Ld_one Try.isAgg38 (MemAt.ent 4 rfl (Seg.tail (Seg.tail (Seg.tail (Seg.head)))))))⟩, trivial⟩ rfl (Cok_step rfl (Step_call 44 _ [true, false, true, false, false] [nb1, gw] _ (Cl_func [Ptr nb1 0, .slice ax p cx] Try.call44 rfl) rfl (fun w1 hw1 => rawO_c nb1 gw m cpw (m + p) (errV 36 e) o spw ax p cx z w1 (hw1.ent _ (List.mem_of_getElem? (i := 0) rfl)) (hw1.ent _ (List.mem_of_getElem? (i := 2) rfl)) (hw1.ne (i := 0) (j := 2) rfl rfl (by decide)) ho hy1 hy2 hy3 (by omega) hz (by omega) (hr.at (M' := [nb1, gw]) hw1 (hw1.apart [0, 2] _ rfl)) (by omega)))) ?_
            rintro v1 L1 ⟨_, ⟨rfl, nb21, sp16, cp16, rfl, hc46, hc47, hc48⟩, rfl⟩
            refine ⟨[], ?_⟩
            show DP _ _ _ _ _ _ _ _ [⟨nb2, [Slc gm 0 m cpm, I64 ((e:Int))], 68, (0, 0)⟩, ⟨gm, cu8 o ++ spm, 5, (0, 0)⟩, ⟨nb16, [I64 (kd), I64 (s), U64 nn, .slice ax p cx], 70, (0, 0)⟩, ⟨nb1, [errV 36 e, Slc nb21 0 (m + p) cp16], 66, (0, 0)⟩, ⟨nb21, cu8 (o ++ z) ++ sp16, 5, (0, 0)⟩]
            refine DP_one ⟨[3], [0, 1, 2, 4, 5, 6], [0, 1, 2], [4, 5, 6], [7]⟩ 7 _ rfl rfl (by decide +kernel) rfl ⟨⟨_, rfl, Qok_val rfl (Ev_load rfl (Ld_agg Try.isAgg68 Try.sizeOf68 rfl (MemAt.ent 0 rfl (Seg.whole _))))⟩, ⟨_, rfl, Qok_val rfl (Ev_fieldAddr 3 38 1 Try.underlying70 rfl Try.sizeOf38 rfl rfl)⟩, ⟨_, rfl, Qok_val rfl (Ev_load rfl (Ld_one Try.isAgg38 (MemAt.ent 2 rfl (Seg.tail (Seg.tail (Seg.tail (Seg.head)))))))⟩, trivial⟩ rfl (Cok_step rfl (Step_callN 45 [.agg (List.toArray (α := Value) ([Slc gm 0 m cpm, I64 ((e:Int))])), .slice ax p cx] _ (Cl_func [.agg (List.toArray (α := Value) ([Slc gm 0 m cpm, I64 ((e:Int))])), .slice ax p cx] Try.call45 rfl) (fun w1 hw1 => rraw_c (some ⟨gm, 0, none⟩) m cpm o ((e:Int)) ax p cx z (m + p) w1 ho (by omega) (RdB.of hw1 (MemAt.ent 1 rfl (Seg.left (Seg.whole _))) (by simp)) hz (by omega) (hr.at (M' := []) hw1 (by simp)) (by omega)))) ?_
            rintro v1 L1 ⟨_, ⟨nb22, sp17, cp17, rfl, rfl, hc49, hc50, hc51⟩, rfl⟩
            refine ⟨[(8, Ptr nb1 0)], ?_⟩
            show DP _ _ _ _ _ _ _ _ [⟨nb2, [Slc gm 0 m cpm, I64 ((e:Int))], 68, (0, 0)⟩, ⟨gm, cu8 o ++ spm, 5, (0, 0)⟩, ⟨nb16, [I64 (kd), I64 (s), U64 nn, .slice ax p cx], 70, (0, 0)⟩, ⟨nb1, [errV 36 e, Slc nb21 0 (m + p) cp16], 66, (0, 0)⟩, ⟨nb21, cu8 (o ++ z) ++ sp16, 5, (0, 0)⟩, ⟨nb22, cu8 (o ++ z) ++ sp17, 5, (0, 0)⟩]
            refine DP_one ⟨[3, 7], [0, 1, 2, 4, 5, 6, 8], [0, 1, 2, 4, 5, 6], [8], [9]⟩ 9 _ rfl rfl (by decide +kernel) rfl ⟨⟨_, rfl, Qok_val rfl (Ev_assign rfl)⟩, trivial⟩ rfl (Cok_step rfl (Step_store 0 nb2 0 2 ([Slc gm 0 m cpm, I64 ((e:Int))]) 68 (.agg (List.toArray (α := Value) ([Slc nb22 0 (m + p) cp17, I64 ((e:Int))]))) ([Slc nb22 0 (m + p) cp17, I64 ((e:Int))]) ([Slc nb22 0 (m + p) cp17, I64 ((e:Int))]) rfl rfl rfl (by first | rfl | simp) Try.sizeOf68 rfl (by simp [Value.oneCell']) (Nat.le_of_ble_eq_true rfl) (lay_whole (by simp [])))) ?_
            rintro v1 L1 ⟨rfl, rfl⟩
            refine ⟨[], ?_⟩
            show DP _ _ _ _ _ _ _ _ [⟨nb2, [Slc nb22 0 (m + p) cp17, I64 ((e:Int))], 68, (0, 0)⟩, ⟨gm, cu8 o ++ spm, 5, (0, 0)⟩, ⟨nb16, [I64 (kd), I64 (s), U64 nn, .slice ax p cx], 70, (0, 0)⟩, ⟨nb1, [errV 36 e, Slc nb21 0 (m + p) cp16], 66, (0, 0)⟩, ⟨nb21, cu8 (o ++ z) ++ sp16, 5, (0, 0)⟩, ⟨nb22, cu8 (o ++ z) ++ sp17, 5, (0, 0)⟩]
            refine DP_end ⟨[3, 7, 9], [0, 1, 2, 4, 5, 6, 8], [0, 1, 2, 4, 5, 6, 8], [], []⟩ rfl rfl (by decide +kernel) rfl trivial ?_
            refine K_sub (F' := [(68, Ptr nb1 0), (69, Ptr nb16 3), (70, .slice ax p cx), (71, Ptr nb1 0), (72, .agg (List.toArray (α := Value) ([Slc gm 0 m cpm, I64 ((e:Int))]))), (73, Ptr nb16 3), (74, .slice ax p cx), (75, .agg (List.toArray (α := Value) ([Slc nb22 0 (m + p) cp17, I64 ((e:Int))]))), (8, Ptr nb1 0), (3, Ptr nb1 0), (4, Ptr nb2 0), (21, .slice ab n cb), (22, I64 ((n:Int))), (23, I64 ((i:Int))), (5, .pointer none), (24, .bool (decide (((i:Int)) < ((n:Int))))), (25, Ptr rowb (4*i + rowo)), (26, .agg (List.toArray (α := Value) ([I64 (kd), I64 (s), U64 nn, .slice ax p cx]))), (7, Ptr nb16 0), (27, Ptr nb1 0), (28, Ptr nb16 0), (29, I64 (kd)), (30, U64 (u64i (kd))), (31, U64 ((u64i (kd)) % (6:UInt64))), (33, .bool (decide (((u64i (kd)) % (6:UInt64)) = (0:UInt64)))), (32, .bool (decide (((u64i (kd)) % (6:UInt64)) = (0:UInt64)))), (53, .bool (decide (((u64i (kd)) % (6:UInt64)) = (1:UInt64)))), (52, .bool (decide (((u64i (kd)) % (6:UInt64)) = (1:UInt64)))), (67, .bool (decide (((u64i (kd)) % (6:UInt64)) = (2:UInt64)))), (66, .bool (decide (((u64i (kd)) % (6:UInt64)) = (2:UInt64))))]) (Sub.cons (by kernel_rfl) (Sub.cons (by kernel_rfl) (Sub.cons (by kernel_rfl) (Sub.cons (by kernel_rfl) (Sub.cons (by kernel_rfl) (Sub.cons (by kernel_rfl) (Sub.cons (by kernel_rfl) (Sub.cons (by kernel_rfl) (Sub.cons (by kernel_rfl) (Sub.cons (by kernel_rfl) (Sub.cons (by kernel_rfl) (Sub.cons (by kernel_rfl) (Sub.cons (by kernel_rfl) (Sub.cons (by kernel_rfl) (Sub.cons (by kernel_rfl) (Sub.cons (by kernel_rfl) (Sub.cons (by kernel_rfl) (Sub.cons (by kernel_rfl) (Sub.cons (by kernel_rfl) (Sub.cons (by kernel_rfl) (Sub.cons (by kernel_rfl) (Sub.cons (by kernel_rfl) (Sub.cons (by kernel_rfl) (Sub.cons (by kernel_rfl) (Sub.cons (by kernel_rfl) (Sub.cons (by kernel_rfl) (Sub.cons (by kernel_rfl) (Sub.cons (by kernel_rfl) (Sub.cons (by kernel_rfl) (Sub.cons (by kernel_rfl) (Sub.nil))))))))))))))))))))))))))))))) ?_
            show JQ _ _ _ [(68, Ptr nb1 0), (69, Ptr nb16 3), (70, .slice ax p cx), (71, Ptr nb1 0), (72, .agg (List.toArray (α := Value) ([Slc gm 0 m cpm, I64 ((e:Int))]))), (73, Ptr nb16 3), (74, .slice ax p cx), (75, .agg (List.toArray (α := Value) ([Slc nb22 0 (m + p) cp17, I64 ((e:Int))]))), (8, Ptr nb1 0), (3, Ptr nb1 0), (4, Ptr nb2 0), (21, .slice ab n cb), (22, I64 ((n:Int))), (23, I64 ((i:Int))), (5, .pointer none), (24, .bool (decide (((i:Int)) < ((n:Int))))), (25, Ptr rowb (4*i + rowo)), (26, .agg (List.toArray (α := Value) ([I64 (kd), I64 (s), U64 nn, .slice ax p cx]))), (7, Ptr nb16 0), (27, Ptr nb1 0), (28, Ptr nb16 0), (29, I64 (kd)), (30, U64 (u64i (kd))), (31, U64 ((u64i (kd)) % (6:UInt64))), (33, .bool (decide (((u64i (kd)) % (6:UInt64)) = (0:UInt64)))), (32, .bool (decide (((u64i (kd)) % (6:UInt64)) = (0:UInt64)))), (53, .bool (decide (((u64i (kd)) % (6:UInt64)) = (1:UInt64)))), (52, .bool (decide (((u64i (kd)) % (6:UInt64)) = (1:UInt64)))), (67, .bool (decide (((u64i (kd)) % (6:UInt64)) = (2:UInt64)))), (66, .bool (decide (((u64i (kd)) % (6:UInt64)) = (2:UInt64))))] _
            refine JQ_then ?_
            refine JC_region ?_
            refine JL_val _ (Ev_move rfl) rfl ?_
            refine JL_val (Ptr nb16 3) (Ev_fieldAddr 3 38 1 Try.underlying70 rfl Try.sizeOf38 rfl rfl) rfl ?_
            refine JL_val (.slice ax p cx) (Ev_load rfl (Ld_one Try.isAgg38 (MemAt.ent 2 rfl (Seg.tail (Seg.tail (Seg.tail (Seg.head))))))) rfl ?_
            refine JL_step (Step_callP 44 [.pointer none, .slice ax p cx] (.pointer none) (Cl_func [.pointer none, .slice ax p cx] Try.call44 rfl) (fun w1 _ => rawNil_c (.slice ax p cx) w1)) rfl ?_
            rintro v1 L1 ⟨rfl, rfl⟩
            show JL _ _ _ _ ((79, .pointer none) :: _) [⟨nb2, [Slc nb22 0 (m + p) cp17, I64 ((e:Int))], 68, (0, 0)⟩, ⟨gm, cu8 o ++ spm, 5, (0, 0)⟩, ⟨nb16, [I64 (kd), I64 (s), U64 nn, .slice ax p cx], 70, (0, 0)⟩, ⟨nb1, [errV 36 e, Slc nb21 0 (m + p) cp16], 66, (0, 0)⟩, ⟨nb21, cu8 (o ++ z) ++ sp16, 5, (0, 0)⟩, ⟨nb22, cu8 (o ++ z) ++ sp17, 5, (0, 0)⟩]
            refine JL_val _ (Ev_assign rfl) rfl ?_
            refine JL_nil ?_
            refine JQ_in_normal ?_
            refine JQ_then ?_
            refine JC_seq ?_
            refine JC_region ?_
            refine JL_val _ (Ev_move rfl) rfl ?_
            refine JL_val _ (Ev_move rfl) rfl ?_
            refine JL_val (.bool false) (Ev_bin _ _ _ rfl rfl (fun _ => eqGuard_ptr ..) fun w => neq_ptr_same Try.underlying62 (Try.sizeOf66 w) (by decide)) rfl ?_
            refine JL_val _ (Ev_move rfl) rfl ?_
            refine JL_gval 3 117 false _ _ rfl rfl rfl (Ev_move rfl) rfl ?_
            refine JL_gval 3 117 false _ (.bool false) rfl rfl rfl (Ev_bin _ _ _ rfl rfl (fun _ => eqGuard_ptr ..) fun _ => neq_ptr_nil_nil Try.underlying62) rfl ?_
            refine JL_val _ (Ev_pickF _ rfl rfl rfl) rfl ?_
            refine JL_nil ?_
            refine JQ_then ?_
            refine JC_condF _ rfl rfl ?_
            refine JC_skip ?_
            refine JQ_in_normal ?_
            refine JQ_then ?_
            refine JC_region ?_
            refine JL_val (I64 ((i:Int) + 1)) (Ev_bini rfl rfl fun _ => bin_add_i _ _ ((i:Int) + 1) (by omega) (by omega)) rfl ?_
            refine JL_val _ (Ev_move rfl) rfl ?_
            refine JL_nil ?_
            refine JQ_thenK ?_
            refine K_mask [true, false, false, true, true, true] ?_
            show K _ _ [⟨nb2, [Slc nb22 0 (m + p) cp17, I64 ((e:Int))], 68, (0, 0)⟩, ⟨nb1, [errV 36 e, Slc nb21 0 (m + p) cp16], 66, (0, 0)⟩, ⟨nb21, cu8 (o ++ z) ++ sp16, 5, (0, 0)⟩, ⟨nb22, cu8 (o ++ z) ++ sp17, 5, (0, 0)⟩] _
            refine K_pick [1, 0, 2, 3] (by decide) ?_
            show K _ _ [⟨nb1, [errV 36 e, Slc nb21 0 (m + p) cp16], 66, (0, 0)⟩, ⟨nb2, [Slc nb22 0 (m + p) cp17, I64 ((e:Int))], 68, (0, 0)⟩, ⟨nb21, cu8 (o ++ z) ++ sp16, 5, (0, 0)⟩, ⟨nb22, cu8 (o ++ z) ++ sp17, 5, (0, 0)⟩] _
            refine K_next (.inr (i + 1, e, o ++ z, (m + p), nb21, sp16, cp16, nb22, sp17, cp17)) ⟨by omega, (show (o ++ z).length = (m + p) from (by rw [List.length_append, ho, hz] <;> omega)), by rw [hsum]; omega, (by have := hc46; omega), (by omega), hc48, (by have := hc49; omega), (by omega), hc51⟩ (by first | (simp; omega) | simp | (dsimp only; omega) | omega) (Sub.cons rfl (Sub.cons rfl (Sub.cons rfl (Sub.cons rfl (Sub.cons rfl (Sub.cons rfl (Sub.nil))))))) rfl
          ·
            have hp12 : ¬ (((u64i (kd)) % (6:UInt64)) = (2:UInt64)) := of_decide_eq_false hb12
            refine JC_seq ?_
            refine JC_region ?_
            refine JL_val (.bool (decide (((u64i (kd)) % (6:UInt64)) = (3:UInt64)))) (Ev_bini rfl rfl fun _ => bin_eql_u64 ((u64i (kd)) % (6:UInt64)) (3:UInt64)) rfl ?_
            refine JL_val _ (Ev_assign rfl) rfl ?_
            refine JL_nil ?_
            refine JQ_then ?_
            refine JC_cond (decide (((u64i (kd)) % (6:UInt64)) = (3:UInt64))) rfl (fun hb13 => ?_) (fun hb13 => ?_)
            ·
              have hp13 : ((u64i (kd)) % (6:UInt64)) = (3:UInt64) := of_decide_eq_true hb13
              refine JC_seq ?_
              refine JC_region ?_
              refine JL_val (Ptr nb16 3) (Ev_fieldAddr 3 38 1 Try.underlying70 rfl Try.sizeOf38 rfl rfl) rfl ?_
              refine JL_val (.slice ax p cx) (Ev_load rfl (Ld_one Try.isAgg38 (MemAt.ent 4 rfl (Seg.tail (Seg.tail (Seg.tail (Seg.head))))))) rfl ?_
              refine JL_step (Step_callP 46 [.slice ax p cx] (.agg (cu8 (hashL z)).toArray) (Cl_func [.slice ax p cx] Try.call46 rfl) (fun w1 hw1 => hash_w ax p cx z w1 hz (hr.at (M' := []) hw1 (by simp)))) rfl ?_
              rintro v1 L1 ⟨rfl, rfl⟩
              show JL _ _ _ _ ((84, .agg (cu8 (hashL z)).toArray) :: _) [⟨nb1, [errV 36 e, Slc gw 0 m cpw], 66, (0, 0)⟩, ⟨nb2, [Slc gm 0 m cpm, I64 ((e:Int))], 68, (0, 0)⟩, ⟨gw, cu8 o ++ spw, 5, (0, 0)⟩, ⟨gm, cu8 o ++ spm, 5, (0, 0)⟩, ⟨nb16, [I64 (kd), I64 (s), U64 nn, .slice ax p cx], 70, (0, 0)⟩]
              refine JL_step (Step_alloc _ (cu8 (zr8 32)) Try.zeroValue76 (by kernel_rfl)) rfl ?_
              rintro v1 L1 ⟨nb23, hnb23, rfl, rfl⟩
              show JL _ _ _ _ ((9, Ptr nb23 0) :: _) [⟨nb1, [errV 36 e, Slc gw 0 m cpw], 66, (0, 0)⟩, ⟨nb2, [Slc gm 0 m cpm, I64 ((e:Int))], 68, (0, 0)⟩, ⟨gw, cu8 o ++ spw, 5, (0, 0)⟩, ⟨gm, cu8 o ++ spm, 5, (0, 0)⟩, ⟨nb16, [I64 (kd), I64 (s), U64 nn, .slice ax p cx], 70, (0, 0)⟩, ⟨nb23, cu8 (zr8 32), 76, (0, 0)⟩]
              refine JL_step (Step_store 5 nb23 0 32 (cu8 (zr8 32)) 76 (.agg (cu8 (hashL z)).toArray) (cu8 (hashL z)) (cu8 (hashL z)) rfl rfl rfl (by first | rfl | simp) Try.sizeOf76 (len_cu8 (hashL_len z)) (by first | exact one_u8 | exact one_u32 | exact one_u64 | (simp [cu8, cu32, cu64, Value.oneCell']; done)) (by simp [(zr8_len 32)]) (lay_whole (by simp [(zr8_len 32), (hashL_len z)]))) rfl ?_
              rintro v1 L1 ⟨rfl, rfl⟩
              show JL _ _ _ _ _ [⟨nb1, [errV 36 e, Slc gw 0 m cpw], 66, (0, 0)⟩, ⟨nb2, [Slc gm 0 m cpm, I64 ((e:Int))], 68, (0, 0)⟩, ⟨gw, cu8 o ++ spw, 5, (0, 0)⟩, ⟨gm, cu8 o ++ spm, 5, (0, 0)⟩, ⟨nb16, [I64 (kd), I64 (s), U64 nn, .slice ax p cx], 70, (0, 0)⟩, ⟨nb23, cu8 (hashL z), 76, (0, 0)⟩]
              refine JL_nil ?_
              refine JQ_then ?_
              refine JC_seq ?_
              refine JC_draw 161 4 [(0, Ptr nb1 0), (1, .agg (cu8 (hashL z)).toArray), (3, .agg (List.toArray (α := Value) ([Slc gm 0 m cpm, I64 ((e:Int))]))), (4, Slc nb23 0 32 32)] Try.mixed rfl (by decide +kernel) ?_
              refine DP_one ⟨[], [0, 1, 3, 4], [], [0, 1, 3, 4], [2]⟩ 2 _ rfl rfl (by decide +kernel) rfl ⟨⟨_, rfl, Qok_val rfl (Ev_move rfl)⟩, ⟨_, rfl, Qok_val rfl (Ev_load rfl (Ld_agg Try.isAgg76 Try.sizeOf76 (len_cu8 (hashL_len z)) (MemAt.ent 5 rfl (Seg.whole _))))⟩, ⟨_, rfl, Qok_val rfl (Ev_load rfl (Ld_agg Try.isAgg68 Try.sizeOf68 rfl (MemAt.ent 1 rfl (Seg.whole _))))⟩, ⟨_, rfl, Qok_val rfl (Ev_sliceA 32 5 1 0 32 0 32 Try.underlying76 Try.sizeOf5 rfl rfl rfl (by omega) (by omega) (by omega) (by omega) (by omega) 32 (by omega))⟩, trivial⟩ rfl (Cok_step rfl (Step_call 47 _ [true, false, true, false, false, false] [nb1, gw] _ (Cl_func [Ptr nb1 0, .agg (cu8 (hashL z)).toArray] Try.call47 rfl) rfl (fun w1 hw1 => hashO_c nb1 gw m cpw (m + 32) (errV 36 e) o spw (hashL z) w1 (hw1.ent _ (List.mem_of_getElem? (i := 0) rfl)) (hw1.ent _ (List.mem_of_getElem? (i := 2) rfl)) (hw1.ne (i := 0) (j := 2) rfl rfl (by decide)) ho hy1 hy2 hy3 (by omega) (hashL_len z) (by omega)))) ?_
              rintro v1 L1 ⟨_, ⟨rfl, nb24, sp18, cp18, rfl, hc52, hc53, hc54⟩, rfl⟩
              refine ⟨[], ?_⟩
              show DP _ _ _ _ _ _ _ _ [⟨nb2, [Slc gm 0 m cpm, I64 ((e:Int))], 68, (0, 0)⟩, ⟨gm, cu8 o ++ spm, 5, (0, 0)⟩, ⟨nb16, [I64 (kd), I64 (s), U64 nn, .slice ax p cx], 70, (0, 0)⟩, ⟨nb23, cu8 (hashL z), 76, (0, 0)⟩, ⟨nb1, [errV 36 e, Slc nb24 0 (m + 32) cp18], 66, (0, 0)⟩, ⟨nb24, cu8 (o ++ (hashL z)) ++ sp18, 5, (0, 0)⟩]
              refine DP_one ⟨[2], [0, 1, 3, 4], [0, 1], [3, 4], [5]⟩ 5 _ rfl rfl (by decide +kernel) rfl ⟨⟨_, rfl, Qok_val rfl (Ev_load rfl (Ld_agg Try.isAgg68 Try.sizeOf68 rfl (MemAt.ent 0 rfl (Seg.whole _))))⟩, ⟨_, rfl, Qok_val rfl (Ev_sliceA 32 5 1 0 32 0 32 Try.underlying76 Try.sizeOf5 rfl rfl rfl (by omega) (by omega) (by omega) (by omega) (by omega) 32 (by omega))⟩, trivial⟩ rfl (Cok_step rfl (Step_callN 45 [.agg (List.toArray (α := Value) ([Slc gm 0 m cpm, I64 ((e:Int))])), Slc nb23 0 32 32] _ (Cl_func [.agg (List.toArray (α := Value) ([Slc gm 0 m cpm, I64 ((e:Int))])), Slc nb23 0 32 32] Try.call45 rfl) (fun w1 hw1 => rraw_c (some ⟨gm, 0, none⟩) m cpm o ((e:Int)) (some ⟨nb23, 0, none⟩) 32 32 (hashL z) (m + 32) w1 ho (by omega) (RdB.of hw1 (MemAt.ent 1 rfl (Seg.left (Seg.whole _))) (by simp)) (hashL_len z) (by omega) (RdB.of hw1 (MemAt.ent 3 rfl (Seg.whole _)) (by simp)) (by omega)))) ?_
              rintro v1 L1 ⟨_, ⟨nb25, sp19, cp19, rfl, rfl, hc55, hc56, hc57⟩, rfl⟩
              refine ⟨[(6, Ptr nb1 0)], ?_⟩
              show DP _ _ _ _ _ _ _ _ [⟨nb2, [Slc gm 0 m cpm, I64 ((e:Int))], 68, (0, 0)⟩, ⟨gm, cu8 o ++ spm, 5, (0, 0)⟩, ⟨nb16, [I64 (kd), I64 (s), U64 nn, .slice ax p cx], 70, (0, 0)⟩, ⟨nb23, cu8 (hashL z), 76, (0, 0)⟩, ⟨nb1, [errV 36 e, Slc nb24 0 (m + 32) cp18], 66, (0, 0)⟩, ⟨nb24, cu8 (o ++ (hashL z)) ++ sp18, 5, (0, 0)⟩, ⟨nb25, cu8 (o ++ (hashL z)) ++ sp19, 5, (0, 0)⟩]
              refine DP_one ⟨[2, 5], [0, 1, 3, 4, 6], [0, 1, 3, 4], [6], [7]⟩ 7 _ rfl rfl (by decide +kernel) rfl ⟨⟨_, rfl, Qok_val rfl (Ev_assign rfl)⟩, trivial⟩ rfl (Cok_step rfl (Step_store 0 nb2 0 2 ([Slc gm 0 m cpm, I64 ((e:Int))]) 68 (.agg (List.toArray (α := Value) ([Slc nb25 0 (m + 32) cp19, I64 ((e:Int))]))) ([Slc nb25 0 (m + 32) cp19, I64 ((e:Int))]) ([Slc nb25 0 (m + 32) cp19, I64 ((e:Int))]) rfl rfl rfl (by first | rfl | simp) Try.sizeOf68 rfl (by simp [Value.oneCell']) (Nat.le_of_ble_eq_true rfl) (lay_whole (by simp [])))) ?_
              rintro v1 L1 ⟨rfl, rfl⟩
              refine ⟨[], ?_⟩
              show DP _ _ _ _ _ _ _ _ [⟨nb2, [Slc nb25 0 (m + 32) cp19, I64 ((e:Int))], 68, (0, 0)⟩, ⟨gm, cu8 o ++ spm, 5, (0, 0)⟩, ⟨nb16, [I64 (kd), I64 (s), U64 nn, .slice ax p cx], 70, (0, 0)⟩, ⟨nb23, cu8 (hashL z), 76, (0, 0)⟩, ⟨nb1, [errV 36 e, Slc nb24 0 (m + 32) cp18], 66, (0, 0)⟩, ⟨nb24, cu8 (o ++ (hashL z)) ++ sp18, 5, (0, 0)⟩, ⟨nb25, cu8 (o ++ (hashL z)) ++ sp19, 5, (0, 0)⟩]
              refine DP_end ⟨[2, 5, 7], [0, 1, 3, 4, 6], [0, 1, 3, 4, 6], [], []⟩ rfl rfl (by decide +kernel) rfl trivial ?_
              refine K_sub (F' := [(85, Ptr nb1 0), (86, .agg (cu8 (hashL z)).toArray), (87, Ptr nb1 0), (88, .agg (List.toArray (α := Value) ([Slc gm 0 m cpm, I64 ((e:Int))]))), (89, Slc nb23 0 32 32), (90, .agg (List.toArray (α := Value) ([Slc nb25 0 (m + 32) cp19, I64 ((e:Int))]))), (8, Ptr nb1 0), (3, Ptr nb1 0), (4, Ptr nb2 0), (21, .slice ab n cb), (22, I64 ((n:Int))), (23, I64 ((i:Int))), (5, .pointer none), (24, .bool (decide (((i:Int)) < ((n:Int))))), (25, Ptr rowb (4*i + rowo)), (26, .agg (List.toArray (α := Value) ([I64 (kd), I64 (s), U64 nn, .slice ax p cx]))), (7, Ptr nb16 0), (27, Ptr nb1 0), (28, Ptr nb16 0), (29, I64 (kd)), (30, U64 (u64i (kd))), (31, U64 ((u64i (kd)) % (6:UInt64))), (33, .bool (decide (((u64i (kd)) % (6:UInt64)) = (0:UInt64)))), (32, .bool (decide (((u64i (kd)) % (6:UInt64)) = (0:UInt64)))), (53, .bool (decide (((u64i (kd)) % (6:UInt64)) = (1:UInt64)))), (52, .bool (decide (((u64i (kd)) % (6:UInt64)) = (1:UInt64)))), (67, .bool (decide (((u64i (kd)) % (6:UInt64)) = (2:UInt64)))), (66, .bool (decide (((u64i (kd)) % (6:UInt64)) = (2:UInt64)))), (81, .bool (decide (((u64i (kd)) % (6:UInt64)) = (3:UInt64)))), (80, .bool (decide (((u64i (kd)) % (6:UInt64)) = (3:UInt64)))), (82, Ptr nb16 3), (83, .slice ax p cx), (84, .agg (cu8 (hashL z)).toArray), (9, Ptr nb23 0)]) (Sub.cons (by kernel_rfl) (Sub.cons (by kernel_rfl) (Sub.cons (by kernel_rfl) (Sub.cons (by kernel_rfl) (Sub.cons (by kernel_rfl) (Sub.cons (by kernel_rfl) (Sub.cons (by kernel_rfl) (Sub.cons (by kernel_rfl) (Sub.cons (by kernel_rfl) (Sub.cons (by kernel_rfl) (Sub.cons (by kernel_rfl) (Sub.cons (by kernel_rfl) (Sub.cons (by kernel_rfl) (Sub.cons (by kernel_rfl) (Sub.cons (by kernel_rfl) (Sub.cons (by kernel_rfl) (Sub.cons (by kernel_rfl) (Sub.cons (by kernel_rfl) (Sub.cons (by kernel_rfl) (Sub.cons (by kernel_rfl) (Sub.cons (by kernel_rfl) (Sub.cons (by kernel_rfl) (Sub.cons (by kernel_rfl) (Sub.cons (by kernel_rfl) (Sub.cons (by kernel_rfl) (Sub.cons (by kernel_rfl) (Sub.cons (by kernel_rfl) (Sub.cons (by kernel_rfl) (Sub.cons (by kernel_rfl) (Sub.cons (by kernel_rfl) (Sub.cons (by kernel_rfl) (Sub.cons (by kernel_rfl) (Sub.cons (by kernel_rfl) (Sub.cons (by kernel_rfl) (Sub.nil))))))))))))))))))))))))))))))))))) ?_
              show JQ _ _ _ [(85, Ptr nb1 0), (86, .agg (cu8 (hashL z)).toArray), (87, Ptr nb1 0), (88, .agg (List.toArray (α := Value) ([Slc gm 0 m cpm, I64 ((e:Int))]))), (89, Slc nb23 0 32 32), (90, .agg (List.toArray (α := Value) ([Slc nb25 0 (m + 32) cp19, I64 ((e:Int))]))), (8, Ptr nb1 0), (3, Ptr nb1 0), (4, Ptr nb2 0), (21, .slice ab n cb), (22, I64 ((n:Int))), (23, I64 ((i:Int))), (5, .pointer none), (24, .bool (decide (((i:Int)) < ((n:Int))))), (25, Ptr rowb (4*i + rowo)), (26, .agg (List.toArray (α := Value) ([I64 (kd), I64 (s), U64 nn, .slice ax p cx]))), (7, Ptr nb16 0), (27, Ptr nb1 0), (28, Ptr nb16 0), (29, I64 (kd)), (30, U64 (u64i (kd))), (31, U64 ((u64i (kd)) % (6:UInt64))), (33, .bool (decide (((u64i (kd)) % (6:UInt64)) = (0:UInt64)))), (32, .bool (decide (((u64i (kd)) % (6:UInt64)) = (0:UInt64)))), (53, .bool (decide (((u64i (kd)) % (6:UInt64)) = (1:UInt64)))), (52, .bool (decide (((u64i (kd)) % (6:UInt64)) = (1:UInt64)))), (67, .bool (decide (((u64i (kd)) % (6:UInt64)) = (2:UInt64)))), (66, .bool (decide (((u64i (kd)) % (6:UInt64)) = (2:UInt64)))), (81, .bool (decide (((u64i (kd)) % (6:UInt64)) = (3:UInt64)))), (80, .bool (decide (((u64i (kd)) % (6:UInt64)) = (3:UInt64)))), (82, Ptr nb16 3), (83, .slice ax p cx), (84, .agg (cu8 (hashL z)).toArray), (9, Ptr nb23 0)] _
              refine JQ_then ?_
              refine JC_region ?_
              refine JL_val _ (Ev_move rfl) rfl ?_
              refine JL_val (.agg (cu8 (hashL z)).toArray) (Ev_load rfl (Ld_agg Try.isAgg76 Try.sizeOf76 (len_cu8 (hashL_len z)) (MemAt.ent 3 rfl (Seg.whole _)))) rfl ?_
              refine JL_step (Step_callP 47 [.pointer none, .agg (cu8 (hashL z)).toArray] (.pointer none) (Cl_func [.pointer none, .agg (cu8 (hashL z)).toArray] Try.call47 rfl) (fun w1 _ => hashWNil_c (hashL z) w1 (hashL_len z))) rfl ?_
              rintro v1 L1 ⟨rfl, rfl⟩
              show JL _ _ _ _ ((93, .pointer none) :: _) [⟨nb2, [Slc nb25 0 (m + 32) cp19, I64 ((e:Int))], 68, (0, 0)⟩, ⟨gm, cu8 o ++ spm, 5, (0, 0)⟩, ⟨nb16, [I64 (kd), I64 (s), U64 nn, .slice ax p cx], 70, (0, 0)⟩, ⟨nb23, cu8 (hashL z), 76, (0, 0)⟩, ⟨nb1, [errV 36 e, Slc nb24 0 (m + 32) cp18], 66, (0, 0)⟩, ⟨nb24, cu8 (o ++ (hashL z)) ++ sp18, 5, (0, 0)⟩, ⟨nb25, cu8 (o ++ (hashL z)) ++ sp19, 5, (0, 0)⟩]
              refine JL_val _ (Ev_assign rfl) rfl ?_
              refine JL_nil ?_
              refine JQ_in_normal ?_
              refine JQ_then ?_
              refine JC_seq ?_
              refine JC_region ?_
              refine JL_val _ (Ev_move rfl) rfl ?_
              refine JL_val _ (Ev_move rfl) rfl ?_
              refine JL_val (.bool false) (Ev_bin _ _ _ rfl rfl (fun _ => eqGuard_ptr ..) fun w => neq_ptr_same Try.underlying62 (Try.sizeOf66 w) (by decide)) rfl ?_
              refine JL_val _ (Ev_move rfl) rfl ?_
              refine JL_gval 3 117 false _ _ rfl rfl rfl (Ev_move rfl) rfl ?_
              refine JL_gval 3 117 false _ (.bool false) rfl rfl rfl (Ev_bin _ _ _ rfl rfl (fun _ => eqGuard_ptr ..) fun _ => neq_ptr_nil_nil Try.underlying62) rfl ?_
              refine JL_val _ (Ev_pickF _ rfl rfl rfl) rfl ?_
              refine JL_nil ?_
              refine JQ_then ?_
              refine JC_condF _ rfl rfl ?_
              refine JC_skip ?_
              refine JQ_in_normal ?_
              refine JQ_then ?_
              refine JC_region ?_
              refine JL_val (I64 ((i:Int) + 1)) (Ev_bini rfl rfl fun _ => bin_add_i _ _ ((i:Int) + 1) (by omega) (by omega)) rfl ?_
              refine JL_val _ (Ev_move rfl) rfl ?_
              refine JL_nil ?_
              refine JQ_thenK ?_
              refine K_mask [true, false, false, false, true, true, true] ?_
              show K _ _ [⟨nb2, [Slc nb25 0 (m + 32) cp19, I64 ((e:Int))], 68, (0, 0)⟩, ⟨nb1, [errV 36 e, Slc nb24 0 (m + 32) cp18], 66, (0, 0)⟩, ⟨nb24, cu8 (o ++ (hashL z)) ++ sp18, 5, (0, 0)⟩, ⟨nb25, cu8 (o ++ (hashL z)) ++ sp19, 5, (0, 0)⟩] _
              refine K_pick [1, 0, 2, 3] (by decide) ?_
              show K _ _ [⟨nb1, [errV 36 e, Slc nb24 0 (m + 32) cp18], 66, (0, 0)⟩, ⟨nb2, [Slc nb25 0 (m + 32) cp19, I64 ((e:Int))], 68, (0, 0)⟩, ⟨nb24, cu8 (o ++ (hashL z)) ++ sp18, 5, (0, 0)⟩, ⟨nb25, cu8 (o ++ (hashL z)) ++ sp19, 5, (0, 0)⟩] _
              refine K_next (.inr (i + 1, e, o ++ (hashL z), (m + 32), nb24, sp18, cp18, nb25, sp19, cp19)) ⟨by omega, (show (o ++ (hashL z)).length = (m + 32) from (by rw [List.length_append, ho, (hashL_len z)] <;> omega)), by rw [hsum]; omega, (by have := hc52; omega), (by omega), hc54, (by have := hc55; omega), (by omega), hc57⟩ (by first | (simp; omega) | simp | (dsimp only; omega) | omega) (Sub.cons rfl (Sub.cons rfl (Sub.cons rfl (Sub.cons rfl (Sub.cons rfl (Sub.cons rfl (Sub.nil))))))) rfl
            ·
              have hp13 : ¬ (((u64i (kd)) % (6:UInt64)) = (3:UInt64)) := of_decide_eq_false hb13
              refine JC_seq ?_
              refine JC_region ?_
              refine JL_val (.bool (decide (((u64i (kd)) % (6:UInt64)) = (4:UInt64)))) (Ev_bini rfl rfl fun _ => bin_eql_u64 ((u64i (kd)) % (6:UInt64)) (4:UInt64)) rfl ?_
              refine JL_val _ (Ev_assign rfl) rfl ?_
              refine JL_nil ?_
              refine JQ_then ?_
              refine JC_cond (decide (((u64i (kd)) % (6:UInt64)) = (4:UInt64))) rfl (fun hb14 => ?_) (fun hb14 => ?_)
              ·
                have hp14 : ((u64i (kd)) % (6:UInt64)) = (4:UInt64) := of_decide_eq_true hb14
                refine JC_seq ?_
                refine JC_draw 161 4 [(0, Ptr nb1 0), (1, Ptr nb16 2), (2, U64 nn), (3, U64 (nn % (2:UInt64))), (4, .bool (decide ((nn % (2:UInt64)) = (1:UInt64)))), (6, .agg (List.toArray (α := Value) ([Slc gm 0 m cpm, I64 ((e:Int))]))), (7, Ptr nb16 2), (8, U64 nn), (9, U64 (nn % (2:UInt64))), (10, .bool (decide ((nn % (2:UInt64)) = (1:UInt64))))] Try.mixed rfl (by decide +kernel) ?_
                refine DP_one ⟨[], [0, 1, 2, 3, 4, 6, 7, 8, 9, 10], [], [0, 1, 2, 3, 4, 6, 7, 8, 9, 10], [5]⟩ 5 _ rfl rfl (by decide +kernel) rfl ⟨⟨_, rfl, Qok_val rfl (Ev_move rfl)⟩, ⟨_, rfl, Qok_val rfl (Ev_fieldAddr 2 44 1 Try.underlying70 rfl Try.sizeOf44 rfl rfl)⟩, ⟨_, rfl, Qok_val rfl (Ev_load rfl (Ld_one Try.isAgg44 (MemAt.ent 4 rfl (Seg.tail (Seg.tail (Seg.head))))))⟩, ⟨_, rfl, Qok_val rfl (Ev_bini rfl rfl fun _ => bin_rem_u64 nn (2:UInt64) (by decide))⟩, ⟨_, rfl, Qok_val rfl (Ev_bini rfl rfl fun _ => bin_eql_u64 (nn % (2:UInt64)) (1:UInt64))⟩, ⟨_, rfl, Qok_val rfl (Ev_load rfl (Ld_agg Try.isAgg68 Try.sizeOf68 rfl (MemAt.ent 1 rfl (Seg.whole _))))⟩, ⟨_, rfl, Qok_val rfl (Ev_fieldAddr 2 44 1 Try.underlying70 rfl Try.sizeOf44 rfl rfl)⟩, ⟨_, rfl, Qok_val rfl (Ev_load rfl (Ld_one Try.isAgg44 (MemAt.ent 4 rfl (Seg.tail (Seg.tail (Seg.head))))))⟩, ⟨_, rfl, Qok_val rfl (Ev_bini rfl rfl fun _ => bin_rem_u64 nn (2:UInt64) (by decide))⟩, ⟨_, rfl, Qok_val rfl (Ev_bini rfl rfl fun _ => bin_eql_u64 (nn % (2:UInt64)) (1:UInt64))⟩, trivial⟩ rfl (Cok_step rfl (Step_call 48 _ [true, false, true, false, false] [nb1, gw] _ (Cl_func [Ptr nb1 0, .bool (decide ((nn % (2:UInt64)) = (1:UInt64)))] Try.call48 rfl) rfl (fun w1 hw1 => flagO_c nb1 gw m cpw (m + 1) (errV 36 e) o spw (decide ((nn % (2:UInt64)) = (1:UInt64))) w1 (hw1.ent _ (List.mem_of_getElem? (i := 0) rfl)) (hw1.ent _ (List.mem_of_getElem? (i := 2) rfl)) (hw1.ne (i := 0) (j := 2) rfl rfl (by decide)) ho hy1 hy2 hy3 (by omega) (by omega)))) ?_
                rintro v1 L1 ⟨_, ⟨rfl, nb26, sp20, cp20, rfl, hc58, hc59, hc60⟩, rfl⟩
                refine ⟨[], ?_⟩
                show DP _ _ _ _ _ _ _ _ [⟨nb2, [Slc gm 0 m cpm, I64 ((e:Int))], 68, (0, 0)⟩, ⟨gm, cu8 o ++ spm, 5, (0, 0)⟩, ⟨nb16, [I64 (kd), I64 (s), U64 nn, .slice ax p cx], 70, (0, 0)⟩, ⟨nb1, [errV 36 e, Slc nb26 0 (m + 1) cp20], 66, (0, 0)⟩, ⟨nb26, cu8 (o ++ numK 1 (bitU (decide ((nn % (2:UInt64)) = (1:UInt64)))) 1) ++ sp20, 5, (0, 0)⟩]
                refine DP_one ⟨[5], [0, 1, 2, 3, 4, 6, 7, 8, 9, 10], [0, 1, 2, 3, 4], [6, 7, 8, 9, 10], [11]⟩ 11 _ rfl rfl (by decide +kernel) rfl ⟨⟨_, rfl, Qok_val rfl (Ev_load rfl (Ld_agg Try.isAgg68 Try.sizeOf68 rfl (MemAt.ent 0 rfl (Seg.whole _))))⟩, ⟨_, rfl, Qok_val rfl (Ev_fieldAddr 2 44 1 Try.underlying70 rfl Try.sizeOf44 rfl rfl)⟩, ⟨_, rfl, Qok_val rfl (Ev_load rfl (Ld_one Try.isAgg44 (MemAt.ent 2 rfl (Seg.tail (Seg.tail (Seg.head))))))⟩, ⟨_, rfl, Qok_val rfl (Ev_bini rfl rfl fun _ => bin_rem_u64 nn (2:UInt64) (by decide))⟩, ⟨_, rfl, Qok_val rfl (Ev_bini rfl rfl fun _ => bin_eql_u64 (nn % (2:UInt64)) (1:UInt64))⟩, trivial⟩ rfl (Cok_step rfl (Step_callN 49 [.agg (List.toArray (α := Value) ([Slc gm 0 m cpm, I64 ((e:Int))])), .bool (decide ((nn % (2:UInt64)) = (1:UInt64)))] _ (Cl_func [.agg (List.toArray (α := Value) ([Slc gm 0 m cpm, I64 ((e:Int))])), .bool (decide ((nn % (2:UInt64)) = (1:UInt64)))] Try.call49 rfl) (fun w1 hw1 => rflag_c (some ⟨gm, 0, none⟩) m cpm o ((e:Int)) (decide ((nn % (2:UInt64)) = (1:UInt64))) (m + 1) w1 ho (by omega) (RdB.of hw1 (MemAt.ent 1 rfl (Seg.left (Seg.whole _))) (by simp)) (by omega)))) ?_
                rintro v1 L1 ⟨_, ⟨nb27, sp21, cp21, rfl, rfl, hc61, hc62, hc63⟩, rfl⟩
                refine ⟨[(12, Ptr nb1 0)], ?_⟩
                show DP _ _ _ _ _ _ _ _ [⟨nb2, [Slc gm 0 m cpm, I64 ((e:Int))], 68, (0, 0)⟩, ⟨gm, cu8 o ++ spm, 5, (0, 0)⟩, ⟨nb16, [I64 (kd), I64 (s), U64 nn, .slice ax p cx], 70, (0, 0)⟩, ⟨nb1, [errV 36 e, Slc nb26 0 (m + 1) cp20], 66, (0, 0)⟩, ⟨nb26, cu8 (o ++ numK 1 (bitU (decide ((nn % (2:UInt64)) = (1:UInt64)))) 1) ++ sp20, 5, (0, 0)⟩, ⟨nb27, cu8 (o ++ numK 1 (bitU (decide ((nn % (2:UInt64)) = (1:UInt64)))) 1) ++ sp21, 5, (0, 0)⟩]
                refine DP_one ⟨[5, 11], [0, 1, 2, 3, 4, 6, 7, 8, 9, 10, 12], [0, 1, 2, 3, 4, 6, 7, 8, 9, 10], [12], [13]⟩ 13 _ rfl rfl (by decide +kernel) rfl ⟨⟨_, rfl, Qok_val rfl (Ev_assign rfl)⟩, trivial⟩ rfl (Cok_step rfl (Step_store 0 nb2 0 2 ([Slc gm 0 m cpm, I64 ((e:Int))]) 68 (.agg (List.toArray (α := Value) ([Slc nb27 0 (m + 1) cp21, I64 ((e:Int))]))) ([Slc nb27 0 (m + 1) cp21, I64 ((e:Int))]) ([Slc nb27 0 (m + 1) cp21, I64 ((e:Int))]) rfl rfl rfl (by first | rfl | simp) Try.sizeOf68 rfl (by simp [Value.oneCell']) (Nat.le_of_ble_eq_true rfl) (lay_whole (by simp [])))) ?_
                rintro v1 L1 ⟨rfl, rfl⟩
                refine ⟨[], ?_⟩
                show DP _ _ _ _ _ _ _ _ [⟨nb2, [Slc nb27 0 (m + 1) cp21, I64 ((e:Int))], 68, (0, 0)⟩, ⟨gm, cu8 o ++ spm, 5, (0, 0)⟩, ⟨nb16, [I64 (kd), I64 (s), U64 nn, .slice ax p cx], 70, (0, 0)⟩, ⟨nb1, [errV 36 e, Slc nb26 0 (m + 1) cp20], 66, (0, 0)⟩, ⟨nb26, cu8 (o ++ numK 1 (bitU (decide ((nn % (2:UInt64)) = (1:UInt64)))) 1) ++ sp20, 5, (0, 0)⟩, ⟨nb27, cu8 (o ++ numK 1 (bitU (decide ((nn % (2:UInt64)) = (1:UInt64)))) 1) ++ sp21, 5, (0, 0)⟩]
                refine DP_end ⟨[5, 11, 13], [0, 1, 2, 3, 4, 6, 7, 8, 9, 10, 12], [0, 1, 2, 3, 4, 6, 7, 8, 9, 10, 12], [], []⟩ rfl rfl (by decide +kernel) rfl trivial ?_
                refine K_sub (F' := [(96, Ptr nb1 0), (97, Ptr nb16 2), (98, U64 nn), (99, U64 (nn % (2:UInt64))), (100, .bool (decide ((nn % (2:UInt64)) = (1:UInt64)))), (101, Ptr nb1 0), (102, .agg (List.toArray (α := Value) ([Slc gm 0 m cpm, I64 ((e:Int))]))), (103, Ptr nb16 2), (104, U64 nn), (105, U64 (nn % (2:UInt64))), (106, .bool (decide ((nn % (2:UInt64)) = (1:UInt64)))), (107, .agg (List.toArray (α := Value) ([Slc nb27 0 (m + 1) cp21, I64 ((e:Int))]))), (8, Ptr nb1 0), (3, Ptr nb1 0), (4, Ptr nb2 0), (21, .slice ab n cb), (22, I64 ((n:Int))), (23, I64 ((i:Int))), (5, .pointer none), (24, .bool (decide (((i:Int)) < ((n:Int))))), (25, Ptr rowb (4*i + rowo)), (26, .agg (List.toArray (α := Value) ([I64 (kd), I64 (s), U64 nn, .slice ax p cx]))), (7, Ptr nb16 0), (27, Ptr nb1 0), (28, Ptr nb16 0), (29, I64 (kd)), (30, U64 (u64i (kd))), (31, U64 ((u64i (kd)) % (6:UInt64))), (33, .bool (decide (((u64i (kd)) % (6:UInt64)) = (0:UInt64)))), (32, .bool (decide (((u64i (kd)) % (6:UInt64)) = (0:UInt64)))), (53, .bool (decide (((u64i (kd)) % (6:UInt64)) = (1:UInt64)))), (52, .bool (decide (((u64i (kd)) % (6:UInt64)) = (1:UInt64)))), (67, .bool (decide (((u64i (kd)) % (6:UInt64)) = (2:UInt64)))), (66, .bool (decide (((u64i (kd)) % (6:UInt64)) = (2:UInt64)))), (81, .bool (decide (((u64i (kd)) % (6:UInt64)) = (3:UInt64)))), (80, .bool (decide (((u64i (kd)) % (6:UInt64)) = (3:UInt64)))), (95, .bool (decide (((u64i (kd)) % (6:UInt64)) = (4:UInt64)))), (94, .bool (decide (((u64i (kd)) % (6:UInt64)) = (4:UInt64))))]) (Sub.cons (by kernel_rfl) (Sub.cons (by kernel_rfl) (Sub.cons (by kernel_rfl) (Sub.cons (by kernel_rfl) (Sub.cons (by kernel_rfl) (Sub.cons (by kernel_rfl) (Sub.cons (by kernel_rfl) (Sub.cons (by kernel_rfl) (Sub.cons (by kernel_rfl) (Sub.cons (by kernel_rfl) (Sub.cons (by kernel_rfl) (Sub.cons (by kernel_rfl) (Sub.cons (by kernel_rfl) (Sub.cons (by kernel_rfl) (Sub.cons (by kernel_rfl) (Sub.cons (by kernel_rfl) (Sub.cons (by kernel_rfl) (Sub.cons (by kernel_rfl) (Sub.cons (by kernel_rfl) (Sub.cons (by kernel_rfl) (Sub.cons (by kernel_rfl) (Sub.cons (by kernel_rfl) (Sub.cons (by kernel_rfl) (Sub.cons (by kernel_rfl) (Sub.cons (by kernel_rfl) (Sub.cons (by kernel_rfl) (Sub.cons (by kernel_rfl) (Sub.cons (by kernel_rfl) (Sub.cons (by kernel_rfl) (Sub.cons (by kernel_rfl) (Sub.cons (by kernel_rfl) (Sub.cons (by kernel_rfl) (Sub.cons (by kernel_rfl) (Sub.cons (by kernel_rfl) (Sub.cons (by kernel_rfl) (Sub.cons (by kernel_rfl) (Sub.cons (by kernel_rfl) (Sub.cons (by kernel_rfl) (Sub.nil))))))))))))))))))))))))))))))))))))))) ?_
                show JQ _ _ _ [(96, Ptr nb1 0), (97, Ptr nb16 2), (98, U64 nn), (99, U64 (nn % (2:UInt64))), (100, .bool (decide ((nn % (2:UInt64)) = (1:UInt64)))), (101, Ptr nb1 0), (102, .agg (List.toArray (α := Value) ([Slc gm 0 m cpm, I64 ((e:Int))]))), (103, Ptr nb16 2), (104, U64 nn), (105, U64 (nn % (2:UInt64))), (106, .bool (decide ((nn % (2:UInt64)) = (1:UInt64)))), (107, .agg (List.toArray (α := Value) ([Slc nb27 0 (m + 1) cp21, I64 ((e:Int))]))), (8, Ptr nb1 0), (3, Ptr nb1 0), (4, Ptr nb2 0), (21, .slice ab n cb), (22, I64 ((n:Int))), (23, I64 ((i:Int))), (5, .pointer none), (24, .bool (decide (((i:Int)) < ((n:Int))))), (25, Ptr rowb (4*i + rowo)), (26, .agg (List.toArray (α := Value) ([I64 (kd), I64 (s), U64 nn, .slice ax p cx]))), (7, Ptr nb16 0), (27, Ptr nb1 0), (28, Ptr nb16 0), (29, I64 (kd)), (30, U64 (u64i (kd))), (31, U64 ((u64i (kd)) % (6:UInt64))), (33, .bool (decide (((u64i (kd)) % (6:UInt64)) = (0:UInt64)))), (32, .bool (decide (((u64i (kd)) % (6:UInt64)) = (0:UInt64)))), (53, .bool (decide (((u64i (kd)) % (6:UInt64)) = (1:UInt64)))), (52, .bool (decide (((u64i (kd)) % (6:UInt64)) = (1:UInt64)))), (67, .bool (decide (((u64i (kd)) % (6:UInt64)) = (2:UInt64)))), (66, .bool (decide (((u64i (kd)) % (6:UInt64)) = (2:UInt64)))), (81, .bool (decide (((u64i (kd)) % (6:UInt64)) = (3:UInt64)))), (80, .bool (decide (((u64i (kd)) % (6:UInt64)) = (3:UInt64)))), (95, .bool (decide (((u64i (kd)) % (6:UInt64)) = (4:UInt64)))), (94, .bool (decide (((u64i (kd)) % (6:UInt64)) = (4:UInt64))))] _
                refine JQ_then ?_
                refine JC_region ?_
                refine JL_val _ (Ev_move rfl) rfl ?_
                refine JL_val (Ptr nb16 2) (Ev_fieldAddr 2 44 1 Try.underlying70 rfl Try.sizeOf44 rfl rfl) rfl ?_
                refine JL_val (U64 nn) (Ev_load rfl (Ld_one Try.isAgg44 (MemAt.ent 2 rfl (Seg.tail (Seg.tail (Seg.head)))))) rfl ?_
                refine JL_val (U64 (nn % (2:UInt64))) (Ev_bini rfl rfl fun _ => bin_rem_u64 nn (2:UInt64) (by decide)) rfl ?_
                refine JL_val (.bool (decide ((nn % (2:UInt64)) = (1:UInt64)))) (Ev_bini rfl rfl fun _ => bin_eql_u64 (nn % (2:UInt64)) (1:UInt64)) rfl ?_
                refine JL_step (Step_callP 48 [.pointer none, .bool (decide ((nn % (2:UInt64)) = (1:UInt64)))] (.pointer none) (Cl_func [.pointer none, .bool (decide ((nn % (2:UInt64)) = (1:UInt64)))] Try.call48 rfl) (fun w1 _ => flagWNil_c (decide ((nn % (2:UInt64)) = (1:UInt64))) w1)) rfl ?_
                rintro v1 L1 ⟨rfl, rfl⟩
                show JL _ _ _ _ ((113, .pointer none) :: _) [⟨nb2, [Slc nb27 0 (m + 1) cp21, I64 ((e:Int))], 68, (0, 0)⟩, ⟨gm, cu8 o ++ spm, 5, (0, 0)⟩, ⟨nb16, [I64 (kd), I64 (s), U64 nn, .slice ax p cx], 70, (0, 0)⟩, ⟨nb1, [errV 36 e, Slc nb26 0 (m + 1) cp20], 66, (0, 0)⟩, ⟨nb26, cu8 (o ++ numK 1 (bitU (decide ((nn % (2:UInt64)) = (1:UInt64)))) 1) ++ sp20, 5, (0, 0)⟩, ⟨nb27, cu8 (o ++ numK 1 (bitU (decide ((nn % (2:UInt64)) = (1:UInt64)))) 1) ++ sp21, 5, (0, 0)⟩]
                refine JL_val _ (Ev_assign rfl) rfl ?_
                refine JL_nil ?_
                refine JQ_in_normal ?_
                refine JQ_then ?_
                refine JC_seq ?_
                refine JC_region ?_
                refine JL_val _ (Ev_move rfl) rfl ?_
                refine JL_val _ (Ev_move rfl) rfl ?_
                refine JL_val (.bool false) (Ev_bin _ _ _ rfl rfl (fun _ => eqGuard_ptr ..) fun w => neq_ptr_same Try.underlying62 (Try.sizeOf66 w) (by decide)) rfl ?_
                refine JL_val _ (Ev_move rfl) rfl ?_
                refine JL_gval 3 117 false _ _ rfl rfl rfl (Ev_move rfl) rfl ?_
                refine JL_gval 3 117 false _ (.bool false) rfl rfl rfl (Ev_bin _ _ _ rfl rfl (fun _ => eqGuard_ptr ..) fun _ => neq_ptr_nil_nil Try.underlying62) rfl ?_
                refine JL_val _ (Ev_pickF _ rfl rfl rfl) rfl ?_
                refine JL_nil ?_
                refine JQ_then ?_
                refine JC_condF _ rfl rfl ?_
                refine JC_skip ?_
                refine JQ_in_normal ?_
                refine JQ_then ?_
                refine JC_region ?_
                refine JL_val (I64 ((i:Int) + 1)) (Ev_bini rfl rfl fun _ => bin_add_i _ _ ((i:Int) + 1) (by omega) (by omega)) rfl ?_
                refine JL_val _ (Ev_move rfl) rfl ?_
                refine JL_nil ?_
                refine JQ_thenK ?_
                refine K_mask [true, false, false, true, true, true] ?_
                show K _ _ [⟨nb2, [Slc nb27 0 (m + 1) cp21, I64 ((e:Int))], 68, (0, 0)⟩, ⟨nb1, [errV 36 e, Slc nb26 0 (m + 1) cp20], 66, (0, 0)⟩, ⟨nb26, cu8 (o ++ numK 1 (bitU (decide ((nn % (2:UInt64)) = (1:UInt64)))) 1) ++ sp20, 5, (0, 0)⟩, ⟨nb27, cu8 (o ++ numK 1 (bitU (decide ((nn % (2:UInt64)) = (1:UInt64)))) 1) ++ sp21, 5, (0, 0)⟩] _
                refine K_pick [1, 0, 2, 3] (by decide) ?_
                show K _ _ [⟨nb1, [errV 36 e, Slc nb26 0 (m + 1) cp20], 66, (0, 0)⟩, ⟨nb2, [Slc nb27 0 (m + 1) cp21, I64 ((e:Int))], 68, (0, 0)⟩, ⟨nb26, cu8 (o ++ numK 1 (bitU (decide ((nn % (2:UInt64)) = (1:UInt64)))) 1) ++ sp20, 5, (0, 0)⟩, ⟨nb27, cu8 (o ++ numK 1 (bitU (decide ((nn % (2:UInt64)) = (1:UInt64)))) 1) ++ sp21, 5, (0, 0)⟩] _
                refine K_next (.inr (i + 1, e, o ++ numK 1 (bitU (decide ((nn % (2:UInt64)) = (1:UInt64)))) 1, (m + 1), nb26, sp20, cp20, nb27, sp21, cp21)) ⟨by omega, (show (o ++ numK 1 (bitU (decide ((nn % (2:UInt64)) = (1:UInt64)))) 1).length = (m + 1) from (by rw [List.length_append, ho, numK_len] <;> omega)), by rw [hsum]; omega, (by have := hc58; omega), (by omega), hc60, (by have := hc61; omega), (by omega), hc63⟩ (by first | (simp; omega) | simp | (dsimp only; omega) | omega) (Sub.cons rfl (Sub.cons rfl (Sub.cons rfl (Sub.cons rfl (Sub.cons rfl (Sub.cons rfl (Sub.nil))))))) rfl
              ·
                have hp14 : ¬ (((u64i (kd)) % (6:UInt64)) = (4:UInt64)) := of_decide_eq_false hb14
                refine JC_skip ?_
                refine JQ_in_normal ?_
                refine JQ_then ?_
                refine JC_seq ?_
                refine JC_region ?_
                refine JL_val _ (Ev_move rfl) rfl ?_
                refine JL_val _ (Ev_move rfl) rfl ?_
                refine JL_val (.bool false) (Ev_bin _ _ _ rfl rfl (fun _ => eqGuard_ptr ..) fun w => neq_ptr_same Try.underlying62 (Try.sizeOf66 w) (by decide)) rfl ?_
                refine JL_val _ (Ev_move rfl) rfl ?_
                refine JL_gval 3 117 false _ _ rfl rfl rfl (Ev_move rfl) rfl ?_
                refine JL_gval 3 117 false _ (.bool false) rfl rfl rfl (Ev_bin _ _ _ rfl rfl (fun _ => eqGuard_ptr ..) fun _ => neq_ptr_nil_nil Try.underlying62) rfl ?_
                refine JL_val _ (Ev_pickF _ rfl rfl rfl) rfl ?_
                refine JL_nil ?_
                refine JQ_then ?_
                refine JC_condF _ rfl rfl ?_
                refine JC_skip ?_
                refine JQ_in_normal ?_
                refine JQ_then ?_
                refine JC_region ?_
                refine JL_val (I64 ((i:Int) + 1)) (Ev_bini rfl rfl fun _ => bin_add_i _ _ ((i:Int) + 1) (by omega) (by omega)) rfl ?_
                refine JL_val _ (Ev_move rfl) rfl ?_
                refine JL_nil ?_
                refine JQ_thenK ?_
                refine K_mask [true, true, true, true, false] ?_
                show K _ _ [⟨nb1, [errV 36 e, Slc gw 0 m cpw], 66, (0, 0)⟩, ⟨nb2, [Slc gm 0 m cpm, I64 ((e:Int))], 68, (0, 0)⟩, ⟨gw, cu8 o ++ spw, 5, (0, 0)⟩, ⟨gm, cu8 o ++ spm, 5, (0, 0)⟩] _
                refine K_next (.inr (i + 1, e, o, m, gw, spw, cpw, gm, spm, cpm)) ⟨by omega, ho, by rw [hsum]; omega, (by have := hy1; omega), (by omega), hy3, (by have := hj1; omega), (by omega), hj3⟩ (by first | (simp; omega) | simp | (dsimp only; omega) | omega) (Sub.cons rfl (Sub.cons rfl (Sub.cons rfl (Sub.cons rfl (Sub.cons rfl (Sub.cons rfl (Sub.nil))))))) rfl
    ·
      have hp9 : ¬ (((i:Int)) < ((n:Int))) := of_decide_eq_false hb9
      refine JC_exit ?_
      refine JQ_then_exit ?_
      refine JQ_then_exit ?_
      refine JQ_in_same ?_
      refine JQ_then ?_
      refine JC_seq ?_
      have hse : sumP al i ≤ sumP al n := sumP_le al hx1
      by_cases he : e = 0
      ·
        refine JC_region ?_
        refine JL_val _ (Ev_move rfl) rfl ?_
        refine JL_step (Step_callN 50 [Ptr nb1 0] _ (Cl_func [Ptr nb1 0] Try.call50 rfl) (fun w1 hw1 => doneO_c nb1 e gw m cpw o w1 (RdA.of hw1 (MemAt.ent 0 rfl (Seg.whole _)) (by simp)) he ho (by omega) (RdB.of hw1 (MemAt.ent 2 rfl (Seg.left (Seg.whole _))) (by simp)))) rfl ?_
        rintro v1 L1 ⟨_, ⟨nb28, sp22, cp22, rfl, rfl, hc64, hc65, hc66⟩, rfl⟩
        show JL _ _ _ _ ((124, .tuple #[Slc nb28 0 m cp22, .nilIface]) :: _) [⟨nb1, [errV 36 e, Slc gw 0 m cpw], 66, (0, 0)⟩, ⟨nb2, [Slc gm 0 m cpm, I64 ((e:Int))], 68, (0, 0)⟩, ⟨gw, cu8 o ++ spw, 5, (0, 0)⟩, ⟨gm, cu8 o ++ spm, 5, (0, 0)⟩, ⟨nb28, cu8 o ++ sp22, 5, (0, 0)⟩]
        refine JL_val _ (Ev_move rfl) rfl ?_
        refine JL_val _ (Ev_extract rfl rfl) rfl ?_
        refine JL_val _ (Ev_extract rfl rfl) rfl ?_
        refine JL_val _ (Ev_assign rfl) rfl ?_
        refine JL_val _ (Ev_assign rfl) rfl ?_
        refine JL_nil ?_
        refine JQ_then ?_
        refine JC_seq ?_
        refine JC_region ?_
        refine JL_val _ (Ev_move rfl) rfl ?_
        refine JL_step (Step_callP 50 [.pointer none] (.tuple #[.slice none 0 0, .iface 36 (I64 (11:Int))]) (Cl_func [.pointer none] Try.call50 rfl) (fun w1 hw1 => doneNil_c w1)) rfl ?_
        rintro v1 L1 ⟨rfl, rfl⟩
        show JL _ _ _ _ ((129, .tuple #[.slice none 0 0, .iface 36 (I64 (11:Int))]) :: _) [⟨nb1, [errV 36 e, Slc gw 0 m cpw], 66, (0, 0)⟩, ⟨nb2, [Slc gm 0 m cpm, I64 ((e:Int))], 68, (0, 0)⟩, ⟨gw, cu8 o ++ spw, 5, (0, 0)⟩, ⟨gm, cu8 o ++ spm, 5, (0, 0)⟩, ⟨nb28, cu8 o ++ sp22, 5, (0, 0)⟩]
        refine JL_val _ (Ev_move rfl) rfl ?_
        refine JL_val _ (Ev_extract rfl rfl) rfl ?_
        refine JL_val _ (Ev_extract rfl rfl) rfl ?_
        refine JL_val _ (Ev_assign rfl) rfl ?_
        refine JL_val _ (Ev_assign rfl) rfl ?_
        refine JL_nil ?_
        refine JQ_then ?_
        refine JC_seq ?_
        refine JC_seq ?_
        refine JC_region ?_
        refine JL_val (Ptr nb2 1) (Ev_fieldAddr 1 3 1 Try.underlying68 rfl Try.sizeOf3 rfl rfl) rfl ?_
        refine JL_val (I64 ((e:Int))) (Ev_load rfl (Ld_one Try.isAgg3 (MemAt.ent 1 rfl (Seg.tail (Seg.head))))) rfl ?_
        refine JL_val (.bool (decide (((e:Int)) ≠ (0:Int)))) (Ev_bini rfl rfl fun _ => bin_neq_i _ _) rfl ?_
        refine JL_nil ?_
        refine JQ_then ?_
        refine JC_cond (decide (((e:Int)) ≠ (0:Int))) rfl (fun hb15 => ?_) (fun hb15 => ?_)
        ·
          have hp15 : ((e:Int)) ≠ (0:Int) := of_decide_eq_true hb15
          exfalso; omega
        ·
          have hp15 : ¬ (((e:Int)) ≠ (0:Int)) := of_decide_eq_false hb15
          refine JC_skip ?_
          refine JQ_then ?_
          refine JC_seq ?_
          refine JC_region ?_
          refine JL_val _ (Ev_move rfl) rfl ?_
          refine JL_val (.bool true) (Ev_bin _ _ _ rfl rfl (fun _ => eqGuard_nn ..) fun _ => eql_if_nil_nil Try.underlying30) rfl ?_
          refine JL_val _ (Ev_move rfl) rfl ?_
          refine JL_gval 2 151 true _ _ rfl rfl rfl (Ev_move rfl) rfl ?_
          refine JL_gval 2 151 true _ (Ptr nb2 0) rfl rfl rfl (Ev_fieldAddr 0 38 1 Try.underlying68 rfl Try.sizeOf38 rfl rfl) rfl ?_
          refine JL_gval 2 151 true _ (Slc gm 0 m cpm) rfl rfl rfl (Ev_load rfl (Ld_one Try.isAgg38 (MemAt.ent 1 rfl (Seg.head)))) rfl ?_
          refine JL_gstep 2 151 true _ rfl rfl rfl (Step_callP 25 [Slc nb28 0 m cp22, Slc gm 0 m cpm] (.bool (decide (o = o))) (Cl_func [Slc nb28 0 m cp22, Slc gm 0 m cpm] Try.call25 rfl) (fun w1 hw1 => bytes_c (some ⟨nb28, 0, none⟩) (some ⟨gm, 0, none⟩) m m cp22 cpm o o w1 ho ho (RdB.of hw1 (MemAt.ent 4 rfl (Seg.left (Seg.whole _))) (by simp)) (RdB.of hw1 (MemAt.ent 3 rfl (Seg.left (Seg.whole _))) (by simp)))) rfl ?_
          rintro v1 L1 ⟨rfl, rfl⟩
          show JL _ _ _ _ ((155, .bool (decide (o = o))) :: _) [⟨nb1, [errV 36 e, Slc gw 0 m cpw], 66, (0, 0)⟩, ⟨nb2, [Slc gm 0 m cpm, I64 ((e:Int))], 68, (0, 0)⟩, ⟨gw, cu8 o ++ spw, 5, (0, 0)⟩, ⟨gm, cu8 o ++ spm, 5, (0, 0)⟩, ⟨nb28, cu8 o ++ sp22, 5, (0, 0)⟩]
          refine JL_val _ (Ev_pickT _ rfl rfl rfl) rfl ?_
          refine JL_val _ (Ev_move rfl) rfl ?_
          refine JL_gval 8 157 true _ _ rfl rfl (decide_eq_true rfl) (Ev_move rfl) rfl ?_
          refine JL_gstep 8 157 true _ rfl rfl (decide_eq_true rfl) (Step_callP 24 [.iface 36 (I64 (11:Int)), I64 (11:Int)] (.bool true) (Cl_func [.iface 36 (I64 (11:Int)), I64 (11:Int)] Try.call24 rfl) (fun w1 hw1 => is_c 11 11 w1)) rfl ?_
          rintro v1 L1 ⟨rfl, rfl⟩
          show JL _ _ _ _ ((159, .bool true) :: _) [⟨nb1, [errV 36 e, Slc gw 0 m cpw], 66, (0, 0)⟩, ⟨nb2, [Slc gm 0 m cpm, I64 ((e:Int))], 68, (0, 0)⟩, ⟨gw, cu8 o ++ spw, 5, (0, 0)⟩, ⟨gm, cu8 o ++ spm, 5, (0, 0)⟩, ⟨nb28, cu8 o ++ sp22, 5, (0, 0)⟩]
          refine JL_val _ (Ev_pickT _ rfl (decide_eq_true rfl) rfl) rfl ?_
          refine JL_val _ (Ev_assign rfl) rfl ?_
          refine JL_nil ?_
          refine JQ_then ?_
          refine JC_ret ?_
          refine JQ_ret (.bool true) (res1 Try.results11 (RV_tmp rfl)) fun w1 hw1 => ?_
          exact ⟨_, [], rfl, ⟨by rw [show (true) = true from rfl], rfl⟩, hw1.sub (by simp) (by simp)⟩
      ·
        refine JC_region ?_
        refine JL_val _ (Ev_move rfl) rfl ?_
        refine JL_step (Step_callP 50 [Ptr nb1 0] (.tuple #[.slice none 0 0, errV 36 e]) (Cl_func [Ptr nb1 0] Try.call50 rfl) (fun w1 hw1 => doneE_c nb1 e (Slc gw 0 m cpw) w1 (RdA.of hw1 (MemAt.ent 0 rfl (Seg.whole _)) (by simp)) he)) rfl ?_
        rintro v1 L1 ⟨rfl, rfl⟩
        show JL _ _ _ _ ((124, .tuple #[.slice none 0 0, errV 36 e]) :: _) [⟨nb1, [errV 36 e, Slc gw 0 m cpw], 66, (0, 0)⟩, ⟨nb2, [Slc gm 0 m cpm, I64 ((e:Int))], 68, (0, 0)⟩, ⟨gw, cu8 o ++ spw, 5, (0, 0)⟩, ⟨gm, cu8 o ++ spm, 5, (0, 0)⟩]
        refine JL_val _ (Ev_move rfl) rfl ?_
        refine JL_val _ (Ev_extract rfl rfl) rfl ?_
        refine JL_val _ (Ev_extract rfl rfl) rfl ?_
        refine JL_val _ (Ev_assign rfl) rfl ?_
        refine JL_val _ (Ev_assign rfl) rfl ?_
        refine JL_nil ?_
        refine JQ_then ?_
        refine JC_seq ?_
        refine JC_region ?_
        refine JL_val _ (Ev_move rfl) rfl ?_
        refine JL_step (Step_callP 50 [.pointer none] (.tuple #[.slice none 0 0, .iface 36 (I64 (11:Int))]) (Cl_func [.pointer none] Try.call50 rfl) (fun w1 hw1 => doneNil_c w1)) rfl ?_
        rintro v1 L1 ⟨rfl, rfl⟩
        show JL _ _ _ _ ((129, .tuple #[.slice none 0 0, .iface 36 (I64 (11:Int))]) :: _) [⟨nb1, [errV 36 e, Slc gw 0 m cpw], 66, (0, 0)⟩, ⟨nb2, [Slc gm 0 m cpm, I64 ((e:Int))], 68, (0, 0)⟩, ⟨gw, cu8 o ++ spw, 5, (0, 0)⟩, ⟨gm, cu8 o ++ spm, 5, (0, 0)⟩]
        refine JL_val _ (Ev_move rfl) rfl ?_
        refine JL_val _ (Ev_extract rfl rfl) rfl ?_
        refine JL_val _ (Ev_extract rfl rfl) rfl ?_
        refine JL_val _ (Ev_assign rfl) rfl ?_
        refine JL_val _ (Ev_assign rfl) rfl ?_
        refine JL_nil ?_
        refine JQ_then ?_
        refine JC_seq ?_
        refine JC_seq ?_
        refine JC_region ?_
        refine JL_val (Ptr nb2 1) (Ev_fieldAddr 1 3 1 Try.underlying68 rfl Try.sizeOf3 rfl rfl) rfl ?_
        refine JL_val (I64 ((e:Int))) (Ev_load rfl (Ld_one Try.isAgg3 (MemAt.ent 1 rfl (Seg.tail (Seg.head))))) rfl ?_
        refine JL_val (.bool (decide (((e:Int)) ≠ (0:Int)))) (Ev_bini rfl rfl fun _ => bin_neq_i _ _) rfl ?_
        refine JL_nil ?_
        refine JQ_then ?_
        refine JC_cond (decide (((e:Int)) ≠ (0:Int))) rfl (fun hb16 => ?_) (fun hb16 => ?_)
        ·
          have hp16 : ((e:Int)) ≠ (0:Int) := of_decide_eq_true hb16
          refine JC_seq ?_
          refine JC_draw 161 3 [(0, errV 36 e), (2, Ptr nb2 1), (3, I64 ((e:Int)))] Try.mixed rfl (by decide +kernel) ?_
          refine DP_one ⟨[], [0, 2, 3], [], [0, 2, 3], [1]⟩ 1 _ rfl rfl (by decide +kernel) rfl ⟨⟨_, rfl, Qok_val rfl (Ev_move rfl)⟩, ⟨_, rfl, Qok_val rfl (Ev_fieldAddr 1 3 1 Try.underlying68 rfl Try.sizeOf3 rfl rfl)⟩, ⟨_, rfl, Qok_val rfl (Ev_load rfl (Ld_one Try.isAgg3 (MemAt.ent 1 rfl (Seg.tail (Seg.head)))))⟩, trivial⟩ rfl (Cok_step rfl (Step_callP 51 [errV 36 e] (I64 ((e:Int))) (Cl_func [errV 36 e] Try.call51 rfl) (fun w1 hw1 => errNum_w e w1))) ?_
          rintro v1 L1 ⟨rfl, rfl⟩
          refine ⟨[(4, .bool (decide (((e:Int)) = ((e:Int))))), (5, .bool (decide (((e:Int)) = ((e:Int))))), (6, .slice none 0 0), (7, I64 (0:Int)), (8, .bool (decide ((0:Int) = (0:Int)))), (9, .bool (decide ((0:Int) = (0:Int)))), (10, .bool (decide ((0:Int) = (0:Int)))), (11, .iface 36 (I64 (11:Int)))], ?_⟩
          show DP _ _ _ _ _ _ _ _ [⟨nb1, [errV 36 e, Slc gw 0 m cpw], 66, (0, 0)⟩, ⟨nb2, [Slc gm 0 m cpm, I64 ((e:Int))], 68, (0, 0)⟩, ⟨gw, cu8 o ++ spw, 5, (0, 0)⟩, ⟨gm, cu8 o ++ spm, 5, (0, 0)⟩]
          refine DP_one ⟨[1], [0, 2, 3, 4, 5, 6, 7, 8, 9, 10, 11], [0], [2, 3, 4, 5, 6, 7, 8, 9, 10, 11], [12]⟩ 12 _ rfl rfl (by decide +kernel) rfl ⟨⟨_, rfl, Qok_val rfl (Ev_fieldAddr 1 3 1 Try.underlying68 rfl Try.sizeOf3 rfl rfl)⟩, ⟨_, rfl, Qok_val rfl (Ev_load rfl (Ld_one Try.isAgg3 (MemAt.ent 1 rfl (Seg.tail (Seg.head)))))⟩, ⟨_, rfl, Qok_val rfl (Ev_bini rfl rfl fun _ => bin_eql_i _ _)⟩, ⟨_, rfl, Qok_val rfl (Ev_move rfl)⟩, ⟨_, rfl, Qok_gval 5 140 true _ rfl rfl rfl (by simp) (Ev_move rfl)⟩, ⟨_, rfl, Qok_gval 5 140 true _ rfl rfl rfl (by simp) (Ev_len Try.underlying38 rfl)⟩, ⟨_, rfl, Qok_gval 5 140 true _ rfl rfl rfl (by simp) (Ev_bini rfl rfl fun _ => bin_eql_i _ _)⟩, ⟨_, rfl, Qok_val rfl (Ev_pickT _ rfl (by simp) rfl)⟩, ⟨_, rfl, Qok_val rfl (Ev_move rfl)⟩, ⟨_, rfl, Qok_gval 10 145 true _ rfl rfl rfl (by decide) (Ev_move rfl)⟩, trivial⟩ rfl (Cok_gstep 10 145 true _ rfl rfl rfl (by decide) (Step_callP 24 [.iface 36 (I64 (11:Int)), I64 (11:Int)] (.bool true) (Cl_func [.iface 36 (I64 (11:Int)), I64 (11:Int)] Try.call24 rfl) (fun w1 hw1 => is_c 11 11 w1))) ?_
          rintro v1 L1 ⟨rfl, rfl⟩
          refine ⟨[(13, .bool true), (14, .bool true)], ?_⟩
          show DP _ _ _ _ _ _ _ _ [⟨nb1, [errV 36 e, Slc gw 0 m cpw], 66, (0, 0)⟩, ⟨nb2, [Slc gm 0 m cpm, I64 ((e:Int))], 68, (0, 0)⟩, ⟨gw, cu8 o ++ spw, 5, (0, 0)⟩, ⟨gm, cu8 o ++ spm, 5, (0, 0)⟩]
          refine DP_end ⟨[1, 12], [0, 2, 3, 4, 5, 6, 7, 8, 9, 10, 11, 13, 14], [0, 2, 3, 4, 5, 6, 7, 8, 9, 10, 11], [13, 14], []⟩ rfl rfl (by decide +kernel) rfl ⟨⟨_, rfl, Qok_val rfl (Ev_pickT _ rfl (by decide) rfl)⟩, ⟨_, rfl, Qok_val rfl (Ev_assign rfl)⟩, trivial⟩ ?_
          refine K_sub (F' := [(2, .bool true), (4, Ptr nb2 0), (10, .slice none 0 0), (11, errV 36 e), (13, .iface 36 (I64 (11:Int)))]) (Sub.cons (by kernel_rfl) (Sub.cons (by kernel_rfl) (Sub.cons (by kernel_rfl) (Sub.cons (by kernel_rfl) (Sub.cons (by kernel_rfl) (Sub.nil)))))) ?_
          show JQ _ _ _ [(2, .bool true), (4, Ptr nb2 0), (10, .slice none 0 0), (11, errV 36 e), (13, .iface 36 (I64 (11:Int)))] _
          refine JQ_then ?_
          refine JC_ret ?_
          refine JQ_then_ret ?_
          refine JQ_ret (.bool true) (res1 Try.results11 (RV_tmp rfl)) fun w1 hw1 => ?_
          exact ⟨_, [], rfl, ⟨by rw [show (true) = true from rfl], rfl⟩, hw1.sub (by simp) (by simp)⟩
        ·
          have hp16 : ¬ (((e:Int)) ≠ (0:Int)) := of_decide_eq_false hb16
          exfalso; omega

theorem octetsWrites_w (ab : Option Addr) (n cb : Nat) (al : List ActV) (w : World) (hlen : al.length = n) (hG : ∀ a ∈ al, ActG w a) (hv : RdV w ab (al.flatMap actC)) (hnb : n ≤ 140737488351232) : Calls Try.prog 11 #[.slice ab n cb] w (Post w [] (fun v L => v = .bool true ∧ L = [])) := by
  by_cases hl : LongP al n
  · exact octWritesL_c ab n cb al w hlen hG hv hnb hl
  · exact octWritesS_c ab n cb al w hlen hG hv hnb hl

end Go.Proofs.Ytncoifiafklkjaa
