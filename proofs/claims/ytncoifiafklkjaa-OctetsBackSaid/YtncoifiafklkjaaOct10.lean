import Derived.Test.YtncoifiafklkjaaOct8
import Derived.Test.YtncoifiafklkjaaBackLaw
namespace Go.Proofs.Ytncoifiafklkjaa
open Go Go.Sx
set_option linter.unusedVariables false
set_option linter.unusedSimpArgs false
set_option maxRecDepth 100000
attribute [local irreducible] mid zr8 zr32 zr64 numK rnK ftN valK rvalK
theorem octBackL_c (ab : Option Addr) (n cb : Nat) (al : List ActV) (w : World) (hlen : al.length = n) (hG : ∀ a ∈ al, ActG w a) (hv : RdV w ab (al.flatMap actC)) (hnb : n ≤ 140737488351232) (hlong : LongP al n) : Calls Try.prog 14 #[.slice ab n cb] w (Post w [] (fun v L => v = .bool true ∧ L = [])) := by
  refine enter w [] 131 [] [.slice ab n cb] Try.func14 rfl rfl (by simp) (Hp.start (by simp) (by simp) (by simp)) ?_
  show JC _ _ _ [(0, .slice ab n cb)] _
  refine JC_seq ?_
  refine JC_region ?_
  refine JL_val _ (Ev_assign rfl) rfl ?_
  refine JL_nil ?_
  refine JQ_then ?_
  refine JC_seq ?_
  refine JC_seq ?_
  refine JC_region ?_
  refine JL_step (Step_callP 38 [] (.bool true) (Cl_func [] Try.call38 rfl) (fun w1 hw1 => alive1_c  w1 )) rfl ?_
  rintro v1 L1 ⟨rfl, rfl⟩
  show JL _ _ _ _ ((12, .bool true) :: _) []
  refine JL_val (.bool (!true)) (Ev_not rfl) rfl ?_
  refine JL_nil ?_
  refine JQ_then ?_
  refine JC_condF _ rfl rfl ?_
  refine JC_skip ?_
  refine JQ_then ?_
  refine JC_seq ?_
  refine JC_seq ?_
  refine JC_region ?_
  refine JL_val _ (Ev_move rfl) rfl ?_
  refine JL_step (Step_callP 39 [.slice ab n cb] (.bool (decide (LongP al n))) (Cl_func [.slice ab n cb] Try.call39 rfl) (fun w1 hw1 => long_c ab n cb al w1 hlen (actG_at hw1 rfl hG) (rdV_at hw1 rfl hv) hnb)) rfl ?_
  rintro v1 L1 ⟨rfl, rfl⟩
  show JL _ _ _ _ ((15, .bool (decide (LongP al n))) :: _) []
  refine JL_nil ?_
  refine JQ_then ?_
  refine JC_condT _ rfl (decide_eq_true hlong) ?_
  refine JC_seq ?_
  refine JC_region ?_
  refine JL_val _ (Ev_assign rfl) rfl ?_
  refine JL_nil ?_
  refine JQ_then ?_
  refine JC_ret ?_
  refine JQ_then_ret ?_
  refine JQ_ret (.bool true) (res1 Try.results14 (RV_tmp rfl)) fun w1 hw1 => ?_
  exact ⟨_, [], rfl, ⟨by rw [show (true) = true from rfl], rfl⟩, hw1.sub (by simp) (by simp)⟩

set_option maxHeartbeats 4000000 in
theorem octBackS_c (ab : Option Addr) (n cb : Nat) (al : List ActV) (w : World) (hlen : al.length = n) (hG : ∀ a ∈ al, ActG w a) (hv : RdV w ab (al.flatMap actC)) (hnb : n ≤ 140737488351232) (hlong : ¬ LongP al n) : Calls Try.prog 14 #[.slice ab n cb] w (Post w [] (fun v L => v = .bool true ∧ L = [])) := by
  have hmx : maxLen = 9223372036854775807 := rfl
  obtain ⟨hl1, hl2⟩ : n ≤ 41 ∧ sumP al n ≤ 200000 := Classical.byContradiction fun h => hlong h
  refine enter w [] 131 [] [.slice ab n cb] Try.func14 rfl rfl (by simp) (Hp.start (by simp) (by simp) (by simp)) ?_
  show JC _ _ _ [(0, .slice ab n cb)] _
  refine JC_seq ?_
  refine JC_region ?_
  refine JL_val _ (Ev_assign rfl) rfl ?_
  refine JL_nil ?_
  refine JQ_then ?_
  refine JC_seq ?_
  refine JC_seq ?_
  refine JC_region ?_
  refine JL_step (Step_callP 38 [] (.bool true) (Cl_func [] Try.call38 rfl) (fun w1 hw1 => alive1_c  w1 )) rfl ?_
  rintro v1 L1 ⟨rfl, rfl⟩
  show JL _ _ _ _ ((12, .bool true) :: _) []
  refine JL_val (.bool (!true)) (Ev_not rfl) rfl ?_
  refine JL_nil ?_
  refine JQ_then ?_
  refine JC_condF _ rfl rfl ?_
  refine JC_skip ?_
  refine JQ_then ?_
  refine JC_seq ?_
  refine JC_seq ?_
  refine JC_region ?_
  refine JL_val _ (Ev_move rfl) rfl ?_
  refine JL_step (Step_callP 39 [.slice ab n cb] (.bool (decide (LongP al n))) (Cl_func [.slice ab n cb] Try.call39 rfl) (fun w1 hw1 => long_c ab n cb al w1 hlen (actG_at hw1 rfl hG) (rdV_at hw1 rfl hv) hnb)) rfl ?_
  rintro v1 L1 ⟨rfl, rfl⟩
  show JL _ _ _ _ ((15, .bool (decide (LongP al n))) :: _) []
  refine JL_nil ?_
  refine JQ_then ?_
  refine JC_condF _ rfl (decide_eq_false hlong) ?_
  refine JC_skip ?_
  refine JQ_then ?_
  refine JC_seq ?_
  refine JC_region ?_
  refine JL_val (.agg (List.toArray (α := Value) ([.nilIface, .slice none 0 0]))) (Ev_build [] _ rfl (fun _ => by kernel_rfl)) rfl ?_
  refine JL_step (Step_box (.agg (List.toArray (α := Value) ([.nilIface, .slice none 0 0]))) ([.nilIface, .slice none 0 0]) rfl (by first | rfl | simp)) rfl ?_
  rintro v1 L1 ⟨nb1, hnb1, rfl, rfl⟩
  show JL _ _ _ _ ((17, Ptr nb1 0) :: _) [⟨nb1, [.nilIface, .slice none 0 0], 66, (0, 0)⟩]
  refine JL_val _ (Ev_assign rfl) rfl ?_
  refine JL_nil ?_
  refine JQ_then ?_
  refine JC_seq ?_
  refine JC_seq ?_
  refine JC_region ?_
  refine JL_val _ (Ev_move rfl) rfl ?_
  refine JL_val (I64 ((n:Int))) (Ev_len Try.underlying60 rfl) rfl ?_
  refine JL_val _ (Ev_move rfl) rfl ?_
  refine JL_nil ?_
  refine JQ_then ?_
  refine JC_block ?_
  refine JC_loop (ι := (Nat × Nat) ⊕ (Nat × Nat × List UInt8 × Nat × Nat × List Value × Nat)) (fun x => match x with | .inl ⟨i, e⟩ => [(0, .slice ab n cb), (2, .bool false), (18, .slice ab n cb), (19, I64 ((n:Int))), (20, I64 ((i:Int))), (3, Ptr nb1 0)] | .inr ⟨i, e, o, m, gw, spw, cpw⟩ => [(0, .slice ab n cb), (2, .bool false), (18, .slice ab n cb), (19, I64 ((n:Int))), (20, I64 ((i:Int))), (3, Ptr nb1 0)]) (fun x => match x with | .inl ⟨i, e⟩ => [⟨nb1, [errV 36 e, .slice none 0 0], 66, (0, 0)⟩] | .inr ⟨i, e, o, m, gw, spw, cpw⟩ => [⟨nb1, [errV 36 e, Slc gw 0 m cpw], 66, (0, 0)⟩, ⟨gw, cu8 o ++ spw, 5, (0, 0)⟩]) (fun x => match x with | .inl ⟨i, e⟩ => i ≤ n ∧ (e = 0 → GoodU al i ∧ ([] : List UInt8) = encU al i) | .inr ⟨i, e, o, m, gw, spw, cpw⟩ => i ≤ n ∧ (e = 0 → GoodU al i ∧ o = encU al i) ∧ o.length = m ∧ m ≤ 34 * i + sumP al i ∧ spw.length = cpw - m ∧ m ≤ cpw ∧ cpw ≤ maxLen) (fun x => match x with | .inl ⟨i, e⟩ => n - i | .inr ⟨i, e, o, m, gw, spw, cpw⟩ => n - i) (.inl (0, 0)) ⟨by omega, fun _ => ⟨GoodU_zero al, (encU_zero al).symm⟩⟩ (Sub.cons rfl (Sub.cons rfl (Sub.cons rfl (Sub.cons rfl (Sub.cons rfl (Sub.cons rfl (Sub.nil))))))) rfl ?_
  rintro (⟨i, e⟩ | ⟨i, e, o, m, gw, spw, cpw⟩) hx
  ·
    obtain ⟨hx1, hinv⟩ := hx
    show JC _ _ _ [(0, .slice ab n cb), (2, .bool false), (18, .slice ab n cb), (19, I64 ((n:Int))), (20, I64 ((i:Int))), (3, Ptr nb1 0)] [⟨nb1, [errV 36 e, .slice none 0 0], 66, (0, 0)⟩]
    refine JC_seq ?_
    refine JC_region ?_
    refine JL_val (.bool (decide (((i:Int)) < ((n:Int))))) (Ev_bini rfl rfl fun _ => bin_lss_i _ _) rfl ?_
    refine JL_nil ?_
    refine JQ_then ?_
    refine JC_seq ?_
    refine JC_cond (decide (((i:Int)) < ((n:Int)))) rfl (fun hb1 => ?_) (fun hb1 => ?_)
    ·
      have hp1 : ((i:Int)) < ((n:Int)) := of_decide_eq_true hb1
      refine JC_skip ?_
      refine JQ_then ?_
      refine JC_seq ?_
      refine JC_block ?_
      refine JC_seq ?_
      obtain ⟨a, ha⟩ : ∃ a, al[i]? = some a := ⟨al[i]'(by omega), by simp⟩
      obtain ⟨rowb, rowo, hrowa, hrow⟩ := rows_at actC_len (by decide) hv ha
      have hG1 := hG _ (List.mem_of_getElem? ha)
      have hsum := sumP_succ ha
      have hsle : sumP al (i + 1) ≤ sumP al n := sumP_le al (by omega)
      obtain ⟨kd, s, nn, ax, p, cx, z⟩ := a
      obtain ⟨hkd, hsb, hz, hcn, hcc, hr, hp⟩ := hG1
      dsimp only [actC] at hkd hsb hz hcn hcc hr hp hrow hsum
      refine JC_region ?_
      refine JL_val (Ptr rowb (4*i + rowo)) (Ev_indexSlG 70 4 (4*i + rowo) Try.underlying60 Try.sizeOf70 rfl hrowa rfl (by omega) (by omega) (by omega)) rfl ?_
      refine JL_val (.agg (List.toArray (α := Value) ([I64 (kd), I64 (s), U64 nn, .slice ax p cx]))) (Ev_load rfl (Ld_agg Try.isAgg70 Try.sizeOf70 rfl (MemAt.seg (hrow.mem (by simp)) (Seg.whole _) (by omega)))) rfl ?_
      refine JL_step (Step_alloc _ ([I64 (0:Int), I64 (0:Int), U64 (0:UInt64), .slice none 0 0]) Try.zeroValue70 (by kernel_rfl)) rfl ?_
      rintro v1 L1 ⟨nb2, hnb2, rfl, rfl⟩
      show JL _ _ _ _ ((5, Ptr nb2 0) :: _) [⟨nb1, [errV 36 e, .slice none 0 0], 66, (0, 0)⟩, ⟨nb2, [I64 (0:Int), I64 (0:Int), U64 (0:UInt64), .slice none 0 0], 70, (0, 0)⟩]
      refine JL_step (Step_store 1 nb2 0 4 ([I64 (0:Int), I64 (0:Int), U64 (0:UInt64), .slice none 0 0]) 70 (.agg (List.toArray (α := Value) ([I64 (kd), I64 (s), U64 nn, .slice ax p cx]))) ([I64 (kd), I64 (s), U64 nn, .slice ax p cx]) ([I64 (kd), I64 (s), U64 nn, .slice ax p cx]) rfl rfl rfl (by first | rfl | simp) Try.sizeOf70 rfl (by simp [Value.oneCell']) (Nat.le_of_ble_eq_true rfl) (lay_whole (by simp []))) rfl ?_
      rintro v1 L1 ⟨rfl, rfl⟩
      show JL _ _ _ _ _ [⟨nb1, [errV 36 e, .slice none 0 0], 66, (0, 0)⟩, ⟨nb2, [I64 (kd), I64 (s), U64 nn, .slice ax p cx], 70, (0, 0)⟩]
      refine JL_nil ?_
      refine JQ_then ?_
      refine JC_seq ?_
      refine JC_region ?_
      refine JL_val (Ptr nb2 0) (Ev_fieldAddr 0 3 1 Try.underlying70 rfl Try.sizeOf3 rfl rfl) rfl ?_
      refine JL_val (I64 (kd)) (Ev_load rfl (Ld_one Try.isAgg3 (MemAt.ent 1 rfl (Seg.head)))) rfl ?_
      refine JL_val (U64 (u64i (kd))) (Ev_conv _ _ rfl fun _ => conv_i64_u64i (by rw [Try.underlying3]; rfl) Try.underlying49 (kd)) rfl ?_
      refine JL_val (U64 ((u64i (kd)) % (5:UInt64))) (Ev_bini rfl rfl fun _ => bin_rem_u64 (u64i (kd)) (5:UInt64) (by decide)) rfl ?_
      refine JL_nil ?_
      refine JQ_then ?_
      refine JC_block ?_
      refine JC_seq ?_
      refine JC_region ?_
      refine JL_val (.bool (decide (((u64i (kd)) % (5:UInt64)) = (0:UInt64)))) (Ev_bini rfl rfl fun _ => bin_eql_u64 ((u64i (kd)) % (5:UInt64)) (0:UInt64)) rfl ?_
      refine JL_val _ (Ev_assign rfl) rfl ?_
      refine JL_nil ?_
      refine JQ_then ?_
      refine JC_cond (decide (((u64i (kd)) % (5:UInt64)) = (0:UInt64))) rfl (fun hb2 => ?_) (fun hb2 => ?_)
      ·
        have hp2 : ((u64i (kd)) % (5:UInt64)) = (0:UInt64) := of_decide_eq_true hb2
        by_cases hsz : Szd s
        ·
          obtain ⟨k, rfl⟩ : ∃ k : Nat, s = k := ⟨s.toNat, by have := hsz; unfold Szd at this; omega⟩
          have hk8 : k ≤ 8 := by have := hsz; unfold Szd at this; omega
          by_cases hx : ftN nn k = 0
          ·
            refine JC_region ?_
            refine JL_val _ (Ev_move rfl) rfl ?_
            refine JL_val (Ptr nb2 2) (Ev_fieldAddr 2 44 1 Try.underlying70 rfl Try.sizeOf44 rfl rfl) rfl ?_
            refine JL_val (U64 nn) (Ev_load rfl (Ld_one Try.isAgg44 (MemAt.ent 1 rfl (Seg.tail (Seg.tail (Seg.head)))))) rfl ?_
            refine JL_val (Ptr nb2 1) (Ev_fieldAddr 1 3 1 Try.underlying70 rfl Try.sizeOf3 rfl rfl) rfl ?_
            refine JL_val (I64 ((k:Int))) (Ev_load rfl (Ld_one Try.isAgg3 (MemAt.ent 1 rfl (Seg.tail (Seg.head))))) rfl ?_
            refine JL_step (Step_call 40 _ [true, false] [nb1] _ (Cl_func [Ptr nb1 0, U64 nn, I64 ((k:Int))] Try.call40 rfl) rfl (fun w1 hw1 => numN_c nb1 k (errV 36 e) nn k w1 (hw1.ent _ (List.mem_of_getElem? (i := 0) rfl)) hsz (fit_ok hx) (by omega))) rfl ?_
            rintro v1 L1 ⟨_, ⟨rfl, nb3, sp1, cp1, rfl, hc1, hc2, hc3⟩, rfl⟩
            show JL _ _ _ _ ((41, Ptr nb1 0) :: _) [⟨nb2, [I64 (kd), I64 ((k:Int)), U64 nn, .slice ax p cx], 70, (0, 0)⟩, ⟨nb1, [errV 36 e, Slc nb3 0 k cp1], 66, (0, 0)⟩, ⟨nb3, cu8 (numK k nn k) ++ sp1, 5, (0, 0)⟩]
            refine JL_val _ (Ev_assign rfl) rfl ?_
            refine JL_nil ?_
            refine JQ_in_normal ?_
            refine JQ_in_normal ?_
            refine JQ_then ?_
            refine JC_region ?_
            refine JL_val (I64 ((i:Int) + 1)) (Ev_bini rfl rfl fun _ => bin_add_i _ _ ((i:Int) + 1) (by omega) (by omega)) rfl ?_
            refine JL_val _ (Ev_move rfl) rfl ?_
            refine JL_nil ?_
            refine JQ_thenK ?_
            refine K_mask [false, true, true] ?_
            show K _ _ [⟨nb1, [errV 36 e, Slc nb3 0 k cp1], 66, (0, 0)⟩, ⟨nb3, cu8 (numK k nn k) ++ sp1, 5, (0, 0)⟩] _
            refine K_next (.inr (i + 1, e, numK k nn k, k, nb3, sp1, cp1)) ⟨by omega, (fun he0 => (by first | exact bk0 (by assumption) hsz hx ha (hinv he0) | exact bk1 (by assumption) (by assumption) hple ha (hinv he0) | exact bk2z (by assumption) (by assumption) (by assumption) hz ha (hinv he0) | exact bk2 (by assumption) (by assumption) (by assumption) ha (hinv he0) | exact bk3 (by assumption) (by assumption) (by assumption) (by assumption) ha (hinv he0) | exact bk4 (by assumption) (by assumption) (by assumption) (by assumption) ha (hinv he0))), (show (numK k nn k).length = k from (numK_len _ _ _)), by rw [hsum]; omega, (by have := hc1; omega), (by omega), hc3⟩ (by first | (simp; omega) | simp | (dsimp only; omega) | omega) (Sub.cons rfl (Sub.cons rfl (Sub.cons rfl (Sub.cons rfl (Sub.cons rfl (Sub.cons rfl (Sub.nil))))))) rfl
          ·
            refine JC_region ?_
            refine JL_val _ (Ev_move rfl) rfl ?_
            refine JL_val (Ptr nb2 2) (Ev_fieldAddr 2 44 1 Try.underlying70 rfl Try.sizeOf44 rfl rfl) rfl ?_
            refine JL_val (U64 nn) (Ev_load rfl (Ld_one Try.isAgg44 (MemAt.ent 1 rfl (Seg.tail (Seg.tail (Seg.head)))))) rfl ?_
            refine JL_val (Ptr nb2 1) (Ev_fieldAddr 1 3 1 Try.underlying70 rfl Try.sizeOf3 rfl rfl) rfl ?_
            refine JL_val (I64 ((k:Int))) (Ev_load rfl (Ld_one Try.isAgg3 (MemAt.ent 1 rfl (Seg.tail (Seg.head))))) rfl ?_
            refine JL_step (Step_call 40 _ [true, false] [nb1] _ (Cl_func [Ptr nb1 0, U64 nn, I64 ((k:Int))] Try.call40 rfl) rfl (fun w1 hw1 => numB2_c nb1 e (.slice none 0 0) nn k w1 (hw1.ent _ (List.mem_of_getElem? (i := 0) rfl)) hsz (fit_lt hsz hx) (fit_ne hsz hx))) rfl ?_
            rintro v1 L1 ⟨_, ⟨rfl, rfl⟩, rfl⟩
            show JL _ _ _ _ ((41, Ptr nb1 0) :: _) [⟨nb2, [I64 (kd), I64 ((k:Int)), U64 nn, .slice ax p cx], 70, (0, 0)⟩, ⟨nb1, [errV 36 (erN e 1), .slice none 0 0], 66, (0, 0)⟩]
            refine JL_val _ (Ev_assign rfl) rfl ?_
            refine JL_nil ?_
            refine JQ_in_normal ?_
            refine JQ_in_normal ?_
            refine JQ_then ?_
            refine JC_region ?_
            refine JL_val (I64 ((i:Int) + 1)) (Ev_bini rfl rfl fun _ => bin_add_i _ _ ((i:Int) + 1) (by omega) (by omega)) rfl ?_
            refine JL_val _ (Ev_move rfl) rfl ?_
            refine JL_nil ?_
            refine JQ_thenK ?_
            refine K_mask [false, true] ?_
            show K _ _ [⟨nb1, [errV 36 (erN e 1), .slice none 0 0], 66, (0, 0)⟩] _
            refine K_next (.inl (i + 1, (erN e 1))) ⟨by omega, (fun he0 => absurd he0 (erN_ne (by decide)))⟩ (by first | (simp; omega) | simp | (dsimp only; omega) | omega) (Sub.cons rfl (Sub.cons rfl (Sub.cons rfl (Sub.cons rfl (Sub.cons rfl (Sub.cons rfl (Sub.nil))))))) rfl
        ·
          refine JC_region ?_
          refine JL_val _ (Ev_move rfl) rfl ?_
          refine JL_val (Ptr nb2 2) (Ev_fieldAddr 2 44 1 Try.underlying70 rfl Try.sizeOf44 rfl rfl) rfl ?_
          refine JL_val (U64 nn) (Ev_load rfl (Ld_one Try.isAgg44 (MemAt.ent 1 rfl (Seg.tail (Seg.tail (Seg.head)))))) rfl ?_
          refine JL_val (Ptr nb2 1) (Ev_fieldAddr 1 3 1 Try.underlying70 rfl Try.sizeOf3 rfl rfl) rfl ?_
          refine JL_val (I64 (s)) (Ev_load rfl (Ld_one Try.isAgg3 (MemAt.ent 1 rfl (Seg.tail (Seg.head))))) rfl ?_
          refine JL_step (Step_call 40 _ [true, false] [nb1] _ (Cl_func [Ptr nb1 0, U64 nn, I64 (s)] Try.call40 rfl) rfl (fun w1 hw1 => numB1_c nb1 e (.slice none 0 0) nn s w1 (hw1.ent _ (List.mem_of_getElem? (i := 0) rfl)) hsz)) rfl ?_
          rintro v1 L1 ⟨_, ⟨rfl, rfl⟩, rfl⟩
          show JL _ _ _ _ ((41, Ptr nb1 0) :: _) [⟨nb2, [I64 (kd), I64 (s), U64 nn, .slice ax p cx], 70, (0, 0)⟩, ⟨nb1, [errV 36 (erN e 1), .slice none 0 0], 66, (0, 0)⟩]
          refine JL_val _ (Ev_assign rfl) rfl ?_
          refine JL_nil ?_
          refine JQ_in_normal ?_
          refine JQ_in_normal ?_
          refine JQ_then ?_
          refine JC_region ?_
          refine JL_val (I64 ((i:Int) + 1)) (Ev_bini rfl rfl fun _ => bin_add_i _ _ ((i:Int) + 1) (by omega) (by omega)) rfl ?_
          refine JL_val _ (Ev_move rfl) rfl ?_
          refine JL_nil ?_
          refine JQ_thenK ?_
          refine K_mask [false, true] ?_
          show K _ _ [⟨nb1, [errV 36 (erN e 1), .slice none 0 0], 66, (0, 0)⟩] _
          refine K_next (.inl (i + 1, (erN e 1))) ⟨by omega, (fun he0 => absurd he0 (erN_ne (by decide)))⟩ (by first | (simp; omega) | simp | (dsimp only; omega) | omega) (Sub.cons rfl (Sub.cons rfl (Sub.cons rfl (Sub.cons rfl (Sub.cons rfl (Sub.cons rfl (Sub.nil))))))) rfl
      ·
        have hp2 : ¬ (((u64i (kd)) % (5:UInt64)) = (0:UInt64)) := of_decide_eq_false hb2
        refine JC_seq ?_
        refine JC_region ?_
        refine JL_val (.bool (decide (((u64i (kd)) % (5:UInt64)) = (1:UInt64)))) (Ev_bini rfl rfl fun _ => bin_eql_u64 ((u64i (kd)) % (5:UInt64)) (1:UInt64)) rfl ?_
        refine JL_val _ (Ev_assign rfl) rfl ?_
        refine JL_nil ?_
        refine JQ_then ?_
        refine JC_cond (decide (((u64i (kd)) % (5:UInt64)) = (1:UInt64))) rfl (fun hb3 => ?_) (fun hb3 => ?_)
        ·
          have hp3 : ((u64i (kd)) % (5:UInt64)) = (1:UInt64) := of_decide_eq_true hb3
          by_cases hple : p ≤ 65535
          ·
            refine JC_region ?_
            refine JL_val _ (Ev_move rfl) rfl ?_
            refine JL_val (Ptr nb2 3) (Ev_fieldAddr 3 38 1 Try.underlying70 rfl Try.sizeOf38 rfl rfl) rfl ?_
            refine JL_val (.slice ax p cx) (Ev_load rfl (Ld_one Try.isAgg38 (MemAt.ent 1 rfl (Seg.tail (Seg.tail (Seg.tail (Seg.head))))))) rfl ?_
            refine JL_step (Step_call 42 _ [true, false] [nb1] _ (Cl_func [Ptr nb1 0, .slice ax p cx] Try.call42 rfl) rfl (fun w1 hw1 => bytesN_c nb1 (p + 2) (errV 36 e) ax p cx z w1 (hw1.ent _ (List.mem_of_getElem? (i := 0) rfl)) hz (hr.at (M' := [nb1]) hw1 (hw1.apart [0] _ rfl)) (by omega) (by omega))) rfl ?_
            rintro v1 L1 ⟨_, ⟨rfl, nb4, sp2, cp2, rfl, hc4, hc5, hc6⟩, rfl⟩
            show JL _ _ _ _ ((47, Ptr nb1 0) :: _) [⟨nb2, [I64 (kd), I64 (s), U64 nn, .slice ax p cx], 70, (0, 0)⟩, ⟨nb1, [errV 36 e, Slc nb4 0 (p + 2) cp2], 66, (0, 0)⟩, ⟨nb4, cu8 (numK 2 (UInt64.ofNat p) 2 ++ z) ++ sp2, 5, (0, 0)⟩]
            refine JL_val _ (Ev_assign rfl) rfl ?_
            refine JL_nil ?_
            refine JQ_in_normal ?_
            refine JQ_in_normal ?_
            refine JQ_then ?_
            refine JC_region ?_
            refine JL_val (I64 ((i:Int) + 1)) (Ev_bini rfl rfl fun _ => bin_add_i _ _ ((i:Int) + 1) (by omega) (by omega)) rfl ?_
            refine JL_val _ (Ev_move rfl) rfl ?_
            refine JL_nil ?_
            refine JQ_thenK ?_
            refine K_mask [false, true, true] ?_
            show K _ _ [⟨nb1, [errV 36 e, Slc nb4 0 (p + 2) cp2], 66, (0, 0)⟩, ⟨nb4, cu8 (numK 2 (UInt64.ofNat p) 2 ++ z) ++ sp2, 5, (0, 0)⟩] _
            refine K_next (.inr (i + 1, e, numK 2 (UInt64.ofNat p) 2 ++ z, (p + 2), nb4, sp2, cp2)) ⟨by omega, (fun he0 => (by first | exact bk0 (by assumption) hsz hx ha (hinv he0) | exact bk1 (by assumption) (by assumption) hple ha (hinv he0) | exact bk2z (by assumption) (by assumption) (by assumption) hz ha (hinv he0) | exact bk2 (by assumption) (by assumption) (by assumption) ha (hinv he0) | exact bk3 (by assumption) (by assumption) (by assumption) (by assumption) ha (hinv he0) | exact bk4 (by assumption) (by assumption) (by assumption) (by assumption) ha (hinv he0))), (show (numK 2 (UInt64.ofNat p) 2 ++ z).length = (p + 2) from (by rw [List.length_append, numK_len, hz]; omega)), by rw [hsum]; omega, (by have := hc4; omega), (by omega), hc6⟩ (by first | (simp; omega) | simp | (dsimp only; omega) | omega) (Sub.cons rfl (Sub.cons rfl (Sub.cons rfl (Sub.cons rfl (Sub.cons rfl (Sub.cons rfl (Sub.nil))))))) rfl
          ·
            refine JC_region ?_
            refine JL_val _ (Ev_move rfl) rfl ?_
            refine JL_val (Ptr nb2 3) (Ev_fieldAddr 3 38 1 Try.underlying70 rfl Try.sizeOf38 rfl rfl) rfl ?_
            refine JL_val (.slice ax p cx) (Ev_load rfl (Ld_one Try.isAgg38 (MemAt.ent 1 rfl (Seg.tail (Seg.tail (Seg.tail (Seg.head))))))) rfl ?_
            refine JL_step (Step_call 42 _ [true, false] [nb1] _ (Cl_func [Ptr nb1 0, .slice ax p cx] Try.call42 rfl) rfl (fun w1 hw1 => bytesB_c nb1 e (.slice none 0 0) ax p cx w1 (hw1.ent _ (List.mem_of_getElem? (i := 0) rfl)) (by omega))) rfl ?_
            rintro v1 L1 ⟨_, ⟨rfl, rfl⟩, rfl⟩
            show JL _ _ _ _ ((47, Ptr nb1 0) :: _) [⟨nb2, [I64 (kd), I64 (s), U64 nn, .slice ax p cx], 70, (0, 0)⟩, ⟨nb1, [errV 36 (erN e 3), .slice none 0 0], 66, (0, 0)⟩]
            refine JL_val _ (Ev_assign rfl) rfl ?_
            refine JL_nil ?_
            refine JQ_in_normal ?_
            refine JQ_in_normal ?_
            refine JQ_then ?_
            refine JC_region ?_
            refine JL_val (I64 ((i:Int) + 1)) (Ev_bini rfl rfl fun _ => bin_add_i _ _ ((i:Int) + 1) (by omega) (by omega)) rfl ?_
            refine JL_val _ (Ev_move rfl) rfl ?_
            refine JL_nil ?_
            refine JQ_thenK ?_
            refine K_mask [false, true] ?_
            show K _ _ [⟨nb1, [errV 36 (erN e 3), .slice none 0 0], 66, (0, 0)⟩] _
            refine K_next (.inl (i + 1, (erN e 3))) ⟨by omega, (fun he0 => absurd he0 (erN_ne (by decide)))⟩ (by first | (simp; omega) | simp | (dsimp only; omega) | omega) (Sub.cons rfl (Sub.cons rfl (Sub.cons rfl (Sub.cons rfl (Sub.cons rfl (Sub.cons rfl (Sub.nil))))))) rfl
        ·
          have hp3 : ¬ (((u64i (kd)) % (5:UInt64)) = (1:UInt64)) := of_decide_eq_false hb3
          refine JC_seq ?_
          refine JC_region ?_
          refine JL_val (.bool (decide (((u64i (kd)) % (5:UInt64)) = (2:UInt64)))) (Ev_bini rfl rfl fun _ => bin_eql_u64 ((u64i (kd)) % (5:UInt64)) (2:UInt64)) rfl ?_
          refine JL_val _ (Ev_assign rfl) rfl ?_
          refine JL_nil ?_
          refine JQ_then ?_
          refine JC_cond (decide (((u64i (kd)) % (5:UInt64)) = (2:UInt64))) rfl (fun hb4 => ?_) (fun hb4 => ?_)
          ·
            have hp4 : ((u64i (kd)) % (5:UInt64)) = (2:UInt64) := of_decide_eq_true hb4
            by_cases hp0 : p = 0
            ·
              subst hp0
              refine JC_region ?_
              refine JL_val _ (Ev_move rfl) rfl ?_
              refine JL_val (Ptr nb2 3) (Ev_fieldAddr 3 38 1 Try.underlying70 rfl Try.sizeOf38 rfl rfl) rfl ?_
              refine JL_val (.slice ax 0 cx) (Ev_load rfl (Ld_one Try.isAgg38 (MemAt.ent 1 rfl (Seg.tail (Seg.tail (Seg.tail (Seg.head))))))) rfl ?_
              refine JL_step (Step_callW 44 [Ptr nb1 0, .slice ax 0 cx] 0 ⟨nb1, [errV 36 e, .slice none 0 0], 66, (0, 0)⟩ _ (fun v e' l' => v = Ptr nb1 0 ∧ e' = ⟨nb1, [errV 36 e, .slice none 0 0], 66, (0, 0)⟩ ∧ l' = []) (Cl_func [Ptr nb1 0, .slice ax 0 cx] Try.call44 rfl) rfl (by rintro v l ⟨rfl, rfl⟩; exact ⟨_, _, rfl, rfl, rfl, rfl, rfl⟩) (fun w1 hw1 => rawE_c nb1 (errV 36 e) ax cx w1 (hw1.ent _ (List.mem_of_getElem? (i := 0) rfl)))) rfl ?_
              rintro v1 L1 ⟨_, _, ⟨rfl, rfl, rfl⟩, rfl⟩
              show JL _ _ _ _ ((53, Ptr nb1 0) :: _) [⟨nb1, [errV 36 e, .slice none 0 0], 66, (0, 0)⟩, ⟨nb2, [I64 (kd), I64 (s), U64 nn, .slice ax 0 cx], 70, (0, 0)⟩]
              refine JL_val _ (Ev_assign rfl) rfl ?_
              refine JL_nil ?_
              refine JQ_in_normal ?_
              refine JQ_in_normal ?_
              refine JQ_then ?_
              refine JC_region ?_
              refine JL_val (I64 ((i:Int) + 1)) (Ev_bini rfl rfl fun _ => bin_add_i _ _ ((i:Int) + 1) (by omega) (by omega)) rfl ?_
              refine JL_val _ (Ev_move rfl) rfl ?_
              refine JL_nil ?_
              refine JQ_thenK ?_
              refine K_mask [true, false] ?_
              show K _ _ [⟨nb1, [errV 36 e, .slice none 0 0], 66, (0, 0)⟩] _
              refine K_next (.inl (i + 1, e)) ⟨by omega, (fun he0 => (by first | exact bk0 (by assumption) hsz hx ha (hinv he0) | exact bk1 (by assumption) (by assumption) hple ha (hinv he0) | exact bk2z (by assumption) (by assumption) (by assumption) hz ha (hinv he0) | exact bk2 (by assumption) (by assumption) (by assumption) ha (hinv he0) | exact bk3 (by assumption) (by assumption) (by assumption) (by assumption) ha (hinv he0) | exact bk4 (by assumption) (by assumption) (by assumption) (by assumption) ha (hinv he0)))⟩ (by first | (simp; omega) | simp | (dsimp only; omega) | omega) (Sub.cons rfl (Sub.cons rfl (Sub.cons rfl (Sub.cons rfl (Sub.cons rfl (Sub.cons rfl (Sub.nil))))))) rfl
            ·
              refine JC_region ?_
              refine JL_val _ (Ev_move rfl) rfl ?_
              refine JL_val (Ptr nb2 3) (Ev_fieldAddr 3 38 1 Try.underlying70 rfl Try.sizeOf38 rfl rfl) rfl ?_
              refine JL_val (.slice ax p cx) (Ev_load rfl (Ld_one Try.isAgg38 (MemAt.ent 1 rfl (Seg.tail (Seg.tail (Seg.tail (Seg.head))))))) rfl ?_
              refine JL_step (Step_call 44 _ [true, false] [nb1] _ (Cl_func [Ptr nb1 0, .slice ax p cx] Try.call44 rfl) rfl (fun w1 hw1 => rawN_c nb1 p (errV 36 e) ax p cx z w1 (hw1.ent _ (List.mem_of_getElem? (i := 0) rfl)) hz (by omega) (hr.at (M' := [nb1]) hw1 (hw1.apart [0] _ rfl)) (by omega) (by omega))) rfl ?_
              rintro v1 L1 ⟨_, ⟨rfl, nb5, sp3, cp3, rfl, hc7, hc8, hc9⟩, rfl⟩
              show JL _ _ _ _ ((53, Ptr nb1 0) :: _) [⟨nb2, [I64 (kd), I64 (s), U64 nn, .slice ax p cx], 70, (0, 0)⟩, ⟨nb1, [errV 36 e, Slc nb5 0 p cp3], 66, (0, 0)⟩, ⟨nb5, cu8 z ++ sp3, 5, (0, 0)⟩]
              refine JL_val _ (Ev_assign rfl) rfl ?_
              refine JL_nil ?_
              refine JQ_in_normal ?_
              refine JQ_in_normal ?_
              refine JQ_then ?_
              refine JC_region ?_
              refine JL_val (I64 ((i:Int) + 1)) (Ev_bini rfl rfl fun _ => bin_add_i _ _ ((i:Int) + 1) (by omega) (by omega)) rfl ?_
              refine JL_val _ (Ev_move rfl) rfl ?_
              refine JL_nil ?_
              refine JQ_thenK ?_
              refine K_mask [false, true, true] ?_
              show K _ _ [⟨nb1, [errV 36 e, Slc nb5 0 p cp3], 66, (0, 0)⟩, ⟨nb5, cu8 z ++ sp3, 5, (0, 0)⟩] _
              refine K_next (.inr (i + 1, e, z, p, nb5, sp3, cp3)) ⟨by omega, (fun he0 => (by first | exact bk0 (by assumption) hsz hx ha (hinv he0) | exact bk1 (by assumption) (by assumption) hple ha (hinv he0) | exact bk2z (by assumption) (by assumption) (by assumption) hz ha (hinv he0) | exact bk2 (by assumption) (by assumption) (by assumption) ha (hinv he0) | exact bk3 (by assumption) (by assumption) (by assumption) (by assumption) ha (hinv he0) | exact bk4 (by assumption) (by assumption) (by assumption) (by assumption) ha (hinv he0))), hz, by rw [hsum]; omega, (by have := hc7; omega), (by omega), hc9⟩ (by first | (simp; omega) | simp | (dsimp only; omega) | omega) (Sub.cons rfl (Sub.cons rfl (Sub.cons rfl (Sub.cons rfl (Sub.cons rfl (Sub.cons rfl (Sub.nil))))))) rfl
          ·
            have hp4 : ¬ (((u64i (kd)) % (5:UInt64)) = (2:UInt64)) := of_decide_eq_false hb4
            refine JC_seq ?_
            refine JC_region ?_
            refine JL_val (.bool (decide (((u64i (kd)) % (5:UInt64)) = (3:UInt64)))) (Ev_bini rfl rfl fun _ => bin_eql_u64 ((u64i (kd)) % (5:UInt64)) (3:UInt64)) rfl ?_
            refine JL_val _ (Ev_assign rfl) rfl ?_
            refine JL_nil ?_
            refine JQ_then ?_
            refine JC_cond (decide (((u64i (kd)) % (5:UInt64)) = (3:UInt64))) rfl (fun hb5 => ?_) (fun hb5 => ?_)
            ·
              have hp5 : ((u64i (kd)) % (5:UInt64)) = (3:UInt64) := of_decide_eq_true hb5
              refine JC_region ?_
              refine JL_val _ (Ev_move rfl) rfl ?_
              refine JL_val (Ptr nb2 3) (Ev_fieldAddr 3 38 1 Try.underlying70 rfl Try.sizeOf38 rfl rfl) rfl ?_
              refine JL_val (.slice ax p cx) (Ev_load rfl (Ld_one Try.isAgg38 (MemAt.ent 1 rfl (Seg.tail (Seg.tail (Seg.tail (Seg.head))))))) rfl ?_
              refine JL_step (Step_callP 46 [.slice ax p cx] (.agg (cu8 (hashL z)).toArray) (Cl_func [.slice ax p cx] Try.call46 rfl) (fun w1 hw1 => hash_w ax p cx z w1 hz (hr.at (M' := []) hw1 (by simp)))) rfl ?_
              rintro v1 L1 ⟨rfl, rfl⟩
              show JL _ _ _ _ ((59, .agg (cu8 (hashL z)).toArray) :: _) [⟨nb1, [errV 36 e, .slice none 0 0], 66, (0, 0)⟩, ⟨nb2, [I64 (kd), I64 (s), U64 nn, .slice ax p cx], 70, (0, 0)⟩]
              refine JL_step (Step_call 47 _ [true, false] [nb1] _ (Cl_func [Ptr nb1 0, .agg (cu8 (hashL z)).toArray] Try.call47 rfl) rfl (fun w1 hw1 => hashN_c nb1 32 (errV 36 e) (hashL z) w1 (hw1.ent _ (List.mem_of_getElem? (i := 0) rfl)) (hashL_len z) (by omega))) rfl ?_
              rintro v1 L1 ⟨_, ⟨rfl, nb6, sp4, cp4, rfl, hc10, hc11, hc12⟩, rfl⟩
              show JL _ _ _ _ ((60, Ptr nb1 0) :: _) [⟨nb2, [I64 (kd), I64 (s), U64 nn, .slice ax p cx], 70, (0, 0)⟩, ⟨nb1, [errV 36 e, Slc nb6 0 32 cp4], 66, (0, 0)⟩, ⟨nb6, cu8 (hashL z) ++ sp4, 5, (0, 0)⟩]
              refine JL_val _ (Ev_assign rfl) rfl ?_
              refine JL_nil ?_
              refine JQ_in_normal ?_
              refine JQ_in_normal ?_
              refine JQ_then ?_
              refine JC_region ?_
              refine JL_val (I64 ((i:Int) + 1)) (Ev_bini rfl rfl fun _ => bin_add_i _ _ ((i:Int) + 1) (by omega) (by omega)) rfl ?_
              refine JL_val _ (Ev_move rfl) rfl ?_
              refine JL_nil ?_
              refine JQ_thenK ?_
              refine K_mask [false, true, true] ?_
              show K _ _ [⟨nb1, [errV 36 e, Slc nb6 0 32 cp4], 66, (0, 0)⟩, ⟨nb6, cu8 (hashL z) ++ sp4, 5, (0, 0)⟩] _
              refine K_next (.inr (i + 1, e, hashL z, 32, nb6, sp4, cp4)) ⟨by omega, (fun he0 => (by first | exact bk0 (by assumption) hsz hx ha (hinv he0) | exact bk1 (by assumption) (by assumption) hple ha (hinv he0) | exact bk2z (by assumption) (by assumption) (by assumption) hz ha (hinv he0) | exact bk2 (by assumption) (by assumption) (by assumption) ha (hinv he0) | exact bk3 (by assumption) (by assumption) (by assumption) (by assumption) ha (hinv he0) | exact bk4 (by assumption) (by assumption) (by assumption) (by assumption) ha (hinv he0))), (show (hashL z).length = 32 from (hashL_len z)), by rw [hsum]; omega, (by have := hc10; omega), (by omega), hc12⟩ (by first | (simp; omega) | simp | (dsimp only; omega) | omega) (Sub.cons rfl (Sub.cons rfl (Sub.cons rfl (Sub.cons rfl (Sub.cons rfl (Sub.cons rfl (Sub.nil))))))) rfl
            ·
              have hp5 : ¬ (((u64i (kd)) % (5:UInt64)) = (3:UInt64)) := of_decide_eq_false hb5
              refine JC_region ?_
              refine JL_val _ (Ev_move rfl) rfl ?_
              refine JL_val (Ptr nb2 2) (Ev_fieldAddr 2 44 1 Try.underlying70 rfl Try.sizeOf44 rfl rfl) rfl ?_
              refine JL_val (U64 nn) (Ev_load rfl (Ld_one Try.isAgg44 (MemAt.ent 1 rfl (Seg.tail (Seg.tail (Seg.head)))))) rfl ?_
              refine JL_val (U64 (nn % (2:UInt64))) (Ev_bini rfl rfl fun _ => bin_rem_u64 nn (2:UInt64) (by decide)) rfl ?_
              refine JL_val (.bool (decide ((nn % (2:UInt64)) = (1:UInt64)))) (Ev_bini rfl rfl fun _ => bin_eql_u64 (nn % (2:UInt64)) (1:UInt64)) rfl ?_
              refine JL_step (Step_call 48 _ [true, false] [nb1] _ (Cl_func [Ptr nb1 0, .bool (decide ((nn % (2:UInt64)) = (1:UInt64)))] Try.call48 rfl) rfl (fun w1 hw1 => flagN_c nb1 1 (errV 36 e) (decide ((nn % (2:UInt64)) = (1:UInt64))) w1 (hw1.ent _ (List.mem_of_getElem? (i := 0) rfl)) (by omega))) rfl ?_
              rintro v1 L1 ⟨_, ⟨rfl, nb7, sp5, cp5, rfl, hc13, hc14, hc15⟩, rfl⟩
              show JL _ _ _ _ ((33, Ptr nb1 0) :: _) [⟨nb2, [I64 (kd), I64 (s), U64 nn, .slice ax p cx], 70, (0, 0)⟩, ⟨nb1, [errV 36 e, Slc nb7 0 1 cp5], 66, (0, 0)⟩, ⟨nb7, cu8 (numK 1 (bitU (decide ((nn % (2:UInt64)) = (1:UInt64)))) 1) ++ sp5, 5, (0, 0)⟩]
              refine JL_val _ (Ev_assign rfl) rfl ?_
              refine JL_nil ?_
              refine JQ_in_normal ?_
              refine JQ_in_normal ?_
              refine JQ_then ?_
              refine JC_region ?_
              refine JL_val (I64 ((i:Int) + 1)) (Ev_bini rfl rfl fun _ => bin_add_i _ _ ((i:Int) + 1) (by omega) (by omega)) rfl ?_
              refine JL_val _ (Ev_move rfl) rfl ?_
              refine JL_nil ?_
              refine JQ_thenK ?_
              refine K_mask [false, true, true] ?_
              show K _ _ [⟨nb1, [errV 36 e, Slc nb7 0 1 cp5], 66, (0, 0)⟩, ⟨nb7, cu8 (numK 1 (bitU (decide ((nn % (2:UInt64)) = (1:UInt64)))) 1) ++ sp5, 5, (0, 0)⟩] _
              refine K_next (.inr (i + 1, e, numK 1 (bitU (decide ((nn % (2:UInt64)) = (1:UInt64)))) 1, 1, nb7, sp5, cp5)) ⟨by omega, (fun he0 => (by first | exact bk0 (by assumption) hsz hx ha (hinv he0) | exact bk1 (by assumption) (by assumption) hple ha (hinv he0) | exact bk2z (by assumption) (by assumption) (by assumption) hz ha (hinv he0) | exact bk2 (by assumption) (by assumption) (by assumption) ha (hinv he0) | exact bk3 (by assumption) (by assumption) (by assumption) (by assumption) ha (hinv he0) | exact bk4 (by assumption) (by assumption) (by assumption) (by assumption) ha (hinv he0))), (show (numK 1 (bitU (decide ((nn % (2:UInt64)) = (1:UInt64)))) 1).length = 1 from (numK_len _ _ _)), by rw [hsum]; omega, (by have := hc13; omega), (by omega), hc15⟩ (by first | (simp; omega) | simp | (dsimp only; omega) | omega) (Sub.cons rfl (Sub.cons rfl (Sub.cons rfl (Sub.cons rfl (Sub.cons rfl (Sub.cons rfl (Sub.nil))))))) rfl
    ·
      have hp1 : ¬ (((i:Int)) < ((n:Int))) := of_decide_eq_false hb1
      refine JC_exit ?_
      refine JQ_then_exit ?_
      refine JQ_then_exit ?_
      refine JQ_in_same ?_
      refine JQ_then ?_
      refine JC_seq ?_
      have hse : sumP al i ≤ sumP al n := sumP_le al hx1
      by_cases he : e = 0
      ·
        refine JC_region ?_
        refine JL_val _ (Ev_move rfl) rfl ?_
        refine JL_step (Step_callP 50 [Ptr nb1 0] (.tuple #[.slice none 0 0, .nilIface]) (Cl_func [Ptr nb1 0] Try.call50 rfl) (fun w1 hw1 => doneN_c nb1 e w1 (RdA.of hw1 (MemAt.ent 0 rfl (Seg.whole _)) (by simp)) he)) rfl ?_
        rintro v1 L1 ⟨rfl, rfl⟩
        show JL _ _ _ _ ((64, .tuple #[.slice none 0 0, .nilIface]) :: _) [⟨nb1, [errV 36 e, .slice none 0 0], 66, (0, 0)⟩]
        refine JL_val _ (Ev_move rfl) rfl ?_
        refine JL_val _ (Ev_extract rfl rfl) rfl ?_
        refine JL_val _ (Ev_extract rfl rfl) rfl ?_
        refine JL_val _ (Ev_assign rfl) rfl ?_
        refine JL_val _ (Ev_assign rfl) rfl ?_
        refine JL_nil ?_
        refine JQ_then ?_
        refine JC_seq ?_
        refine JC_seq ?_
        refine JC_region ?_
        refine JL_val _ (Ev_move rfl) rfl ?_
        refine JL_val (.bool false) (Ev_bin _ _ _ rfl rfl (fun _ => eqGuard_nn ..) fun _ => neq_if_nil_nil Try.underlying30) rfl ?_
        refine JL_nil ?_
        refine JQ_then ?_
        refine JC_condF _ rfl rfl ?_
        refine JC_skip ?_
        refine JQ_then ?_
        refine JC_seq ?_
        refine JC_region ?_
        refine JL_val _ (Ev_move rfl) rfl ?_
        refine JL_step (Step_callN 52 [.slice none 0 0] _ (Cl_func [.slice none 0 0] Try.call52 rfl) (fun w1 hw1 => fromNil_c w1)) rfl ?_
        rintro v1 L1 ⟨_, ⟨nb8, rfl, rfl⟩, rfl⟩
        show JL _ _ _ _ ((73, Ptr nb8 0) :: _) [⟨nb1, [errV 36 e, .slice none 0 0], 66, (0, 0)⟩, ⟨nb8, [.nilIface, .slice none 0 0], 123, (0, 0)⟩]
        refine JL_val _ (Ev_assign rfl) rfl ?_
        refine JL_nil ?_
        refine JQ_then ?_
        refine JC_seq ?_
        refine JC_seq ?_
        have hin : i = al.length := by omega
        have hgood : ∀ a ∈ al, GoodA a := fun a h => (hinv he).1 a (by rw [hin, List.take_length]; exact h)
        have hyd : ([] : List UInt8) = encD al 0 := by rw [encD_zero, ← hin]; exact (hinv he).2
        clear hin
        refine JC_region ?_
        refine JL_val _ (Ev_move rfl) rfl ?_
        refine JL_val (I64 ((n:Int))) (Ev_len Try.underlying60 rfl) rfl ?_
        refine JL_val _ (Ev_move rfl) rfl ?_
        refine JL_nil ?_
        refine JQ_then ?_
        refine JC_block ?_
        refine K_mask [false, true] ?_
        show JC _ _ _ _ [⟨nb8, [.nilIface, .slice none 0 0], 123, (0, 0)⟩]
        refine JC_loop (ι := Nat × Nat × List UInt8 × Nat × Option Addr × Nat) (fun ⟨q, e, y, yn, ao, c⟩ => [(8, Ptr nb8 0), (74, .slice ab n cb), (75, I64 ((n:Int))), (76, I64 ((q:Int)))]) (fun ⟨q, e, y, yn, ao, c⟩ => [⟨nb8, [errV 36 e, .slice ao yn c], 123, (0, 0)⟩]) (fun ⟨q, e, y, yn, ao, c⟩ => q ≤ n ∧ e = 0 ∧ y = encD al q ∧ (∀ w M, RdB w M none (([] : List UInt8)) → RdB w M ao y) ∧ yn ≤ c ∧ c ≤ maxLen ∧ yn ≤ 1000000 ∧ y.length = yn) (fun ⟨q, e, y, yn, ao, c⟩ => n - q) (0, 0, [], 0, none, 0) ⟨by omega, rfl, hyd, fun _ _ h => h, by omega, by rw [hmx]; omega, by omega, rfl⟩ (Sub.cons rfl (Sub.cons rfl (Sub.cons rfl (Sub.cons rfl (Sub.nil))))) rfl ?_
        rintro ⟨q, e, y, yn, ao, c⟩ ⟨hx1, he, hy, hA, hc1, hc2, hc3, hyn⟩
        show JC _ _ _ [(8, Ptr nb8 0), (74, .slice ab n cb), (75, I64 ((n:Int))), (76, I64 ((q:Int)))] [⟨nb8, [errV 36 e, .slice ao yn c], 123, (0, 0)⟩]
        refine JC_seq ?_
        refine JC_region ?_
        refine JL_val (.bool (decide (((q:Int)) < ((n:Int))))) (Ev_bini rfl rfl fun _ => bin_lss_i _ _) rfl ?_
        refine JL_nil ?_
        refine JQ_then ?_
        refine JC_seq ?_
        refine JC_cond (decide (((q:Int)) < ((n:Int)))) rfl (fun hb6 => ?_) (fun hb6 => ?_)
        ·
          have hp6 : ((q:Int)) < ((n:Int)) := of_decide_eq_true hb6
          refine JC_skip ?_
          refine JQ_then ?_
          refine JC_seq ?_
          refine JC_block ?_
          refine JC_seq ?_
          have hyy0 := fun a (h : al[q]? = some a) => hy.trans (encD_succ h)
          have hgd0 := fun a (h : al[q]? = some a) => hgood a (List.mem_of_getElem? h)
          obtain ⟨a, ha⟩ : ∃ a, al[q]? = some a := ⟨al[q]'(by omega), by simp⟩
          obtain ⟨rowb, rowo, hrowa, hrow⟩ := rows_at actC_len (by decide) hv ha
          have hG1 := hG _ (List.mem_of_getElem? ha)
          have hsum := sumP_succ ha
          have hsle : sumP al (q + 1) ≤ sumP al n := sumP_le al (by omega)
          obtain ⟨kd, s, nn, ax, p, cx, z⟩ := a
          obtain ⟨hkd, hsb, hz, hcn, hcc, hr, hp⟩ := hG1
          dsimp only [actC] at hkd hsb hz hcn hcc hr hp hrow hsum
          have hyy := hyy0 _ ha
          have hgd := hgd0 _ ha
          refine JC_region ?_
          refine JL_val (Ptr rowb (4*q + rowo)) (Ev_indexSlG 70 4 (4*q + rowo) Try.underlying60 Try.sizeOf70 rfl hrowa rfl (by omega) (by omega) (by omega)) rfl ?_
          refine JL_val (.agg (List.toArray (α := Value) ([I64 (kd), I64 (s), U64 nn, .slice ax p cx]))) (Ev_load rfl (Ld_agg Try.isAgg70 Try.sizeOf70 rfl (MemAt.seg (hrow.mem (by simp)) (Seg.whole _) (by omega)))) rfl ?_
          refine JL_step (Step_alloc _ ([I64 (0:Int), I64 (0:Int), U64 (0:UInt64), .slice none 0 0]) Try.zeroValue70 (by kernel_rfl)) rfl ?_
          rintro v1 L1 ⟨nb9, hnb9, rfl, rfl⟩
          show JL _ _ _ _ ((10, Ptr nb9 0) :: _) [⟨nb8, [errV 36 e, .slice ao yn c], 123, (0, 0)⟩, ⟨nb9, [I64 (0:Int), I64 (0:Int), U64 (0:UInt64), .slice none 0 0], 70, (0, 0)⟩]
          refine JL_step (Step_store 1 nb9 0 4 ([I64 (0:Int), I64 (0:Int), U64 (0:UInt64), .slice none 0 0]) 70 (.agg (List.toArray (α := Value) ([I64 (kd), I64 (s), U64 nn, .slice ax p cx]))) ([I64 (kd), I64 (s), U64 nn, .slice ax p cx]) ([I64 (kd), I64 (s), U64 nn, .slice ax p cx]) rfl rfl rfl (by first | rfl | simp) Try.sizeOf70 rfl (by simp [Value.oneCell']) (Nat.le_of_ble_eq_true rfl) (lay_whole (by simp []))) rfl ?_
          rintro v1 L1 ⟨rfl, rfl⟩
          show JL _ _ _ _ _ [⟨nb8, [errV 36 e, .slice ao yn c], 123, (0, 0)⟩, ⟨nb9, [I64 (kd), I64 (s), U64 nn, .slice ax p cx], 70, (0, 0)⟩]
          refine JL_nil ?_
          refine JQ_then ?_
          refine JC_seq ?_
          refine JC_region ?_
          refine JL_val _ (Ev_assign rfl) rfl ?_
          refine JL_nil ?_
          refine JQ_then ?_
          refine JC_seq ?_
          refine JC_seq ?_
          refine JC_region ?_
          refine JL_val (Ptr nb9 0) (Ev_fieldAddr 0 3 1 Try.underlying70 rfl Try.sizeOf3 rfl rfl) rfl ?_
          refine JL_val (I64 (kd)) (Ev_load rfl (Ld_one Try.isAgg3 (MemAt.ent 1 rfl (Seg.head)))) rfl ?_
          refine JL_val (U64 (u64i (kd))) (Ev_conv _ _ rfl fun _ => conv_i64_u64i (by rw [Try.underlying3]; rfl) Try.underlying49 (kd)) rfl ?_
          refine JL_val (U64 ((u64i (kd)) % (5:UInt64))) (Ev_bini rfl rfl fun _ => bin_rem_u64 (u64i (kd)) (5:UInt64) (by decide)) rfl ?_
          refine JL_nil ?_
          refine JQ_then ?_
          refine JC_block ?_
          refine JC_seq ?_
          refine JC_region ?_
          refine JL_val (.bool (decide (((u64i (kd)) % (5:UInt64)) = (0:UInt64)))) (Ev_bini rfl rfl fun _ => bin_eql_u64 ((u64i (kd)) % (5:UInt64)) (0:UInt64)) rfl ?_
          refine JL_val _ (Ev_assign rfl) rfl ?_
          refine JL_nil ?_
          refine JQ_then ?_
          refine JC_cond (decide (((u64i (kd)) % (5:UInt64)) = (0:UInt64))) rfl (fun hb7 => ?_) (fun hb7 => ?_)
          ·
            have hp7 : ((u64i (kd)) % (5:UInt64)) = (0:UInt64) := of_decide_eq_true hb7
            refine JC_draw 131 2 [(0, Ptr nb8 0), (1, Ptr nb9 1), (2, I64 (s)), (4, Ptr nb9 2), (5, U64 nn)] Try.mixed rfl (by decide +kernel) ?_
            have hz1 : (y).length = yn := hyn
            refine DP_one ⟨[], [0, 1, 2, 4, 5], [], [0, 1, 2, 4, 5], [3]⟩ 3 _ rfl rfl (by decide +kernel) rfl ⟨⟨_, rfl, Qok_val rfl (Ev_move rfl)⟩, ⟨_, rfl, Qok_val rfl (Ev_fieldAddr 1 3 1 Try.underlying70 rfl Try.sizeOf3 rfl rfl)⟩, ⟨_, rfl, Qok_val rfl (Ev_load rfl (Ld_one Try.isAgg3 (MemAt.ent 1 rfl (Seg.tail (Seg.head)))))⟩, ⟨_, rfl, Qok_val rfl (Ev_fieldAddr 2 44 1 Try.underlying70 rfl Try.sizeOf44 rfl rfl)⟩, ⟨_, rfl, Qok_val rfl (Ev_load rfl (Ld_one Try.isAgg44 (MemAt.ent 1 rfl (Seg.tail (Seg.tail (Seg.head))))))⟩, trivial⟩ rfl (Cok_step rfl (Step_call 54 _ [true, false] [nb8] _ (Cl_func [Ptr nb8 0, I64 (s)] Try.call54 rfl) rfl (fun w1 hw1 => numR_w nb8 e ao yn c y (s) w1 (hw1.ent _ (List.mem_of_getElem? (i := 0) rfl)) hyn (by omega) (by omega) (by omega) (hA _ _ RdB.nil)))) ?_
            rintro v1 L1 ⟨_, ⟨rfl, ao1, ca1, ⟨hA1, hb8, hb9, hb10⟩, rfl⟩, rfl⟩
            refine ⟨[(6, .bool (decide ((nuV y e (s)) = nn))), (7, .bool (decide ((nuV y e (s)) = nn)))], ?_⟩
            show DP _ _ _ _ _ _ _ _ [⟨nb9, [I64 (kd), I64 (s), U64 nn, .slice ax p cx], 70, (0, 0)⟩, ⟨nb8, [errV 36 (okE e (decide (NuOk y e (s)))), .slice ao1 ((nuZ y e (s)).length) ca1], 123, (0, 0)⟩]
            refine DP_end ⟨[3], [0, 1, 2, 4, 5, 6, 7], [0, 1, 2], [4, 5, 6, 7], []⟩ rfl rfl (by decide +kernel) rfl ⟨⟨_, rfl, Qok_val rfl (Ev_fieldAddr 2 44 1 Try.underlying70 rfl Try.sizeOf44 rfl rfl)⟩, ⟨_, rfl, Qok_val rfl (Ev_load rfl (Ld_one Try.isAgg44 (MemAt.ent 0 rfl (Seg.tail (Seg.tail (Seg.head))))))⟩, ⟨_, rfl, Qok_val rfl (Ev_bini rfl rfl fun _ => bin_eql_u64 (nuV y e (s)) nn)⟩, ⟨_, rfl, Qok_val rfl (Ev_assign rfl)⟩, trivial⟩ ?_
            refine K_sub (F' := [(93, Ptr nb8 0), (94, Ptr nb9 1), (95, I64 (s)), (96, U64 (nuV y e (s))), (97, Ptr nb9 2), (98, U64 nn), (99, .bool (decide ((nuV y e (s)) = nn))), (11, .bool (decide ((nuV y e (s)) = nn))), (8, Ptr nb8 0), (74, .slice ab n cb), (75, I64 ((n:Int))), (76, I64 ((q:Int))), (77, .bool (decide (((q:Int)) < ((n:Int))))), (78, Ptr rowb (4*q + rowo)), (79, .agg (List.toArray (α := Value) ([I64 (kd), I64 (s), U64 nn, .slice ax p cx]))), (10, Ptr nb9 0), (80, Ptr nb9 0), (81, I64 (kd)), (82, U64 (u64i (kd))), (83, U64 ((u64i (kd)) % (5:UInt64))), (92, .bool (decide (((u64i (kd)) % (5:UInt64)) = (0:UInt64)))), (91, .bool (decide (((u64i (kd)) % (5:UInt64)) = (0:UInt64))))]) (Sub.cons (by kernel_rfl) (Sub.cons (by kernel_rfl) (Sub.cons (by kernel_rfl) (Sub.cons (by kernel_rfl) (Sub.cons (by kernel_rfl) (Sub.cons (by kernel_rfl) (Sub.cons (by kernel_rfl) (Sub.cons (by kernel_rfl) (Sub.cons (by kernel_rfl) (Sub.cons (by kernel_rfl) (Sub.cons (by kernel_rfl) (Sub.cons (by kernel_rfl) (Sub.cons (by kernel_rfl) (Sub.cons (by kernel_rfl) (Sub.cons (by kernel_rfl) (Sub.cons (by kernel_rfl) (Sub.cons (by kernel_rfl) (Sub.cons (by kernel_rfl) (Sub.cons (by kernel_rfl) (Sub.cons (by kernel_rfl) (Sub.cons (by kernel_rfl) (Sub.cons (by kernel_rfl) (Sub.nil))))))))))))))))))))))) ?_
            show JQ _ _ _ [(93, Ptr nb8 0), (94, Ptr nb9 1), (95, I64 (s)), (96, U64 (nuV y e (s))), (97, Ptr nb9 2), (98, U64 nn), (99, .bool (decide ((nuV y e (s)) = nn))), (11, .bool (decide ((nuV y e (s)) = nn))), (8, Ptr nb8 0), (74, .slice ab n cb), (75, I64 ((n:Int))), (76, I64 ((q:Int))), (77, .bool (decide (((q:Int)) < ((n:Int))))), (78, Ptr rowb (4*q + rowo)), (79, .agg (List.toArray (α := Value) ([I64 (kd), I64 (s), U64 nn, .slice ax p cx]))), (10, Ptr nb9 0), (80, Ptr nb9 0), (81, I64 (kd)), (82, U64 (u64i (kd))), (83, U64 ((u64i (kd)) % (5:UInt64))), (92, .bool (decide (((u64i (kd)) % (5:UInt64)) = (0:UInt64)))), (91, .bool (decide (((u64i (kd)) % (5:UInt64)) = (0:UInt64))))] _
            refine JQ_in_normal ?_
            refine JQ_then ?_
            refine JC_seq ?_
            refine JC_region ?_
            refine JL_val _ (Ev_move rfl) rfl ?_
            refine JL_val (.bool (!(decide ((nuV y e (s)) = nn)))) (Ev_not rfl) rfl ?_
            refine JL_nil ?_
            refine JQ_then ?_
            refine JC_condF _ rfl (by rw [show (decide ((nuV y e (s)) = nn)) = true from (decide_eq_true (rk0 (by assumption) hgd hyy he).1)]; rfl) ?_
            refine JC_skip ?_
            refine JQ_in_normal ?_
            refine JQ_then ?_
            refine JC_region ?_
            refine JL_val (I64 ((q:Int) + 1)) (Ev_bini rfl rfl fun _ => bin_add_i _ _ ((q:Int) + 1) (by omega) (by omega)) rfl ?_
            refine JL_val _ (Ev_move rfl) rfl ?_
            refine JL_nil ?_
            refine JQ_thenK ?_
            refine K_mask [false, true] ?_
            show K _ _ [⟨nb8, [errV 36 (okE e (decide (NuOk y e (s)))), .slice ao1 ((nuZ y e (s)).length) ca1], 123, (0, 0)⟩] _
            have hy2 : nuZ y e (s) = encD al (q + 1) := (by first | exact (rk0 (by assumption) hgd hyy he).2.1 | exact (rk1 (by assumption) (by assumption) hz hgd hyy he).2.1 | exact (rk2 (by assumption) (by assumption) (by assumption) hz hyy he).2.1 | exact (rk3 (by assumption) (by assumption) (by assumption) (by assumption) hyy he).2.1 | exact (rk4 (by assumption) (by assumption) (by assumption) (by assumption) hyy he).2.1)
            have hle : (nuZ y e (s)).length ≤ y.length := by rw [hy2, hyy, List.length_append]; omega
            refine K_next (q + 1, (okE e (decide (NuOk y e (s)))), (nuZ y e (s)), ((nuZ y e (s)).length), ao1, ca1) ⟨by omega, (by first | exact (rk0 (by assumption) hgd hyy he).2.2 | exact (rk1 (by assumption) (by assumption) hz hgd hyy he).2.2 | exact (rk2 (by assumption) (by assumption) (by assumption) hz hyy he).2.2 | exact (rk3 (by assumption) (by assumption) (by assumption) (by assumption) hyy he).2.2 | exact (rk4 (by assumption) (by assumption) (by assumption) (by assumption) hyy he).2.2), hy2, (fun w M h => hA1 w M (hA w M h)), (by omega), (by omega), (by omega), rfl⟩ (by first | (simp; omega) | simp | (dsimp only; omega) | omega) (Sub.cons rfl (Sub.cons rfl (Sub.cons rfl (Sub.cons rfl (Sub.nil))))) rfl
          ·
            have hp7 : ¬ (((u64i (kd)) % (5:UInt64)) = (0:UInt64)) := of_decide_eq_false hb7
            refine JC_seq ?_
            refine JC_region ?_
            refine JL_val (.bool (decide (((u64i (kd)) % (5:UInt64)) = (1:UInt64)))) (Ev_bini rfl rfl fun _ => bin_eql_u64 ((u64i (kd)) % (5:UInt64)) (1:UInt64)) rfl ?_
            refine JL_val _ (Ev_assign rfl) rfl ?_
            refine JL_nil ?_
            refine JQ_then ?_
            refine JC_cond (decide (((u64i (kd)) % (5:UInt64)) = (1:UInt64))) rfl (fun hb11 => ?_) (fun hb11 => ?_)
            ·
              have hp11 : ((u64i (kd)) % (5:UInt64)) = (1:UInt64) := of_decide_eq_true hb11
              refine JC_draw 131 3 [(0, Ptr nb8 0), (2, Ptr nb9 3), (3, .slice ax p cx)] Try.mixed rfl (by decide +kernel) ?_
              have hz2 : (y).length = yn := hyn
              refine DP_one ⟨[], [0, 2, 3], [], [0, 2, 3], [1]⟩ 1 _ rfl rfl (by decide +kernel) rfl ⟨⟨_, rfl, Qok_val rfl (Ev_move rfl)⟩, ⟨_, rfl, Qok_val rfl (Ev_fieldAddr 3 38 1 Try.underlying70 rfl Try.sizeOf38 rfl rfl)⟩, ⟨_, rfl, Qok_val rfl (Ev_load rfl (Ld_one Try.isAgg38 (MemAt.ent 1 rfl (Seg.tail (Seg.tail (Seg.tail (Seg.head)))))))⟩, trivial⟩ rfl (Cok_step rfl (Step_call 56 _ [true, false] [nb8] _ (Cl_func [Ptr nb8 0, I64 (65535:Int)] Try.call56 rfl) rfl (fun w1 hw1 => bytR_w nb8 e ao yn c y (65535:Int) w1 (hw1.ent _ (List.mem_of_getElem? (i := 0) rfl)) hyn (by omega) (by omega) (by omega) (hA _ _ RdB.nil)))) ?_
              rintro v1 L1 ⟨_, ⟨ao2, ca2, ⟨hA2, hb12, hb13, hb14⟩, _, rfl, (⟨hv1, rfl, rfl⟩ | ⟨nb10, sp6, cp6, rfl, rfl, hc16, hc17, hc18⟩)⟩, rfl⟩
              ·
                refine ⟨[], ?_⟩
                show DP _ _ _ _ _ _ _ _ [⟨nb9, [I64 (kd), I64 (s), U64 nn, .slice ax p cx], 70, (0, 0)⟩, ⟨nb8, [errV 36 (okE e (decide (FdOk y e (65535:Int)))), .slice ao2 ((fdZ y e (65535:Int)).length) ca2], 123, (0, 0)⟩]
                refine DP_one ⟨[1], [0, 2, 3], [0], [2, 3], [4]⟩ 4 _ rfl rfl (by decide +kernel) rfl ⟨⟨_, rfl, Qok_val rfl (Ev_fieldAddr 3 38 1 Try.underlying70 rfl Try.sizeOf38 rfl rfl)⟩, ⟨_, rfl, Qok_val rfl (Ev_load rfl (Ld_one Try.isAgg38 (MemAt.ent 0 rfl (Seg.tail (Seg.tail (Seg.tail (Seg.head)))))))⟩, trivial⟩ rfl (Cok_step rfl (Step_callP 25 [.slice none 0 0, .slice ax p cx] (.bool (decide ((fdV y e (65535:Int)) = z))) (Cl_func [.slice none 0 0, .slice ax p cx] Try.call25 rfl) (fun w1 hw1 => bytes_c none ax 0 p 0 cx (fdV y e (65535:Int)) z w1 (by rw [hv1]; rfl) hz ((RdB.nilOf hv1).at (M' := []) hw1 (by simp)) (hr.at (M' := []) hw1 (by simp))))) ?_
                rintro v1 L1 ⟨rfl, rfl⟩
                refine ⟨[(5, .bool (decide ((fdV y e (65535:Int)) = z)))], ?_⟩
                show DP _ _ _ _ _ _ _ _ [⟨nb9, [I64 (kd), I64 (s), U64 nn, .slice ax p cx], 70, (0, 0)⟩, ⟨nb8, [errV 36 (okE e (decide (FdOk y e (65535:Int)))), .slice ao2 ((fdZ y e (65535:Int)).length) ca2], 123, (0, 0)⟩]
                refine DP_end ⟨[1, 4], [0, 2, 3, 5], [0, 2, 3], [5], []⟩ rfl rfl (by decide +kernel) rfl ⟨⟨_, rfl, Qok_val rfl (Ev_assign rfl)⟩, trivial⟩ ?_
                refine K_sub (F' := [(102, Ptr nb8 0), (103, .slice none 0 0), (104, Ptr nb9 3), (105, .slice ax p cx), (106, .bool (decide ((fdV y e (65535:Int)) = z))), (11, .bool (decide ((fdV y e (65535:Int)) = z))), (8, Ptr nb8 0), (74, .slice ab n cb), (75, I64 ((n:Int))), (76, I64 ((q:Int))), (77, .bool (decide (((q:Int)) < ((n:Int))))), (78, Ptr rowb (4*q + rowo)), (79, .agg (List.toArray (α := Value) ([I64 (kd), I64 (s), U64 nn, .slice ax p cx]))), (10, Ptr nb9 0), (80, Ptr nb9 0), (81, I64 (kd)), (82, U64 (u64i (kd))), (83, U64 ((u64i (kd)) % (5:UInt64))), (92, .bool (decide (((u64i (kd)) % (5:UInt64)) = (0:UInt64)))), (91, .bool (decide (((u64i (kd)) % (5:UInt64)) = (0:UInt64)))), (101, .bool (decide (((u64i (kd)) % (5:UInt64)) = (1:UInt64)))), (100, .bool (decide (((u64i (kd)) % (5:UInt64)) = (1:UInt64))))]) (Sub.cons (by kernel_rfl) (Sub.cons (by kernel_rfl) (Sub.cons (by kernel_rfl) (Sub.cons (by kernel_rfl) (Sub.cons (by kernel_rfl) (Sub.cons (by kernel_rfl) (Sub.cons (by kernel_rfl) (Sub.cons (by kernel_rfl) (Sub.cons (by kernel_rfl) (Sub.cons (by kernel_rfl) (Sub.cons (by kernel_rfl) (Sub.cons (by kernel_rfl) (Sub.cons (by kernel_rfl) (Sub.cons (by kernel_rfl) (Sub.cons (by kernel_rfl) (Sub.cons (by kernel_rfl) (Sub.cons (by kernel_rfl) (Sub.cons (by kernel_rfl) (Sub.cons (by kernel_rfl) (Sub.cons (by kernel_rfl) (Sub.cons (by kernel_rfl) (Sub.cons (by kernel_rfl) (Sub.nil))))))))))))))))))))))) ?_
                show JQ _ _ _ [(102, Ptr nb8 0), (103, .slice none 0 0), (104, Ptr nb9 3), (105, .slice ax p cx), (106, .bool (decide ((fdV y e (65535:Int)) = z))), (11, .bool (decide ((fdV y e (65535:Int)) = z))), (8, Ptr nb8 0), (74, .slice ab n cb), (75, I64 ((n:Int))), (76, I64 ((q:Int))), (77, .bool (decide (((q:Int)) < ((n:Int))))), (78, Ptr rowb (4*q + rowo)), (79, .agg (List.toArray (α := Value) ([I64 (kd), I64 (s), U64 nn, .slice ax p cx]))), (10, Ptr nb9 0), (80, Ptr nb9 0), (81, I64 (kd)), (82, U64 (u64i (kd))), (83, U64 ((u64i (kd)) % (5:UInt64))), (92, .bool (decide (((u64i (kd)) % (5:UInt64)) = (0:UInt64)))), (91, .bool (decide (((u64i (kd)) % (5:UInt64)) = (0:UInt64)))), (101, .bool (decide (((u64i (kd)) % (5:UInt64)) = (1:UInt64)))), (100, .bool (decide (((u64i (kd)) % (5:UInt64)) = (1:UInt64))))] _
                refine JQ_in_normal ?_
                refine JQ_then ?_
                refine JC_seq ?_
                refine JC_region ?_
                refine JL_val _ (Ev_move rfl) rfl ?_
                refine JL_val (.bool (!(decide ((fdV y e (65535:Int)) = z)))) (Ev_not rfl) rfl ?_
                refine JL_nil ?_
                refine JQ_then ?_
                refine JC_condF _ rfl (by rw [show (decide ((fdV y e (65535:Int)) = z)) = true from (decide_eq_true (rk1 (by assumption) (by assumption) hz hgd hyy he).1)]; rfl) ?_
                refine JC_skip ?_
                refine JQ_in_normal ?_
                refine JQ_then ?_
                refine JC_region ?_
                refine JL_val (I64 ((q:Int) + 1)) (Ev_bini rfl rfl fun _ => bin_add_i _ _ ((q:Int) + 1) (by omega) (by omega)) rfl ?_
                refine JL_val _ (Ev_move rfl) rfl ?_
                refine JL_nil ?_
                refine JQ_thenK ?_
                refine K_mask [false, true] ?_
                show K _ _ [⟨nb8, [errV 36 (okE e (decide (FdOk y e (65535:Int)))), .slice ao2 ((fdZ y e (65535:Int)).length) ca2], 123, (0, 0)⟩] _
                have hy2 : fdZ y e (65535:Int) = encD al (q + 1) := (by first | exact (rk0 (by assumption) hgd hyy he).2.1 | exact (rk1 (by assumption) (by assumption) hz hgd hyy he).2.1 | exact (rk2 (by assumption) (by assumption) (by assumption) hz hyy he).2.1 | exact (rk3 (by assumption) (by assumption) (by assumption) (by assumption) hyy he).2.1 | exact (rk4 (by assumption) (by assumption) (by assumption) (by assumption) hyy he).2.1)
                have hle : (fdZ y e (65535:Int)).length ≤ y.length := by rw [hy2, hyy, List.length_append]; omega
                refine K_next (q + 1, (okE e (decide (FdOk y e (65535:Int)))), (fdZ y e (65535:Int)), ((fdZ y e (65535:Int)).length), ao2, ca2) ⟨by omega, (by first | exact (rk0 (by assumption) hgd hyy he).2.2 | exact (rk1 (by assumption) (by assumption) hz hgd hyy he).2.2 | exact (rk2 (by assumption) (by assumption) (by assumption) hz hyy he).2.2 | exact (rk3 (by assumption) (by assumption) (by assumption) (by assumption) hyy he).2.2 | exact (rk4 (by assumption) (by assumption) (by assumption) (by assumption) hyy he).2.2), hy2, (fun w M h => hA2 w M (hA w M h)), (by omega), (by omega), (by omega), rfl⟩ (by first | (simp; omega) | simp | (dsimp only; omega) | omega) (Sub.cons rfl (Sub.cons rfl (Sub.cons rfl (Sub.cons rfl (Sub.nil))))) rfl
              ·
                refine ⟨[], ?_⟩
                show DP _ _ _ _ _ _ _ _ [⟨nb9, [I64 (kd), I64 (s), U64 nn, .slice ax p cx], 70, (0, 0)⟩, ⟨nb8, [errV 36 (okE e (decide (FdOk y e (65535:Int)))), .slice ao2 ((fdZ y e (65535:Int)).length) ca2], 123, (0, 0)⟩, ⟨nb10, cu8 (fdV y e (65535:Int)) ++ sp6, 5, (0, 0)⟩]
                refine DP_one ⟨[1], [0, 2, 3], [0], [2, 3], [4]⟩ 4 _ rfl rfl (by decide +kernel) rfl ⟨⟨_, rfl, Qok_val rfl (Ev_fieldAddr 3 38 1 Try.underlying70 rfl Try.sizeOf38 rfl rfl)⟩, ⟨_, rfl, Qok_val rfl (Ev_load rfl (Ld_one Try.isAgg38 (MemAt.ent 0 rfl (Seg.tail (Seg.tail (Seg.tail (Seg.head)))))))⟩, trivial⟩ rfl (Cok_step rfl (Step_callP 25 [Slc nb10 0 ((fdV y e (65535:Int)).length) cp6, .slice ax p cx] (.bool (decide ((fdV y e (65535:Int)) = z))) (Cl_func [Slc nb10 0 ((fdV y e (65535:Int)).length) cp6, .slice ax p cx] Try.call25 rfl) (fun w1 hw1 => bytes_c (some ⟨nb10, 0, none⟩) ax ((fdV y e (65535:Int)).length) p cp6 cx (fdV y e (65535:Int)) z w1 (show (fdV y e (65535:Int)).length = ((fdV y e (65535:Int)).length) from (rfl : (fdV y e (65535:Int)).length = _)) hz (RdB.of hw1 (MemAt.ent 2 rfl (Seg.left (Seg.whole _))) (by simp)) (hr.at (M' := []) hw1 (by simp))))) ?_
                rintro v1 L1 ⟨rfl, rfl⟩
                refine ⟨[(5, .bool (decide ((fdV y e (65535:Int)) = z)))], ?_⟩
                show DP _ _ _ _ _ _ _ _ [⟨nb9, [I64 (kd), I64 (s), U64 nn, .slice ax p cx], 70, (0, 0)⟩, ⟨nb8, [errV 36 (okE e (decide (FdOk y e (65535:Int)))), .slice ao2 ((fdZ y e (65535:Int)).length) ca2], 123, (0, 0)⟩, ⟨nb10, cu8 (fdV y e (65535:Int)) ++ sp6, 5, (0, 0)⟩]
                refine DP_end ⟨[1, 4], [0, 2, 3, 5], [0, 2, 3], [5], []⟩ rfl rfl (by decide +kernel) rfl ⟨⟨_, rfl, Qok_val rfl (Ev_assign rfl)⟩, trivial⟩ ?_
                refine K_sub (F' := [(102, Ptr nb8 0), (103, Slc nb10 0 ((fdV y e (65535:Int)).length) cp6), (104, Ptr nb9 3), (105, .slice ax p cx), (106, .bool (decide ((fdV y e (65535:Int)) = z))), (11, .bool (decide ((fdV y e (65535:Int)) = z))), (8, Ptr nb8 0), (74, .slice ab n cb), (75, I64 ((n:Int))), (76, I64 ((q:Int))), (77, .bool (decide (((q:Int)) < ((n:Int))))), (78, Ptr rowb (4*q + rowo)), (79, .agg (List.toArray (α := Value) ([I64 (kd), I64 (s), U64 nn, .slice ax p cx]))), (10, Ptr nb9 0), (80, Ptr nb9 0), (81, I64 (kd)), (82, U64 (u64i (kd))), (83, U64 ((u64i (kd)) % (5:UInt64))), (92, .bool (decide (((u64i (kd)) % (5:UInt64)) = (0:UInt64)))), (91, .bool (decide (((u64i (kd)) % (5:UInt64)) = (0:UInt64)))), (101, .bool (decide (((u64i (kd)) % (5:UInt64)) = (1:UInt64)))), (100, .bool (decide (((u64i (kd)) % (5:UInt64)) = (1:UInt64))))]) (Sub.cons (by kernel_rfl) (Sub.cons (by kernel_rfl) (Sub.cons (by kernel_rfl) (Sub.cons (by kernel_rfl) (Sub.cons (by kernel_rfl) (Sub.cons (by kernel_rfl) (Sub.cons (by kernel_rfl) (Sub.cons (by kernel_rfl) (Sub.cons (by kernel_rfl) (Sub.cons (by kernel_rfl) (Sub.cons (by kernel_rfl) (Sub.cons (by kernel_rfl) (Sub.cons (by kernel_rfl) (Sub.cons (by kernel_rfl) (Sub.cons (by kernel_rfl) (Sub.cons (by kernel_rfl) (Sub.cons (by kernel_rfl) (Sub.cons (by kernel_rfl) (Sub.cons (by kernel_rfl) (Sub.cons (by kernel_rfl) (Sub.cons (by kernel_rfl) (Sub.cons (by kernel_rfl) (Sub.nil))))))))))))))))))))))) ?_
                show JQ _ _ _ [(102, Ptr nb8 0), (103, Slc nb10 0 ((fdV y e (65535:Int)).length) cp6), (104, Ptr nb9 3), (105, .slice ax p cx), (106, .bool (decide ((fdV y e (65535:Int)) = z))), (11, .bool (decide ((fdV y e (65535:Int)) = z))), (8, Ptr nb8 0), (74, .slice ab n cb), (75, I64 ((n:Int))), (76, I64 ((q:Int))), (77, .bool (decide (((q:Int)) < ((n:Int))))), (78, Ptr rowb (4*q + rowo)), (79, .agg (List.toArray (α := Value) ([I64 (kd), I64 (s), U64 nn, .slice ax p cx]))), (10, Ptr nb9 0), (80, Ptr nb9 0), (81, I64 (kd)), (82, U64 (u64i (kd))), (83, U64 ((u64i (kd)) % (5:UInt64))), (92, .bool (decide (((u64i (kd)) % (5:UInt64)) = (0:UInt64)))), (91, .bool (decide (((u64i (kd)) % (5:UInt64)) = (0:UInt64)))), (101, .bool (decide (((u64i (kd)) % (5:UInt64)) = (1:UInt64)))), (100, .bool (decide (((u64i (kd)) % (5:UInt64)) = (1:UInt64))))] _
                refine JQ_in_normal ?_
                refine JQ_then ?_
                refine JC_seq ?_
                refine JC_region ?_
                refine JL_val _ (Ev_move rfl) rfl ?_
                refine JL_val (.bool (!(decide ((fdV y e (65535:Int)) = z)))) (Ev_not rfl) rfl ?_
                refine JL_nil ?_
                refine JQ_then ?_
                refine JC_condF _ rfl (by rw [show (decide ((fdV y e (65535:Int)) = z)) = true from (decide_eq_true (rk1 (by assumption) (by assumption) hz hgd hyy he).1)]; rfl) ?_
                refine JC_skip ?_
                refine JQ_in_normal ?_
                refine JQ_then ?_
                refine JC_region ?_
                refine JL_val (I64 ((q:Int) + 1)) (Ev_bini rfl rfl fun _ => bin_add_i _ _ ((q:Int) + 1) (by omega) (by omega)) rfl ?_
                refine JL_val _ (Ev_move rfl) rfl ?_
                refine JL_nil ?_
                refine JQ_thenK ?_
                refine K_mask [false, true, false] ?_
                show K _ _ [⟨nb8, [errV 36 (okE e (decide (FdOk y e (65535:Int)))), .slice ao2 ((fdZ y e (65535:Int)).length) ca2], 123, (0, 0)⟩] _
                have hy2 : fdZ y e (65535:Int) = encD al (q + 1) := (by first | exact (rk0 (by assumption) hgd hyy he).2.1 | exact (rk1 (by assumption) (by assumption) hz hgd hyy he).2.1 | exact (rk2 (by assumption) (by assumption) (by assumption) hz hyy he).2.1 | exact (rk3 (by assumption) (by assumption) (by assumption) (by assumption) hyy he).2.1 | exact (rk4 (by assumption) (by assumption) (by assumption) (by assumption) hyy he).2.1)
                have hle : (fdZ y e (65535:Int)).length ≤ y.length := by rw [hy2, hyy, List.length_append]; omega
                refine K_next (q + 1, (okE e (decide (FdOk y e (65535:Int)))), (fdZ y e (65535:Int)), ((fdZ y e (65535:Int)).length), ao2, ca2) ⟨by omega, (by first | exact (rk0 (by assumption) hgd hyy he).2.2 | exact (rk1 (by assumption) (by assumption) hz hgd hyy he).2.2 | exact (rk2 (by assumption) (by assumption) (by assumption) hz hyy he).2.2 | exact (rk3 (by assumption) (by assumption) (by assumption) (by assumption) hyy he).2.2 | exact (rk4 (by assumption) (by assumption) (by assumption) (by assumption) hyy he).2.2), hy2, (fun w M h => hA2 w M (hA w M h)), (by omega), (by omega), (by omega), rfl⟩ (by first | (simp; omega) | simp | (dsimp only; omega) | omega) (Sub.cons rfl (Sub.cons rfl (Sub.cons rfl (Sub.cons rfl (Sub.nil))))) rfl
            ·
              have hp11 : ¬ (((u64i (kd)) % (5:UInt64)) = (1:UInt64)) := of_decide_eq_false hb11
              refine JC_seq ?_
              refine JC_region ?_
              refine JL_val (.bool (decide (((u64i (kd)) % (5:UInt64)) = (2:UInt64)))) (Ev_bini rfl rfl fun _ => bin_eql_u64 ((u64i (kd)) % (5:UInt64)) (2:UInt64)) rfl ?_
              refine JL_val _ (Ev_assign rfl) rfl ?_
              refine JL_nil ?_
              refine JQ_then ?_
              refine JC_cond (decide (((u64i (kd)) % (5:UInt64)) = (2:UInt64))) rfl (fun hb15 => ?_) (fun hb15 => ?_)
              ·
                have hp15 : ((u64i (kd)) % (5:UInt64)) = (2:UInt64) := of_decide_eq_true hb15
                refine JC_draw 131 3 [(0, Ptr nb8 0), (1, Ptr nb9 3), (2, .slice ax p cx), (3, I64 ((p:Int))), (5, Ptr nb9 3), (6, .slice ax p cx)] Try.mixed rfl (by decide +kernel) ?_
                have hz3 : (y).length = yn := hyn
                refine DP_one ⟨[], [0, 1, 2, 3, 5, 6], [], [0, 1, 2, 3, 5, 6], [4]⟩ 4 _ rfl rfl (by decide +kernel) rfl ⟨⟨_, rfl, Qok_val rfl (Ev_move rfl)⟩, ⟨_, rfl, Qok_val rfl (Ev_fieldAddr 3 38 1 Try.underlying70 rfl Try.sizeOf38 rfl rfl)⟩, ⟨_, rfl, Qok_val rfl (Ev_load rfl (Ld_one Try.isAgg38 (MemAt.ent 1 rfl (Seg.tail (Seg.tail (Seg.tail (Seg.head)))))))⟩, ⟨_, rfl, Qok_val rfl (Ev_len Try.underlying38 rfl)⟩, ⟨_, rfl, Qok_val rfl (Ev_fieldAddr 3 38 1 Try.underlying70 rfl Try.sizeOf38 rfl rfl)⟩, ⟨_, rfl, Qok_val rfl (Ev_load rfl (Ld_one Try.isAgg38 (MemAt.ent 1 rfl (Seg.tail (Seg.tail (Seg.tail (Seg.head)))))))⟩, trivial⟩ rfl (Cok_step rfl (Step_call 58 _ [true, false] [nb8] _ (Cl_func [Ptr nb8 0, I64 ((p:Int))] Try.call58 rfl) rfl (fun w1 hw1 => rawR_w nb8 e ao yn c y ((p:Int)) w1 (hw1.ent _ (List.mem_of_getElem? (i := 0) rfl)) hyn (by omega) (by omega) (by omega) (hA _ _ RdB.nil)))) ?_
                rintro v1 L1 ⟨_, ⟨ao3, ca3, ⟨hA3, hb16, hb17, hb18⟩, _, rfl, (⟨hv2, rfl, rfl⟩ | ⟨nb11, sp7, cp7, rfl, rfl, hc19, hc20, hc21⟩)⟩, rfl⟩
                ·
                  refine ⟨[], ?_⟩
                  show DP _ _ _ _ _ _ _ _ [⟨nb9, [I64 (kd), I64 (s), U64 nn, .slice ax p cx], 70, (0, 0)⟩, ⟨nb8, [errV 36 (okE e (decide (TkOk y e ((p:Int))))), .slice ao3 ((tkZ y e ((p:Int))).length) ca3], 123, (0, 0)⟩]
                  refine DP_one ⟨[4], [0, 1, 2, 3, 5, 6], [0, 1, 2, 3], [5, 6], [7]⟩ 7 _ rfl rfl (by decide +kernel) rfl ⟨⟨_, rfl, Qok_val rfl (Ev_fieldAddr 3 38 1 Try.underlying70 rfl Try.sizeOf38 rfl rfl)⟩, ⟨_, rfl, Qok_val rfl (Ev_load rfl (Ld_one Try.isAgg38 (MemAt.ent 0 rfl (Seg.tail (Seg.tail (Seg.tail (Seg.head)))))))⟩, trivial⟩ rfl (Cok_step rfl (Step_callP 25 [.slice none 0 0, .slice ax p cx] (.bool (decide ((tkV y e ((p:Int))) = z))) (Cl_func [.slice none 0 0, .slice ax p cx] Try.call25 rfl) (fun w1 hw1 => bytes_c none ax 0 p 0 cx (tkV y e ((p:Int))) z w1 (by rw [hv2]; rfl) hz ((RdB.nilOf hv2).at (M' := []) hw1 (by simp)) (hr.at (M' := []) hw1 (by simp))))) ?_
                  rintro v1 L1 ⟨rfl, rfl⟩
                  refine ⟨[(8, .bool (decide ((tkV y e ((p:Int))) = z)))], ?_⟩
                  show DP _ _ _ _ _ _ _ _ [⟨nb9, [I64 (kd), I64 (s), U64 nn, .slice ax p cx], 70, (0, 0)⟩, ⟨nb8, [errV 36 (okE e (decide (TkOk y e ((p:Int))))), .slice ao3 ((tkZ y e ((p:Int))).length) ca3], 123, (0, 0)⟩]
                  refine DP_end ⟨[4, 7], [0, 1, 2, 3, 5, 6, 8], [0, 1, 2, 3, 5, 6], [8], []⟩ rfl rfl (by decide +kernel) rfl ⟨⟨_, rfl, Qok_val rfl (Ev_assign rfl)⟩, trivial⟩ ?_
                  refine K_sub (F' := [(109, Ptr nb8 0), (110, Ptr nb9 3), (111, .slice ax p cx), (112, I64 ((p:Int))), (113, .slice none 0 0), (114, Ptr nb9 3), (115, .slice ax p cx), (116, .bool (decide ((tkV y e ((p:Int))) = z))), (11, .bool (decide ((tkV y e ((p:Int))) = z))), (8, Ptr nb8 0), (74, .slice ab n cb), (75, I64 ((n:Int))), (76, I64 ((q:Int))), (77, .bool (decide (((q:Int)) < ((n:Int))))), (78, Ptr rowb (4*q + rowo)), (79, .agg (List.toArray (α := Value) ([I64 (kd), I64 (s), U64 nn, .slice ax p cx]))), (10, Ptr nb9 0), (80, Ptr nb9 0), (81, I64 (kd)), (82, U64 (u64i (kd))), (83, U64 ((u64i (kd)) % (5:UInt64))), (92, .bool (decide (((u64i (kd)) % (5:UInt64)) = (0:UInt64)))), (91, .bool (decide (((u64i (kd)) % (5:UInt64)) = (0:UInt64)))), (101, .bool (decide (((u64i (kd)) % (5:UInt64)) = (1:UInt64)))), (100, .bool (decide (((u64i (kd)) % (5:UInt64)) = (1:UInt64)))), (108, .bool (decide (((u64i (kd)) % (5:UInt64)) = (2:UInt64)))), (107, .bool (decide (((u64i (kd)) % (5:UInt64)) = (2:UInt64))))]) (Sub.cons (by kernel_rfl) (Sub.cons (by kernel_rfl) (Sub.cons (by kernel_rfl) (Sub.cons (by kernel_rfl) (Sub.cons (by kernel_rfl) (Sub.cons (by kernel_rfl) (Sub.cons (by kernel_rfl) (Sub.cons (by kernel_rfl) (Sub.cons (by kernel_rfl) (Sub.cons (by kernel_rfl) (Sub.cons (by kernel_rfl) (Sub.cons (by kernel_rfl) (Sub.cons (by kernel_rfl) (Sub.cons (by kernel_rfl) (Sub.cons (by kernel_rfl) (Sub.cons (by kernel_rfl) (Sub.cons (by kernel_rfl) (Sub.cons (by kernel_rfl) (Sub.cons (by kernel_rfl) (Sub.cons (by kernel_rfl) (Sub.cons (by kernel_rfl) (Sub.cons (by kernel_rfl) (Sub.cons (by kernel_rfl) (Sub.cons (by kernel_rfl) (Sub.cons (by kernel_rfl) (Sub.cons (by kernel_rfl) (Sub.cons (by kernel_rfl) (Sub.nil)))))))))))))))))))))))))))) ?_
                  show JQ _ _ _ [(109, Ptr nb8 0), (110, Ptr nb9 3), (111, .slice ax p cx), (112, I64 ((p:Int))), (113, .slice none 0 0), (114, Ptr nb9 3), (115, .slice ax p cx), (116, .bool (decide ((tkV y e ((p:Int))) = z))), (11, .bool (decide ((tkV y e ((p:Int))) = z))), (8, Ptr nb8 0), (74, .slice ab n cb), (75, I64 ((n:Int))), (76, I64 ((q:Int))), (77, .bool (decide (((q:Int)) < ((n:Int))))), (78, Ptr rowb (4*q + rowo)), (79, .agg (List.toArray (α := Value) ([I64 (kd), I64 (s), U64 nn, .slice ax p cx]))), (10, Ptr nb9 0), (80, Ptr nb9 0), (81, I64 (kd)), (82, U64 (u64i (kd))), (83, U64 ((u64i (kd)) % (5:UInt64))), (92, .bool (decide (((u64i (kd)) % (5:UInt64)) = (0:UInt64)))), (91, .bool (decide (((u64i (kd)) % (5:UInt64)) = (0:UInt64)))), (101, .bool (decide (((u64i (kd)) % (5:UInt64)) = (1:UInt64)))), (100, .bool (decide (((u64i (kd)) % (5:UInt64)) = (1:UInt64)))), (108, .bool (decide (((u64i (kd)) % (5:UInt64)) = (2:UInt64)))), (107, .bool (decide (((u64i (kd)) % (5:UInt64)) = (2:UInt64))))] _
                  refine JQ_in_normal ?_
                  refine JQ_then ?_
                  refine JC_seq ?_
                  refine JC_region ?_
                  refine JL_val _ (Ev_move rfl) rfl ?_
                  refine JL_val (.bool (!(decide ((tkV y e ((p:Int))) = z)))) (Ev_not rfl) rfl ?_
                  refine JL_nil ?_
                  refine JQ_then ?_
                  refine JC_condF _ rfl (by rw [show (decide ((tkV y e ((p:Int))) = z)) = true from (decide_eq_true (rk2 (by assumption) (by assumption) (by assumption) hz hyy he).1)]; rfl) ?_
                  refine JC_skip ?_
                  refine JQ_in_normal ?_
                  refine JQ_then ?_
                  refine JC_region ?_
                  refine JL_val (I64 ((q:Int) + 1)) (Ev_bini rfl rfl fun _ => bin_add_i _ _ ((q:Int) + 1) (by omega) (by omega)) rfl ?_
                  refine JL_val _ (Ev_move rfl) rfl ?_
                  refine JL_nil ?_
                  refine JQ_thenK ?_
                  refine K_mask [false, true] ?_
                  show K _ _ [⟨nb8, [errV 36 (okE e (decide (TkOk y e ((p:Int))))), .slice ao3 ((tkZ y e ((p:Int))).length) ca3], 123, (0, 0)⟩] _
                  have hy2 : tkZ y e ((p:Int)) = encD al (q + 1) := (by first | exact (rk0 (by assumption) hgd hyy he).2.1 | exact (rk1 (by assumption) (by assumption) hz hgd hyy he).2.1 | exact (rk2 (by assumption) (by assumption) (by assumption) hz hyy he).2.1 | exact (rk3 (by assumption) (by assumption) (by assumption) (by assumption) hyy he).2.1 | exact (rk4 (by assumption) (by assumption) (by assumption) (by assumption) hyy he).2.1)
                  have hle : (tkZ y e ((p:Int))).length ≤ y.length := by rw [hy2, hyy, List.length_append]; omega
                  refine K_next (q + 1, (okE e (decide (TkOk y e ((p:Int))))), (tkZ y e ((p:Int))), ((tkZ y e ((p:Int))).length), ao3, ca3) ⟨by omega, (by first | exact (rk0 (by assumption) hgd hyy he).2.2 | exact (rk1 (by assumption) (by assumption) hz hgd hyy he).2.2 | exact (rk2 (by assumption) (by assumption) (by assumption) hz hyy he).2.2 | exact (rk3 (by assumption) (by assumption) (by assumption) (by assumption) hyy he).2.2 | exact (rk4 (by assumption) (by assumption) (by assumption) (by assumption) hyy he).2.2), hy2, (fun w M h => hA3 w M (hA w M h)), (by omega), (by omega), (by omega), rfl⟩ (by first | (simp; omega) | simp | (dsimp only; omega) | omega) (Sub.cons rfl (Sub.cons rfl (Sub.cons rfl (Sub.cons rfl (Sub.nil))))) rfl
                ·
                  refine ⟨[], ?_⟩
                  show DP _ _ _ _ _ _ _ _ [⟨nb9, [I64 (kd), I64 (s), U64 nn, .slice ax p cx], 70, (0, 0)⟩, ⟨nb8, [errV 36 (okE e (decide (TkOk y e ((p:Int))))), .slice ao3 ((tkZ y e ((p:Int))).length) ca3], 123, (0, 0)⟩, ⟨nb11, cu8 (tkV y e ((p:Int))) ++ sp7, 5, (0, 0)⟩]
                  refine DP_one ⟨[4], [0, 1, 2, 3, 5, 6], [0, 1, 2, 3], [5, 6], [7]⟩ 7 _ rfl rfl (by decide +kernel) rfl ⟨⟨_, rfl, Qok_val rfl (Ev_fieldAddr 3 38 1 Try.underlying70 rfl Try.sizeOf38 rfl rfl)⟩, ⟨_, rfl, Qok_val rfl (Ev_load rfl (Ld_one Try.isAgg38 (MemAt.ent 0 rfl (Seg.tail (Seg.tail (Seg.tail (Seg.head)))))))⟩, trivial⟩ rfl (Cok_step rfl (Step_callP 25 [Slc nb11 0 ((tkV y e ((p:Int))).length) cp7, .slice ax p cx] (.bool (decide ((tkV y e ((p:Int))) = z))) (Cl_func [Slc nb11 0 ((tkV y e ((p:Int))).length) cp7, .slice ax p cx] Try.call25 rfl) (fun w1 hw1 => bytes_c (some ⟨nb11, 0, none⟩) ax ((tkV y e ((p:Int))).length) p cp7 cx (tkV y e ((p:Int))) z w1 (show (tkV y e ((p:Int))).length = ((tkV y e ((p:Int))).length) from (rfl : (tkV y e ((p:Int))).length = _)) hz (RdB.of hw1 (MemAt.ent 2 rfl (Seg.left (Seg.whole _))) (by simp)) (hr.at (M' := []) hw1 (by simp))))) ?_
                  rintro v1 L1 ⟨rfl, rfl⟩
                  refine ⟨[(8, .bool (decide ((tkV y e ((p:Int))) = z)))], ?_⟩
                  show DP _ _ _ _ _ _ _ _ [⟨nb9, [I64 (kd), I64 (s), U64 nn, .slice ax p cx], 70, (0, 0)⟩, ⟨nb8, [errV 36 (okE e (decide (TkOk y e ((p:Int))))), .slice ao3 ((tkZ y e ((p:Int))).length) ca3], 123, (0, 0)⟩, ⟨nb11, cu8 (tkV y e ((p:Int))) ++ sp7, 5, (0, 0)⟩]
                  refine DP_end ⟨[4, 7], [0, 1, 2, 3, 5, 6, 8], [0, 1, 2, 3, 5, 6], [8], []⟩ rfl rfl (by decide +kernel) rfl ⟨⟨_, rfl, Qok_val rfl (Ev_assign rfl)⟩, trivial⟩ ?_
                  refine K_sub (F' := [(109, Ptr nb8 0), (110, Ptr nb9 3), (111, .slice ax p cx), (112, I64 ((p:Int))), (113, Slc nb11 0 ((tkV y e ((p:Int))).length) cp7), (114, Ptr nb9 3), (115, .slice ax p cx), (116, .bool (decide ((tkV y e ((p:Int))) = z))), (11, .bool (decide ((tkV y e ((p:Int))) = z))), (8, Ptr nb8 0), (74, .slice ab n cb), (75, I64 ((n:Int))), (76, I64 ((q:Int))), (77, .bool (decide (((q:Int)) < ((n:Int))))), (78, Ptr rowb (4*q + rowo)), (79, .agg (List.toArray (α := Value) ([I64 (kd), I64 (s), U64 nn, .slice ax p cx]))), (10, Ptr nb9 0), (80, Ptr nb9 0), (81, I64 (kd)), (82, U64 (u64i (kd))), (83, U64 ((u64i (kd)) % (5:UInt64))), (92, .bool (decide (((u64i (kd)) % (5:UInt64)) = (0:UInt64)))), (91, .bool (decide (((u64i (kd)) % (5:UInt64)) = (0:UInt64)))), (101, .bool (decide (((u64i (kd)) % (5:UInt64)) = (1:UInt64)))), (100, .bool (decide (((u64i (kd)) % (5:UInt64)) = (1:UInt64)))), (108, .bool (decide (((u64i (kd)) % (5:UInt64)) = (2:UInt64)))), (107, .bool (decide (((u64i (kd)) % (5:UInt64)) = (2:UInt64))))]) (Sub.cons (by kernel_rfl) (Sub.cons (by kernel_rfl) (Sub.cons (by kernel_rfl) (Sub.cons (by kernel_rfl) (Sub.cons (by kernel_rfl) (Sub.cons (by kernel_rfl) (Sub.cons (by kernel_rfl) (Sub.cons (by kernel_rfl) (Sub.cons (by kernel_rfl) (Sub.cons (by kernel_rfl) (Sub.cons (by kernel_rfl) (Sub.cons (by kernel_rfl) (Sub.cons (by kernel_rfl) (Sub.cons (by kernel_rfl) (Sub.cons (by kernel_rfl) (Sub.cons (by kernel_rfl) (Sub.cons (by kernel_rfl) (Sub.cons (by kernel_rfl) (Sub.cons (by kernel_rfl) (Sub.cons (by kernel_rfl) (Sub.cons (by kernel_rfl) (Sub.cons (by kernel_rfl) (Sub.cons (by kernel_rfl) (Sub.cons (by kernel_rfl) (Sub.cons (by kernel_rfl) (Sub.cons (by kernel_rfl) (Sub.cons (by kernel_rfl) (Sub.nil)))))))))))))))))))))))))))) ?_
                  show JQ _ _ _ [(109, Ptr nb8 0), (110, Ptr nb9 3), (111, .slice ax p cx), (112, I64 ((p:Int))), (113, Slc nb11 0 ((tkV y e ((p:Int))).length) cp7), (114, Ptr nb9 3), (115, .slice ax p cx), (116, .bool (decide ((tkV y e ((p:Int))) = z))), (11, .bool (decide ((tkV y e ((p:Int))) = z))), (8, Ptr nb8 0), (74, .slice ab n cb), (75, I64 ((n:Int))), (76, I64 ((q:Int))), (77, .bool (decide (((q:Int)) < ((n:Int))))), (78, Ptr rowb (4*q + rowo)), (79, .agg (List.toArray (α := Value) ([I64 (kd), I64 (s), U64 nn, .slice ax p cx]))), (10, Ptr nb9 0), (80, Ptr nb9 0), (81, I64 (kd)), (82, U64 (u64i (kd))), (83, U64 ((u64i (kd)) % (5:UInt64))), (92, .bool (decide (((u64i (kd)) % (5:UInt64)) = (0:UInt64)))), (91, .bool (decide (((u64i (kd)) % (5:UInt64)) = (0:UInt64)))), (101, .bool (decide (((u64i (kd)) % (5:UInt64)) = (1:UInt64)))), (100, .bool (decide (((u64i (kd)) % (5:UInt64)) = (1:UInt64)))), (108, .bool (decide (((u64i (kd)) % (5:UInt64)) = (2:UInt64)))), (107, .bool (decide (((u64i (kd)) % (5:UInt64)) = (2:UInt64))))] _
                  refine JQ_in_normal ?_
                  refine JQ_then ?_
                  refine JC_seq ?_
                  refine JC_region ?_
                  refine JL_val _ (Ev_move rfl) rfl ?_
                  refine JL_val (.bool (!(decide ((tkV y e ((p:Int))) = z)))) (Ev_not rfl) rfl ?_
                  refine JL_nil ?_
                  refine JQ_then ?_
                  refine JC_condF _ rfl (by rw [show (decide ((tkV y e ((p:Int))) = z)) = true from (decide_eq_true (rk2 (by assumption) (by assumption) (by assumption) hz hyy he).1)]; rfl) ?_
                  refine JC_skip ?_
                  refine JQ_in_normal ?_
                  refine JQ_then ?_
                  refine JC_region ?_
                  refine JL_val (I64 ((q:Int) + 1)) (Ev_bini rfl rfl fun _ => bin_add_i _ _ ((q:Int) + 1) (by omega) (by omega)) rfl ?_
                  refine JL_val _ (Ev_move rfl) rfl ?_
                  refine JL_nil ?_
                  refine JQ_thenK ?_
                  refine K_mask [false, true, false] ?_
                  show K _ _ [⟨nb8, [errV 36 (okE e (decide (TkOk y e ((p:Int))))), .slice ao3 ((tkZ y e ((p:Int))).length) ca3], 123, (0, 0)⟩] _
                  have hy2 : tkZ y e ((p:Int)) = encD al (q + 1) := (by first | exact (rk0 (by assumption) hgd hyy he).2.1 | exact (rk1 (by assumption) (by assumption) hz hgd hyy he).2.1 | exact (rk2 (by assumption) (by assumption) (by assumption) hz hyy he).2.1 | exact (rk3 (by assumption) (by assumption) (by assumption) (by assumption) hyy he).2.1 | exact (rk4 (by assumption) (by assumption) (by assumption) (by assumption) hyy he).2.1)
                  have hle : (tkZ y e ((p:Int))).length ≤ y.length := by rw [hy2, hyy, List.length_append]; omega
                  refine K_next (q + 1, (okE e (decide (TkOk y e ((p:Int))))), (tkZ y e ((p:Int))), ((tkZ y e ((p:Int))).length), ao3, ca3) ⟨by omega, (by first | exact (rk0 (by assumption) hgd hyy he).2.2 | exact (rk1 (by assumption) (by assumption) hz hgd hyy he).2.2 | exact (rk2 (by assumption) (by assumption) (by assumption) hz hyy he).2.2 | exact (rk3 (by assumption) (by assumption) (by assumption) (by assumption) hyy he).2.2 | exact (rk4 (by assumption) (by assumption) (by assumption) (by assumption) hyy he).2.2), hy2, (fun w M h => hA3 w M (hA w M h)), (by omega), (by omega), (by omega), rfl⟩ (by first | (simp; omega) | simp | (dsimp only; omega) | omega) (Sub.cons rfl (Sub.cons rfl (Sub.cons rfl (Sub.cons rfl (Sub.nil))))) rfl
              ·
                have hp15 : ¬ (((u64i (kd)) % (5:UInt64)) = (2:UInt64)) := of_decide_eq_false hb15
                refine JC_seq ?_
                refine JC_region ?_
                refine JL_val (.bool (decide (((u64i (kd)) % (5:UInt64)) = (3:UInt64)))) (Ev_bini rfl rfl fun _ => bin_eql_u64 ((u64i (kd)) % (5:UInt64)) (3:UInt64)) rfl ?_
                refine JL_val _ (Ev_assign rfl) rfl ?_
                refine JL_nil ?_
                refine JQ_then ?_
                refine JC_cond (decide (((u64i (kd)) % (5:UInt64)) = (3:UInt64))) rfl (fun hb19 => ?_) (fun hb19 => ?_)
                ·
                  have hp19 : ((u64i (kd)) % (5:UInt64)) = (3:UInt64) := of_decide_eq_true hb19
                  refine JC_draw 131 3 [(0, Ptr nb8 0), (2, Ptr nb9 3), (3, .slice ax p cx)] Try.mixed rfl (by decide +kernel) ?_
                  have hz4 : (y).length = yn := hyn
                  refine DP_one ⟨[], [0, 2, 3], [], [0, 2, 3], [1]⟩ 1 _ rfl rfl (by decide +kernel) rfl ⟨⟨_, rfl, Qok_val rfl (Ev_move rfl)⟩, ⟨_, rfl, Qok_val rfl (Ev_fieldAddr 3 38 1 Try.underlying70 rfl Try.sizeOf38 rfl rfl)⟩, ⟨_, rfl, Qok_val rfl (Ev_load rfl (Ld_one Try.isAgg38 (MemAt.ent 1 rfl (Seg.tail (Seg.tail (Seg.tail (Seg.head)))))))⟩, trivial⟩ rfl (Cok_step rfl (Step_call 60 _ [true, false] [nb8] _ (Cl_func [Ptr nb8 0] Try.call60 rfl) rfl (fun w1 hw1 => hasR_w nb8 e ao yn c y w1 (hw1.ent _ (List.mem_of_getElem? (i := 0) rfl)) hyn (by omega) (by omega) (by omega) (hA _ _ RdB.nil)))) ?_
                  rintro v1 L1 ⟨_, ⟨rfl, ao4, ca4, ⟨hA4, hb20, hb21, hb22⟩, rfl⟩, rfl⟩
                  refine ⟨[], ?_⟩
                  show DP _ _ _ _ _ _ _ _ [⟨nb9, [I64 (kd), I64 (s), U64 nn, .slice ax p cx], 70, (0, 0)⟩, ⟨nb8, [errV 36 (okE e (decide (HsOk y e))), .slice ao4 ((hsZ y e).length) ca4], 123, (0, 0)⟩]
                  refine DP_one ⟨[1], [0, 2, 3], [0], [2, 3], [4]⟩ 4 _ rfl rfl (by decide +kernel) rfl ⟨⟨_, rfl, Qok_val rfl (Ev_fieldAddr 3 38 1 Try.underlying70 rfl Try.sizeOf38 rfl rfl)⟩, ⟨_, rfl, Qok_val rfl (Ev_load rfl (Ld_one Try.isAgg38 (MemAt.ent 0 rfl (Seg.tail (Seg.tail (Seg.tail (Seg.head)))))))⟩, trivial⟩ rfl (Cok_step rfl (Step_callP 46 [.slice ax p cx] (.agg (cu8 (hashL z)).toArray) (Cl_func [.slice ax p cx] Try.call46 rfl) (fun w1 hw1 => hash_w ax p cx z w1 hz (hr.at (M' := []) hw1 (by simp))))) ?_
                  rintro v1 L1 ⟨rfl, rfl⟩
                  refine ⟨[(5, .bool (decide ((hsV y e) = (hashL z)))), (6, .bool (decide ((hsV y e) = (hashL z))))], ?_⟩
                  show DP _ _ _ _ _ _ _ _ [⟨nb9, [I64 (kd), I64 (s), U64 nn, .slice ax p cx], 70, (0, 0)⟩, ⟨nb8, [errV 36 (okE e (decide (HsOk y e))), .slice ao4 ((hsZ y e).length) ca4], 123, (0, 0)⟩]
                  refine DP_end ⟨[1, 4], [0, 2, 3, 5, 6], [0, 2, 3], [5, 6], []⟩ rfl rfl (by decide +kernel) rfl ⟨⟨_, rfl, Qok_val rfl (Ev_bin _ _ _ rfl rfl (fun _ => eqGuard_agg _ _ _ _ _ _ (by kernel_rfl)) fun _ => eql_arr8 Try.underlying76 Try.underlying5 Try.isAgg5 Try.cells5 Try.has5 (by simp [(hsV_len _ _)]) (by simp [(hashL_len z)]))⟩, ⟨_, rfl, Qok_val rfl (Ev_assign rfl)⟩, trivial⟩ ?_
                  refine K_sub (F' := [(119, Ptr nb8 0), (120, .agg (cu8 (hsV y e)).toArray), (121, Ptr nb9 3), (122, .slice ax p cx), (123, .agg (cu8 (hashL z)).toArray), (124, .bool (decide ((hsV y e) = (hashL z)))), (11, .bool (decide ((hsV y e) = (hashL z)))), (8, Ptr nb8 0), (74, .slice ab n cb), (75, I64 ((n:Int))), (76, I64 ((q:Int))), (77, .bool (decide (((q:Int)) < ((n:Int))))), (78, Ptr rowb (4*q + rowo)), (79, .agg (List.toArray (α := Value) ([I64 (kd), I64 (s), U64 nn, .slice ax p cx]))), (10, Ptr nb9 0), (80, Ptr nb9 0), (81, I64 (kd)), (82, U64 (u64i (kd))), (83, U64 ((u64i (kd)) % (5:UInt64))), (92, .bool (decide (((u64i (kd)) % (5:UInt64)) = (0:UInt64)))), (91, .bool (decide (((u64i (kd)) % (5:UInt64)) = (0:UInt64)))), (101, .bool (decide (((u64i (kd)) % (5:UInt64)) = (1:UInt64)))), (100, .bool (decide (((u64i (kd)) % (5:UInt64)) = (1:UInt64)))), (108, .bool (decide (((u64i (kd)) % (5:UInt64)) = (2:UInt64)))), (107, .bool (decide (((u64i (kd)) % (5:UInt64)) = (2:UInt64)))), (118, .bool (decide (((u64i (kd)) % (5:UInt64)) = (3:UInt64)))), (117, .bool (decide (((u64i (kd)) % (5:UInt64)) = (3:UInt64))))]) (Sub.cons (by kernel_rfl) (Sub.cons (by kernel_rfl) (Sub.cons (by kernel_rfl) (Sub.cons (by kernel_rfl) (Sub.cons (by kernel_rfl) (Sub.cons (by kernel_rfl) (Sub.cons (by kernel_rfl) (Sub.cons (by kernel_rfl) (Sub.cons (by kernel_rfl) (Sub.cons (by kernel_rfl) (Sub.cons (by kernel_rfl) (Sub.cons (by kernel_rfl) (Sub.cons (by kernel_rfl) (Sub.cons (by kernel_rfl) (Sub.cons (by kernel_rfl) (Sub.cons (by kernel_rfl) (Sub.cons (by kernel_rfl) (Sub.cons (by kernel_rfl) (Sub.cons (by kernel_rfl) (Sub.cons (by kernel_rfl) (Sub.cons (by kernel_rfl) (Sub.cons (by kernel_rfl) (Sub.cons (by kernel_rfl) (Sub.cons (by kernel_rfl) (Sub.cons (by kernel_rfl) (Sub.cons (by kernel_rfl) (Sub.cons (by kernel_rfl) (Sub.nil)))))))))))))))))))))))))))) ?_
                  show JQ _ _ _ [(119, Ptr nb8 0), (120, .agg (cu8 (hsV y e)).toArray), (121, Ptr nb9 3), (122, .slice ax p cx), (123, .agg (cu8 (hashL z)).toArray), (124, .bool (decide ((hsV y e) = (hashL z)))), (11, .bool (decide ((hsV y e) = (hashL z)))), (8, Ptr nb8 0), (74, .slice ab n cb), (75, I64 ((n:Int))), (76, I64 ((q:Int))), (77, .bool (decide (((q:Int)) < ((n:Int))))), (78, Ptr rowb (4*q + rowo)), (79, .agg (List.toArray (α := Value) ([I64 (kd), I64 (s), U64 nn, .slice ax p cx]))), (10, Ptr nb9 0), (80, Ptr nb9 0), (81, I64 (kd)), (82, U64 (u64i (kd))), (83, U64 ((u64i (kd)) % (5:UInt64))), (92, .bool (decide (((u64i (kd)) % (5:UInt64)) = (0:UInt64)))), (91, .bool (decide (((u64i (kd)) % (5:UInt64)) = (0:UInt64)))), (101, .bool (decide (((u64i (kd)) % (5:UInt64)) = (1:UInt64)))), (100, .bool (decide (((u64i (kd)) % (5:UInt64)) = (1:UInt64)))), (108, .bool (decide (((u64i (kd)) % (5:UInt64)) = (2:UInt64)))), (107, .bool (decide (((u64i (kd)) % (5:UInt64)) = (2:UInt64)))), (118, .bool (decide (((u64i (kd)) % (5:UInt64)) = (3:UInt64)))), (117, .bool (decide (((u64i (kd)) % (5:UInt64)) = (3:UInt64))))] _
                  refine JQ_in_normal ?_
                  refine JQ_then ?_
                  refine JC_seq ?_
                  refine JC_region ?_
                  refine JL_val _ (Ev_move rfl) rfl ?_
                  refine JL_val (.bool (!(decide ((hsV y e) = (hashL z))))) (Ev_not rfl) rfl ?_
                  refine JL_nil ?_
                  refine JQ_then ?_
                  refine JC_condF _ rfl (by rw [show (decide ((hsV y e) = (hashL z))) = true from (decide_eq_true (rk3 (by assumption) (by assumption) (by assumption) (by assumption) hyy he).1)]; rfl) ?_
                  refine JC_skip ?_
                  refine JQ_in_normal ?_
                  refine JQ_then ?_
                  refine JC_region ?_
                  refine JL_val (I64 ((q:Int) + 1)) (Ev_bini rfl rfl fun _ => bin_add_i _ _ ((q:Int) + 1) (by omega) (by omega)) rfl ?_
                  refine JL_val _ (Ev_move rfl) rfl ?_
                  refine JL_nil ?_
                  refine JQ_thenK ?_
                  refine K_mask [false, true] ?_
                  show K _ _ [⟨nb8, [errV 36 (okE e (decide (HsOk y e))), .slice ao4 ((hsZ y e).length) ca4], 123, (0, 0)⟩] _
                  have hy2 : hsZ y e = encD al (q + 1) := (by first | exact (rk0 (by assumption) hgd hyy he).2.1 | exact (rk1 (by assumption) (by assumption) hz hgd hyy he).2.1 | exact (rk2 (by assumption) (by assumption) (by assumption) hz hyy he).2.1 | exact (rk3 (by assumption) (by assumption) (by assumption) (by assumption) hyy he).2.1 | exact (rk4 (by assumption) (by assumption) (by assumption) (by assumption) hyy he).2.1)
                  have hle : (hsZ y e).length ≤ y.length := by rw [hy2, hyy, List.length_append]; omega
                  refine K_next (q + 1, (okE e (decide (HsOk y e))), (hsZ y e), ((hsZ y e).length), ao4, ca4) ⟨by omega, (by first | exact (rk0 (by assumption) hgd hyy he).2.2 | exact (rk1 (by assumption) (by assumption) hz hgd hyy he).2.2 | exact (rk2 (by assumption) (by assumption) (by assumption) hz hyy he).2.2 | exact (rk3 (by assumption) (by assumption) (by assumption) (by assumption) hyy he).2.2 | exact (rk4 (by assumption) (by assumption) (by assumption) (by assumption) hyy he).2.2), hy2, (fun w M h => hA4 w M (hA w M h)), (by omega), (by omega), (by omega), rfl⟩ (by first | (simp; omega) | simp | (dsimp only; omega) | omega) (Sub.cons rfl (Sub.cons rfl (Sub.cons rfl (Sub.cons rfl (Sub.nil))))) rfl
                ·
                  have hp19 : ¬ (((u64i (kd)) % (5:UInt64)) = (3:UInt64)) := of_decide_eq_false hb19
                  refine JC_draw 131 2 [(0, Ptr nb8 0), (2, Ptr nb9 2), (3, U64 nn), (4, U64 (nn % (2:UInt64))), (5, .bool (decide ((nn % (2:UInt64)) = (1:UInt64))))] Try.mixed rfl (by decide +kernel) ?_
                  have hz5 : (y).length = yn := hyn
                  refine DP_one ⟨[], [0, 2, 3, 4, 5], [], [0, 2, 3, 4, 5], [1]⟩ 1 _ rfl rfl (by decide +kernel) rfl ⟨⟨_, rfl, Qok_val rfl (Ev_move rfl)⟩, ⟨_, rfl, Qok_val rfl (Ev_fieldAddr 2 44 1 Try.underlying70 rfl Try.sizeOf44 rfl rfl)⟩, ⟨_, rfl, Qok_val rfl (Ev_load rfl (Ld_one Try.isAgg44 (MemAt.ent 1 rfl (Seg.tail (Seg.tail (Seg.head))))))⟩, ⟨_, rfl, Qok_val rfl (Ev_bini rfl rfl fun _ => bin_rem_u64 nn (2:UInt64) (by decide))⟩, ⟨_, rfl, Qok_val rfl (Ev_bini rfl rfl fun _ => bin_eql_u64 (nn % (2:UInt64)) (1:UInt64))⟩, trivial⟩ rfl (Cok_step rfl (Step_call 62 _ [true, false] [nb8] _ (Cl_func [Ptr nb8 0] Try.call62 rfl) rfl (fun w1 hw1 => flgR_w nb8 e ao yn c y w1 (hw1.ent _ (List.mem_of_getElem? (i := 0) rfl)) hyn (by omega) (by omega) (by omega) (hA _ _ RdB.nil)))) ?_
                  rintro v1 L1 ⟨_, ⟨rfl, ao5, ca5, ⟨hA5, hb23, hb24, hb25⟩, rfl⟩, rfl⟩
                  refine ⟨[(6, .bool ((fgV y e) == (decide ((nn % (2:UInt64)) = (1:UInt64))))), (7, .bool ((fgV y e) == (decide ((nn % (2:UInt64)) = (1:UInt64)))))], ?_⟩
                  show DP _ _ _ _ _ _ _ _ [⟨nb9, [I64 (kd), I64 (s), U64 nn, .slice ax p cx], 70, (0, 0)⟩, ⟨nb8, [errV 36 (okE e (decide (FgOk y e))), .slice ao5 ((fgZ y e).length) ca5], 123, (0, 0)⟩]
                  refine DP_end ⟨[1], [0, 2, 3, 4, 5, 6, 7], [0], [2, 3, 4, 5, 6, 7], []⟩ rfl rfl (by decide +kernel) rfl ⟨⟨_, rfl, Qok_val rfl (Ev_fieldAddr 2 44 1 Try.underlying70 rfl Try.sizeOf44 rfl rfl)⟩, ⟨_, rfl, Qok_val rfl (Ev_load rfl (Ld_one Try.isAgg44 (MemAt.ent 0 rfl (Seg.tail (Seg.tail (Seg.head))))))⟩, ⟨_, rfl, Qok_val rfl (Ev_bini rfl rfl fun _ => bin_rem_u64 nn (2:UInt64) (by decide))⟩, ⟨_, rfl, Qok_val rfl (Ev_bini rfl rfl fun _ => bin_eql_u64 (nn % (2:UInt64)) (1:UInt64))⟩, ⟨_, rfl, Qok_val rfl (Ev_bin _ _ _ rfl rfl (fun _ => eqGuard_bool ..) fun _ => eql_bool Try.underlying4)⟩, ⟨_, rfl, Qok_val rfl (Ev_assign rfl)⟩, trivial⟩ ?_
                  refine K_sub (F' := [(84, Ptr nb8 0), (85, .bool (fgV y e)), (86, Ptr nb9 2), (87, U64 nn), (88, U64 (nn % (2:UInt64))), (89, .bool (decide ((nn % (2:UInt64)) = (1:UInt64)))), (90, .bool ((fgV y e) == (decide ((nn % (2:UInt64)) = (1:UInt64))))), (11, .bool ((fgV y e) == (decide ((nn % (2:UInt64)) = (1:UInt64))))), (8, Ptr nb8 0), (74, .slice ab n cb), (75, I64 ((n:Int))), (76, I64 ((q:Int))), (77, .bool (decide (((q:Int)) < ((n:Int))))), (78, Ptr rowb (4*q + rowo)), (79, .agg (List.toArray (α := Value) ([I64 (kd), I64 (s), U64 nn, .slice ax p cx]))), (10, Ptr nb9 0), (80, Ptr nb9 0), (81, I64 (kd)), (82, U64 (u64i (kd))), (83, U64 ((u64i (kd)) % (5:UInt64))), (92, .bool (decide (((u64i (kd)) % (5:UInt64)) = (0:UInt64)))), (91, .bool (decide (((u64i (kd)) % (5:UInt64)) = (0:UInt64)))), (101, .bool (decide (((u64i (kd)) % (5:UInt64)) = (1:UInt64)))), (100, .bool (decide (((u64i (kd)) % (5:UInt64)) = (1:UInt64)))), (108, .bool (decide (((u64i (kd)) % (5:UInt64)) = (2:UInt64)))), (107, .bool (decide (((u64i (kd)) % (5:UInt64)) = (2:UInt64)))), (118, .bool (decide (((u64i (kd)) % (5:UInt64)) = (3:UInt64)))), (117, .bool (decide (((u64i (kd)) % (5:UInt64)) = (3:UInt64))))]) (Sub.cons (by kernel_rfl) (Sub.cons (by kernel_rfl) (Sub.cons (by kernel_rfl) (Sub.cons (by kernel_rfl) (Sub.cons (by kernel_rfl) (Sub.cons (by kernel_rfl) (Sub.cons (by kernel_rfl) (Sub.cons (by kernel_rfl) (Sub.cons (by kernel_rfl) (Sub.cons (by kernel_rfl) (Sub.cons (by kernel_rfl) (Sub.cons (by kernel_rfl) (Sub.cons (by kernel_rfl) (Sub.cons (by kernel_rfl) (Sub.cons (by kernel_rfl) (Sub.cons (by kernel_rfl) (Sub.cons (by kernel_rfl) (Sub.cons (by kernel_rfl) (Sub.cons (by kernel_rfl) (Sub.cons (by kernel_rfl) (Sub.cons (by kernel_rfl) (Sub.cons (by kernel_rfl) (Sub.cons (by kernel_rfl) (Sub.cons (by kernel_rfl) (Sub.cons (by kernel_rfl) (Sub.cons (by kernel_rfl) (Sub.cons (by kernel_rfl) (Sub.cons (by kernel_rfl) (Sub.nil))))))))))))))))))))))))))))) ?_
                  show JQ _ _ _ [(84, Ptr nb8 0), (85, .bool (fgV y e)), (86, Ptr nb9 2), (87, U64 nn), (88, U64 (nn % (2:UInt64))), (89, .bool (decide ((nn % (2:UInt64)) = (1:UInt64)))), (90, .bool ((fgV y e) == (decide ((nn % (2:UInt64)) = (1:UInt64))))), (11, .bool ((fgV y e) == (decide ((nn % (2:UInt64)) = (1:UInt64))))), (8, Ptr nb8 0), (74, .slice ab n cb), (75, I64 ((n:Int))), (76, I64 ((q:Int))), (77, .bool (decide (((q:Int)) < ((n:Int))))), (78, Ptr rowb (4*q + rowo)), (79, .agg (List.toArray (α := Value) ([I64 (kd), I64 (s), U64 nn, .slice ax p cx]))), (10, Ptr nb9 0), (80, Ptr nb9 0), (81, I64 (kd)), (82, U64 (u64i (kd))), (83, U64 ((u64i (kd)) % (5:UInt64))), (92, .bool (decide (((u64i (kd)) % (5:UInt64)) = (0:UInt64)))), (91, .bool (decide (((u64i (kd)) % (5:UInt64)) = (0:UInt64)))), (101, .bool (decide (((u64i (kd)) % (5:UInt64)) = (1:UInt64)))), (100, .bool (decide (((u64i (kd)) % (5:UInt64)) = (1:UInt64)))), (108, .bool (decide (((u64i (kd)) % (5:UInt64)) = (2:UInt64)))), (107, .bool (decide (((u64i (kd)) % (5:UInt64)) = (2:UInt64)))), (118, .bool (decide (((u64i (kd)) % (5:UInt64)) = (3:UInt64)))), (117, .bool (decide (((u64i (kd)) % (5:UInt64)) = (3:UInt64))))] _
                  refine JQ_in_normal ?_
                  refine JQ_then ?_
                  refine JC_seq ?_
                  refine JC_region ?_
                  refine JL_val _ (Ev_move rfl) rfl ?_
                  refine JL_val (.bool (!((fgV y e) == (decide ((nn % (2:UInt64)) = (1:UInt64)))))) (Ev_not rfl) rfl ?_
                  refine JL_nil ?_
                  refine JQ_then ?_
                  refine JC_condF _ rfl (by rw [show ((fgV y e) == (decide ((nn % (2:UInt64)) = (1:UInt64)))) = true from (by rw [(rk4 (by assumption) (by assumption) (by assumption) (by assumption) hyy he).1]; exact beq_self_eq_true _)]; rfl) ?_
                  refine JC_skip ?_
                  refine JQ_in_normal ?_
                  refine JQ_then ?_
                  refine JC_region ?_
                  refine JL_val (I64 ((q:Int) + 1)) (Ev_bini rfl rfl fun _ => bin_add_i _ _ ((q:Int) + 1) (by omega) (by omega)) rfl ?_
                  refine JL_val _ (Ev_move rfl) rfl ?_
                  refine JL_nil ?_
                  refine JQ_thenK ?_
                  refine K_mask [false, true] ?_
                  show K _ _ [⟨nb8, [errV 36 (okE e (decide (FgOk y e))), .slice ao5 ((fgZ y e).length) ca5], 123, (0, 0)⟩] _
                  have hy2 : fgZ y e = encD al (q + 1) := (by first | exact (rk0 (by assumption) hgd hyy he).2.1 | exact (rk1 (by assumption) (by assumption) hz hgd hyy he).2.1 | exact (rk2 (by assumption) (by assumption) (by assumption) hz hyy he).2.1 | exact (rk3 (by assumption) (by assumption) (by assumption) (by assumption) hyy he).2.1 | exact (rk4 (by assumption) (by assumption) (by assumption) (by assumption) hyy he).2.1)
                  have hle : (fgZ y e).length ≤ y.length := by rw [hy2, hyy, List.length_append]; omega
                  refine K_next (q + 1, (okE e (decide (FgOk y e))), (fgZ y e), ((fgZ y e).length), ao5, ca5) ⟨by omega, (by first | exact (rk0 (by assumption) hgd hyy he).2.2 | exact (rk1 (by assumption) (by assumption) hz hgd hyy he).2.2 | exact (rk2 (by assumption) (by assumption) (by assumption) hz hyy he).2.2 | exact (rk3 (by assumption) (by assumption) (by assumption) (by assumption) hyy he).2.2 | exact (rk4 (by assumption) (by assumption) (by assumption) (by assumption) hyy he).2.2), hy2, (fun w M h => hA5 w M (hA w M h)), (by omega), (by omega), (by omega), rfl⟩ (by first | (simp; omega) | simp | (dsimp only; omega) | omega) (Sub.cons rfl (Sub.cons rfl (Sub.cons rfl (Sub.cons rfl (Sub.nil))))) rfl
        ·
          have hp6 : ¬ (((q:Int)) < ((n:Int))) := of_decide_eq_false hb6
          refine JC_exit ?_
          refine JQ_then_exit ?_
          refine JQ_then_exit ?_
          refine JQ_in_same ?_
          refine JQ_then ?_
          refine JC_seq ?_
          have hyl : y.length = 0 := by rw [hy, encD_end (i := q) (by omega)]; rfl
          refine JC_region ?_
          refine JL_val _ (Ev_move rfl) rfl ?_
          refine JL_step (Step_callP 66 [Ptr nb8 0] (.nilIface) (Cl_func [Ptr nb8 0] Try.call66 rfl) (fun w1 hw1 => endZ_c nb8 e ao yn c w1 (RdA.of hw1 (MemAt.ent 0 rfl (Seg.whole _)) (by simp)) he (by omega))) rfl ?_
          rintro v1 L1 ⟨rfl, rfl⟩
          show JL _ _ _ _ ((129, .nilIface) :: _) [⟨nb8, [errV 36 e, .slice ao yn c], 123, (0, 0)⟩]
          refine JL_val (.bool true) (Ev_bin _ _ _ rfl rfl (fun _ => eqGuard_nn ..) fun _ => eql_if_nil_nil Try.underlying30) rfl ?_
          refine JL_val _ (Ev_assign rfl) rfl ?_
          refine JL_nil ?_
          refine JQ_then ?_
          refine JC_ret ?_
          refine JQ_ret (.bool true) (res1 Try.results14 (RV_tmp rfl)) fun w1 hw1 => ?_
          exact ⟨_, [], rfl, ⟨by rw [show (true) = true from rfl], rfl⟩, hw1.sub (by simp) (by simp)⟩
      ·
        refine JC_region ?_
        refine JL_val _ (Ev_move rfl) rfl ?_
        refine JL_step (Step_callP 50 [Ptr nb1 0] (.tuple #[.slice none 0 0, errV 36 e]) (Cl_func [Ptr nb1 0] Try.call50 rfl) (fun w1 hw1 => doneE_c nb1 e (.slice none 0 0) w1 (RdA.of hw1 (MemAt.ent 0 rfl (Seg.whole _)) (by simp)) he)) rfl ?_
        rintro v1 L1 ⟨rfl, rfl⟩
        show JL _ _ _ _ ((64, .tuple #[.slice none 0 0, errV 36 e]) :: _) [⟨nb1, [errV 36 e, .slice none 0 0], 66, (0, 0)⟩]
        refine JL_val _ (Ev_move rfl) rfl ?_
        refine JL_val _ (Ev_extract rfl rfl) rfl ?_
        refine JL_val _ (Ev_extract rfl rfl) rfl ?_
        refine JL_val _ (Ev_assign rfl) rfl ?_
        refine JL_val _ (Ev_assign rfl) rfl ?_
        refine JL_nil ?_
        refine JQ_then ?_
        refine JC_seq ?_
        refine JC_seq ?_
        refine JC_region ?_
        refine JL_val _ (Ev_move rfl) rfl ?_
        refine JL_val (.bool (!(decide (e = 0)))) (Ev_bin _ _ _ rfl rfl (fun _ => eqGuard_errV ..) fun _ => neq_errV Try.underlying30 _ _) rfl ?_
        refine JL_nil ?_
        refine JQ_then ?_
        refine JC_cond (!(decide (e = 0))) rfl (fun hb26 => ?_) (fun hb26 => ?_)
        ·
          have hb27 : (decide (e = 0)) = false := by simpa using hb26
          have hp27 : ¬ (e = 0) := of_decide_eq_false hb27
          refine JC_seq ?_
          refine JC_region ?_
          refine JL_val _ (Ev_move rfl) rfl ?_
          refine JL_val (I64 (0:Int)) (Ev_len Try.underlying38 rfl) rfl ?_
          refine JL_val (.bool (decide ((0:Int) = (0:Int)))) (Ev_bini rfl rfl fun _ => bin_eql_i _ _) rfl ?_
          refine JL_val _ (Ev_assign rfl) rfl ?_
          refine JL_nil ?_
          refine JQ_then ?_
          refine JC_ret ?_
          refine JQ_then_ret ?_
          refine JQ_ret (.bool (decide ((0:Int) = (0:Int)))) (res1 Try.results14 (RV_tmp rfl)) fun w1 hw1 => ?_
          exact ⟨_, [], rfl, ⟨by rw [show (decide ((0:Int) = (0:Int))) = true from (by decide)], rfl⟩, hw1.sub (by simp) (by simp)⟩
        ·
          have hb28 : (decide (e = 0)) = true := by simpa using hb26
          have hp28 : e = 0 := of_decide_eq_true hb28
          exfalso; omega
  ·
    obtain ⟨hx1, hinv, ho, hx2, hy1, hy2, hy3⟩ := hx
    show JC _ _ _ [(0, .slice ab n cb), (2, .bool false), (18, .slice ab n cb), (19, I64 ((n:Int))), (20, I64 ((i:Int))), (3, Ptr nb1 0)] [⟨nb1, [errV 36 e, Slc gw 0 m cpw], 66, (0, 0)⟩, ⟨gw, cu8 o ++ spw, 5, (0, 0)⟩]
    refine JC_seq ?_
    refine JC_region ?_
    refine JL_val (.bool (decide (((i:Int)) < ((n:Int))))) (Ev_bini rfl rfl fun _ => bin_lss_i _ _) rfl ?_
    refine JL_nil ?_
    refine JQ_then ?_
    refine JC_seq ?_
    refine JC_cond (decide (((i:Int)) < ((n:Int)))) rfl (fun hb29 => ?_) (fun hb29 => ?_)
    ·
      have hp29 : ((i:Int)) < ((n:Int)) := of_decide_eq_true hb29
      refine JC_skip ?_
      refine JQ_then ?_
      refine JC_seq ?_
      refine JC_block ?_
      refine JC_seq ?_
      obtain ⟨a, ha⟩ : ∃ a, al[i]? = some a := ⟨al[i]'(by omega), by simp⟩
      obtain ⟨rowb, rowo, hrowa, hrow⟩ := rows_at actC_len (by decide) hv ha
      have hG1 := hG _ (List.mem_of_getElem? ha)
      have hsum := sumP_succ ha
      have hsle : sumP al (i + 1) ≤ sumP al n := sumP_le al (by omega)
      obtain ⟨kd, s, nn, ax, p, cx, z⟩ := a
      obtain ⟨hkd, hsb, hz, hcn, hcc, hr, hp⟩ := hG1
      dsimp only [actC] at hkd hsb hz hcn hcc hr hp hrow hsum
      refine JC_region ?_
      refine JL_val (Ptr rowb (4*i + rowo)) (Ev_indexSlG 70 4 (4*i + rowo) Try.underlying60 Try.sizeOf70 rfl hrowa rfl (by omega) (by omega) (by omega)) rfl ?_
      refine JL_val (.agg (List.toArray (α := Value) ([I64 (kd), I64 (s), U64 nn, .slice ax p cx]))) (Ev_load rfl (Ld_agg Try.isAgg70 Try.sizeOf70 rfl (MemAt.seg (hrow.mem (by simp)) (Seg.whole _) (by omega)))) rfl ?_
      refine JL_step (Step_alloc _ ([I64 (0:Int), I64 (0:Int), U64 (0:UInt64), .slice none 0 0]) Try.zeroValue70 (by kernel_rfl)) rfl ?_
      rintro v1 L1 ⟨nb12, hnb12, rfl, rfl⟩
      show JL _ _ _ _ ((5, Ptr nb12 0) :: _) [⟨nb1, [errV 36 e, Slc gw 0 m cpw], 66, (0, 0)⟩, ⟨gw, cu8 o ++ spw, 5, (0, 0)⟩, ⟨nb12, [I64 (0:Int), I64 (0:Int), U64 (0:UInt64), .slice none 0 0], 70, (0, 0)⟩]
      refine JL_step (Step_store 2 nb12 0 4 ([I64 (0:Int), I64 (0:Int), U64 (0:UInt64), .slice none 0 0]) 70 (.agg (List.toArray (α := Value) ([I64 (kd), I64 (s), U64 nn, .slice ax p cx]))) ([I64 (kd), I64 (s), U64 nn, .slice ax p cx]) ([I64 (kd), I64 (s), U64 nn, .slice ax p cx]) rfl rfl rfl (by first | rfl | simp) Try.sizeOf70 rfl (by simp [Value.oneCell']) (Nat.le_of_ble_eq_true rfl) (lay_whole (by simp []))) rfl ?_
      rintro v1 L1 ⟨rfl, rfl⟩
      show JL _ _ _ _ _ [⟨nb1, [errV 36 e, Slc gw 0 m cpw], 66, (0, 0)⟩, ⟨gw, cu8 o ++ spw, 5, (0, 0)⟩, ⟨nb12, [I64 (kd), I64 (s), U64 nn, .slice ax p cx], 70, (0, 0)⟩]
      refine JL_nil ?_
      refine JQ_then ?_
      refine JC_seq ?_
      refine JC_region ?_
      refine JL_val (Ptr nb12 0) (Ev_fieldAddr 0 3 1 Try.underlying70 rfl Try.sizeOf3 rfl rfl) rfl ?_
      refine JL_val (I64 (kd)) (Ev_load rfl (Ld_one Try.isAgg3 (MemAt.ent 2 rfl (Seg.head)))) rfl ?_
      refine JL_val (U64 (u64i (kd))) (Ev_conv _ _ rfl fun _ => conv_i64_u64i (by rw [Try.underlying3]; rfl) Try.underlying49 (kd)) rfl ?_
      refine JL_val (U64 ((u64i (kd)) % (5:UInt64))) (Ev_bini rfl rfl fun _ => bin_rem_u64 (u64i (kd)) (5:UInt64) (by decide)) rfl ?_
      refine JL_nil ?_
      refine JQ_then ?_
      refine JC_block ?_
      refine JC_seq ?_
      refine JC_region ?_
      refine JL_val (.bool (decide (((u64i (kd)) % (5:UInt64)) = (0:UInt64)))) (Ev_bini rfl rfl fun _ => bin_eql_u64 ((u64i (kd)) % (5:UInt64)) (0:UInt64)) rfl ?_
      refine JL_val _ (Ev_assign rfl) rfl ?_
      refine JL_nil ?_
      refine JQ_then ?_
      refine JC_cond (decide (((u64i (kd)) % (5:UInt64)) = (0:UInt64))) rfl (fun hb30 => ?_) (fun hb30 => ?_)
      ·
        have hp30 : ((u64i (kd)) % (5:UInt64)) = (0:UInt64) := of_decide_eq_true hb30
        by_cases hsz : Szd s
        ·
          obtain ⟨k, rfl⟩ : ∃ k : Nat, s = k := ⟨s.toNat, by have := hsz; unfold Szd at this; omega⟩
          have hk8 : k ≤ 8 := by have := hsz; unfold Szd at this; omega
          by_cases hx : ftN nn k = 0
          ·
            refine JC_region ?_
            refine JL_val _ (Ev_move rfl) rfl ?_
            refine JL_val (Ptr nb12 2) (Ev_fieldAddr 2 44 1 Try.underlying70 rfl Try.sizeOf44 rfl rfl) rfl ?_
            refine JL_val (U64 nn) (Ev_load rfl (Ld_one Try.isAgg44 (MemAt.ent 2 rfl (Seg.tail (Seg.tail (Seg.head)))))) rfl ?_
            refine JL_val (Ptr nb12 1) (Ev_fieldAddr 1 3 1 Try.underlying70 rfl Try.sizeOf3 rfl rfl) rfl ?_
            refine JL_val (I64 ((k:Int))) (Ev_load rfl (Ld_one Try.isAgg3 (MemAt.ent 2 rfl (Seg.tail (Seg.head))))) rfl ?_
            refine JL_step (Step_call 40 _ [true, true, false] [nb1, gw] _ (Cl_func [Ptr nb1 0, U64 nn, I64 ((k:Int))] Try.call40 rfl) rfl (fun w1 hw1 => numO_c nb1 gw m cpw (k + m) (errV 36 e) o spw nn k w1 (hw1.ent _ (List.mem_of_getElem? (i := 0) rfl)) (hw1.ent _ (List.mem_of_getElem? (i := 1) rfl)) (hw1.ne (i := 0) (j := 1) rfl rfl (by decide)) ho hy1 hy2 hy3 (by omega) hsz (fit_ok hx) (by omega))) rfl ?_
            rintro v1 L1 ⟨_, ⟨rfl, nb13, sp8, cp8, rfl, hc22, hc23, hc24⟩, rfl⟩
            show JL _ _ _ _ ((41, Ptr nb1 0) :: _) [⟨nb12, [I64 (kd), I64 ((k:Int)), U64 nn, .slice ax p cx], 70, (0, 0)⟩, ⟨nb1, [errV 36 e, Slc nb13 0 (k + m) cp8], 66, (0, 0)⟩, ⟨nb13, cu8 (o ++ numK k nn k) ++ sp8, 5, (0, 0)⟩]
            refine JL_val _ (Ev_assign rfl) rfl ?_
            refine JL_nil ?_
            refine JQ_in_normal ?_
            refine JQ_in_normal ?_
            refine JQ_then ?_
            refine JC_region ?_
            refine JL_val (I64 ((i:Int) + 1)) (Ev_bini rfl rfl fun _ => bin_add_i _ _ ((i:Int) + 1) (by omega) (by omega)) rfl ?_
            refine JL_val _ (Ev_move rfl) rfl ?_
            refine JL_nil ?_
            refine JQ_thenK ?_
            refine K_mask [false, true, true] ?_
            show K _ _ [⟨nb1, [errV 36 e, Slc nb13 0 (k + m) cp8], 66, (0, 0)⟩, ⟨nb13, cu8 (o ++ numK k nn k) ++ sp8, 5, (0, 0)⟩] _
            refine K_next (.inr (i + 1, e, o ++ numK k nn k, (k + m), nb13, sp8, cp8)) ⟨by omega, (fun he0 => (by first | exact bk0 (by assumption) hsz hx ha (hinv he0) | exact bk1 (by assumption) (by assumption) hple ha (hinv he0) | exact bk2z (by assumption) (by assumption) (by assumption) hz ha (hinv he0) | exact bk2 (by assumption) (by assumption) (by assumption) ha (hinv he0) | exact bk3 (by assumption) (by assumption) (by assumption) (by assumption) ha (hinv he0) | exact bk4 (by assumption) (by assumption) (by assumption) (by assumption) ha (hinv he0))), (show (o ++ numK k nn k).length = (k + m) from (by rw [List.length_append, ho, numK_len] <;> omega)), by rw [hsum]; omega, (by have := hc22; omega), (by omega), hc24⟩ (by first | (simp; omega) | simp | (dsimp only; omega) | omega) (Sub.cons rfl (Sub.cons rfl (Sub.cons rfl (Sub.cons rfl (Sub.cons rfl (Sub.cons rfl (Sub.nil))))))) rfl
          ·
            refine JC_region ?_
            refine JL_val _ (Ev_move rfl) rfl ?_
            refine JL_val (Ptr nb12 2) (Ev_fieldAddr 2 44 1 Try.underlying70 rfl Try.sizeOf44 rfl rfl) rfl ?_
            refine JL_val (U64 nn) (Ev_load rfl (Ld_one Try.isAgg44 (MemAt.ent 2 rfl (Seg.tail (Seg.tail (Seg.head)))))) rfl ?_
            refine JL_val (Ptr nb12 1) (Ev_fieldAddr 1 3 1 Try.underlying70 rfl Try.sizeOf3 rfl rfl) rfl ?_
            refine JL_val (I64 ((k:Int))) (Ev_load rfl (Ld_one Try.isAgg3 (MemAt.ent 2 rfl (Seg.tail (Seg.head))))) rfl ?_
            refine JL_step (Step_callW 40 [Ptr nb1 0, U64 nn, I64 ((k:Int))] 0 ⟨nb1, [errV 36 e, Slc gw 0 m cpw], 66, (0, 0)⟩ _ (fun v e' l' => v = Ptr nb1 0 ∧ e' = ⟨nb1, [errV 36 (erN e 1), Slc gw 0 m cpw], 66, (0, 0)⟩ ∧ l' = []) (Cl_func [Ptr nb1 0, U64 nn, I64 ((k:Int))] Try.call40 rfl) rfl (by rintro v l ⟨rfl, rfl⟩; exact ⟨_, _, rfl, rfl, rfl, rfl, rfl⟩) (fun w1 hw1 => numB2_c nb1 e (Slc gw 0 m cpw) nn k w1 (hw1.ent _ (List.mem_of_getElem? (i := 0) rfl)) hsz (fit_lt hsz hx) (fit_ne hsz hx))) rfl ?_
            rintro v1 L1 ⟨_, _, ⟨rfl, rfl, rfl⟩, rfl⟩
            show JL _ _ _ _ ((41, Ptr nb1 0) :: _) [⟨nb1, [errV 36 (erN e 1), Slc gw 0 m cpw], 66, (0, 0)⟩, ⟨gw, cu8 o ++ spw, 5, (0, 0)⟩, ⟨nb12, [I64 (kd), I64 ((k:Int)), U64 nn, .slice ax p cx], 70, (0, 0)⟩]
            refine JL_val _ (Ev_assign rfl) rfl ?_
            refine JL_nil ?_
            refine JQ_in_normal ?_
            refine JQ_in_normal ?_
            refine JQ_then ?_
            refine JC_region ?_
            refine JL_val (I64 ((i:Int) + 1)) (Ev_bini rfl rfl fun _ => bin_add_i _ _ ((i:Int) + 1) (by omega) (by omega)) rfl ?_
            refine JL_val _ (Ev_move rfl) rfl ?_
            refine JL_nil ?_
            refine JQ_thenK ?_
            refine K_mask [true, true, false] ?_
            show K _ _ [⟨nb1, [errV 36 (erN e 1), Slc gw 0 m cpw], 66, (0, 0)⟩, ⟨gw, cu8 o ++ spw, 5, (0, 0)⟩] _
            refine K_next (.inr (i + 1, (erN e 1), o, m, gw, spw, cpw)) ⟨by omega, (fun he0 => absurd he0 (erN_ne (by decide))), ho, by rw [hsum]; omega, (by have := hy1; omega), (by omega), hy3⟩ (by first | (simp; omega) | simp | (dsimp only; omega) | omega) (Sub.cons rfl (Sub.cons rfl (Sub.cons rfl (Sub.cons rfl (Sub.cons rfl (Sub.cons rfl (Sub.nil))))))) rfl
        ·
          refine JC_region ?_
          refine JL_val _ (Ev_move rfl) rfl ?_
          refine JL_val (Ptr nb12 2) (Ev_fieldAddr 2 44 1 Try.underlying70 rfl Try.sizeOf44 rfl rfl) rfl ?_
          refine JL_val (U64 nn) (Ev_load rfl (Ld_one Try.isAgg44 (MemAt.ent 2 rfl (Seg.tail (Seg.tail (Seg.head)))))) rfl ?_
          refine JL_val (Ptr nb12 1) (Ev_fieldAddr 1 3 1 Try.underlying70 rfl Try.sizeOf3 rfl rfl) rfl ?_
          refine JL_val (I64 (s)) (Ev_load rfl (Ld_one Try.isAgg3 (MemAt.ent 2 rfl (Seg.tail (Seg.head))))) rfl ?_
          refine JL_step (Step_callW 40 [Ptr nb1 0, U64 nn, I64 (s)] 0 ⟨nb1, [errV 36 e, Slc gw 0 m cpw], 66, (0, 0)⟩ _ (fun v e' l' => v = Ptr nb1 0 ∧ e' = ⟨nb1, [errV 36 (erN e 1), Slc gw 0 m cpw], 66, (0, 0)⟩ ∧ l' = []) (Cl_func [Ptr nb1 0, U64 nn, I64 (s)] Try.call40 rfl) rfl (by rintro v l ⟨rfl, rfl⟩; exact ⟨_, _, rfl, rfl, rfl, rfl, rfl⟩) (fun w1 hw1 => numB1_c nb1 e (Slc gw 0 m cpw) nn s w1 (hw1.ent _ (List.mem_of_getElem? (i := 0) rfl)) hsz)) rfl ?_
          rintro v1 L1 ⟨_, _, ⟨rfl, rfl, rfl⟩, rfl⟩
          show JL _ _ _ _ ((41, Ptr nb1 0) :: _) [⟨nb1, [errV 36 (erN e 1), Slc gw 0 m cpw], 66, (0, 0)⟩, ⟨gw, cu8 o ++ spw, 5, (0, 0)⟩, ⟨nb12, [I64 (kd), I64 (s), U64 nn, .slice ax p cx], 70, (0, 0)⟩]
          refine JL_val _ (Ev_assign rfl) rfl ?_
          refine JL_nil ?_
          refine JQ_in_normal ?_
          refine JQ_in_normal ?_
          refine JQ_then ?_
          refine JC_region ?_
          refine JL_val (I64 ((i:Int) + 1)) (Ev_bini rfl rfl fun _ => bin_add_i _ _ ((i:Int) + 1) (by omega) (by omega)) rfl ?_
          refine JL_val _ (Ev_move rfl) rfl ?_
          refine JL_nil ?_
          refine JQ_thenK ?_
          refine K_mask [true, true, false] ?_
          show K _ _ [⟨nb1, [errV 36 (erN e 1), Slc gw 0 m cpw], 66, (0, 0)⟩, ⟨gw, cu8 o ++ spw, 5, (0, 0)⟩] _
          refine K_next (.inr (i + 1, (erN e 1), o, m, gw, spw, cpw)) ⟨by omega, (fun he0 => absurd he0 (erN_ne (by decide))), ho, by rw [hsum]; omega, (by have := hy1; omega), (by omega), hy3⟩ (by first | (simp; omega) | simp | (dsimp only; omega) | omega) (Sub.cons rfl (Sub.cons rfl (Sub.cons rfl (Sub.cons rfl (Sub.cons rfl (Sub.cons rfl (Sub.nil))))))) rfl
      ·
        have hp30 : ¬ (((u64i (kd)) % (5:UInt64)) = (0:UInt64)) := of_decide_eq_false hb30
        refine JC_seq ?_
        refine JC_region ?_
        refine JL_val (.bool (decide (((u64i (kd)) % (5:UInt64)) = (1:UInt64)))) (Ev_bini rfl rfl fun _ => bin_eql_u64 ((u64i (kd)) % (5:UInt64)) (1:UInt64)) rfl ?_
        refine JL_val _ (Ev_assign rfl) rfl ?_
        refine JL_nil ?_
        refine JQ_then ?_
        refine JC_cond (decide (((u64i (kd)) % (5:UInt64)) = (1:UInt64))) rfl (fun hb31 => ?_) (fun hb31 => ?_)
        ·
          have hp31 : ((u64i (kd)) % (5:UInt64)) = (1:UInt64) := of_decide_eq_true hb31
          by_cases hple : p ≤ 65535
          ·
            refine JC_region ?_
            refine JL_val _ (Ev_move rfl) rfl ?_
            refine JL_val (Ptr nb12 3) (Ev_fieldAddr 3 38 1 Try.underlying70 rfl Try.sizeOf38 rfl rfl) rfl ?_
            refine JL_val (.slice ax p cx) (Ev_load rfl (Ld_one Try.isAgg38 (MemAt.ent 2 rfl (Seg.tail (Seg.tail (Seg.tail (Seg.head))))))) rfl ?_
            refine JL_step (Step_call 42 _ [true, true, false] [nb1, gw] _ (Cl_func [Ptr nb1 0, .slice ax p cx] Try.call42 rfl) rfl (fun w1 hw1 => bytesO_c nb1 gw m cpw (m + p + 2) (errV 36 e) o spw ax p cx z w1 (hw1.ent _ (List.mem_of_getElem? (i := 0) rfl)) (hw1.ent _ (List.mem_of_getElem? (i := 1) rfl)) (hw1.ne (i := 0) (j := 1) rfl rfl (by decide)) ho hy1 hy2 hy3 (by omega) hz (hr.at (M' := [nb1, gw]) hw1 (hw1.apart [0, 1] _ rfl)) (by omega) (by omega))) rfl ?_
            rintro v1 L1 ⟨_, ⟨rfl, nb14, sp9, cp9, rfl, hc25, hc26, hc27⟩, rfl⟩
            show JL _ _ _ _ ((47, Ptr nb1 0) :: _) [⟨nb12, [I64 (kd), I64 (s), U64 nn, .slice ax p cx], 70, (0, 0)⟩, ⟨nb1, [errV 36 e, Slc nb14 0 (m + p + 2) cp9], 66, (0, 0)⟩, ⟨nb14, cu8 ((o ++ numK 2 (UInt64.ofNat p) 2) ++ z) ++ sp9, 5, (0, 0)⟩]
            refine JL_val _ (Ev_assign rfl) rfl ?_
            refine JL_nil ?_
            refine JQ_in_normal ?_
            refine JQ_in_normal ?_
            refine JQ_then ?_
            refine JC_region ?_
            refine JL_val (I64 ((i:Int) + 1)) (Ev_bini rfl rfl fun _ => bin_add_i _ _ ((i:Int) + 1) (by omega) (by omega)) rfl ?_
            refine JL_val _ (Ev_move rfl) rfl ?_
            refine JL_nil ?_
            refine JQ_thenK ?_
            refine K_mask [false, true, true] ?_
            show K _ _ [⟨nb1, [errV 36 e, Slc nb14 0 (m + p + 2) cp9], 66, (0, 0)⟩, ⟨nb14, cu8 ((o ++ numK 2 (UInt64.ofNat p) 2) ++ z) ++ sp9, 5, (0, 0)⟩] _
            refine K_next (.inr (i + 1, e, (o ++ numK 2 (UInt64.ofNat p) 2) ++ z, (m + p + 2), nb14, sp9, cp9)) ⟨by omega, (fun he0 => (by first | exact bk0 (by assumption) hsz hx ha (hinv he0) | exact bk1 (by assumption) (by assumption) hple ha (hinv he0) | exact bk2z (by assumption) (by assumption) (by assumption) hz ha (hinv he0) | exact bk2 (by assumption) (by assumption) (by assumption) ha (hinv he0) | exact bk3 (by assumption) (by assumption) (by assumption) (by assumption) ha (hinv he0) | exact bk4 (by assumption) (by assumption) (by assumption) (by assumption) ha (hinv he0))), (show ((o ++ numK 2 (UInt64.ofNat p) 2) ++ z).length = (m + p + 2) from (by rw [List.length_append, List.length_append, numK_len, ho, hz]; omega)), by rw [hsum]; omega, (by have := hc25; omega), (by omega), hc27⟩ (by first | (simp; omega) | simp | (dsimp only; omega) | omega) (Sub.cons rfl (Sub.cons rfl (Sub.cons rfl (Sub.cons rfl (Sub.cons rfl (Sub.cons rfl (Sub.nil))))))) rfl
          ·
            refine JC_region ?_
            refine JL_val _ (Ev_move rfl) rfl ?_
            refine JL_val (Ptr nb12 3) (Ev_fieldAddr 3 38 1 Try.underlying70 rfl Try.sizeOf38 rfl rfl) rfl ?_
            refine JL_val (.slice ax p cx) (Ev_load rfl (Ld_one Try.isAgg38 (MemAt.ent 2 rfl (Seg.tail (Seg.tail (Seg.tail (Seg.head))))))) rfl ?_
            refine JL_step (Step_callW 42 [Ptr nb1 0, .slice ax p cx] 0 ⟨nb1, [errV 36 e, Slc gw 0 m cpw], 66, (0, 0)⟩ _ (fun v e' l' => v = Ptr nb1 0 ∧ e' = ⟨nb1, [errV 36 (erN e 3), Slc gw 0 m cpw], 66, (0, 0)⟩ ∧ l' = []) (Cl_func [Ptr nb1 0, .slice ax p cx] Try.call42 rfl) rfl (by rintro v l ⟨rfl, rfl⟩; exact ⟨_, _, rfl, rfl, rfl, rfl, rfl⟩) (fun w1 hw1 => bytesB_c nb1 e (Slc gw 0 m cpw) ax p cx w1 (hw1.ent _ (List.mem_of_getElem? (i := 0) rfl)) (by omega))) rfl ?_
            rintro v1 L1 ⟨_, _, ⟨rfl, rfl, rfl⟩, rfl⟩
            show JL _ _ _ _ ((47, Ptr nb1 0) :: _) [⟨nb1, [errV 36 (erN e 3), Slc gw 0 m cpw], 66, (0, 0)⟩, ⟨gw, cu8 o ++ spw, 5, (0, 0)⟩, ⟨nb12, [I64 (kd), I64 (s), U64 nn, .slice ax p cx], 70, (0, 0)⟩]
            refine JL_val _ (Ev_assign rfl) rfl ?_
            refine JL_nil ?_
            refine JQ_in_normal ?_
            refine JQ_in_normal ?_
            refine JQ_then ?_
            refine JC_region ?_
            refine JL_val (I64 ((i:Int) + 1)) (Ev_bini rfl rfl fun _ => bin_add_i _ _ ((i:Int) + 1) (by omega) (by omega)) rfl ?_
            refine JL_val _ (Ev_move rfl) rfl ?_
            refine JL_nil ?_
            refine JQ_thenK ?_
            refine K_mask [true, true, false] ?_
            show K _ _ [⟨nb1, [errV 36 (erN e 3), Slc gw 0 m cpw], 66, (0, 0)⟩, ⟨gw, cu8 o ++ spw, 5, (0, 0)⟩] _
            refine K_next (.inr (i + 1, (erN e 3), o, m, gw, spw, cpw)) ⟨by omega, (fun he0 => absurd he0 (erN_ne (by decide))), ho, by rw [hsum]; omega, (by have := hy1; omega), (by omega), hy3⟩ (by first | (simp; omega) | simp | (dsimp only; omega) | omega) (Sub.cons rfl (Sub.cons rfl (Sub.cons rfl (Sub.cons rfl (Sub.cons rfl (Sub.cons rfl (Sub.nil))))))) rfl
        ·
          have hp31 : ¬ (((u64i (kd)) % (5:UInt64)) = (1:UInt64)) := of_decide_eq_false hb31
          refine JC_seq ?_
          refine JC_region ?_
          refine JL_val (.bool (decide (((u64i (kd)) % (5:UInt64)) = (2:UInt64)))) (Ev_bini rfl rfl fun _ => bin_eql_u64 ((u64i (kd)) % (5:UInt64)) (2:UInt64)) rfl ?_
          refine JL_val _ (Ev_assign rfl) rfl ?_
          refine JL_nil ?_
          refine JQ_then ?_
          refine JC_cond (decide (((u64i (kd)) % (5:UInt64)) = (2:UInt64))) rfl (fun hb32 => ?_) (fun hb32 => ?_)
          ·
            have hp32 : ((u64i (kd)) % (5:UInt64)) = (2:UInt64) := of_decide_eq_true hb32
            refine JC_region ?_
            refine JL_val _ (Ev_move rfl) rfl ?_
            refine JL_val (Ptr nb12 3) (Ev_fieldAddr 3 38 1 Try.underlying70 rfl Try.sizeOf38 rfl rfl) rfl ?_
            refine JL_val (.slice ax p cx) (Ev_load rfl (Ld_one Try.isAgg38 (MemAt.ent 2 rfl (Seg.tail (Seg.tail (Seg.tail (Seg.head))))))) rfl ?_
            refine JL_step (Step_call 44 _ [true, true, false] [nb1, gw] _ (Cl_func [Ptr nb1 0, .slice ax p cx] Try.call44 rfl) rfl (fun w1 hw1 => rawO_c nb1 gw m cpw (m + p) (errV 36 e) o spw ax p cx z w1 (hw1.ent _ (List.mem_of_getElem? (i := 0) rfl)) (hw1.ent _ (List.mem_of_getElem? (i := 1) rfl)) (hw1.ne (i := 0) (j := 1) rfl rfl (by decide)) ho hy1 hy2 hy3 (by omega) hz (by omega) (hr.at (M' := [nb1, gw]) hw1 (hw1.apart [0, 1] _ rfl)) (by omega))) rfl ?_
            rintro v1 L1 ⟨_, ⟨rfl, nb15, sp10, cp10, rfl, hc28, hc29, hc30⟩, rfl⟩
            show JL _ _ _ _ ((53, Ptr nb1 0) :: _) [⟨nb12, [I64 (kd), I64 (s), U64 nn, .slice ax p cx], 70, (0, 0)⟩, ⟨nb1, [errV 36 e, Slc nb15 0 (m + p) cp10], 66, (0, 0)⟩, ⟨nb15, cu8 (o ++ z) ++ sp10, 5, (0, 0)⟩]
            refine JL_val _ (Ev_assign rfl) rfl ?_
            refine JL_nil ?_
            refine JQ_in_normal ?_
            refine JQ_in_normal ?_
            refine JQ_then ?_
            refine JC_region ?_
            refine JL_val (I64 ((i:Int) + 1)) (Ev_bini rfl rfl fun _ => bin_add_i _ _ ((i:Int) + 1) (by omega) (by omega)) rfl ?_
            refine JL_val _ (Ev_move rfl) rfl ?_
            refine JL_nil ?_
            refine JQ_thenK ?_
            refine K_mask [false, true, true] ?_
            show K _ _ [⟨nb1, [errV 36 e, Slc nb15 0 (m + p) cp10], 66, (0, 0)⟩, ⟨nb15, cu8 (o ++ z) ++ sp10, 5, (0, 0)⟩] _
            refine K_next (.inr (i + 1, e, o ++ z, (m + p), nb15, sp10, cp10)) ⟨by omega, (fun he0 => (by first | exact bk0 (by assumption) hsz hx ha (hinv he0) | exact bk1 (by assumption) (by assumption) hple ha (hinv he0) | exact bk2z (by assumption) (by assumption) (by assumption) hz ha (hinv he0) | exact bk2 (by assumption) (by assumption) (by assumption) ha (hinv he0) | exact bk3 (by assumption) (by assumption) (by assumption) (by assumption) ha (hinv he0) | exact bk4 (by assumption) (by assumption) (by assumption) (by assumption) ha (hinv he0))), (show (o ++ z).length = (m + p) from (by rw [List.length_append, ho, hz] <;> omega)), by rw [hsum]; omega, (by have := hc28; omega), (by omega), hc30⟩ (by first | (simp; omega) | simp | (dsimp only; omega) | omega) (Sub.cons rfl (Sub.cons rfl (Sub.cons rfl (Sub.cons rfl (Sub.cons rfl (Sub.cons rfl (Sub.nil))))))) rfl
          ·
            have hp32 : ¬ (((u64i (kd)) % (5:UInt64)) = (2:UInt64)) := of_decide_eq_false hb32
            refine JC_seq ?_
            refine JC_region ?_
            refine JL_val (.bool (decide (((u64i (kd)) % (5:UInt64)) = (3:UInt64)))) (Ev_bini rfl rfl fun _ => bin_eql_u64 ((u64i (kd)) % (5:UInt64)) (3:UInt64)) rfl ?_
            refine JL_val _ (Ev_assign rfl) rfl ?_
            refine JL_nil ?_
            refine JQ_then ?_
            refine JC_cond (decide (((u64i (kd)) % (5:UInt64)) = (3:UInt64))) rfl (fun hb33 => ?_) (fun hb33 => ?_)
            ·
              have hp33 : ((u64i (kd)) % (5:UInt64)) = (3:UInt64) := of_decide_eq_true hb33
              refine JC_region ?_
              refine JL_val _ (Ev_move rfl) rfl ?_
              refine JL_val (Ptr nb12 3) (Ev_fieldAddr 3 38 1 Try.underlying70 rfl Try.sizeOf38 rfl rfl) rfl ?_
              refine JL_val (.slice ax p cx) (Ev_load rfl (Ld_one Try.isAgg38 (MemAt.ent 2 rfl (Seg.tail (Seg.tail (Seg.tail (Seg.head))))))) rfl ?_
              refine JL_step (Step_callP 46 [.slice ax p cx] (.agg (cu8 (hashL z)).toArray) (Cl_func [.slice ax p cx] Try.call46 rfl) (fun w1 hw1 => hash_w ax p cx z w1 hz (hr.at (M' := []) hw1 (by simp)))) rfl ?_
              rintro v1 L1 ⟨rfl, rfl⟩
              show JL _ _ _ _ ((59, .agg (cu8 (hashL z)).toArray) :: _) [⟨nb1, [errV 36 e, Slc gw 0 m cpw], 66, (0, 0)⟩, ⟨gw, cu8 o ++ spw, 5, (0, 0)⟩, ⟨nb12, [I64 (kd), I64 (s), U64 nn, .slice ax p cx], 70, (0, 0)⟩]
              refine JL_step (Step_call 47 _ [true, true, false] [nb1, gw] _ (Cl_func [Ptr nb1 0, .agg (cu8 (hashL z)).toArray] Try.call47 rfl) rfl (fun w1 hw1 => hashO_c nb1 gw m cpw (m + 32) (errV 36 e) o spw (hashL z) w1 (hw1.ent _ (List.mem_of_getElem? (i := 0) rfl)) (hw1.ent _ (List.mem_of_getElem? (i := 1) rfl)) (hw1.ne (i := 0) (j := 1) rfl rfl (by decide)) ho hy1 hy2 hy3 (by omega) (hashL_len z) (by omega))) rfl ?_
              rintro v1 L1 ⟨_, ⟨rfl, nb16, sp11, cp11, rfl, hc31, hc32, hc33⟩, rfl⟩
              show JL _ _ _ _ ((60, Ptr nb1 0) :: _) [⟨nb12, [I64 (kd), I64 (s), U64 nn, .slice ax p cx], 70, (0, 0)⟩, ⟨nb1, [errV 36 e, Slc nb16 0 (m + 32) cp11], 66, (0, 0)⟩, ⟨nb16, cu8 (o ++ (hashL z)) ++ sp11, 5, (0, 0)⟩]
              refine JL_val _ (Ev_assign rfl) rfl ?_
              refine JL_nil ?_
              refine JQ_in_normal ?_
              refine JQ_in_normal ?_
              refine JQ_then ?_
              refine JC_region ?_
              refine JL_val (I64 ((i:Int) + 1)) (Ev_bini rfl rfl fun _ => bin_add_i _ _ ((i:Int) + 1) (by omega) (by omega)) rfl ?_
              refine JL_val _ (Ev_move rfl) rfl ?_
              refine JL_nil ?_
              refine JQ_thenK ?_
              refine K_mask [false, true, true] ?_
              show K _ _ [⟨nb1, [errV 36 e, Slc nb16 0 (m + 32) cp11], 66, (0, 0)⟩, ⟨nb16, cu8 (o ++ (hashL z)) ++ sp11, 5, (0, 0)⟩] _
              refine K_next (.inr (i + 1, e, o ++ (hashL z), (m + 32), nb16, sp11, cp11)) ⟨by omega, (fun he0 => (by first | exact bk0 (by assumption) hsz hx ha (hinv he0) | exact bk1 (by assumption) (by assumption) hple ha (hinv he0) | exact bk2z (by assumption) (by assumption) (by assumption) hz ha (hinv he0) | exact bk2 (by assumption) (by assumption) (by assumption) ha (hinv he0) | exact bk3 (by assumption) (by assumption) (by assumption) (by assumption) ha (hinv he0) | exact bk4 (by assumption) (by assumption) (by assumption) (by assumption) ha (hinv he0))), (show (o ++ (hashL z)).length = (m + 32) from (by rw [List.length_append, ho, (hashL_len z)] <;> omega)), by rw [hsum]; omega, (by have := hc31; omega), (by omega), hc33⟩ (by first | (simp; omega) | simp | (dsimp only; omega) | omega) (Sub.cons rfl (Sub.cons rfl (Sub.cons rfl (Sub.cons rfl (Sub.cons rfl (Sub.cons rfl (Sub.nil))))))) rfl
            ·
              have hp33 : ¬ (((u64i (kd)) % (5:UInt64)) = (3:UInt64)) := of_decide_eq_false hb33
              refine JC_region ?_
              refine JL_val _ (Ev_move rfl) rfl ?_
              refine JL_val (Ptr nb12 2) (Ev_fieldAddr 2 44 1 Try.underlying70 rfl Try.sizeOf44 rfl rfl) rfl ?_
              refine JL_val (U64 nn) (Ev_load rfl (Ld_one Try.isAgg44 (MemAt.ent 2 rfl (Seg.tail (Seg.tail (Seg.head)))))) rfl ?_
              refine JL_val (U64 (nn % (2:UInt64))) (Ev_bini rfl rfl fun _ => bin_rem_u64 nn (2:UInt64) (by decide)) rfl ?_
              refine JL_val (.bool (decide ((nn % (2:UInt64)) = (1:UInt64)))) (Ev_bini rfl rfl fun _ => bin_eql_u64 (nn % (2:UInt64)) (1:UInt64)) rfl ?_
              refine JL_step (Step_call 48 _ [true, true, false] [nb1, gw] _ (Cl_func [Ptr nb1 0, .bool (decide ((nn % (2:UInt64)) = (1:UInt64)))] Try.call48 rfl) rfl (fun w1 hw1 => flagO_c nb1 gw m cpw (m + 1) (errV 36 e) o spw (decide ((nn % (2:UInt64)) = (1:UInt64))) w1 (hw1.ent _ (List.mem_of_getElem? (i := 0) rfl)) (hw1.ent _ (List.mem_of_getElem? (i := 1) rfl)) (hw1.ne (i := 0) (j := 1) rfl rfl (by decide)) ho hy1 hy2 hy3 (by omega) (by omega))) rfl ?_
              rintro v1 L1 ⟨_, ⟨rfl, nb17, sp12, cp12, rfl, hc34, hc35, hc36⟩, rfl⟩
              show JL _ _ _ _ ((33, Ptr nb1 0) :: _) [⟨nb12, [I64 (kd), I64 (s), U64 nn, .slice ax p cx], 70, (0, 0)⟩, ⟨nb1, [errV 36 e, Slc nb17 0 (m + 1) cp12], 66, (0, 0)⟩, ⟨nb17, cu8 (o ++ numK 1 (bitU (decide ((nn % (2:UInt64)) = (1:UInt64)))) 1) ++ sp12, 5, (0, 0)⟩]
              refine JL_val _ (Ev_assign rfl) rfl ?_
              refine JL_nil ?_
              refine JQ_in_normal ?_
              refine JQ_in_normal ?_
              refine JQ_then ?_
              refine JC_region ?_
              refine JL_val (I64 ((i:Int) + 1)) (Ev_bini rfl rfl fun _ => bin_add_i _ _ ((i:Int) + 1) (by omega) (by omega)) rfl ?_
              refine JL_val _ (Ev_move rfl) rfl ?_
              refine JL_nil ?_
              refine JQ_thenK ?_
              refine K_mask [false, true, true] ?_
              show K _ _ [⟨nb1, [errV 36 e, Slc nb17 0 (m + 1) cp12], 66, (0, 0)⟩, ⟨nb17, cu8 (o ++ numK 1 (bitU (decide ((nn % (2:UInt64)) = (1:UInt64)))) 1) ++ sp12, 5, (0, 0)⟩] _
              refine K_next (.inr (i + 1, e, o ++ numK 1 (bitU (decide ((nn % (2:UInt64)) = (1:UInt64)))) 1, (m + 1), nb17, sp12, cp12)) ⟨by omega, (fun he0 => (by first | exact bk0 (by assumption) hsz hx ha (hinv he0) | exact bk1 (by assumption) (by assumption) hple ha (hinv he0) | exact bk2z (by assumption) (by assumption) (by assumption) hz ha (hinv he0) | exact bk2 (by assumption) (by assumption) (by assumption) ha (hinv he0) | exact bk3 (by assumption) (by assumption) (by assumption) (by assumption) ha (hinv he0) | exact bk4 (by assumption) (by assumption) (by assumption) (by assumption) ha (hinv he0))), (show (o ++ numK 1 (bitU (decide ((nn % (2:UInt64)) = (1:UInt64)))) 1).length = (m + 1) from (by rw [List.length_append, ho, numK_len] <;> omega)), by rw [hsum]; omega, (by have := hc34; omega), (by omega), hc36⟩ (by first | (simp; omega) | simp | (dsimp only; omega) | omega) (Sub.cons rfl (Sub.cons rfl (Sub.cons rfl (Sub.cons rfl (Sub.cons rfl (Sub.cons rfl (Sub.nil))))))) rfl
    ·
      have hp29 : ¬ (((i:Int)) < ((n:Int))) := of_decide_eq_false hb29
      refine JC_exit ?_
      refine JQ_then_exit ?_
      refine JQ_then_exit ?_
      refine JQ_in_same ?_
      refine JQ_then ?_
      refine JC_seq ?_
      have hse : sumP al i ≤ sumP al n := sumP_le al hx1
      by_cases he : e = 0
      ·
        refine JC_region ?_
        refine JL_val _ (Ev_move rfl) rfl ?_
        refine JL_step (Step_callN 50 [Ptr nb1 0] _ (Cl_func [Ptr nb1 0] Try.call50 rfl) (fun w1 hw1 => doneO_c nb1 e gw m cpw o w1 (RdA.of hw1 (MemAt.ent 0 rfl (Seg.whole _)) (by simp)) he ho (by omega) (RdB.of hw1 (MemAt.ent 1 rfl (Seg.left (Seg.whole _))) (by simp)))) rfl ?_
        rintro v1 L1 ⟨_, ⟨nb18, sp13, cp13, rfl, rfl, hc37, hc38, hc39⟩, rfl⟩
        show JL _ _ _ _ ((64, .tuple #[Slc nb18 0 m cp13, .nilIface]) :: _) [⟨nb1, [errV 36 e, Slc gw 0 m cpw], 66, (0, 0)⟩, ⟨gw, cu8 o ++ spw, 5, (0, 0)⟩, ⟨nb18, cu8 o ++ sp13, 5, (0, 0)⟩]
        refine JL_val _ (Ev_move rfl) rfl ?_
        refine JL_val _ (Ev_extract rfl rfl) rfl ?_
        refine JL_val _ (Ev_extract rfl rfl) rfl ?_
        refine JL_val _ (Ev_assign rfl) rfl ?_
        refine JL_val _ (Ev_assign rfl) rfl ?_
        refine JL_nil ?_
        refine JQ_then ?_
        refine JC_seq ?_
        refine JC_seq ?_
        refine JC_region ?_
        refine JL_val _ (Ev_move rfl) rfl ?_
        refine JL_val (.bool false) (Ev_bin _ _ _ rfl rfl (fun _ => eqGuard_nn ..) fun _ => neq_if_nil_nil Try.underlying30) rfl ?_
        refine JL_nil ?_
        refine JQ_then ?_
        refine JC_condF _ rfl rfl ?_
        refine JC_skip ?_
        refine JQ_then ?_
        refine JC_seq ?_
        refine JC_region ?_
        refine JL_val _ (Ev_move rfl) rfl ?_
        refine JL_step (Step_callN 52 [Slc nb18 0 m cp13] _ (Cl_func [Slc nb18 0 m cp13] Try.call52 rfl) (fun w1 hw1 => from_c (some ⟨nb18, 0, none⟩) m cp13 o w1 rfl ho (by omega) (RdB.of hw1 (MemAt.ent 2 rfl (Seg.left (Seg.whole _))) (by simp)))) rfl ?_
        rintro v1 L1 ⟨_, ⟨nb19, nb20, sp14, cp14, rfl, rfl, hc40, hc41, hc42⟩, rfl⟩
        show JL _ _ _ _ ((73, Ptr nb19 0) :: _) [⟨nb1, [errV 36 e, Slc gw 0 m cpw], 66, (0, 0)⟩, ⟨gw, cu8 o ++ spw, 5, (0, 0)⟩, ⟨nb18, cu8 o ++ sp13, 5, (0, 0)⟩, ⟨nb19, [.nilIface, Slc nb20 0 m cp14], 123, (0, 0)⟩, ⟨nb20, cu8 o ++ sp14, 5, (0, 0)⟩]
        refine JL_val _ (Ev_assign rfl) rfl ?_
        refine JL_nil ?_
        refine JQ_then ?_
        refine JC_seq ?_
        refine JC_seq ?_
        have hin : i = al.length := by omega
        have hgood : ∀ a ∈ al, GoodA a := fun a h => (hinv he).1 a (by rw [hin, List.take_length]; exact h)
        have hyd : o = encD al 0 := by rw [encD_zero, ← hin]; exact (hinv he).2
        clear hin
        refine JC_region ?_
        refine JL_val _ (Ev_move rfl) rfl ?_
        refine JL_val (I64 ((n:Int))) (Ev_len Try.underlying60 rfl) rfl ?_
        refine JL_val _ (Ev_move rfl) rfl ?_
        refine JL_nil ?_
        refine JQ_then ?_
        refine JC_block ?_
        refine K_mask [false, false, false, true, true] ?_
        show JC _ _ _ _ [⟨nb19, [.nilIface, Slc nb20 0 m cp14], 123, (0, 0)⟩, ⟨nb20, cu8 o ++ sp14, 5, (0, 0)⟩]
        refine JC_loop (ι := Nat × Nat × List UInt8 × Nat × Option Addr × Nat) (fun ⟨q, e, y, yn, ao, c⟩ => [(8, Ptr nb19 0), (74, .slice ab n cb), (75, I64 ((n:Int))), (76, I64 ((q:Int)))]) (fun ⟨q, e, y, yn, ao, c⟩ => [⟨nb19, [errV 36 e, .slice ao yn c], 123, (0, 0)⟩, ⟨nb20, cu8 o ++ sp14, 5, (0, 0)⟩]) (fun ⟨q, e, y, yn, ao, c⟩ => q ≤ n ∧ e = 0 ∧ y = encD al q ∧ (∀ w M, RdB w M (some ⟨nb20, 0, none⟩) (o) → RdB w M ao y) ∧ yn ≤ c ∧ c ≤ maxLen ∧ yn ≤ 1000000 ∧ y.length = yn) (fun ⟨q, e, y, yn, ao, c⟩ => n - q) (0, 0, o, m, (some ⟨nb20, 0, none⟩), cp14) ⟨by omega, rfl, hyd, fun _ _ h => h, (by omega), hc42, (by omega), ho⟩ (Sub.cons rfl (Sub.cons rfl (Sub.cons rfl (Sub.cons rfl (Sub.nil))))) rfl ?_
        rintro ⟨q, e, y, yn, ao, c⟩ ⟨hx1, he, hy, hA, hc1, hc2, hc3, hyn⟩
        show JC _ _ _ [(8, Ptr nb19 0), (74, .slice ab n cb), (75, I64 ((n:Int))), (76, I64 ((q:Int)))] [⟨nb19, [errV 36 e, .slice ao yn c], 123, (0, 0)⟩, ⟨nb20, cu8 o ++ sp14, 5, (0, 0)⟩]
        refine JC_seq ?_
        refine JC_region ?_
        refine JL_val (.bool (decide (((q:Int)) < ((n:Int))))) (Ev_bini rfl rfl fun _ => bin_lss_i _ _) rfl ?_
        refine JL_nil ?_
        refine JQ_then ?_
        refine JC_seq ?_
        refine JC_cond (decide (((q:Int)) < ((n:Int)))) rfl (fun hb34 => ?_) (fun hb34 => ?_)
        ·
          have hp34 : ((q:Int)) < ((n:Int)) := of_decide_eq_true hb34
          refine JC_skip ?_
          refine JQ_then ?_
          refine JC_seq ?_
          refine JC_block ?_
          refine JC_seq ?_
          have hyy0 := fun a (h : al[q]? = some a) => hy.trans (encD_succ h)
          have hgd0 := fun a (h : al[q]? = some a) => hgood a (List.mem_of_getElem? h)
          obtain ⟨a, ha⟩ : ∃ a, al[q]? = some a := ⟨al[q]'(by omega), by simp⟩
          obtain ⟨rowb, rowo, hrowa, hrow⟩ := rows_at actC_len (by decide) hv ha
          have hG1 := hG _ (List.mem_of_getElem? ha)
          have hsum := sumP_succ ha
          have hsle : sumP al (q + 1) ≤ sumP al n := sumP_le al (by omega)
          obtain ⟨kd, s, nn, ax, p, cx, z⟩ := a
          obtain ⟨hkd, hsb, hz, hcn, hcc, hr, hp⟩ := hG1
          dsimp only [actC] at hkd hsb hz hcn hcc hr hp hrow hsum
          have hyy := hyy0 _ ha
          have hgd := hgd0 _ ha
          refine JC_region ?_
          refine JL_val (Ptr rowb (4*q + rowo)) (Ev_indexSlG 70 4 (4*q + rowo) Try.underlying60 Try.sizeOf70 rfl hrowa rfl (by omega) (by omega) (by omega)) rfl ?_
          refine JL_val (.agg (List.toArray (α := Value) ([I64 (kd), I64 (s), U64 nn, .slice ax p cx]))) (Ev_load rfl (Ld_agg Try.isAgg70 Try.sizeOf70 rfl (MemAt.seg (hrow.mem (by simp)) (Seg.whole _) (by omega)))) rfl ?_
          refine JL_step (Step_alloc _ ([I64 (0:Int), I64 (0:Int), U64 (0:UInt64), .slice none 0 0]) Try.zeroValue70 (by kernel_rfl)) rfl ?_
          rintro v1 L1 ⟨nb21, hnb21, rfl, rfl⟩
          show JL _ _ _ _ ((10, Ptr nb21 0) :: _) [⟨nb19, [errV 36 e, .slice ao yn c], 123, (0, 0)⟩, ⟨nb20, cu8 o ++ sp14, 5, (0, 0)⟩, ⟨nb21, [I64 (0:Int), I64 (0:Int), U64 (0:UInt64), .slice none 0 0], 70, (0, 0)⟩]
          refine JL_step (Step_store 2 nb21 0 4 ([I64 (0:Int), I64 (0:Int), U64 (0:UInt64), .slice none 0 0]) 70 (.agg (List.toArray (α := Value) ([I64 (kd), I64 (s), U64 nn, .slice ax p cx]))) ([I64 (kd), I64 (s), U64 nn, .slice ax p cx]) ([I64 (kd), I64 (s), U64 nn, .slice ax p cx]) rfl rfl rfl (by first | rfl | simp) Try.sizeOf70 rfl (by simp [Value.oneCell']) (Nat.le_of_ble_eq_true rfl) (lay_whole (by simp []))) rfl ?_
          rintro v1 L1 ⟨rfl, rfl⟩
          show JL _ _ _ _ _ [⟨nb19, [errV 36 e, .slice ao yn c], 123, (0, 0)⟩, ⟨nb20, cu8 o ++ sp14, 5, (0, 0)⟩, ⟨nb21, [I64 (kd), I64 (s), U64 nn, .slice ax p cx], 70, (0, 0)⟩]
          refine JL_nil ?_
          refine JQ_then ?_
          refine JC_seq ?_
          refine JC_region ?_
          refine JL_val _ (Ev_assign rfl) rfl ?_
          refine JL_nil ?_
          refine JQ_then ?_
          refine JC_seq ?_
          refine JC_seq ?_
          refine JC_region ?_
          refine JL_val (Ptr nb21 0) (Ev_fieldAddr 0 3 1 Try.underlying70 rfl Try.sizeOf3 rfl rfl) rfl ?_
          refine JL_val (I64 (kd)) (Ev_load rfl (Ld_one Try.isAgg3 (MemAt.ent 2 rfl (Seg.head)))) rfl ?_
          refine JL_val (U64 (u64i (kd))) (Ev_conv _ _ rfl fun _ => conv_i64_u64i (by rw [Try.underlying3]; rfl) Try.underlying49 (kd)) rfl ?_
          refine JL_val (U64 ((u64i (kd)) % (5:UInt64))) (Ev_bini rfl rfl fun _ => bin_rem_u64 (u64i (kd)) (5:UInt64) (by decide)) rfl ?_
          refine JL_nil ?_
          refine JQ_then ?_
          refine JC_block ?_
          refine JC_seq ?_
          refine JC_region ?_
          refine JL_val (.bool (decide (((u64i (kd)) % (5:UInt64)) = (0:UInt64)))) (Ev_bini rfl rfl fun _ => bin_eql_u64 ((u64i (kd)) % (5:UInt64)) (0:UInt64)) rfl ?_
          refine JL_val _ (Ev_assign rfl) rfl ?_
          refine JL_nil ?_
          refine JQ_then ?_
          refine JC_cond (decide (((u64i (kd)) % (5:UInt64)) = (0:UInt64))) rfl (fun hb35 => ?_) (fun hb35 => ?_)
          ·
            have hp35 : ((u64i (kd)) % (5:UInt64)) = (0:UInt64) := of_decide_eq_true hb35
            refine JC_draw 131 2 [(0, Ptr nb19 0), (1, Ptr nb21 1), (2, I64 (s)), (4, Ptr nb21 2), (5, U64 nn)] Try.mixed rfl (by decide +kernel) ?_
            have hz6 : (y).length = yn := hyn
            refine DP_one ⟨[], [0, 1, 2, 4, 5], [], [0, 1, 2, 4, 5], [3]⟩ 3 _ rfl rfl (by decide +kernel) rfl ⟨⟨_, rfl, Qok_val rfl (Ev_move rfl)⟩, ⟨_, rfl, Qok_val rfl (Ev_fieldAddr 1 3 1 Try.underlying70 rfl Try.sizeOf3 rfl rfl)⟩, ⟨_, rfl, Qok_val rfl (Ev_load rfl (Ld_one Try.isAgg3 (MemAt.ent 2 rfl (Seg.tail (Seg.head)))))⟩, ⟨_, rfl, Qok_val rfl (Ev_fieldAddr 2 44 1 Try.underlying70 rfl Try.sizeOf44 rfl rfl)⟩, ⟨_, rfl, Qok_val rfl (Ev_load rfl (Ld_one Try.isAgg44 (MemAt.ent 2 rfl (Seg.tail (Seg.tail (Seg.head))))))⟩, trivial⟩ rfl (Cok_step rfl (Step_call 54 _ [true, false, false] [nb19] _ (Cl_func [Ptr nb19 0, I64 (s)] Try.call54 rfl) rfl (fun w1 hw1 => numR_w nb19 e ao yn c y (s) w1 (hw1.ent _ (List.mem_of_getElem? (i := 0) rfl)) hyn (by omega) (by omega) (by omega) (hA _ _ (RdB.of hw1 (MemAt.ent 1 rfl (Seg.left (Seg.whole _))) (by intro _; simp only [List.mem_cons, List.not_mem_nil, or_false, not_or]; exact hw1.ne (i := 1) (j := 0) rfl rfl (by decide))))))) ?_
            rintro v1 L1 ⟨_, ⟨rfl, ao6, ca6, ⟨hA6, hb36, hb37, hb38⟩, rfl⟩, rfl⟩
            refine ⟨[(6, .bool (decide ((nuV y e (s)) = nn))), (7, .bool (decide ((nuV y e (s)) = nn)))], ?_⟩
            show DP _ _ _ _ _ _ _ _ [⟨nb20, cu8 o ++ sp14, 5, (0, 0)⟩, ⟨nb21, [I64 (kd), I64 (s), U64 nn, .slice ax p cx], 70, (0, 0)⟩, ⟨nb19, [errV 36 (okE e (decide (NuOk y e (s)))), .slice ao6 ((nuZ y e (s)).length) ca6], 123, (0, 0)⟩]
            refine DP_end ⟨[3], [0, 1, 2, 4, 5, 6, 7], [0, 1, 2], [4, 5, 6, 7], []⟩ rfl rfl (by decide +kernel) rfl ⟨⟨_, rfl, Qok_val rfl (Ev_fieldAddr 2 44 1 Try.underlying70 rfl Try.sizeOf44 rfl rfl)⟩, ⟨_, rfl, Qok_val rfl (Ev_load rfl (Ld_one Try.isAgg44 (MemAt.ent 1 rfl (Seg.tail (Seg.tail (Seg.head))))))⟩, ⟨_, rfl, Qok_val rfl (Ev_bini rfl rfl fun _ => bin_eql_u64 (nuV y e (s)) nn)⟩, ⟨_, rfl, Qok_val rfl (Ev_assign rfl)⟩, trivial⟩ ?_
            refine K_sub (F' := [(93, Ptr nb19 0), (94, Ptr nb21 1), (95, I64 (s)), (96, U64 (nuV y e (s))), (97, Ptr nb21 2), (98, U64 nn), (99, .bool (decide ((nuV y e (s)) = nn))), (11, .bool (decide ((nuV y e (s)) = nn))), (8, Ptr nb19 0), (74, .slice ab n cb), (75, I64 ((n:Int))), (76, I64 ((q:Int))), (77, .bool (decide (((q:Int)) < ((n:Int))))), (78, Ptr rowb (4*q + rowo)), (79, .agg (List.toArray (α := Value) ([I64 (kd), I64 (s), U64 nn, .slice ax p cx]))), (10, Ptr nb21 0), (80, Ptr nb21 0), (81, I64 (kd)), (82, U64 (u64i (kd))), (83, U64 ((u64i (kd)) % (5:UInt64))), (92, .bool (decide (((u64i (kd)) % (5:UInt64)) = (0:UInt64)))), (91, .bool (decide (((u64i (kd)) % (5:UInt64)) = (0:UInt64))))]) (Sub.cons (by kernel_rfl) (Sub.cons (by kernel_rfl) (Sub.cons (by kernel_rfl) (Sub.cons (by kernel_rfl) (Sub.cons (by kernel_rfl) (Sub.cons (by kernel_rfl) (Sub.cons (by kernel_rfl) (Sub.cons (by kernel_rfl) (Sub.cons (by kernel_rfl) (Sub.cons (by kernel_rfl) (Sub.cons (by kernel_rfl) (Sub.cons (by kernel_rfl) (Sub.cons (by kernel_rfl) (Sub.cons (by kernel_rfl) (Sub.cons (by kernel_rfl) (Sub.cons (by kernel_rfl) (Sub.cons (by kernel_rfl) (Sub.cons (by kernel_rfl) (Sub.cons (by kernel_rfl) (Sub.cons (by kernel_rfl) (Sub.cons (by kernel_rfl) (Sub.cons (by kernel_rfl) (Sub.nil))))))))))))))))))))))) ?_
            show JQ _ _ _ [(93, Ptr nb19 0), (94, Ptr nb21 1), (95, I64 (s)), (96, U64 (nuV y e (s))), (97, Ptr nb21 2), (98, U64 nn), (99, .bool (decide ((nuV y e (s)) = nn))), (11, .bool (decide ((nuV y e (s)) = nn))), (8, Ptr nb19 0), (74, .slice ab n cb), (75, I64 ((n:Int))), (76, I64 ((q:Int))), (77, .bool (decide (((q:Int)) < ((n:Int))))), (78, Ptr rowb (4*q + rowo)), (79, .agg (List.toArray (α := Value) ([I64 (kd), I64 (s), U64 nn, .slice ax p cx]))), (10, Ptr nb21 0), (80, Ptr nb21 0), (81, I64 (kd)), (82, U64 (u64i (kd))), (83, U64 ((u64i (kd)) % (5:UInt64))), (92, .bool (decide (((u64i (kd)) % (5:UInt64)) = (0:UInt64)))), (91, .bool (decide (((u64i (kd)) % (5:UInt64)) = (0:UInt64))))] _
            refine JQ_in_normal ?_
            refine JQ_then ?_
            refine JC_seq ?_
            refine JC_region ?_
            refine JL_val _ (Ev_move rfl) rfl ?_
            refine JL_val (.bool (!(decide ((nuV y e (s)) = nn)))) (Ev_not rfl) rfl ?_
            refine JL_nil ?_
            refine JQ_then ?_
            refine JC_condF _ rfl (by rw [show (decide ((nuV y e (s)) = nn)) = true from (decide_eq_true (rk0 (by assumption) hgd hyy he).1)]; rfl) ?_
            refine JC_skip ?_
            refine JQ_in_normal ?_
            refine JQ_then ?_
            refine JC_region ?_
            refine JL_val (I64 ((q:Int) + 1)) (Ev_bini rfl rfl fun _ => bin_add_i _ _ ((q:Int) + 1) (by omega) (by omega)) rfl ?_
            refine JL_val _ (Ev_move rfl) rfl ?_
            refine JL_nil ?_
            refine JQ_thenK ?_
            refine K_mask [true, false, true] ?_
            show K _ _ [⟨nb20, cu8 o ++ sp14, 5, (0, 0)⟩, ⟨nb19, [errV 36 (okE e (decide (NuOk y e (s)))), .slice ao6 ((nuZ y e (s)).length) ca6], 123, (0, 0)⟩] _
            refine K_pick [1, 0] (by decide) ?_
            show K _ _ [⟨nb19, [errV 36 (okE e (decide (NuOk y e (s)))), .slice ao6 ((nuZ y e (s)).length) ca6], 123, (0, 0)⟩, ⟨nb20, cu8 o ++ sp14, 5, (0, 0)⟩] _
            have hy2 : nuZ y e (s) = encD al (q + 1) := (by first | exact (rk0 (by assumption) hgd hyy he).2.1 | exact (rk1 (by assumption) (by assumption) hz hgd hyy he).2.1 | exact (rk2 (by assumption) (by assumption) (by assumption) hz hyy he).2.1 | exact (rk3 (by assumption) (by assumption) (by assumption) (by assumption) hyy he).2.1 | exact (rk4 (by assumption) (by assumption) (by assumption) (by assumption) hyy he).2.1)
            have hle : (nuZ y e (s)).length ≤ y.length := by rw [hy2, hyy, List.length_append]; omega
            refine K_next (q + 1, (okE e (decide (NuOk y e (s)))), (nuZ y e (s)), ((nuZ y e (s)).length), ao6, ca6) ⟨by omega, (by first | exact (rk0 (by assumption) hgd hyy he).2.2 | exact (rk1 (by assumption) (by assumption) hz hgd hyy he).2.2 | exact (rk2 (by assumption) (by assumption) (by assumption) hz hyy he).2.2 | exact (rk3 (by assumption) (by assumption) (by assumption) (by assumption) hyy he).2.2 | exact (rk4 (by assumption) (by assumption) (by assumption) (by assumption) hyy he).2.2), hy2, (fun w M h => hA6 w M (hA w M h)), (by omega), (by omega), (by omega), rfl⟩ (by first | (simp; omega) | simp | (dsimp only; omega) | omega) (Sub.cons rfl (Sub.cons rfl (Sub.cons rfl (Sub.cons rfl (Sub.nil))))) rfl
          ·
            have hp35 : ¬ (((u64i (kd)) % (5:UInt64)) = (0:UInt64)) := of_decide_eq_false hb35
            refine JC_seq ?_
            refine JC_region ?_
            refine JL_val (.bool (decide (((u64i (kd)) % (5:UInt64)) = (1:UInt64)))) (Ev_bini rfl rfl fun _ => bin_eql_u64 ((u64i (kd)) % (5:UInt64)) (1:UInt64)) rfl ?_
            refine JL_val _ (Ev_assign rfl) rfl ?_
            refine JL_nil ?_
            refine JQ_then ?_
            refine JC_cond (decide (((u64i (kd)) % (5:UInt64)) = (1:UInt64))) rfl (fun hb39 => ?_) (fun hb39 => ?_)
            ·
              have hp39 : ((u64i (kd)) % (5:UInt64)) = (1:UInt64) := of_decide_eq_true hb39
              refine JC_draw 131 3 [(0, Ptr nb19 0), (2, Ptr nb21 3), (3, .slice ax p cx)] Try.mixed rfl (by decide +kernel) ?_
              have hz7 : (y).length = yn := hyn
              refine DP_one ⟨[], [0, 2, 3], [], [0, 2, 3], [1]⟩ 1 _ rfl rfl (by decide +kernel) rfl ⟨⟨_, rfl, Qok_val rfl (Ev_move rfl)⟩, ⟨_, rfl, Qok_val rfl (Ev_fieldAddr 3 38 1 Try.underlying70 rfl Try.sizeOf38 rfl rfl)⟩, ⟨_, rfl, Qok_val rfl (Ev_load rfl (Ld_one Try.isAgg38 (MemAt.ent 2 rfl (Seg.tail (Seg.tail (Seg.tail (Seg.head)))))))⟩, trivial⟩ rfl (Cok_step rfl (Step_call 56 _ [true, false, false] [nb19] _ (Cl_func [Ptr nb19 0, I64 (65535:Int)] Try.call56 rfl) rfl (fun w1 hw1 => bytR_w nb19 e ao yn c y (65535:Int) w1 (hw1.ent _ (List.mem_of_getElem? (i := 0) rfl)) hyn (by omega) (by omega) (by omega) (hA _ _ (RdB.of hw1 (MemAt.ent 1 rfl (Seg.left (Seg.whole _))) (by intro _; simp only [List.mem_cons, List.not_mem_nil, or_false, not_or]; exact hw1.ne (i := 1) (j := 0) rfl rfl (by decide))))))) ?_
              rintro v1 L1 ⟨_, ⟨ao7, ca7, ⟨hA7, hb40, hb41, hb42⟩, _, rfl, (⟨hv3, rfl, rfl⟩ | ⟨nb22, sp15, cp15, rfl, rfl, hc43, hc44, hc45⟩)⟩, rfl⟩
              ·
                refine ⟨[], ?_⟩
                show DP _ _ _ _ _ _ _ _ [⟨nb20, cu8 o ++ sp14, 5, (0, 0)⟩, ⟨nb21, [I64 (kd), I64 (s), U64 nn, .slice ax p cx], 70, (0, 0)⟩, ⟨nb19, [errV 36 (okE e (decide (FdOk y e (65535:Int)))), .slice ao7 ((fdZ y e (65535:Int)).length) ca7], 123, (0, 0)⟩]
                refine DP_one ⟨[1], [0, 2, 3], [0], [2, 3], [4]⟩ 4 _ rfl rfl (by decide +kernel) rfl ⟨⟨_, rfl, Qok_val rfl (Ev_fieldAddr 3 38 1 Try.underlying70 rfl Try.sizeOf38 rfl rfl)⟩, ⟨_, rfl, Qok_val rfl (Ev_load rfl (Ld_one Try.isAgg38 (MemAt.ent 1 rfl (Seg.tail (Seg.tail (Seg.tail (Seg.head)))))))⟩, trivial⟩ rfl (Cok_step rfl (Step_callP 25 [.slice none 0 0, .slice ax p cx] (.bool (decide ((fdV y e (65535:Int)) = z))) (Cl_func [.slice none 0 0, .slice ax p cx] Try.call25 rfl) (fun w1 hw1 => bytes_c none ax 0 p 0 cx (fdV y e (65535:Int)) z w1 (by rw [hv3]; rfl) hz ((RdB.nilOf hv3).at (M' := []) hw1 (by simp)) (hr.at (M' := []) hw1 (by simp))))) ?_
                rintro v1 L1 ⟨rfl, rfl⟩
                refine ⟨[(5, .bool (decide ((fdV y e (65535:Int)) = z)))], ?_⟩
                show DP _ _ _ _ _ _ _ _ [⟨nb20, cu8 o ++ sp14, 5, (0, 0)⟩, ⟨nb21, [I64 (kd), I64 (s), U64 nn, .slice ax p cx], 70, (0, 0)⟩, ⟨nb19, [errV 36 (okE e (decide (FdOk y e (65535:Int)))), .slice ao7 ((fdZ y e (65535:Int)).length) ca7], 123, (0, 0)⟩]
                refine DP_end ⟨[1, 4], [0, 2, 3, 5], [0, 2, 3], [5], []⟩ rfl rfl (by decide +kernel) rfl ⟨⟨_, rfl, Qok_val rfl (Ev_assign rfl)⟩, trivial⟩ ?_
                refine K_sub (F' := [(102, Ptr nb19 0), (103, .slice none 0 0), (104, Ptr nb21 3), (105, .slice ax p cx), (106, .bool (decide ((fdV y e (65535:Int)) = z))), (11, .bool (decide ((fdV y e (65535:Int)) = z))), (8, Ptr nb19 0), (74, .slice ab n cb), (75, I64 ((n:Int))), (76, I64 ((q:Int))), (77, .bool (decide (((q:Int)) < ((n:Int))))), (78, Ptr rowb (4*q + rowo)), (79, .agg (List.toArray (α := Value) ([I64 (kd), I64 (s), U64 nn, .slice ax p cx]))), (10, Ptr nb21 0), (80, Ptr nb21 0), (81, I64 (kd)), (82, U64 (u64i (kd))), (83, U64 ((u64i (kd)) % (5:UInt64))), (92, .bool (decide (((u64i (kd)) % (5:UInt64)) = (0:UInt64)))), (91, .bool (decide (((u64i (kd)) % (5:UInt64)) = (0:UInt64)))), (101, .bool (decide (((u64i (kd)) % (5:UInt64)) = (1:UInt64)))), (100, .bool (decide (((u64i (kd)) % (5:UInt64)) = (1:UInt64))))]) (Sub.cons (by kernel_rfl) (Sub.cons (by kernel_rfl) (Sub.cons (by kernel_rfl) (Sub.cons (by kernel_rfl) (Sub.cons (by kernel_rfl) (Sub.cons (by kernel_rfl) (Sub.cons (by kernel_rfl) (Sub.cons (by kernel_rfl) (Sub.cons (by kernel_rfl) (Sub.cons (by kernel_rfl) (Sub.cons (by kernel_rfl) (Sub.cons (by kernel_rfl) (Sub.cons (by kernel_rfl) (Sub.cons (by kernel_rfl) (Sub.cons (by kernel_rfl) (Sub.cons (by kernel_rfl) (Sub.cons (by kernel_rfl) (Sub.cons (by kernel_rfl) (Sub.cons (by kernel_rfl) (Sub.cons (by kernel_rfl) (Sub.cons (by kernel_rfl) (Sub.cons (by kernel_rfl) (Sub.nil))))))))))))))))))))))) ?_
                show JQ _ _ _ [(102, Ptr nb19 0), (103, .slice none 0 0), (104, Ptr nb21 3), (105, .slice ax p cx), (106, .bool (decide ((fdV y e (65535:Int)) = z))), (11, .bool (decide ((fdV y e (65535:Int)) = z))), (8, Ptr nb19 0), (74, .slice ab n cb), (75, I64 ((n:Int))), (76, I64 ((q:Int))), (77, .bool (decide (((q:Int)) < ((n:Int))))), (78, Ptr rowb (4*q + rowo)), (79, .agg (List.toArray (α := Value) ([I64 (kd), I64 (s), U64 nn, .slice ax p cx]))), (10, Ptr nb21 0), (80, Ptr nb21 0), (81, I64 (kd)), (82, U64 (u64i (kd))), (83, U64 ((u64i (kd)) % (5:UInt64))), (92, .bool (decide (((u64i (kd)) % (5:UInt64)) = (0:UInt64)))), (91, .bool (decide (((u64i (kd)) % (5:UInt64)) = (0:UInt64)))), (101, .bool (decide (((u64i (kd)) % (5:UInt64)) = (1:UInt64)))), (100, .bool (decide (((u64i (kd)) % (5:UInt64)) = (1:UInt64))))] _
                refine JQ_in_normal ?_
                refine JQ_then ?_
                refine JC_seq ?_
                refine JC_region ?_
                refine JL_val _ (Ev_move rfl) rfl ?_
                refine JL_val (.bool (!(decide ((fdV y e (65535:Int)) = z)))) (Ev_not rfl) rfl ?_
                refine JL_nil ?_
                refine JQ_then ?_
                refine JC_condF _ rfl (by rw [show (decide ((fdV y e (65535:Int)) = z)) = true from (decide_eq_true (rk1 (by assumption) (by assumption) hz hgd hyy he).1)]; rfl) ?_
                refine JC_skip ?_
                refine JQ_in_normal ?_
                refine JQ_then ?_
                refine JC_region ?_
                refine JL_val (I64 ((q:Int) + 1)) (Ev_bini rfl rfl fun _ => bin_add_i _ _ ((q:Int) + 1) (by omega) (by omega)) rfl ?_
                refine JL_val _ (Ev_move rfl) rfl ?_
                refine JL_nil ?_
                refine JQ_thenK ?_
                refine K_mask [true, false, true] ?_
                show K _ _ [⟨nb20, cu8 o ++ sp14, 5, (0, 0)⟩, ⟨nb19, [errV 36 (okE e (decide (FdOk y e (65535:Int)))), .slice ao7 ((fdZ y e (65535:Int)).length) ca7], 123, (0, 0)⟩] _
                refine K_pick [1, 0] (by decide) ?_
                show K _ _ [⟨nb19, [errV 36 (okE e (decide (FdOk y e (65535:Int)))), .slice ao7 ((fdZ y e (65535:Int)).length) ca7], 123, (0, 0)⟩, ⟨nb20, cu8 o ++ sp14, 5, (0, 0)⟩] _
                have hy2 : fdZ y e (65535:Int) = encD al (q + 1) := (by first | exact (rk0 (by assumption) hgd hyy he).2.1 | exact (rk1 (by assumption) (by assumption) hz hgd hyy he).2.1 | exact (rk2 (by assumption) (by assumption) (by assumption) hz hyy he).2.1 | exact (rk3 (by assumption) (by assumption) (by assumption) (by assumption) hyy he).2.1 | exact (rk4 (by assumption) (by assumption) (by assumption) (by assumption) hyy he).2.1)
                have hle : (fdZ y e (65535:Int)).length ≤ y.length := by rw [hy2, hyy, List.length_append]; omega
                refine K_next (q + 1, (okE e (decide (FdOk y e (65535:Int)))), (fdZ y e (65535:Int)), ((fdZ y e (65535:Int)).length), ao7, ca7) ⟨by omega, (by first | exact (rk0 (by assumption) hgd hyy he).2.2 | exact (rk1 (by assumption) (by assumption) hz hgd hyy he).2.2 | exact (rk2 (by assumption) (by assumption) (by assumption) hz hyy he).2.2 | exact (rk3 (by assumption) (by assumption) (by assumption) (by assumption) hyy he).2.2 | exact (rk4 (by assumption) (by assumption) (by assumption) (by assumption) hyy he).2.2), hy2, (fun w M h => hA7 w M (hA w M h)), (by omega), (by omega), (by omega), rfl⟩ (by first | (simp; omega) | simp | (dsimp only; omega) | omega) (Sub.cons rfl (Sub.cons rfl (Sub.cons rfl (Sub.cons rfl (Sub.nil))))) rfl
              ·
                refine ⟨[], ?_⟩
                show DP _ _ _ _ _ _ _ _ [⟨nb20, cu8 o ++ sp14, 5, (0, 0)⟩, ⟨nb21, [I64 (kd), I64 (s), U64 nn, .slice ax p cx], 70, (0, 0)⟩, ⟨nb19, [errV 36 (okE e (decide (FdOk y e (65535:Int)))), .slice ao7 ((fdZ y e (65535:Int)).length) ca7], 123, (0, 0)⟩, ⟨nb22, cu8 (fdV y e (65535:Int)) ++ sp15, 5, (0, 0)⟩]
                refine DP_one ⟨[1], [0, 2, 3], [0], [2, 3], [4]⟩ 4 _ rfl rfl (by decide +kernel) rfl ⟨⟨_, rfl, Qok_val rfl (Ev_fieldAddr 3 38 1 Try.underlying70 rfl Try.sizeOf38 rfl rfl)⟩, ⟨_, rfl, Qok_val rfl (Ev_load rfl (Ld_one Try.isAgg38 (MemAt.ent 1 rfl (Seg.tail (Seg.tail (Seg.tail (Seg.head)))))))⟩, trivial⟩ rfl (Cok_step rfl (Step_callP 25 [Slc nb22 0 ((fdV y e (65535:Int)).length) cp15, .slice ax p cx] (.bool (decide ((fdV y e (65535:Int)) = z))) (Cl_func [Slc nb22 0 ((fdV y e (65535:Int)).length) cp15, .slice ax p cx] Try.call25 rfl) (fun w1 hw1 => bytes_c (some ⟨nb22, 0, none⟩) ax ((fdV y e (65535:Int)).length) p cp15 cx (fdV y e (65535:Int)) z w1 (show (fdV y e (65535:Int)).length = ((fdV y e (65535:Int)).length) from (rfl : (fdV y e (65535:Int)).length = _)) hz (RdB.of hw1 (MemAt.ent 3 rfl (Seg.left (Seg.whole _))) (by simp)) (hr.at (M' := []) hw1 (by simp))))) ?_
                rintro v1 L1 ⟨rfl, rfl⟩
                refine ⟨[(5, .bool (decide ((fdV y e (65535:Int)) = z)))], ?_⟩
                show DP _ _ _ _ _ _ _ _ [⟨nb20, cu8 o ++ sp14, 5, (0, 0)⟩, ⟨nb21, [I64 (kd), I64 (s), U64 nn, .slice ax p cx], 70, (0, 0)⟩, ⟨nb19, [errV 36 (okE e (decide (FdOk y e (65535:Int)))), .slice ao7 ((fdZ y e (65535:Int)).length) ca7], 123, (0, 0)⟩, ⟨nb22, cu8 (fdV y e (65535:Int)) ++ sp15, 5, (0, 0)⟩]
                refine DP_end ⟨[1, 4], [0, 2, 3, 5], [0, 2, 3], [5], []⟩ rfl rfl (by decide +kernel) rfl ⟨⟨_, rfl, Qok_val rfl (Ev_assign rfl)⟩, trivial⟩ ?_
                refine K_sub (F' := [(102, Ptr nb19 0), (103, Slc nb22 0 ((fdV y e (65535:Int)).length) cp15), (104, Ptr nb21 3), (105, .slice ax p cx), (106, .bool (decide ((fdV y e (65535:Int)) = z))), (11, .bool (decide ((fdV y e (65535:Int)) = z))), (8, Ptr nb19 0), (74, .slice ab n cb), (75, I64 ((n:Int))), (76, I64 ((q:Int))), (77, .bool (decide (((q:Int)) < ((n:Int))))), (78, Ptr rowb (4*q + rowo)), (79, .agg (List.toArray (α := Value) ([I64 (kd), I64 (s), U64 nn, .slice ax p cx]))), (10, Ptr nb21 0), (80, Ptr nb21 0), (81, I64 (kd)), (82, U64 (u64i (kd))), (83, U64 ((u64i (kd)) % (5:UInt64))), (92, .bool (decide (((u64i (kd)) % (5:UInt64)) = (0:UInt64)))), (91, .bool (decide (((u64i (kd)) % (5:UInt64)) = (0:UInt64)))), (101, .bool (decide (((u64i (kd)) % (5:UInt64)) = (1:UInt64)))), (100, .bool (decide (((u64i (kd)) % (5:UInt64)) = (1:UInt64))))]) (Sub.cons (by kernel_rfl) (Sub.cons (by kernel_rfl) (Sub.cons (by kernel_rfl) (Sub.cons (by kernel_rfl) (Sub.cons (by kernel_rfl) (Sub.cons (by kernel_rfl) (Sub.cons (by kernel_rfl) (Sub.cons (by kernel_rfl) (Sub.cons (by kernel_rfl) (Sub.cons (by kernel_rfl) (Sub.cons (by kernel_rfl) (Sub.cons (by kernel_rfl) (Sub.cons (by kernel_rfl) (Sub.cons (by kernel_rfl) (Sub.cons (by kernel_rfl) (Sub.cons (by kernel_rfl) (Sub.cons (by kernel_rfl) (Sub.cons (by kernel_rfl) (Sub.cons (by kernel_rfl) (Sub.cons (by kernel_rfl) (Sub.cons (by kernel_rfl) (Sub.cons (by kernel_rfl) (Sub.nil))))))))))))))))))))))) ?_
                show JQ _ _ _ [(102, Ptr nb19 0), (103, Slc nb22 0 ((fdV y e (65535:Int)).length) cp15), (104, Ptr nb21 3), (105, .slice ax p cx), (106, .bool (decide ((fdV y e (65535:Int)) = z))), (11, .bool (decide ((fdV y e (65535:Int)) = z))), (8, Ptr nb19 0), (74, .slice ab n cb), (75, I64 ((n:Int))), (76, I64 ((q:Int))), (77, .bool (decide (((q:Int)) < ((n:Int))))), (78, Ptr rowb (4*q + rowo)), (79, .agg (List.toArray (α := Value) ([I64 (kd), I64 (s), U64 nn, .slice ax p cx]))), (10, Ptr nb21 0), (80, Ptr nb21 0), (81, I64 (kd)), (82, U64 (u64i (kd))), (83, U64 ((u64i (kd)) % (5:UInt64))), (92, .bool (decide (((u64i (kd)) % (5:UInt64)) = (0:UInt64)))), (91, .bool (decide (((u64i (kd)) % (5:UInt64)) = (0:UInt64)))), (101, .bool (decide (((u64i (kd)) % (5:UInt64)) = (1:UInt64)))), (100, .bool (decide (((u64i (kd)) % (5:UInt64)) = (1:UInt64))))] _
                refine JQ_in_normal ?_
                refine JQ_then ?_
                refine JC_seq ?_
                refine JC_region ?_
                refine JL_val _ (Ev_move rfl) rfl ?_
                refine JL_val (.bool (!(decide ((fdV y e (65535:Int)) = z)))) (Ev_not rfl) rfl ?_
                refine JL_nil ?_
                refine JQ_then ?_
                refine JC_condF _ rfl (by rw [show (decide ((fdV y e (65535:Int)) = z)) = true from (decide_eq_true (rk1 (by assumption) (by assumption) hz hgd hyy he).1)]; rfl) ?_
                refine JC_skip ?_
                refine JQ_in_normal ?_
                refine JQ_then ?_
                refine JC_region ?_
                refine JL_val (I64 ((q:Int) + 1)) (Ev_bini rfl rfl fun _ => bin_add_i _ _ ((q:Int) + 1) (by omega) (by omega)) rfl ?_
                refine JL_val _ (Ev_move rfl) rfl ?_
                refine JL_nil ?_
                refine JQ_thenK ?_
                refine K_mask [true, false, true, false] ?_
                show K _ _ [⟨nb20, cu8 o ++ sp14, 5, (0, 0)⟩, ⟨nb19, [errV 36 (okE e (decide (FdOk y e (65535:Int)))), .slice ao7 ((fdZ y e (65535:Int)).length) ca7], 123, (0, 0)⟩] _
                refine K_pick [1, 0] (by decide) ?_
                show K _ _ [⟨nb19, [errV 36 (okE e (decide (FdOk y e (65535:Int)))), .slice ao7 ((fdZ y e (65535:Int)).length) ca7], 123, (0, 0)⟩, ⟨nb20, cu8 o ++ sp14, 5, (0, 0)⟩] _
                have hy2 : fdZ y e (65535:Int) = encD al (q + 1) := (by first | exact (rk0 (by assumption) hgd hyy he).2.1 | exact (rk1 (by assumption) (by assumption) hz hgd hyy he).2.1 | exact (rk2 (by assumption) (by assumption) (by assumption) hz hyy he).2.1 | exact (rk3 (by assumption) (by assumption) (by assumption) (by assumption) hyy he).2.1 | exact (rk4 (by assumption) (by assumption) (by assumption) (by assumption) hyy he).2.1)
                have hle : (fdZ y e (65535:Int)).length ≤ y.length := by rw [hy2, hyy, List.length_append]; omega
                refine K_next (q + 1, (okE e (decide (FdOk y e (65535:Int)))), (fdZ y e (65535:Int)), ((fdZ y e (65535:Int)).length), ao7, ca7) ⟨by omega, (by first | exact (rk0 (by assumption) hgd hyy he).2.2 | exact (rk1 (by assumption) (by assumption) hz hgd hyy he).2.2 | exact (rk2 (by assumption) (by assumption) (by assumption) hz hyy he).2.2 | exact (rk3 (by assumption) (by assumption) (by assumption) (by assumption) hyy he).2.2 | exact (rk4 (by assumption) (by assumption) (by assumption) (by assumption) hyy he).2.2), hy2, (fun w M h => hA7 w M (hA w M h)), (by omega), (by omega), (by omega), rfl⟩ (by first | (simp; omega) | simp | (dsimp only; omega) | omega) (Sub.cons rfl (Sub.cons rfl (Sub.cons rfl (Sub.cons rfl (Sub.nil))))) rfl
            ·
              have hp39 : ¬ (((u64i (kd)) % (5:UInt64)) = (1:UInt64)) := of_decide_eq_false hb39
              refine JC_seq ?_
              refine JC_region ?_
              refine JL_val (.bool (decide (((u64i (kd)) % (5:UInt64)) = (2:UInt64)))) (Ev_bini rfl rfl fun _ => bin_eql_u64 ((u64i (kd)) % (5:UInt64)) (2:UInt64)) rfl ?_
              refine JL_val _ (Ev_assign rfl) rfl ?_
              refine JL_nil ?_
              refine JQ_then ?_
              refine JC_cond (decide (((u64i (kd)) % (5:UInt64)) = (2:UInt64))) rfl (fun hb43 => ?_) (fun hb43 => ?_)
              ·
                have hp43 : ((u64i (kd)) % (5:UInt64)) = (2:UInt64) := of_decide_eq_true hb43
                refine JC_draw 131 3 [(0, Ptr nb19 0), (1, Ptr nb21 3), (2, .slice ax p cx), (3, I64 ((p:Int))), (5, Ptr nb21 3), (6, .slice ax p cx)] Try.mixed rfl (by decide +kernel) ?_
                have hz8 : (y).length = yn := hyn
                refine DP_one ⟨[], [0, 1, 2, 3, 5, 6], [], [0, 1, 2, 3, 5, 6], [4]⟩ 4 _ rfl rfl (by decide +kernel) rfl ⟨⟨_, rfl, Qok_val rfl (Ev_move rfl)⟩, ⟨_, rfl, Qok_val rfl (Ev_fieldAddr 3 38 1 Try.underlying70 rfl Try.sizeOf38 rfl rfl)⟩, ⟨_, rfl, Qok_val rfl (Ev_load rfl (Ld_one Try.isAgg38 (MemAt.ent 2 rfl (Seg.tail (Seg.tail (Seg.tail (Seg.head)))))))⟩, ⟨_, rfl, Qok_val rfl (Ev_len Try.underlying38 rfl)⟩, ⟨_, rfl, Qok_val rfl (Ev_fieldAddr 3 38 1 Try.underlying70 rfl Try.sizeOf38 rfl rfl)⟩, ⟨_, rfl, Qok_val rfl (Ev_load rfl (Ld_one Try.isAgg38 (MemAt.ent 2 rfl (Seg.tail (Seg.tail (Seg.tail (Seg.head)))))))⟩, trivial⟩ rfl (Cok_step rfl (Step_call 58 _ [true, false, false] [nb19] _ (Cl_func [Ptr nb19 0, I64 ((p:Int))] Try.call58 rfl) rfl (fun w1 hw1 => rawR_w nb19 e ao yn c y ((p:Int)) w1 (hw1.ent _ (List.mem_of_getElem? (i := 0) rfl)) hyn (by omega) (by omega) (by omega) (hA _ _ (RdB.of hw1 (MemAt.ent 1 rfl (Seg.left (Seg.whole _))) (by intro _; simp only [List.mem_cons, List.not_mem_nil, or_false, not_or]; exact hw1.ne (i := 1) (j := 0) rfl rfl (by decide))))))) ?_
                rintro v1 L1 ⟨_, ⟨ao8, ca8, ⟨hA8, hb44, hb45, hb46⟩, _, rfl, (⟨hv4, rfl, rfl⟩ | ⟨nb23, sp16, cp16, rfl, rfl, hc46, hc47, hc48⟩)⟩, rfl⟩
                ·
                  refine ⟨[], ?_⟩
                  show DP _ _ _ _ _ _ _ _ [⟨nb20, cu8 o ++ sp14, 5, (0, 0)⟩, ⟨nb21, [I64 (kd), I64 (s), U64 nn, .slice ax p cx], 70, (0, 0)⟩, ⟨nb19, [errV 36 (okE e (decide (TkOk y e ((p:Int))))), .slice ao8 ((tkZ y e ((p:Int))).length) ca8], 123, (0, 0)⟩]
                  refine DP_one ⟨[4], [0, 1, 2, 3, 5, 6], [0, 1, 2, 3], [5, 6], [7]⟩ 7 _ rfl rfl (by decide +kernel) rfl ⟨⟨_, rfl, Qok_val rfl (Ev_fieldAddr 3 38 1 Try.underlying70 rfl Try.sizeOf38 rfl rfl)⟩, ⟨_, rfl, Qok_val rfl (Ev_load rfl (Ld_one Try.isAgg38 (MemAt.ent 1 rfl (Seg.tail (Seg.tail (Seg.tail (Seg.head)))))))⟩, trivial⟩ rfl (Cok_step rfl (Step_callP 25 [.slice none 0 0, .slice ax p cx] (.bool (decide ((tkV y e ((p:Int))) = z))) (Cl_func [.slice none 0 0, .slice ax p cx] Try.call25 rfl) (fun w1 hw1 => bytes_c none ax 0 p 0 cx (tkV y e ((p:Int))) z w1 (by rw [hv4]; rfl) hz ((RdB.nilOf hv4).at (M' := []) hw1 (by simp)) (hr.at (M' := []) hw1 (by simp))))) ?_
                  rintro v1 L1 ⟨rfl, rfl⟩
                  refine ⟨[(8, .bool (decide ((tkV y e ((p:Int))) = z)))], ?_⟩
                  show DP _ _ _ _ _ _ _ _ [⟨nb20, cu8 o ++ sp14, 5, (0, 0)⟩, ⟨nb21, [I64 (kd), I64 (s), U64 nn, .slice ax p cx], 70, (0, 0)⟩, ⟨nb19, [errV 36 (okE e (decide (TkOk y e ((p:Int))))), .slice ao8 ((tkZ y e ((p:Int))).length) ca8], 123, (0, 0)⟩]
                  refine DP_end ⟨[4, 7], [0, 1, 2, 3, 5, 6, 8], [0, 1, 2, 3, 5, 6], [8], []⟩ rfl rfl (by decide +kernel) rfl ⟨⟨_, rfl, Qok_val rfl (Ev_assign rfl)⟩, trivial⟩ ?_
                  refine K_sub (F' := [(109, Ptr nb19 0), (110, Ptr nb21 3), (111, .slice ax p cx), (112, I64 ((p:Int))), (113, .slice none 0 0), (114, Ptr nb21 3), (115, .slice ax p cx), (116, .bool (decide ((tkV y e ((p:Int))) = z))), (11, .bool (decide ((tkV y e ((p:Int))) = z))), (8, Ptr nb19 0), (74, .slice ab n cb), (75, I64 ((n:Int))), (76, I64 ((q:Int))), (77, .bool (decide (((q:Int)) < ((n:Int))))), (78, Ptr rowb (4*q + rowo)), (79, .agg (List.toArray (α := Value) ([I64 (kd), I64 (s), U64 nn, .slice ax p cx]))), (10, Ptr nb21 0), (80, Ptr nb21 0), (81, I64 (kd)), (82, U64 (u64i (kd))), (83, U64 ((u64i (kd)) % (5:UInt64))), (92, .bool (decide (((u64i (kd)) % (5:UInt64)) = (0:UInt64)))), (91, .bool (decide (((u64i (kd)) % (5:UInt64)) = (0:UInt64)))), (101, .bool (decide (((u64i (kd)) % (5:UInt64)) = (1:UInt64)))), (100, .bool (decide (((u64i (kd)) % (5:UInt64)) = (1:UInt64)))), (108, .bool (decide (((u64i (kd)) % (5:UInt64)) = (2:UInt64)))), (107, .bool (decide (((u64i (kd)) % (5:UInt64)) = (2:UInt64))))]) (Sub.cons (by kernel_rfl) (Sub.cons (by kernel_rfl) (Sub.cons (by kernel_rfl) (Sub.cons (by kernel_rfl) (Sub.cons (by kernel_rfl) (Sub.cons (by kernel_rfl) (Sub.cons (by kernel_rfl) (Sub.cons (by kernel_rfl) (Sub.cons (by kernel_rfl) (Sub.cons (by kernel_rfl) (Sub.cons (by kernel_rfl) (Sub.cons (by kernel_rfl) (Sub.cons (by kernel_rfl) (Sub.cons (by kernel_rfl) (Sub.cons (by kernel_rfl) (Sub.cons (by kernel_rfl) (Sub.cons (by kernel_rfl) (Sub.cons (by kernel_rfl) (Sub.cons (by kernel_rfl) (Sub.cons (by kernel_rfl) (Sub.cons (by kernel_rfl) (Sub.cons (by kernel_rfl) (Sub.cons (by kernel_rfl) (Sub.cons (by kernel_rfl) (Sub.cons (by kernel_rfl) (Sub.cons (by kernel_rfl) (Sub.cons (by kernel_rfl) (Sub.nil)))))))))))))))))))))))))))) ?_
                  show JQ _ _ _ [(109, Ptr nb19 0), (110, Ptr nb21 3), (111, .slice ax p cx), (112, I64 ((p:Int))), (113, .slice none 0 0), (114, Ptr nb21 3), (115, .slice ax p cx), (116, .bool (decide ((tkV y e ((p:Int))) = z))), (11, .bool (decide ((tkV y e ((p:Int))) = z))), (8, Ptr nb19 0), (74, .slice ab n cb), (75, I64 ((n:Int))), (76, I64 ((q:Int))), (77, .bool (decide (((q:Int)) < ((n:Int))))), (78, Ptr rowb (4*q + rowo)), (79, .agg (List.toArray (α := Value) ([I64 (kd), I64 (s), U64 nn, .slice ax p cx]))), (10, Ptr nb21 0), (80, Ptr nb21 0), (81, I64 (kd)), (82, U64 (u64i (kd))), (83, U64 ((u64i (kd)) % (5:UInt64))), (92, .bool (decide (((u64i (kd)) % (5:UInt64)) = (0:UInt64)))), (91, .bool (decide (((u64i (kd)) % (5:UInt64)) = (0:UInt64)))), (101, .bool (decide (((u64i (kd)) % (5:UInt64)) = (1:UInt64)))), (100, .bool (decide (((u64i (kd)) % (5:UInt64)) = (1:UInt64)))), (108, .bool (decide (((u64i (kd)) % (5:UInt64)) = (2:UInt64)))), (107, .bool (decide (((u64i (kd)) % (5:UInt64)) = (2:UInt64))))] _
                  refine JQ_in_normal ?_
                  refine JQ_then ?_
                  refine JC_seq ?_
                  refine JC_region ?_
                  refine JL_val _ (Ev_move rfl) rfl ?_
                  refine JL_val (.bool (!(decide ((tkV y e ((p:Int))) = z)))) (Ev_not rfl) rfl ?_
                  refine JL_nil ?_
                  refine JQ_then ?_
                  refine JC_condF _ rfl (by rw [show (decide ((tkV y e ((p:Int))) = z)) = true from (decide_eq_true (rk2 (by assumption) (by assumption) (by assumption) hz hyy he).1)]; rfl) ?_
                  refine JC_skip ?_
                  refine JQ_in_normal ?_
                  refine JQ_then ?_
                  refine JC_region ?_
                  refine JL_val (I64 ((q:Int) + 1)) (Ev_bini rfl rfl fun _ => bin_add_i _ _ ((q:Int) + 1) (by omega) (by omega)) rfl ?_
                  refine JL_val _ (Ev_move rfl) rfl ?_
                  refine JL_nil ?_
                  refine JQ_thenK ?_
                  refine K_mask [true, false, true] ?_
                  show K _ _ [⟨nb20, cu8 o ++ sp14, 5, (0, 0)⟩, ⟨nb19, [errV 36 (okE e (decide (TkOk y e ((p:Int))))), .slice ao8 ((tkZ y e ((p:Int))).length) ca8], 123, (0, 0)⟩] _
                  refine K_pick [1, 0] (by decide) ?_
                  show K _ _ [⟨nb19, [errV 36 (okE e (decide (TkOk y e ((p:Int))))), .slice ao8 ((tkZ y e ((p:Int))).length) ca8], 123, (0, 0)⟩, ⟨nb20, cu8 o ++ sp14, 5, (0, 0)⟩] _
                  have hy2 : tkZ y e ((p:Int)) = encD al (q + 1) := (by first | exact (rk0 (by assumption) hgd hyy he).2.1 | exact (rk1 (by assumption) (by assumption) hz hgd hyy he).2.1 | exact (rk2 (by assumption) (by assumption) (by assumption) hz hyy he).2.1 | exact (rk3 (by assumption) (by assumption) (by assumption) (by assumption) hyy he).2.1 | exact (rk4 (by assumption) (by assumption) (by assumption) (by assumption) hyy he).2.1)
                  have hle : (tkZ y e ((p:Int))).length ≤ y.length := by rw [hy2, hyy, List.length_append]; omega
                  refine K_next (q + 1, (okE e (decide (TkOk y e ((p:Int))))), (tkZ y e ((p:Int))), ((tkZ y e ((p:Int))).length), ao8, ca8) ⟨by omega, (by first | exact (rk0 (by assumption) hgd hyy he).2.2 | exact (rk1 (by assumption) (by assumption) hz hgd hyy he).2.2 | exact (rk2 (by assumption) (by assumption) (by assumption) hz hyy he).2.2 | exact (rk3 (by assumption) (by assumption) (by assumption) (by assumption) hyy he).2.2 | exact (rk4 (by assumption) (by assumption) (by assumption) (by assumption) hyy he).2.2), hy2, (fun w M h => hA8 w M (hA w M h)), (by omega), (by omega), (by omega), rfl⟩ (by first | (simp; omega) | simp | (dsimp only; omega) | omega) (Sub.cons rfl (Sub.cons rfl (Sub.cons rfl (Sub.cons rfl (Sub.nil))))) rfl
                ·
                  refine ⟨[], ?_⟩
                  show DP _ _ _ _ _ _ _ _ [⟨nb20, cu8 o ++ sp14, 5, (0, 0)⟩, ⟨nb21, [I64 (kd), I64 (s), U64 nn, .slice ax p cx], 70, (0, 0)⟩, ⟨nb19, [errV 36 (okE e (decide (TkOk y e ((p:Int))))), .slice ao8 ((tkZ y e ((p:Int))).length) ca8], 123, (0, 0)⟩, ⟨nb23, cu8 (tkV y e ((p:Int))) ++ sp16, 5, (0, 0)⟩]
                  refine DP_one ⟨[4], [0, 1, 2, 3, 5, 6], [0, 1, 2, 3], [5, 6], [7]⟩ 7 _ rfl rfl (by decide +kernel) rfl ⟨⟨_, rfl, Qok_val rfl (Ev_fieldAddr 3 38 1 Try.underlying70 rfl Try.sizeOf38 rfl rfl)⟩, ⟨_, rfl, Qok_val rfl (Ev_load rfl (Ld_one Try.isAgg38 (MemAt.ent 1 rfl (Seg.tail (Seg.tail (Seg.tail (Seg.head)))))))⟩, trivial⟩ rfl (Cok_step rfl (Step_callP 25 [Slc nb23 0 ((tkV y e ((p:Int))).length) cp16, .slice ax p cx] (.bool (decide ((tkV y e ((p:Int))) = z))) (Cl_func [Slc nb23 0 ((tkV y e ((p:Int))).length) cp16, .slice ax p cx] Try.call25 rfl) (fun w1 hw1 => bytes_c (some ⟨nb23, 0, none⟩) ax ((tkV y e ((p:Int))).length) p cp16 cx (tkV y e ((p:Int))) z w1 (show (tkV y e ((p:Int))).length = ((tkV y e ((p:Int))).length) from (rfl : (tkV y e ((p:Int))).length = _)) hz (RdB.of hw1 (MemAt.ent 3 rfl (Seg.left (Seg.whole _))) (by simp)) (hr.at (M' := []) hw1 (by simp))))) ?_
                  rintro v1 L1 ⟨rfl, rfl⟩
                  refine ⟨[(8, .bool (decide ((tkV y e ((p:Int))) = z)))], ?_⟩
                  show DP _ _ _ _ _ _ _ _ [⟨nb20, cu8 o ++ sp14, 5, (0, 0)⟩, ⟨nb21, [I64 (kd), I64 (s), U64 nn, .slice ax p cx], 70, (0, 0)⟩, ⟨nb19, [errV 36 (okE e (decide (TkOk y e ((p:Int))))), .slice ao8 ((tkZ y e ((p:Int))).length) ca8], 123, (0, 0)⟩, ⟨nb23, cu8 (tkV y e ((p:Int))) ++ sp16, 5, (0, 0)⟩]
                  refine DP_end ⟨[4, 7], [0, 1, 2, 3, 5, 6, 8], [0, 1, 2, 3, 5, 6], [8], []⟩ rfl rfl (by decide +kernel) rfl ⟨⟨_, rfl, Qok_val rfl (Ev_assign rfl)⟩, trivial⟩ ?_
                  refine K_sub (F' := [(109, Ptr nb19 0), (110, Ptr nb21 3), (111, .slice ax p cx), (112, I64 ((p:Int))), (113, Slc nb23 0 ((tkV y e ((p:Int))).length) cp16), (114, Ptr nb21 3), (115, .slice ax p cx), (116, .bool (decide ((tkV y e ((p:Int))) = z))), (11, .bool (decide ((tkV y e ((p:Int))) = z))), (8, Ptr nb19 0), (74, .slice ab n cb), (75, I64 ((n:Int))), (76, I64 ((q:Int))), (77, .bool (decide (((q:Int)) < ((n:Int))))), (78, Ptr rowb (4*q + rowo)), (79, .agg (List.toArray (α := Value) ([I64 (kd), I64 (s), U64 nn, .slice ax p cx]))), (10, Ptr nb21 0), (80, Ptr nb21 0), (81, I64 (kd)), (82, U64 (u64i (kd))), (83, U64 ((u64i (kd)) % (5:UInt64))), (92, .bool (decide (((u64i (kd)) % (5:UInt64)) = (0:UInt64)))), (91, .bool (decide (((u64i (kd)) % (5:UInt64)) = (0:UInt64)))), (101, .bool (decide (((u64i (kd)) % (5:UInt64)) = (1:UInt64)))), (100, .bool (decide (((u64i (kd)) % (5:UInt64)) = (1:UInt64)))), (108, .bool (decide (((u64i (kd)) % (5:UInt64)) = (2:UInt64)))), (107, .bool (decide (((u64i (kd)) % (5:UInt64)) = (2:UInt64))))]) (Sub.cons (by kernel_rfl) (Sub.cons (by kernel_rfl) (Sub.cons (by kernel_rfl) (Sub.cons (by kernel_rfl) (Sub.cons (by kernel_rfl) (Sub.cons (by kernel_rfl) (Sub.cons (by kernel_rfl) (Sub.cons (by kernel_rfl) (Sub.cons (by kernel_rfl) (Sub.cons (by kernel_rfl) (Sub.cons (by kernel_rfl) (Sub.cons (by kernel_rfl) (Sub.cons (by kernel_rfl) (Sub.cons (by kernel_rfl) (Sub.cons (by kernel_rfl) (Sub.cons (by kernel_rfl) (Sub.cons (by kernel_rfl) (Sub.cons (by kernel_rfl) (Sub.cons (by kernel_rfl) (Sub.cons (by kernel_rfl) (Sub.cons (by kernel_rfl) (Sub.cons (by kernel_rfl) (Sub.cons (by kernel_rfl) (Sub.cons (by kernel_rfl) (Sub.cons (by kernel_rfl) (Sub.cons (by kernel_rfl) (Sub.cons (by kernel_rfl) (Sub.nil)))))))))))))))))))))))))))) ?_
                  show JQ _ _ _ [(109, Ptr nb19 0), (110, Ptr nb21 3), (111, .slice ax p cx), (112, I64 ((p:Int))), (113, Slc nb23 0 ((tkV y e ((p:Int))).length) cp16), (114, Ptr nb21 3), (115, .slice ax p cx), (116, .bool (decide ((tkV y e ((p:Int))) = z))), (11, .bool (decide ((tkV y e ((p:Int))) = z))), (8, Ptr nb19 0), (74, .slice ab n cb), (75, I64 ((n:Int))), (76, I64 ((q:Int))), (77, .bool (decide (((q:Int)) < ((n:Int))))), (78, Ptr rowb (4*q + rowo)), (79, .agg (List.toArray (α := Value) ([I64 (kd), I64 (s), U64 nn, .slice ax p cx]))), (10, Ptr nb21 0), (80, Ptr nb21 0), (81, I64 (kd)), (82, U64 (u64i (kd))), (83, U64 ((u64i (kd)) % (5:UInt64))), (92, .bool (decide (((u64i (kd)) % (5:UInt64)) = (0:UInt64)))), (91, .bool (decide (((u64i (kd)) % (5:UInt64)) = (0:UInt64)))), (101, .bool (decide (((u64i (kd)) % (5:UInt64)) = (1:UInt64)))), (100, .bool (decide (((u64i (kd)) % (5:UInt64)) = (1:UInt64)))), (108, .bool (decide (((u64i (kd)) % (5:UInt64)) = (2:UInt64)))), (107, .bool (decide (((u64i (kd)) % (5:UInt64)) = (2:UInt64))))] _
                  refine JQ_in_normal ?_
                  refine JQ_then ?_
                  refine JC_seq ?_
                  refine JC_region ?_
                  refine JL_val _ (Ev_move rfl) rfl ?_
                  refine JL_val (.bool (!(decide ((tkV y e ((p:Int))) = z)))) (Ev_not rfl) rfl ?_
                  refine JL_nil ?_
                  refine JQ_then ?_
                  refine JC_condF _ rfl (by rw [show (decide ((tkV y e ((p:Int))) = z)) = true from (decide_eq_true (rk2 (by assumption) (by assumption) (by assumption) hz hyy he).1)]; rfl) ?_
                  refine JC_skip ?_
                  refine JQ_in_normal ?_
                  refine JQ_then ?_
                  refine JC_region ?_
                  refine JL_val (I64 ((q:Int) + 1)) (Ev_bini rfl rfl fun _ => bin_add_i _ _ ((q:Int) + 1) (by omega) (by omega)) rfl ?_
                  refine JL_val _ (Ev_move rfl) rfl ?_
                  refine JL_nil ?_
                  refine JQ_thenK ?_
                  refine K_mask [true, false, true, false] ?_
                  show K _ _ [⟨nb20, cu8 o ++ sp14, 5, (0, 0)⟩, ⟨nb19, [errV 36 (okE e (decide (TkOk y e ((p:Int))))), .slice ao8 ((tkZ y e ((p:Int))).length) ca8], 123, (0, 0)⟩] _
                  refine K_pick [1, 0] (by decide) ?_
                  show K _ _ [⟨nb19, [errV 36 (okE e (decide (TkOk y e ((p:Int))))), .slice ao8 ((tkZ y e ((p:Int))).length) ca8], 123, (0, 0)⟩, ⟨nb20, cu8 o ++ sp14, 5, (0, 0)⟩] _
                  have hy2 : tkZ y e ((p:Int)) = encD al (q + 1) := (by first | exact (rk0 (by assumption) hgd hyy he).2.1 | exact (rk1 (by assumption) (by assumption) hz hgd hyy he).2.1 | exact (rk2 (by assumption) (by assumption) (by assumption) hz hyy he).2.1 | exact (rk3 (by assumption) (by assumption) (by assumption) (by assumption) hyy he).2.1 | exact (rk4 (by assumption) (by assumption) (by assumption) (by assumption) hyy he).2.1)
                  have hle : (tkZ y e ((p:Int))).length ≤ y.length := by rw [hy2, hyy, List.length_append]; omega
                  refine K_next (q + 1, (okE e (decide (TkOk y e ((p:Int))))), (tkZ y e ((p:Int))), ((tkZ y e ((p:Int))).length), ao8, ca8) ⟨by omega, (by first | exact (rk0 (by assumption) hgd hyy he).2.2 | exact (rk1 (by assumption) (by assumption) hz hgd hyy he).2.2 | exact (rk2 (by assumption) (by assumption) (by assumption) hz hyy he).2.2 | exact (rk3 (by assumption) (by assumption) (by assumption) (by assumption) hyy he).2.2 | exact (rk4 (by assumption) (by assumption) (by assumption) (by assumption) hyy he).2.2), hy2, (fun w M h => hA8 w M (hA w M h)), (by omega), (by omega), (by omega), rfl⟩ (by first | (simp; omega) | simp | (dsimp only; omega) | omega) (Sub.cons rfl (Sub.cons rfl (Sub.cons rfl (Sub.cons rfl (Sub.nil))))) rfl
              ·
                have hp43 : ¬ (((u64i (kd)) % (5:UInt64)) = (2:UInt64)) := of_decide_eq_false hb43
                refine JC_seq ?_
                refine JC_region ?_
                refine JL_val (.bool (decide (((u64i (kd)) % (5:UInt64)) = (3:UInt64)))) (Ev_bini rfl rfl fun _ => bin_eql_u64 ((u64i (kd)) % (5:UInt64)) (3:UInt64)) rfl ?_
                refine JL_val _ (Ev_assign rfl) rfl ?_
                refine JL_nil ?_
                refine JQ_then ?_
                refine JC_cond (decide (((u64i (kd)) % (5:UInt64)) = (3:UInt64))) rfl (fun hb47 => ?_) (fun hb47 => ?_)
                ·
                  have hp47 : ((u64i (kd)) % (5:UInt64)) = (3:UInt64) := of_decide_eq_true hb47
                  refine JC_draw 131 3 [(0, Ptr nb19 0), (2, Ptr nb21 3), (3, .slice ax p cx)] Try.mixed rfl (by decide +kernel) ?_
                  have hz9 : (y).length = yn := hyn
                  refine DP_one ⟨[], [0, 2, 3], [], [0, 2, 3], [1]⟩ 1 _ rfl rfl (by decide +kernel) rfl ⟨⟨_, rfl, Qok_val rfl (Ev_move rfl)⟩, ⟨_, rfl, Qok_val rfl (Ev_fieldAddr 3 38 1 Try.underlying70 rfl Try.sizeOf38 rfl rfl)⟩, ⟨_, rfl, Qok_val rfl (Ev_load rfl (Ld_one Try.isAgg38 (MemAt.ent 2 rfl (Seg.tail (Seg.tail (Seg.tail (Seg.head)))))))⟩, trivial⟩ rfl (Cok_step rfl (Step_call 60 _ [true, false, false] [nb19] _ (Cl_func [Ptr nb19 0] Try.call60 rfl) rfl (fun w1 hw1 => hasR_w nb19 e ao yn c y w1 (hw1.ent _ (List.mem_of_getElem? (i := 0) rfl)) hyn (by omega) (by omega) (by omega) (hA _ _ (RdB.of hw1 (MemAt.ent 1 rfl (Seg.left (Seg.whole _))) (by intro _; simp only [List.mem_cons, List.not_mem_nil, or_false, not_or]; exact hw1.ne (i := 1) (j := 0) rfl rfl (by decide))))))) ?_
                  rintro v1 L1 ⟨_, ⟨rfl, ao9, ca9, ⟨hA9, hb48, hb49, hb50⟩, rfl⟩, rfl⟩
                  refine ⟨[], ?_⟩
                  show DP _ _ _ _ _ _ _ _ [⟨nb20, cu8 o ++ sp14, 5, (0, 0)⟩, ⟨nb21, [I64 (kd), I64 (s), U64 nn, .slice ax p cx], 70, (0, 0)⟩, ⟨nb19, [errV 36 (okE e (decide (HsOk y e))), .slice ao9 ((hsZ y e).length) ca9], 123, (0, 0)⟩]
                  refine DP_one ⟨[1], [0, 2, 3], [0], [2, 3], [4]⟩ 4 _ rfl rfl (by decide +kernel) rfl ⟨⟨_, rfl, Qok_val rfl (Ev_fieldAddr 3 38 1 Try.underlying70 rfl Try.sizeOf38 rfl rfl)⟩, ⟨_, rfl, Qok_val rfl (Ev_load rfl (Ld_one Try.isAgg38 (MemAt.ent 1 rfl (Seg.tail (Seg.tail (Seg.tail (Seg.head)))))))⟩, trivial⟩ rfl (Cok_step rfl (Step_callP 46 [.slice ax p cx] (.agg (cu8 (hashL z)).toArray) (Cl_func [.slice ax p cx] Try.call46 rfl) (fun w1 hw1 => hash_w ax p cx z w1 hz (hr.at (M' := []) hw1 (by simp))))) ?_
                  rintro v1 L1 ⟨rfl, rfl⟩
                  refine ⟨[(5, .bool (decide ((hsV y e) = (hashL z)))), (6, .bool (decide ((hsV y e) = (hashL z))))], ?_⟩
                  show DP _ _ _ _ _ _ _ _ [⟨nb20, cu8 o ++ sp14, 5, (0, 0)⟩, ⟨nb21, [I64 (kd), I64 (s), U64 nn, .slice ax p cx], 70, (0, 0)⟩, ⟨nb19, [errV 36 (okE e (decide (HsOk y e))), .slice ao9 ((hsZ y e).length) ca9], 123, (0, 0)⟩]
                  refine DP_end ⟨[1, 4], [0, 2, 3, 5, 6], [0, 2, 3], [5, 6], []⟩ rfl rfl (by decide +kernel) rfl ⟨⟨_, rfl, Qok_val rfl (Ev_bin _ _ _ rfl rfl (fun _ => eqGuard_agg _ _ _ _ _ _ (by kernel_rfl)) fun _ => eql_arr8 Try.underlying76 Try.underlying5 Try.isAgg5 Try.cells5 Try.has5 (by simp [(hsV_len _ _)]) (by simp [(hashL_len z)]))⟩, ⟨_, rfl, Qok_val rfl (Ev_assign rfl)⟩, trivial⟩ ?_
                  refine K_sub (F' := [(119, Ptr nb19 0), (120, .agg (cu8 (hsV y e)).toArray), (121, Ptr nb21 3), (122, .slice ax p cx), (123, .agg (cu8 (hashL z)).toArray), (124, .bool (decide ((hsV y e) = (hashL z)))), (11, .bool (decide ((hsV y e) = (hashL z)))), (8, Ptr nb19 0), (74, .slice ab n cb), (75, I64 ((n:Int))), (76, I64 ((q:Int))), (77, .bool (decide (((q:Int)) < ((n:Int))))), (78, Ptr rowb (4*q + rowo)), (79, .agg (List.toArray (α := Value) ([I64 (kd), I64 (s), U64 nn, .slice ax p cx]))), (10, Ptr nb21 0), (80, Ptr nb21 0), (81, I64 (kd)), (82, U64 (u64i (kd))), (83, U64 ((u64i (kd)) % (5:UInt64))), (92, .bool (decide (((u64i (kd)) % (5:UInt64)) = (0:UInt64)))), (91, .bool (decide (((u64i (kd)) % (5:UInt64)) = (0:UInt64)))), (101, .bool (decide (((u64i (kd)) % (5:UInt64)) = (1:UInt64)))), (100, .bool (decide (((u64i (kd)) % (5:UInt64)) = (1:UInt64)))), (108, .bool (decide (((u64i (kd)) % (5:UInt64)) = (2:UInt64)))), (107, .bool (decide (((u64i (kd)) % (5:UInt64)) = (2:UInt64)))), (118, .bool (decide (((u64i (kd)) % (5:UInt64)) = (3:UInt64)))), (117, .bool (decide (((u64i (kd)) % (5:UInt64)) = (3:UInt64))))]) (Sub.cons (by kernel_rfl) (Sub.cons (by kernel_rfl) (Sub.cons (by kernel_rfl) (Sub.cons (by kernel_rfl) (Sub.cons (by kernel_rfl) (Sub.cons (by kernel_rfl) (Sub.cons (by kernel_rfl) (Sub.cons (by kernel_rfl) (Sub.cons (by kernel_rfl) (Sub.cons (by kernel_rfl) (Sub.cons (by kernel_rfl) (Sub.cons (by kernel_rfl) (Sub.cons (by kernel_rfl) (Sub.cons (by kernel_rfl) (Sub.cons (by kernel_rfl) (Sub.cons (by kernel_rfl) (Sub.cons (by kernel_rfl) (Sub.cons (by kernel_rfl) (Sub.cons (by kernel_rfl) (Sub.cons (by kernel_rfl) (Sub.cons (by kernel_rfl) (Sub.cons (by kernel_rfl) (Sub.cons (by kernel_rfl) (Sub.cons (by kernel_rfl) (Sub.cons (by kernel_rfl) (Sub.cons (by kernel_rfl) (Sub.cons (by kernel_rfl) (Sub.nil)))))))))))))))))))))))))))) ?_
                  show JQ _ _ _ [(119, Ptr nb19 0), (120, .agg (cu8 (hsV y e)).toArray), (121, Ptr nb21 3), (122, .slice ax p cx), (123, .agg (cu8 (hashL z)).toArray), (124, .bool (decide ((hsV y e) = (hashL z)))), (11, .bool (decide ((hsV y e) = (hashL z)))), (8, Ptr nb19 0), (74, .slice ab n cb), (75, I64 ((n:Int))), (76, I64 ((q:Int))), (77, .bool (decide (((q:Int)) < ((n:Int))))), (78, Ptr rowb (4*q + rowo)), (79, .agg (List.toArray (α := Value) ([I64 (kd), I64 (s), U64 nn, .slice ax p cx]))), (10, Ptr nb21 0), (80, Ptr nb21 0), (81, I64 (kd)), (82, U64 (u64i (kd))), (83, U64 ((u64i (kd)) % (5:UInt64))), (92, .bool (decide (((u64i (kd)) % (5:UInt64)) = (0:UInt64)))), (91, .bool (decide (((u64i (kd)) % (5:UInt64)) = (0:UInt64)))), (101, .bool (decide (((u64i (kd)) % (5:UInt64)) = (1:UInt64)))), (100, .bool (decide (((u64i (kd)) % (5:UInt64)) = (1:UInt64)))), (108, .bool (decide (((u64i (kd)) % (5:UInt64)) = (2:UInt64)))), (107, .bool (decide (((u64i (kd)) % (5:UInt64)) = (2:UInt64)))), (118, .bool (decide (((u64i (kd)) % (5:UInt64)) = (3:UInt64)))), (117, .bool (decide (((u64i (kd)) % (5:UInt64)) = (3:UInt64))))] _
                  refine JQ_in_normal ?_
                  refine JQ_then ?_
                  refine JC_seq ?_
                  refine JC_region ?_
                  refine JL_val _ (Ev_move rfl) rfl ?_
                  refine JL_val (.bool (!(decide ((hsV y e) = (hashL z))))) (Ev_not rfl) rfl ?_
                  refine JL_nil ?_
                  refine JQ_then ?_
                  refine JC_condF _ rfl (by rw [show (decide ((hsV y e) = (hashL z))) = true from (decide_eq_true (rk3 (by assumption) (by assumption) (by assumption) (by assumption) hyy he).1)]; rfl) ?_
                  refine JC_skip ?_
                  refine JQ_in_normal ?_
                  refine JQ_then ?_
                  refine JC_region ?_
                  refine JL_val (I64 ((q:Int) + 1)) (Ev_bini rfl rfl fun _ => bin_add_i _ _ ((q:Int) + 1) (by omega) (by omega)) rfl ?_
                  refine JL_val _ (Ev_move rfl) rfl ?_
                  refine JL_nil ?_
                  refine JQ_thenK ?_
                  refine K_mask [true, false, true] ?_
                  show K _ _ [⟨nb20, cu8 o ++ sp14, 5, (0, 0)⟩, ⟨nb19, [errV 36 (okE e (decide (HsOk y e))), .slice ao9 ((hsZ y e).length) ca9], 123, (0, 0)⟩] _
                  refine K_pick [1, 0] (by decide) ?_
                  show K _ _ [⟨nb19, [errV 36 (okE e (decide (HsOk y e))), .slice ao9 ((hsZ y e).length) ca9], 123, (0, 0)⟩, ⟨nb20, cu8 o ++ sp14, 5, (0, 0)⟩] _
                  have hy2 : hsZ y e = encD al (q + 1) := (by first | exact (rk0 (by assumption) hgd hyy he).2.1 | exact (rk1 (by assumption) (by assumption) hz hgd hyy he).2.1 | exact (rk2 (by assumption) (by assumption) (by assumption) hz hyy he).2.1 | exact (rk3 (by assumption) (by assumption) (by assumption) (by assumption) hyy he).2.1 | exact (rk4 (by assumption) (by assumption) (by assumption) (by assumption) hyy he).2.1)
                  have hle : (hsZ y e).length ≤ y.length := by rw [hy2, hyy, List.length_append]; omega
                  refine K_next (q + 1, (okE e (decide (HsOk y e))), (hsZ y e), ((hsZ y e).length), ao9, ca9) ⟨by omega, (by first | exact (rk0 (by assumption) hgd hyy he).2.2 | exact (rk1 (by assumption) (by assumption) hz hgd hyy he).2.2 | exact (rk2 (by assumption) (by assumption) (by assumption) hz hyy he).2.2 | exact (rk3 (by assumption) (by assumption) (by assumption) (by assumption) hyy he).2.2 | exact (rk4 (by assumption) (by assumption) (by assumption) (by assumption) hyy he).2.2), hy2, (fun w M h => hA9 w M (hA w M h)), (by omega), (by omega), (by omega), rfl⟩ (by first | (simp; omega) | simp | (dsimp only; omega) | omega) (Sub.cons rfl (Sub.cons rfl (Sub.cons rfl (Sub.cons rfl (Sub.nil))))) rfl
                ·
                  have hp47 : ¬ (((u64i (kd)) % (5:UInt64)) = (3:UInt64)) := of_decide_eq_false hb47
                  refine JC_draw 131 2 [(0, Ptr nb19 0), (2, Ptr nb21 2), (3, U64 nn), (4, U64 (nn % (2:UInt64))), (5, .bool (decide ((nn % (2:UInt64)) = (1:UInt64))))] Try.mixed rfl (by decide +kernel) ?_
                  have hz10 : (y).length = yn := hyn
                  refine DP_one ⟨[], [0, 2, 3, 4, 5], [], [0, 2, 3, 4, 5], [1]⟩ 1 _ rfl rfl (by decide +kernel) rfl ⟨⟨_, rfl, Qok_val rfl (Ev_move rfl)⟩, ⟨_, rfl, Qok_val rfl (Ev_fieldAddr 2 44 1 Try.underlying70 rfl Try.sizeOf44 rfl rfl)⟩, ⟨_, rfl, Qok_val rfl (Ev_load rfl (Ld_one Try.isAgg44 (MemAt.ent 2 rfl (Seg.tail (Seg.tail (Seg.head))))))⟩, ⟨_, rfl, Qok_val rfl (Ev_bini rfl rfl fun _ => bin_rem_u64 nn (2:UInt64) (by decide))⟩, ⟨_, rfl, Qok_val rfl (Ev_bini rfl rfl fun _ => bin_eql_u64 (nn % (2:UInt64)) (1:UInt64))⟩, trivial⟩ rfl (Cok_step rfl (Step_call 62 _ [true, false, false] [nb19] _ (Cl_func [Ptr nb19 0] Try.call62 rfl) rfl (fun w1 hw1 => flgR_w nb19 e ao yn c y w1 (hw1.ent _ (List.mem_of_getElem? (i := 0) rfl)) hyn (by omega) (by omega) (by omega) (hA _ _ (RdB.of hw1 (MemAt.ent 1 rfl (Seg.left (Seg.whole _))) (by intro _; simp only [List.mem_cons, List.not_mem_nil, or_false, not_or]; exact hw1.ne (i := 1) (j := 0) rfl rfl (by decide))))))) ?_
                  rintro v1 L1 ⟨_, ⟨rfl, ao10, ca10, ⟨hA10, hb51, hb52, hb53⟩, rfl⟩, rfl⟩
                  refine ⟨[(6, .bool ((fgV y e) == (decide ((nn % (2:UInt64)) = (1:UInt64))))), (7, .bool ((fgV y e) == (decide ((nn % (2:UInt64)) = (1:UInt64)))))], ?_⟩
                  show DP _ _ _ _ _ _ _ _ [⟨nb20, cu8 o ++ sp14, 5, (0, 0)⟩, ⟨nb21, [I64 (kd), I64 (s), U64 nn, .slice ax p cx], 70, (0, 0)⟩, ⟨nb19, [errV 36 (okE e (decide (FgOk y e))), .slice ao10 ((fgZ y e).length) ca10], 123, (0, 0)⟩]
                  refine DP_end ⟨[1], [0, 2, 3, 4, 5, 6, 7], [0], [2, 3, 4, 5, 6, 7], []⟩ rfl rfl (by decide +kernel) rfl ⟨⟨_, rfl, Qok_val rfl (Ev_fieldAddr 2 44 1 Try.underlying70 rfl Try.sizeOf44 rfl rfl)⟩, ⟨_, rfl, Qok_val rfl (Ev_load rfl (Ld_one Try.isAgg44 (MemAt.ent 1 rfl (Seg.tail (Seg.tail (Seg.head))))))⟩, ⟨_, rfl, Qok_val rfl (Ev_bini rfl rfl fun _ => bin_rem_u64 nn (2:UInt64) (by decide))⟩, ⟨_, rfl, Qok_val rfl (Ev_bini rfl rfl fun _ => bin_eql_u64 (nn % (2:UInt64)) (1:UInt64))⟩, ⟨_, rfl, Qok_val rfl (Ev_bin _ _ _ rfl rfl (fun _ => eqGuard_bool ..) fun _ => eql_bool Try.underlying4)⟩, ⟨_, rfl, Qok_val rfl (Ev_assign rfl)⟩, trivial⟩ ?_
                  refine K_sub (F' := [(84, Ptr nb19 0), (85, .bool (fgV y e)), (86, Ptr nb21 2), (87, U64 nn), (88, U64 (nn % (2:UInt64))), (89, .bool (decide ((nn % (2:UInt64)) = (1:UInt64)))), (90, .bool ((fgV y e) == (decide ((nn % (2:UInt64)) = (1:UInt64))))), (11, .bool ((fgV y e) == (decide ((nn % (2:UInt64)) = (1:UInt64))))), (8, Ptr nb19 0), (74, .slice ab n cb), (75, I64 ((n:Int))), (76, I64 ((q:Int))), (77, .bool (decide (((q:Int)) < ((n:Int))))), (78, Ptr rowb (4*q + rowo)), (79, .agg (List.toArray (α := Value) ([I64 (kd), I64 (s), U64 nn, .slice ax p cx]))), (10, Ptr nb21 0), (80, Ptr nb21 0), (81, I64 (kd)), (82, U64 (u64i (kd))), (83, U64 ((u64i (kd)) % (5:UInt64))), (92, .bool (decide (((u64i (kd)) % (5:UInt64)) = (0:UInt64)))), (91, .bool (decide (((u64i (kd)) % (5:UInt64)) = (0:UInt64)))), (101, .bool (decide (((u64i (kd)) % (5:UInt64)) = (1:UInt64)))), (100, .bool (decide (((u64i (kd)) % (5:UInt64)) = (1:UInt64)))), (108, .bool (decide (((u64i (kd)) % (5:UInt64)) = (2:UInt64)))), (107, .bool (decide (((u64i (kd)) % (5:UInt64)) = (2:UInt64)))), (118, .bool (decide (((u64i (kd)) % (5:UInt64)) = (3:UInt64)))), (117, .bool (decide (((u64i (kd)) % (5:UInt64)) = (3:UInt64))))]) (Sub.cons (by kernel_rfl) (Sub.cons (by kernel_rfl) (Sub.cons (by kernel_rfl) (Sub.cons (by kernel_rfl) (Sub.cons (by kernel_rfl) (Sub.cons (by kernel_rfl) (Sub.cons (by kernel_rfl) (Sub.cons (by kernel_rfl) (Sub.cons (by kernel_rfl) (Sub.cons (by kernel_rfl) (Sub.cons (by kernel_rfl) (Sub.cons (by kernel_rfl) (Sub.cons (by kernel_rfl) (Sub.cons (by kernel_rfl) (Sub.cons (by kernel_rfl) (Sub.cons (by kernel_rfl) (Sub.cons (by kernel_rfl) (Sub.cons (by kernel_rfl) (Sub.cons (by kernel_rfl) (Sub.cons (by kernel_rfl) (Sub.cons (by kernel_rfl) (Sub.cons (by kernel_rfl) (Sub.cons (by kernel_rfl) (Sub.cons (by kernel_rfl) (Sub.cons (by kernel_rfl) (Sub.cons (by kernel_rfl) (Sub.cons (by kernel_rfl) (Sub.cons (by kernel_rfl) (Sub.nil))))))))))))))))))))))))))))) ?_
                  show JQ _ _ _ [(84, Ptr nb19 0), (85, .bool (fgV y e)), (86, Ptr nb21 2), (87, U64 nn), (88, U64 (nn % (2:UInt64))), (89, .bool (decide ((nn % (2:UInt64)) = (1:UInt64)))), (90, .bool ((fgV y e) == (decide ((nn % (2:UInt64)) = (1:UInt64))))), (11, .bool ((fgV y e) == (decide ((nn % (2:UInt64)) = (1:UInt64))))), (8, Ptr nb19 0), (74, .slice ab n cb), (75, I64 ((n:Int))), (76, I64 ((q:Int))), (77, .bool (decide (((q:Int)) < ((n:Int))))), (78, Ptr rowb (4*q + rowo)), (79, .agg (List.toArray (α := Value) ([I64 (kd), I64 (s), U64 nn, .slice ax p cx]))), (10, Ptr nb21 0), (80, Ptr nb21 0), (81, I64 (kd)), (82, U64 (u64i (kd))), (83, U64 ((u64i (kd)) % (5:UInt64))), (92, .bool (decide (((u64i (kd)) % (5:UInt64)) = (0:UInt64)))), (91, .bool (decide (((u64i (kd)) % (5:UInt64)) = (0:UInt64)))), (101, .bool (decide (((u64i (kd)) % (5:UInt64)) = (1:UInt64)))), (100, .bool (decide (((u64i (kd)) % (5:UInt64)) = (1:UInt64)))), (108, .bool (decide (((u64i (kd)) % (5:UInt64)) = (2:UInt64)))), (107, .bool (decide (((u64i (kd)) % (5:UInt64)) = (2:UInt64)))), (118, .bool (decide (((u64i (kd)) % (5:UInt64)) = (3:UInt64)))), (117, .bool (decide (((u64i (kd)) % (5:UInt64)) = (3:UInt64))))] _
                  refine JQ_in_normal ?_
                  refine JQ_then ?_
                  refine JC_seq ?_
                  refine JC_region ?_
                  refine JL_val _ (Ev_move rfl) rfl ?_
                  refine JL_val (.bool (!((fgV y e) == (decide ((nn % (2:UInt64)) = (1:UInt64)))))) (Ev_not rfl) rfl ?_
                  refine JL_nil ?_
                  refine JQ_then ?_
                  refine JC_condF _ rfl (by rw [show ((fgV y e) == (decide ((nn % (2:UInt64)) = (1:UInt64)))) = true from (by rw [(rk4 (by assumption) (by assumption) (by assumption) (by assumption) hyy he).1]; exact beq_self_eq_true _)]; rfl) ?_
                  refine JC_skip ?_
                  refine JQ_in_normal ?_
                  refine JQ_then ?_
                  refine JC_region ?_
                  refine JL_val (I64 ((q:Int) + 1)) (Ev_bini rfl rfl fun _ => bin_add_i _ _ ((q:Int) + 1) (by omega) (by omega)) rfl ?_
                  refine JL_val _ (Ev_move rfl) rfl ?_
                  refine JL_nil ?_
                  refine JQ_thenK ?_
                  refine K_mask [true, false, true] ?_
                  show K _ _ [⟨nb20, cu8 o ++ sp14, 5, (0, 0)⟩, ⟨nb19, [errV 36 (okE e (decide (FgOk y e))), .slice ao10 ((fgZ y e).length) ca10], 123, (0, 0)⟩] _
                  refine K_pick [1, 0] (by decide) ?_
                  show K _ _ [⟨nb19, [errV 36 (okE e (decide (FgOk y e))), .slice ao10 ((fgZ y e).length) ca10], 123, (0, 0)⟩, ⟨nb20, cu8 o ++ sp14, 5, (0, 0)⟩] _
                  have hy2 : fgZ y e = encD al (q + 1) := (by first | exact (rk0 (by assumption) hgd hyy he).2.1 | exact (rk1 (by assumption) (by assumption) hz hgd hyy he).2.1 | exact (rk2 (by assumption) (by assumption) (by assumption) hz hyy he).2.1 | exact (rk3 (by assumption) (by assumption) (by assumption) (by assumption) hyy he).2.1 | exact (rk4 (by assumption) (by assumption) (by assumption) (by assumption) hyy he).2.1)
                  have hle : (fgZ y e).length ≤ y.length := by rw [hy2, hyy, List.length_append]; omega
                  refine K_next (q + 1, (okE e (decide (FgOk y e))), (fgZ y e), ((fgZ y e).length), ao10, ca10) ⟨by omega, (by first | exact (rk0 (by assumption) hgd hyy he).2.2 | exact (rk1 (by assumption) (by assumption) hz hgd hyy he).2.2 | exact (rk2 (by assumption) (by assumption) (by assumption) hz hyy he).2.2 | exact (rk3 (by assumption) (by assumption) (by assumption) (by assumption) hyy he).2.2 | exact (rk4 (by assumption) (by assumption) (by assumption) (by assumption) hyy he).2.2), hy2, (fun w M h => hA10 w M (hA w M h)), (by omega), (by omega), (by omega), rfl⟩ (by first | (simp; omega) | simp | (dsimp only; omega) | omega) (Sub.cons rfl (Sub.cons rfl (Sub.cons rfl (Sub.cons rfl (Sub.nil))))) rfl
        ·
          have hp34 : ¬ (((q:Int)) < ((n:Int))) := of_decide_eq_false hb34
          refine JC_exit ?_
          refine JQ_then_exit ?_
          refine JQ_then_exit ?_
          refine JQ_in_same ?_
          refine JQ_then ?_
          refine JC_seq ?_
          have hyl : y.length = 0 := by rw [hy, encD_end (i := q) (by omega)]; rfl
          refine JC_region ?_
          refine JL_val _ (Ev_move rfl) rfl ?_
          refine JL_step (Step_callP 66 [Ptr nb19 0] (.nilIface) (Cl_func [Ptr nb19 0] Try.call66 rfl) (fun w1 hw1 => endZ_c nb19 e ao yn c w1 (RdA.of hw1 (MemAt.ent 0 rfl (Seg.whole _)) (by simp)) he (by omega))) rfl ?_
          rintro v1 L1 ⟨rfl, rfl⟩
          show JL _ _ _ _ ((129, .nilIface) :: _) [⟨nb19, [errV 36 e, .slice ao yn c], 123, (0, 0)⟩, ⟨nb20, cu8 o ++ sp14, 5, (0, 0)⟩]
          refine JL_val (.bool true) (Ev_bin _ _ _ rfl rfl (fun _ => eqGuard_nn ..) fun _ => eql_if_nil_nil Try.underlying30) rfl ?_
          refine JL_val _ (Ev_assign rfl) rfl ?_
          refine JL_nil ?_
          refine JQ_then ?_
          refine JC_ret ?_
          refine JQ_ret (.bool true) (res1 Try.results14 (RV_tmp rfl)) fun w1 hw1 => ?_
          exact ⟨_, [], rfl, ⟨by rw [show (true) = true from rfl], rfl⟩, hw1.sub (by simp) (by simp)⟩
      ·
        refine JC_region ?_
        refine JL_val _ (Ev_move rfl) rfl ?_
        refine JL_step (Step_callP 50 [Ptr nb1 0] (.tuple #[.slice none 0 0, errV 36 e]) (Cl_func [Ptr nb1 0] Try.call50 rfl) (fun w1 hw1 => doneE_c nb1 e (Slc gw 0 m cpw) w1 (RdA.of hw1 (MemAt.ent 0 rfl (Seg.whole _)) (by simp)) he)) rfl ?_
        rintro v1 L1 ⟨rfl, rfl⟩
        show JL _ _ _ _ ((64, .tuple #[.slice none 0 0, errV 36 e]) :: _) [⟨nb1, [errV 36 e, Slc gw 0 m cpw], 66, (0, 0)⟩, ⟨gw, cu8 o ++ spw, 5, (0, 0)⟩]
        refine JL_val _ (Ev_move rfl) rfl ?_
        refine JL_val _ (Ev_extract rfl rfl) rfl ?_
        refine JL_val _ (Ev_extract rfl rfl) rfl ?_
        refine JL_val _ (Ev_assign rfl) rfl ?_
        refine JL_val _ (Ev_assign rfl) rfl ?_
        refine JL_nil ?_
        refine JQ_then ?_
        refine JC_seq ?_
        refine JC_seq ?_
        refine JC_region ?_
        refine JL_val _ (Ev_move rfl) rfl ?_
        refine JL_val (.bool (!(decide (e = 0)))) (Ev_bin _ _ _ rfl rfl (fun _ => eqGuard_errV ..) fun _ => neq_errV Try.underlying30 _ _) rfl ?_
        refine JL_nil ?_
        refine JQ_then ?_
        refine JC_cond (!(decide (e = 0))) rfl (fun hb54 => ?_) (fun hb54 => ?_)
        ·
          have hb55 : (decide (e = 0)) = false := by simpa using hb54
          have hp55 : ¬ (e = 0) := of_decide_eq_false hb55
          refine JC_seq ?_
          refine JC_region ?_
          refine JL_val _ (Ev_move rfl) rfl ?_
          refine JL_val (I64 (0:Int)) (Ev_len Try.underlying38 rfl) rfl ?_
          refine JL_val (.bool (decide ((0:Int) = (0:Int)))) (Ev_bini rfl rfl fun _ => bin_eql_i _ _) rfl ?_
          refine JL_val _ (Ev_assign rfl) rfl ?_
          refine JL_nil ?_
          refine JQ_then ?_
          refine JC_ret ?_
          refine JQ_then_ret ?_
          refine JQ_ret (.bool (decide ((0:Int) = (0:Int)))) (res1 Try.results14 (RV_tmp rfl)) fun w1 hw1 => ?_
          exact ⟨_, [], rfl, ⟨by rw [show (decide ((0:Int) = (0:Int))) = true from (by decide)], rfl⟩, hw1.sub (by simp) (by simp)⟩
        ·
          have hb56 : (decide (e = 0)) = true := by simpa using hb54
          have hp56 : e = 0 := of_decide_eq_true hb56
          exfalso; omega

theorem octetsBack_w (ab : Option Addr) (n cb : Nat) (al : List ActV) (w : World) (hlen : al.length = n) (hG : ∀ a ∈ al, ActG w a) (hv : RdV w ab (al.flatMap actC)) (hnb : n ≤ 140737488351232) : Calls Try.prog 14 #[.slice ab n cb] w (Post w [] (fun v L => v = .bool true ∧ L = [])) := by
  by_cases hl : LongP al n
  · exact octBackL_c ab n cb al w hlen hG hv hnb hl
  · exact octBackS_c ab n cb al w hlen hG hv hnb hl

end Go.Proofs.Ytncoifiafklkjaa
