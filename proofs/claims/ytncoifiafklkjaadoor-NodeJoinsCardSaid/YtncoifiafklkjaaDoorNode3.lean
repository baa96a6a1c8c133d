import Derived.Test.YtncoifiafklkjaaDoorNode2
namespace Go.Proofs.YtncoifiafklkjaaDoor
open Go Go.Sx
set_option linter.unusedVariables false
set_option linter.unusedSimpArgs false
set_option maxRecDepth 100000
attribute [local irreducible] mid zr8 zr32 zr64 numK rnK ftN valK rvalK rotr wordL spreadL comprL cpN adN spN wrdN constL initL padL stN outN routN sumG putL leafT joinT empL empA empR kindN
theorem rnumber_c (nv : UInt64) (k : Nat) (w : World) (hk : k ≤ 8) : Calls Tryd.prog 55 #[U64 nv, I64 ((k:Int))] w (Post w [] (fun v L => ∃ g, v = Slc g 0 k k ∧ L = [⟨g, cu8 (numK k nv k), 5, (0, 0)⟩])) := by
  have hmx : maxLen = 9223372036854775807 := rfl
  refine enter w [] 24 [] [U64 nv, I64 ((k:Int))] Tryd.func55 rfl rfl (by simp) (Hp.start (by simp) (by simp) (by simp)) ?_
  show JC _ _ _ [(0, U64 nv), (1, I64 ((k:Int)))] _
  refine JC_seq ?_
  refine JC_region ?_
  refine JL_val _ (Ev_assign rfl) rfl ?_
  refine JL_nil ?_
  refine JQ_then ?_
  refine JC_seq ?_
  refine JC_region ?_
  refine JL_val _ (Ev_move rfl) rfl ?_
  refine JL_step (Step_make8 5 1 k k Tryd.underlying22 Tryd.info5 rfl rfl (by omega) (by omega) (by unfold maxLen; omega)) rfl ?_
  rintro v1 L1 ⟨nb1, hnb1, rfl, rfl⟩
  show JL _ _ _ _ ((8, Slc nb1 0 k k) :: _) [⟨nb1, cu8 (zr8 k), 5, (0, 0)⟩]
  refine JL_val _ (Ev_assign rfl) rfl ?_
  refine JL_nil ?_
  refine JQ_then ?_
  refine JC_seq ?_
  refine JC_seq ?_
  refine JC_region ?_
  refine JL_val _ (Ev_move rfl) rfl ?_
  refine JL_val (I64 ((k:Int) - 1)) (Ev_bini rfl rfl fun _ => bin_sub_i _ _ ((k:Int) - 1) (by omega) (by omega)) rfl ?_
  refine JL_val _ (Ev_assign rfl) rfl ?_
  refine JL_nil ?_
  refine JQ_then ?_
  refine JC_block ?_
  refine JC_loop (ι := Nat × List UInt8 × UInt64) (fun ⟨j, o, y⟩ => [(4, .slice none 0 0), (5, Slc nb1 0 k k), (6, I64 (-(j:Int) + (k:Int) - 1)), (0, U64 y)]) (fun ⟨j, o, y⟩ => [⟨nb1, cu8 o, 5, (0, 0)⟩]) (fun ⟨j, o, y⟩ => j ≤ k ∧ o = (rnK k nv j).1 ∧ y = (rnK k nv j).2 ∧ o.length = k) (fun ⟨j, o, y⟩ => k - j) (0, zr8 k, nv) ⟨by omega, by rw [rnK], by rw [rnK], zr8_len k⟩ (Sub.cons rfl (Sub.cons rfl (Sub.cons (some_i64 (by omega)) (Sub.cons rfl (Sub.nil))))) rfl ?_
  rintro ⟨j, o, y⟩ ⟨hx1, hx2, hx3, ho⟩
  show JC _ _ _ [(4, .slice none 0 0), (5, Slc nb1 0 k k), (6, I64 (-(j:Int) + (k:Int) - 1)), (0, U64 y)] [⟨nb1, cu8 o, 5, (0, 0)⟩]
  refine JC_seq ?_
  refine JC_seq ?_
  refine JC_region ?_
  refine JL_val _ (Ev_move rfl) rfl ?_
  refine JL_val (.bool (decide ((0:Int) ≤ (-(j:Int) + (k:Int) - 1)))) (Ev_bini rfl rfl fun _ => bin_geq_i _ _) rfl ?_
  refine JL_nil ?_
  refine JQ_then ?_
  refine JC_cond (decide ((0:Int) ≤ (-(j:Int) + (k:Int) - 1))) rfl (fun hb1 => ?_) (fun hb1 => ?_)
  ·
    have hp1 : (0:Int) ≤ (-(j:Int) + (k:Int) - 1) := of_decide_eq_true hb1
    refine JC_skip ?_
    refine JQ_then ?_
    refine JC_seq ?_
    refine JC_block ?_
    refine JC_seq ?_
    refine JC_region ?_
    refine JL_val _ (Ev_move rfl) rfl ?_
    refine JL_val _ (Ev_move rfl) rfl ?_
    refine JL_val _ (Ev_move rfl) rfl ?_
    refine JL_val (U64 (y % (256:UInt64))) (Ev_bini rfl rfl fun _ => bin_rem_u64 y (256:UInt64) (by decide)) rfl ?_
    refine JL_val (U8 ((y % (256:UInt64)).toUInt8)) (Ev_conv _ _ rfl fun _ => conv_u64_u8 (by rw [Tryd.underlying58]; rfl) Tryd.underlying5 _) rfl ?_
    refine JL_val (Ptr nb1 (k - j - 1)) (Ev_indexSl 5 1 (k - j - 1) Tryd.underlying22 Tryd.sizeOf5 rfl rfl (by omega) (by omega) (by omega)) rfl ?_
    have hl1 : (o.set (k - j - 1) ((y % (256:UInt64)).toUInt8)).length = k := by first | (rw [List.length_set]; exact ho) | simp [ho]
    refine JL_step (Step_store 0 nb1 (k - j - 1) 1 (cu8 o) 5 (U8 ((y % (256:UInt64)).toUInt8)) ([U8 ((y % (256:UInt64)).toUInt8)]) (cu8 (o.set (k - j - 1) ((y % (256:UInt64)).toUInt8))) rfl rfl rfl rfl Tryd.sizeOf5 rfl (by simp [Value.oneCell']) (by simp [ho]; try omega) (lay8 _ _ _ (by rw [ho]; omega))) rfl ?_
    rintro v1 L1 ⟨rfl, rfl⟩
    show JL _ _ _ _ _ [⟨nb1, cu8 (o.set (k - j - 1) ((y % (256:UInt64)).toUInt8)), 5, (0, 0)⟩]
    refine JL_nil ?_
    refine JQ_then ?_
    refine JC_region ?_
    refine JL_val _ (Ev_move rfl) rfl ?_
    refine JL_val (U64 (y / (256:UInt64))) (Ev_bini rfl rfl fun _ => bin_quo_u64 y (256:UInt64) (by decide)) rfl ?_
    refine JL_val _ (Ev_assign rfl) rfl ?_
    refine JL_nil ?_
    refine JQ_in_normal ?_
    refine JQ_then ?_
    refine JC_region ?_
    refine JL_val _ (Ev_move rfl) rfl ?_
    refine JL_val (I64 (-(j:Int) + (k:Int) - 2)) (Ev_bini rfl rfl fun _ => bin_sub_i _ _ (-(j:Int) + (k:Int) - 2) (by omega) (by omega)) rfl ?_
    refine JL_val _ (Ev_assign rfl) rfl ?_
    refine JL_nil ?_
    refine JQ_thenK ?_
    refine K_next (j + 1, o.set (k - j - 1) ((y % (256:UInt64)).toUInt8), y / (256:UInt64)) ⟨by omega, by rw [rnK, ← hx2, ← hx3], by rw [rnK, ← hx3], hl1⟩ (by first | (simp; omega) | simp | (dsimp only; omega) | omega) (Sub.cons rfl (Sub.cons rfl (Sub.cons (some_i64 (by omega)) (Sub.cons rfl (Sub.nil))))) rfl
  ·
    have hp1 : ¬ ((0:Int) ≤ (-(j:Int) + (k:Int) - 1)) := of_decide_eq_false hb1
    refine JC_exit ?_
    refine JQ_then_exit ?_
    refine JQ_then_exit ?_
    refine JQ_in_same ?_
    refine JQ_then ?_
    refine JC_seq ?_
    refine JC_region ?_
    refine JL_val _ (Ev_move rfl) rfl ?_
    refine JL_val _ (Ev_assign rfl) rfl ?_
    refine JL_nil ?_
    refine JQ_then ?_
    refine JC_ret ?_
    refine JQ_ret (Slc nb1 0 k k) (res1 Tryd.results55 (RV_tmp rfl)) fun w1 hw1 => ?_
    have e1 : j = k := by omega
    rw [hx2, e1, rnK_num k nv hk] at hw1
    exact ⟨_, _, rfl, ⟨_, rfl, rfl⟩, hw1.sub (by simp) (by simp)⟩

theorem rput7_c (e : UInt64) (d t : List UInt8) (w : World) (hd : d.length = 32) (ht : t.length = 16) : Calls Tryd.prog 112 #[.agg (List.toArray (α := Value) ([U64 e] ++ cu8 d ++ cu8 t))] w (Post w [] (fun v L => ∃ g sp cap, v = Slc g 0 56 cap ∧ L = [⟨g, cu8 (putL e d t) ++ sp, 5, (0, 0)⟩] ∧ sp.length = cap - 56 ∧ 56 ≤ cap ∧ cap ≤ maxLen)) := by
  have hmx : maxLen = 9223372036854775807 := rfl
  refine enter (P := Tryd.prog) (f := 112) (fn := Tryd.f112) w [] 15 [] [.agg (List.toArray (α := Value) ([U64 e] ++ cu8 d ++ cu8 t))] Tryd.func112 rfl rfl (by simp) (Hp.start (by simp) (by simp) (by simp)) ?_
  show JC _ _ _ [(0, .agg (List.toArray (α := Value) ([U64 e] ++ cu8 d ++ cu8 t)))] _
  refine JC_seq ?_
  refine JC_region ?_
  refine JL_step (Step_box (.agg (List.toArray (α := Value) ([U64 e] ++ cu8 d ++ cu8 t))) ([U64 e] ++ cu8 d ++ cu8 t) rfl (by first | rfl | simp)) rfl ?_
  rintro v1 L1 ⟨nb1, hnb1, rfl, rfl⟩
  show JL _ _ _ _ ((1, Ptr nb1 0) :: _) [⟨nb1, [U64 e] ++ cu8 d ++ cu8 t, 81, (0, 0)⟩]
  refine JL_val _ (Ev_assign rfl) rfl ?_
  refine JL_nil ?_
  refine JQ_then ?_
  refine JC_seq ?_
  refine JC_region ?_
  refine JL_val (Ptr nb1 0) (Ev_fieldAddr 0 58 1 Tryd.underlying81 rfl Tryd.sizeOf58 rfl rfl) rfl ?_
  refine JL_val (U64 e) (Ev_load rfl (Ld_one Tryd.isAgg58 (MemAt.ent 0 rfl (Seg.left (Seg.left (Seg.head)))))) rfl ?_
  refine JL_step (Step_callN 55 [U64 e, I64 (8:Int)] _ (Cl_func [U64 e, I64 (8:Int)] Tryd.call55 rfl) (fun w1 hw1 => rnumber_c e 8 w1 (by omega))) rfl ?_
  rintro v1 L1 ⟨_, ⟨nb2, rfl, rfl⟩, rfl⟩
  show JL _ _ _ _ ((6, Slc nb2 0 8 8) :: _) [⟨nb1, [U64 e] ++ cu8 d ++ cu8 t, 81, (0, 0)⟩, ⟨nb2, cu8 (numK 8 e 8), 5, (0, 0)⟩]
  refine JL_val _ (Ev_assign rfl) rfl ?_
  refine JL_nil ?_
  refine JQ_then ?_
  refine JC_seq ?_
  refine JC_region ?_
  refine JL_val _ (Ev_move rfl) rfl ?_
  refine JL_val (Ptr nb1 1) (Ev_fieldAddr 1 74 32 Tryd.underlying81 rfl Tryd.sizeOf74 rfl rfl) rfl ?_
  refine JL_val (Slc nb1 1 32 32) (Ev_sliceA 32 5 1 0 32 1 32 Tryd.underlying74 Tryd.sizeOf5 rfl rfl rfl (by omega) (by omega) (by omega) (by omega) (by omega) 32 (by omega)) rfl ?_
  refine JL_step (Step_appM8 22 5 [false, true] (Slc nb2 0 8 8) 8 (numK 8 e 8) d (some ⟨nb1, 1, none⟩) 32 32 40 Tryd.underlying22 Tryd.info5 rfl (.inr ⟨nb2, [], 8, rfl, (by simp [take?, cu8, cu32, cu64]), (by first | exact (show (numK 8 e 8).length = 8 from numK_len _ _ _) | simp [(show (numK 8 e 8).length = 8 from numK_len _ _ _)]), (by simp), (by omega), (by unfold maxLen; omega)⟩) rfl (by simp [hd]; try omega) (SrcAt.mem (MemAt.ent 0 rfl (Seg.left (Seg.right 1 0 rfl rfl (Seg.whole _))))) (by omega) (by unfold maxLen; omega) (by omega)) rfl ?_
  rintro v1 L1 ⟨nb3, sp1, cp1, hg1, rfl, rfl, ha1, ha2, ha3, ha4⟩
  show JL _ _ _ _ ((10, Slc nb3 0 40 cp1) :: _) [⟨nb1, [U64 e] ++ cu8 d ++ cu8 t, 81, (0, 0)⟩, ⟨nb3, cu8 ((numK 8 e 8) ++ d) ++ sp1, 5, (0, 0)⟩]
  refine JL_val _ (Ev_assign rfl) rfl ?_
  refine JL_nil ?_
  refine JQ_then ?_
  refine JC_seq ?_
  refine JC_region ?_
  refine JL_val _ (Ev_move rfl) rfl ?_
  refine JL_val (Ptr nb1 33) (Ev_fieldAddr 33 54 16 Tryd.underlying81 rfl Tryd.sizeOf54 rfl rfl) rfl ?_
  refine JL_val (Slc nb1 33 16 16) (Ev_sliceA 16 5 1 0 16 33 16 Tryd.underlying54 Tryd.sizeOf5 rfl rfl rfl (by omega) (by omega) (by omega) (by omega) (by omega) 16 (by omega)) rfl ?_
  refine JL_step (Step_appM8 22 5 [false, true] (Slc nb3 0 40 cp1) 40 ((numK 8 e 8) ++ d) t (some ⟨nb1, 33, none⟩) 16 16 56 Tryd.underlying22 Tryd.info5 rfl (.inr ⟨nb3, sp1, cp1, rfl, rfl, (by first | exact ha1 | simp [ha1]), ha2, (by omega), (by omega)⟩) rfl (by simp [ht]; try omega) (SrcAt.mem (MemAt.ent 0 rfl (Seg.right 33 0 (by simp [hd]) rfl (Seg.whole _)))) (by omega) (by unfold maxLen; omega) (by omega)) rfl ?_
  rintro v1 L1 ⟨nb4, sp2, cp2, hg2, rfl, rfl, ha5, ha6, ha7, ha8⟩
  show JL _ _ _ _ ((14, Slc nb4 0 56 cp2) :: _) [⟨nb1, [U64 e] ++ cu8 d ++ cu8 t, 81, (0, 0)⟩, ⟨nb4, cu8 (((numK 8 e 8) ++ d) ++ t) ++ sp2, 5, (0, 0)⟩]
  refine JL_val _ (Ev_assign rfl) rfl ?_
  refine JL_nil ?_
  refine JQ_then ?_
  refine JC_ret ?_
  refine K_mask [false, true] ?_
  show JQ _ _ _ _ [⟨nb4, cu8 (((numK 8 e 8) ++ d) ++ t) ++ sp2, 5, (0, 0)⟩]
  refine JQ_ret (Slc nb4 0 56 cp2) (res1 Tryd.results112 (RV_tmp rfl)) fun w1 hw1 => ?_
  have hq : ((numK 8 e 8) ++ d) ++ t = putL e d t := by rw [putL]
  rw [hq] at hw1
  exact ⟨_, _, rfl, ⟨nb4, sp2, cp2, rfl, rfl, ha6, ha7, ha8⟩, hw1.sub (by simp) (by simp)⟩

theorem doc7_c (e : UInt64) (d t : List UInt8) (w : World) (hd : d.length = 32) (ht : t.length = 16) : Calls Tryd.prog 61 #[.agg (List.toArray (α := Value) ([U64 e] ++ cu8 d ++ cu8 t))] w (Post w [] (fun v L => v = .agg (List.toArray (α := Value) ([U64 e] ++ cu8 d ++ cu8 t)) ∧ L = [])) := by
  refine enter (P := Tryd.prog) (f := 61) (fn := Tryd.f61) w [] 4 [] [.agg (List.toArray (α := Value) ([U64 e] ++ cu8 d ++ cu8 t))] Tryd.func61 rfl rfl (by simp) (Hp.start (by simp) (by simp) (by simp)) ?_
  show JC _ _ _ [(0, .agg (List.toArray (α := Value) ([U64 e] ++ cu8 d ++ cu8 t)))] _
  refine JC_seq ?_
  refine JC_region ?_
  refine JL_step (Step_box (.agg (List.toArray (α := Value) ([U64 e] ++ cu8 d ++ cu8 t))) ([U64 e] ++ cu8 d ++ cu8 t) rfl (by first | rfl | simp)) rfl ?_
  rintro v1 L1 ⟨nb1, hnb1, rfl, rfl⟩
  show JL _ _ _ _ ((1, Ptr nb1 0) :: _) [⟨nb1, [U64 e] ++ cu8 d ++ cu8 t, 76, (0, 0)⟩]
  refine JL_step (Step_alloc _ ([U64 (0:UInt64)] ++ cu8 (zr8 32) ++ cu8 (zr8 16)) Tryd.zeroValue81 (by kernel_rfl)) rfl ?_
  rintro v1 L1 ⟨nb2, hnb2, rfl, rfl⟩
  show JL _ _ _ _ ((2, Ptr nb2 0) :: _) [⟨nb1, [U64 e] ++ cu8 d ++ cu8 t, 76, (0, 0)⟩, ⟨nb2, [U64 (0:UInt64)] ++ cu8 (zr8 32) ++ cu8 (zr8 16), 81, (0, 0)⟩]
  refine JL_nil ?_
  refine JQ_then ?_
  refine JC_seq ?_
  refine JC_region ?_
  refine JL_val (.agg (List.toArray (α := Value) ([U64 e] ++ cu8 d ++ cu8 t))) (Ev_load rfl (Ld_agg Tryd.isAgg76 Tryd.sizeOf76 (by simp [hd, ht]) (MemAt.ent 0 rfl (Seg.whole _)))) rfl ?_
  refine JL_step (Step_store 1 nb2 0 49 ([U64 (0:UInt64)] ++ cu8 (zr8 32) ++ cu8 (zr8 16)) 81 (.agg (List.toArray (α := Value) ([U64 e] ++ cu8 d ++ cu8 t))) ([U64 e] ++ cu8 d ++ cu8 t) ([U64 e] ++ cu8 d ++ cu8 t) rfl rfl rfl (by first | rfl | simp) Tryd.sizeOf81 (by simp [hd, ht]) (one_app (one_app (by simp [Value.oneCell']) one_u8) one_u8) (by simp [(zr8_len 32), (zr8_len 16)]) (lay_whole (by simp [(zr8_len 32), (zr8_len 16), hd, ht]))) rfl ?_
  rintro v1 L1 ⟨rfl, rfl⟩
  show JL _ _ _ _ _ [⟨nb1, [U64 e] ++ cu8 d ++ cu8 t, 76, (0, 0)⟩, ⟨nb2, [U64 e] ++ cu8 d ++ cu8 t, 81, (0, 0)⟩]
  refine JL_nil ?_
  refine JQ_then ?_
  refine JC_ret ?_
  refine JQ_ret (.agg (List.toArray (α := Value) ([U64 e] ++ cu8 d ++ cu8 t))) (res1 Tryd.results61 (RV_cell rfl (Ld_agg Tryd.isAgg81 Tryd.sizeOf81 (by simp [hd, ht]) (MemAt.ent 1 rfl (Seg.whole _))))) fun w1 hw1 => ?_
  exact ⟨_, [], rfl, ⟨rfl, rfl⟩, hw1.sub (by simp) (by simp)⟩

theorem rkind_c (az : Option Addr) (n cz : Nat) (z : List UInt8) (w : World) (hz : z.length = n) (hr : RdB w [] az z) : Calls Tryd.prog 78 #[.slice az n cz] w (Post w [] (fun v L => v = I64 ((kindN z : Nat) : Int) ∧ L = [])) := by
  refine enter w [] 42 [] [.slice az n cz] Tryd.func78 rfl rfl (by simp) (Hp.start (by simp) (by simp) (by simp)) ?_
  show JC _ _ _ [(0, .slice az n cz)] _
  refine JC_seq ?_
  refine JC_region ?_
  refine JL_val _ (Ev_assign rfl) rfl ?_
  refine JL_nil ?_
  refine JQ_then ?_
  refine JC_seq ?_
  refine JC_seq ?_
  refine JC_region ?_
  refine JL_val _ (Ev_move rfl) rfl ?_
  refine JL_val (I64 ((n:Int))) (Ev_len Tryd.underlying22 rfl) rfl ?_
  refine JL_val (.bool (decide (((n:Int)) = (1:Int)))) (Ev_bini rfl rfl fun _ => bin_eql_i _ _) rfl ?_
  refine JL_val _ (Ev_move rfl) rfl ?_
  rcases Bool.eq_false_or_eq_true (decide (((n:Int)) = (1:Int))) with hb1 | hb1
  ·
    have hp1 : ((n:Int)) = (1:Int) := of_decide_eq_true hb1
    refine JL_gval 3 6 true _ _ rfl rfl hb1 (Ev_move rfl) rfl ?_
    obtain ⟨bz1, oz1, hz1, hm1⟩ := hr.pos (by rw [hz]; omega)
    refine JL_gval 3 6 true _ (Ptr bz1 oz1) rfl rfl hb1 (Ev_indexSlG 5 1 oz1 Tryd.underlying22 Tryd.sizeOf5 rfl hz1 rfl (by omega) (by omega) (by omega)) rfl ?_
    refine JL_gval 3 6 true _ (U8 (g8 z 0)) rfl rfl hb1 (Ev_load rfl (Ld_one Tryd.isAgg5 (MemAt.seg (MemAt.base hm1.1 hm1.2.1 hm1.2.2) (Seg.get (g8_get (i := 0) (by rw [hz]; omega))) (by omega)))) rfl ?_
    refine JL_gval 3 6 true _ (.bool (decide ((g8 z 0) = (0:UInt8)))) rfl rfl hb1 (Ev_bini rfl rfl fun _ => bin_eql_u8 (g8 z 0) (0:UInt8)) rfl ?_
    refine JL_val _ (Ev_pickT _ rfl hb1 rfl) rfl ?_
    refine JL_nil ?_
    refine JQ_then ?_
    refine JC_cond (decide ((g8 z 0) = (0:UInt8))) rfl (fun hb2 => ?_) (fun hb2 => ?_)
    ·
      have hp2 : (g8 z 0) = (0:UInt8) := of_decide_eq_true hb2
      refine JC_seq ?_
      refine JC_region ?_
      refine JL_val _ (Ev_assign rfl) rfl ?_
      refine JL_nil ?_
      refine JQ_then ?_
      refine JC_ret ?_
      refine JQ_then_ret ?_
      refine JQ_ret (I64 (1:Int)) (res1 Tryd.results78 (RV_tmp rfl)) fun w1 hw1 => ?_
      have hk : kindN z = 1 := by
        try simp only [UInt8.lt_iff_toNat_lt, UInt8.le_iff_toNat_le, ← UInt8.toNat_inj, UInt8.reduceToNat] at hp1
        try simp only [UInt8.lt_iff_toNat_lt, UInt8.le_iff_toNat_le, ← UInt8.toNat_inj, UInt8.reduceToNat] at hp2
        unfold kindN
        rw [hz]
        repeat' split
        all_goals omega
      exact ⟨_, [], rfl, ⟨by rw [hk]; rfl, rfl⟩, hw1.sub (by simp) (by simp)⟩
    ·
      have hp2 : ¬ ((g8 z 0) = (0:UInt8)) := of_decide_eq_false hb2
      refine JC_skip ?_
      refine JQ_then ?_
      refine JC_seq ?_
      refine JC_seq ?_
      refine JC_region ?_
      refine JL_val _ (Ev_move rfl) rfl ?_
      refine JL_val (I64 ((n:Int))) (Ev_len Tryd.underlying22 rfl) rfl ?_
      refine JL_val (.bool (decide (((n:Int)) = (61:Int)))) (Ev_bini rfl rfl fun _ => bin_eql_i _ _) rfl ?_
      refine JL_val _ (Ev_move rfl) rfl ?_
      rcases Bool.eq_false_or_eq_true (decide (((n:Int)) = (61:Int))) with hb3 | hb3
      ·
        have hp3 : ((n:Int)) = (61:Int) := of_decide_eq_true hb3
        refine JL_gval 3 15 true _ _ rfl rfl hb3 (Ev_move rfl) rfl ?_
        refine JL_gval 3 15 true _ (Ptr bz1 oz1) rfl rfl hb3 (Ev_indexSlG 5 1 oz1 Tryd.underlying22 Tryd.sizeOf5 rfl hz1 rfl (by omega) (by omega) (by omega)) rfl ?_
        refine JL_gval 3 15 true _ (U8 (g8 z 0)) rfl rfl hb3 (Ev_load rfl (Ld_one Tryd.isAgg5 (MemAt.seg (MemAt.base hm1.1 hm1.2.1 hm1.2.2) (Seg.get (g8_get (i := 0) (by rw [hz]; omega))) (by omega)))) rfl ?_
        refine JL_gval 3 15 true _ (.bool (decide ((g8 z 0) = (1:UInt8)))) rfl rfl hb3 (Ev_bini rfl rfl fun _ => bin_eql_u8 (g8 z 0) (1:UInt8)) rfl ?_
        refine JL_val _ (Ev_pickT _ rfl hb3 rfl) rfl ?_
        refine JL_nil ?_
        refine JQ_then ?_
        refine JC_cond (decide ((g8 z 0) = (1:UInt8))) rfl (fun hb4 => ?_) (fun hb4 => ?_)
        ·
          have hp4 : (g8 z 0) = (1:UInt8) := of_decide_eq_true hb4
          refine JC_seq ?_
          refine JC_region ?_
          refine JL_val _ (Ev_assign rfl) rfl ?_
          refine JL_nil ?_
          refine JQ_then ?_
          refine JC_ret ?_
          refine JQ_then_ret ?_
          refine JQ_ret (I64 (2:Int)) (res1 Tryd.results78 (RV_tmp rfl)) fun w1 hw1 => ?_
          have hk : kindN z = 2 := by
            try simp only [UInt8.lt_iff_toNat_lt, UInt8.le_iff_toNat_le, ← UInt8.toNat_inj, UInt8.reduceToNat] at hp1
            try simp only [UInt8.lt_iff_toNat_lt, UInt8.le_iff_toNat_le, ← UInt8.toNat_inj, UInt8.reduceToNat] at hp2
            try simp only [UInt8.lt_iff_toNat_lt, UInt8.le_iff_toNat_le, ← UInt8.toNat_inj, UInt8.reduceToNat] at hp3
            try simp only [UInt8.lt_iff_toNat_lt, UInt8.le_iff_toNat_le, ← UInt8.toNat_inj, UInt8.reduceToNat] at hp4
            unfold kindN
            rw [hz]
            repeat' split
            all_goals omega
          exact ⟨_, [], rfl, ⟨by rw [hk]; rfl, rfl⟩, hw1.sub (by simp) (by simp)⟩
        ·
          have hp4 : ¬ ((g8 z 0) = (1:UInt8)) := of_decide_eq_false hb4
          refine JC_skip ?_
          refine JQ_then ?_
          refine JC_seq ?_
          refine JC_seq ?_
          refine JC_region ?_
          refine JL_val _ (Ev_move rfl) rfl ?_
          refine JL_val (I64 ((n:Int))) (Ev_len Tryd.underlying22 rfl) rfl ?_
          refine JL_val (.bool (decide (((n:Int)) = (66:Int)))) (Ev_bini rfl rfl fun _ => bin_eql_i _ _) rfl ?_
          refine JL_val _ (Ev_move rfl) rfl ?_
          rcases Bool.eq_false_or_eq_true (decide (((n:Int)) = (66:Int))) with hb5 | hb5
          ·
            have hp5 : ((n:Int)) = (66:Int) := of_decide_eq_true hb5
            refine JL_gval 3 24 true _ _ rfl rfl hb5 (Ev_move rfl) rfl ?_
            refine JL_gval 3 24 true _ (Ptr bz1 oz1) rfl rfl hb5 (Ev_indexSlG 5 1 oz1 Tryd.underlying22 Tryd.sizeOf5 rfl hz1 rfl (by omega) (by omega) (by omega)) rfl ?_
            refine JL_gval 3 24 true _ (U8 (g8 z 0)) rfl rfl hb5 (Ev_load rfl (Ld_one Tryd.isAgg5 (MemAt.seg (MemAt.base hm1.1 hm1.2.1 hm1.2.2) (Seg.get (g8_get (i := 0) (by rw [hz]; omega))) (by omega)))) rfl ?_
            refine JL_gval 3 24 true _ (.bool (decide ((g8 z 0) = (2:UInt8)))) rfl rfl hb5 (Ev_bini rfl rfl fun _ => bin_eql_u8 (g8 z 0) (2:UInt8)) rfl ?_
            refine JL_val _ (Ev_pickT _ rfl hb5 rfl) rfl ?_
            refine JL_val _ (Ev_move rfl) rfl ?_
            rcases Bool.eq_false_or_eq_true (decide ((g8 z 0) = (2:UInt8))) with hb6 | hb6
            ·
              have hp6 : (g8 z 0) = (2:UInt8) := of_decide_eq_true hb6
              refine JL_gval 9 30 true _ _ rfl rfl hb6 (Ev_move rfl) rfl ?_
              refine JL_gval 9 30 true _ (Ptr bz1 (oz1 + 1)) rfl rfl hb6 (Ev_indexSlG 5 1 (oz1 + 1) Tryd.underlying22 Tryd.sizeOf5 rfl hz1 rfl (by omega) (by omega) (by omega)) rfl ?_
              refine JL_gval 9 30 true _ (U8 (g8 z 1)) rfl rfl hb6 (Ev_load rfl (Ld_one Tryd.isAgg5 (MemAt.seg (MemAt.base hm1.1 hm1.2.1 hm1.2.2) (Seg.get (g8_get (i := 1) (by rw [hz]; omega))) (by omega)))) rfl ?_
              refine JL_gval 9 30 true _ (.bool (decide ((0:UInt8) < (g8 z 1)))) rfl rfl hb6 (Ev_bini rfl rfl fun _ => bin_gtr_u8 (g8 z 1) (0:UInt8)) rfl ?_
              refine JL_val _ (Ev_pickT _ rfl hb6 rfl) rfl ?_
              refine JL_val _ (Ev_move rfl) rfl ?_
              rcases Bool.eq_false_or_eq_true (decide ((0:UInt8) < (g8 z 1))) with hb7 | hb7
              ·
                have hp7 : (0:UInt8) < (g8 z 1) := of_decide_eq_true hb7
                refine JL_gval 15 36 true _ _ rfl rfl hb7 (Ev_move rfl) rfl ?_
                refine JL_gval 15 36 true _ (Ptr bz1 (oz1 + 1)) rfl rfl hb7 (Ev_indexSlG 5 1 (oz1 + 1) Tryd.underlying22 Tryd.sizeOf5 rfl hz1 rfl (by omega) (by omega) (by omega)) rfl ?_
                refine JL_gval 15 36 true _ (U8 (g8 z 1)) rfl rfl hb7 (Ev_load rfl (Ld_one Tryd.isAgg5 (MemAt.seg (MemAt.base hm1.1 hm1.2.1 hm1.2.2) (Seg.get (g8_get (i := 1) (by rw [hz]; omega))) (by omega)))) rfl ?_
                refine JL_gval 15 36 true _ (.bool (decide ((g8 z 1) < (33:UInt8)))) rfl rfl hb7 (Ev_bini rfl rfl fun _ => bin_lss_u8 (g8 z 1) (33:UInt8)) rfl ?_
                refine JL_val _ (Ev_pickT _ rfl hb7 rfl) rfl ?_
                refine JL_nil ?_
                refine JQ_then ?_
                refine JC_cond (decide ((g8 z 1) < (33:UInt8))) rfl (fun hb8 => ?_) (fun hb8 => ?_)
                ·
                  have hp8 : (g8 z 1) < (33:UInt8) := of_decide_eq_true hb8
                  refine JC_seq ?_
                  refine JC_region ?_
                  refine JL_val _ (Ev_assign rfl) rfl ?_
                  refine JL_nil ?_
                  refine JQ_then ?_
                  refine JC_ret ?_
                  refine JQ_then_ret ?_
                  refine JQ_ret (I64 (3:Int)) (res1 Tryd.results78 (RV_tmp rfl)) fun w1 hw1 => ?_
                  have hk : kindN z = 3 := by
                    try simp only [UInt8.lt_iff_toNat_lt, UInt8.le_iff_toNat_le, ← UInt8.toNat_inj, UInt8.reduceToNat] at hp1
                    try simp only [UInt8.lt_iff_toNat_lt, UInt8.le_iff_toNat_le, ← UInt8.toNat_inj, UInt8.reduceToNat] at hp2
                    try simp only [UInt8.lt_iff_toNat_lt, UInt8.le_iff_toNat_le, ← UInt8.toNat_inj, UInt8.reduceToNat] at hp3
                    try simp only [UInt8.lt_iff_toNat_lt, UInt8.le_iff_toNat_le, ← UInt8.toNat_inj, UInt8.reduceToNat] at hp4
                    try simp only [UInt8.lt_iff_toNat_lt, UInt8.le_iff_toNat_le, ← UInt8.toNat_inj, UInt8.reduceToNat] at hp5
                    try simp only [UInt8.lt_iff_toNat_lt, UInt8.le_iff_toNat_le, ← UInt8.toNat_inj, UInt8.reduceToNat] at hp6
                    try simp only [UInt8.lt_iff_toNat_lt, UInt8.le_iff_toNat_le, ← UInt8.toNat_inj, UInt8.reduceToNat] at hp7
                    try simp only [UInt8.lt_iff_toNat_lt, UInt8.le_iff_toNat_le, ← UInt8.toNat_inj, UInt8.reduceToNat] at hp8
                    unfold kindN
                    rw [hz]
                    repeat' split
                    all_goals omega
                  exact ⟨_, [], rfl, ⟨by rw [hk]; rfl, rfl⟩, hw1.sub (by simp) (by simp)⟩
                ·
                  have hp8 : ¬ ((g8 z 1) < (33:UInt8)) := of_decide_eq_false hb8
                  refine JC_skip ?_
                  refine JQ_then ?_
                  refine JC_seq ?_
                  refine JC_region ?_
                  refine JL_val _ (Ev_assign rfl) rfl ?_
                  refine JL_nil ?_
                  refine JQ_then ?_
                  refine JC_ret ?_
                  refine JQ_ret (I64 (0:Int)) (res1 Tryd.results78 (RV_tmp rfl)) fun w1 hw1 => ?_
                  have hk : kindN z = 0 := by
                    try simp only [UInt8.lt_iff_toNat_lt, UInt8.le_iff_toNat_le, ← UInt8.toNat_inj, UInt8.reduceToNat] at hp1
                    try simp only [UInt8.lt_iff_toNat_lt, UInt8.le_iff_toNat_le, ← UInt8.toNat_inj, UInt8.reduceToNat] at hp2
                    try simp only [UInt8.lt_iff_toNat_lt, UInt8.le_iff_toNat_le, ← UInt8.toNat_inj, UInt8.reduceToNat] at hp3
                    try simp only [UInt8.lt_iff_toNat_lt, UInt8.le_iff_toNat_le, ← UInt8.toNat_inj, UInt8.reduceToNat] at hp4
                    try simp only [UInt8.lt_iff_toNat_lt, UInt8.le_iff_toNat_le, ← UInt8.toNat_inj, UInt8.reduceToNat] at hp5
                    try simp only [UInt8.lt_iff_toNat_lt, UInt8.le_iff_toNat_le, ← UInt8.toNat_inj, UInt8.reduceToNat] at hp6
                    try simp only [UInt8.lt_iff_toNat_lt, UInt8.le_iff_toNat_le, ← UInt8.toNat_inj, UInt8.reduceToNat] at hp7
                    try simp only [UInt8.lt_iff_toNat_lt, UInt8.le_iff_toNat_le, ← UInt8.toNat_inj, UInt8.reduceToNat] at hp8
                    unfold kindN
                    rw [hz]
                    repeat' split
                    all_goals omega
                  exact ⟨_, [], rfl, ⟨by rw [hk]; rfl, rfl⟩, hw1.sub (by simp) (by simp)⟩
              ·
                have hp7 : ¬ ((0:UInt8) < (g8 z 1)) := of_decide_eq_false hb7
                refine JL_gskip 15 36 true _ rfl rfl hb7 rfl ?_
                refine JL_gskip 15 36 true _ rfl rfl hb7 rfl ?_
                refine JL_gskip 15 36 true _ rfl rfl hb7 rfl ?_
                refine JL_gskip 15 36 true _ rfl rfl hb7 rfl ?_
                refine JL_val _ (Ev_pickF _ rfl hb7 rfl) rfl ?_
                refine JL_nil ?_
                refine JQ_then ?_
                refine JC_condF _ rfl rfl ?_
                refine JC_skip ?_
                refine JQ_then ?_
                refine JC_seq ?_
                refine JC_region ?_
                refine JL_val _ (Ev_assign rfl) rfl ?_
                refine JL_nil ?_
                refine JQ_then ?_
                refine JC_ret ?_
                refine JQ_ret (I64 (0:Int)) (res1 Tryd.results78 (RV_tmp rfl)) fun w1 hw1 => ?_
                have hk : kindN z = 0 := by
                  try simp only [UInt8.lt_iff_toNat_lt, UInt8.le_iff_toNat_le, ← UInt8.toNat_inj, UInt8.reduceToNat] at hp1
                  try simp only [UInt8.lt_iff_toNat_lt, UInt8.le_iff_toNat_le, ← UInt8.toNat_inj, UInt8.reduceToNat] at hp2
                  try simp only [UInt8.lt_iff_toNat_lt, UInt8.le_iff_toNat_le, ← UInt8.toNat_inj, UInt8.reduceToNat] at hp3
                  try simp only [UInt8.lt_iff_toNat_lt, UInt8.le_iff_toNat_le, ← UInt8.toNat_inj, UInt8.reduceToNat] at hp4
                  try simp only [UInt8.lt_iff_toNat_lt, UInt8.le_iff_toNat_le, ← UInt8.toNat_inj, UInt8.reduceToNat] at hp5
                  try simp only [UInt8.lt_iff_toNat_lt, UInt8.le_iff_toNat_le, ← UInt8.toNat_inj, UInt8.reduceToNat] at hp6
                  try simp only [UInt8.lt_iff_toNat_lt, UInt8.le_iff_toNat_le, ← UInt8.toNat_inj, UInt8.reduceToNat] at hp7
                  try simp only [UInt8.lt_iff_toNat_lt, UInt8.le_iff_toNat_le, ← UInt8.toNat_inj, UInt8.reduceToNat] at hp8
                  unfold kindN
                  rw [hz]
                  repeat' split
                  all_goals omega
                exact ⟨_, [], rfl, ⟨by rw [hk]; rfl, rfl⟩, hw1.sub (by simp) (by simp)⟩
            ·
              have hp6 : ¬ ((g8 z 0) = (2:UInt8)) := of_decide_eq_false hb6
              refine JL_gskip 9 30 true _ rfl rfl hb6 rfl ?_
              refine JL_gskip 9 30 true _ rfl rfl hb6 rfl ?_
              refine JL_gskip 9 30 true _ rfl rfl hb6 rfl ?_
              refine JL_gskip 9 30 true _ rfl rfl hb6 rfl ?_
              refine JL_val _ (Ev_pickF _ rfl hb6 rfl) rfl ?_
              refine JL_val _ (Ev_move rfl) rfl ?_
              refine JL_gskip 15 36 true _ rfl rfl rfl rfl ?_
              refine JL_gskip 15 36 true _ rfl rfl rfl rfl ?_
              refine JL_gskip 15 36 true _ rfl rfl rfl rfl ?_
              refine JL_gskip 15 36 true _ rfl rfl rfl rfl ?_
              refine JL_val _ (Ev_pickF _ rfl rfl rfl) rfl ?_
              refine JL_nil ?_
              refine JQ_then ?_
              refine JC_condF _ rfl rfl ?_
              refine JC_skip ?_
              refine JQ_then ?_
              refine JC_seq ?_
              refine JC_region ?_
              refine JL_val _ (Ev_assign rfl) rfl ?_
              refine JL_nil ?_
              refine JQ_then ?_
              refine JC_ret ?_
              refine JQ_ret (I64 (0:Int)) (res1 Tryd.results78 (RV_tmp rfl)) fun w1 hw1 => ?_
              have hk : kindN z = 0 := by
                try simp only [UInt8.lt_iff_toNat_lt, UInt8.le_iff_toNat_le, ← UInt8.toNat_inj, UInt8.reduceToNat] at hp1
                try simp only [UInt8.lt_iff_toNat_lt, UInt8.le_iff_toNat_le, ← UInt8.toNat_inj, UInt8.reduceToNat] at hp2
                try simp only [UInt8.lt_iff_toNat_lt, UInt8.le_iff_toNat_le, ← UInt8.toNat_inj, UInt8.reduceToNat] at hp3
                try simp only [UInt8.lt_iff_toNat_lt, UInt8.le_iff_toNat_le, ← UInt8.toNat_inj, UInt8.reduceToNat] at hp4
                try simp only [UInt8.lt_iff_toNat_lt, UInt8.le_iff_toNat_le, ← UInt8.toNat_inj, UInt8.reduceToNat] at hp5
                try simp only [UInt8.lt_iff_toNat_lt, UInt8.le_iff_toNat_le, ← UInt8.toNat_inj, UInt8.reduceToNat] at hp6
                try simp only [UInt8.lt_iff_toNat_lt, UInt8.le_iff_toNat_le, ← UInt8.toNat_inj, UInt8.reduceToNat] at hp7
                try simp only [UInt8.lt_iff_toNat_lt, UInt8.le_iff_toNat_le, ← UInt8.toNat_inj, UInt8.reduceToNat] at hp8
                unfold kindN
                rw [hz]
                repeat' split
                all_goals omega
              exact ⟨_, [], rfl, ⟨by rw [hk]; rfl, rfl⟩, hw1.sub (by simp) (by simp)⟩
          ·
            have hp5 : ¬ (((n:Int)) = (66:Int)) := of_decide_eq_false hb5
            refine JL_gskip 3 24 true _ rfl rfl hb5 rfl ?_
            refine JL_gskip 3 24 true _ rfl rfl hb5 rfl ?_
            refine JL_gskip 3 24 true _ rfl rfl hb5 rfl ?_
            refine JL_gskip 3 24 true _ rfl rfl hb5 rfl ?_
            refine JL_val _ (Ev_pickF _ rfl hb5 rfl) rfl ?_
            refine JL_val _ (Ev_move rfl) rfl ?_
            refine JL_gskip 9 30 true _ rfl rfl rfl rfl ?_
            refine JL_gskip 9 30 true _ rfl rfl rfl rfl ?_
            refine JL_gskip 9 30 true _ rfl rfl rfl rfl ?_
            refine JL_gskip 9 30 true _ rfl rfl rfl rfl ?_
            refine JL_val _ (Ev_pickF _ rfl rfl rfl) rfl ?_
            refine JL_val _ (Ev_move rfl) rfl ?_
            refine JL_gskip 15 36 true _ rfl rfl rfl rfl ?_
            refine JL_gskip 15 36 true _ rfl rfl rfl rfl ?_
            refine JL_gskip 15 36 true _ rfl rfl rfl rfl ?_
            refine JL_gskip 15 36 true _ rfl rfl rfl rfl ?_
            refine JL_val _ (Ev_pickF _ rfl rfl rfl) rfl ?_
            refine JL_nil ?_
            refine JQ_then ?_
            refine JC_condF _ rfl rfl ?_
            refine JC_skip ?_
            refine JQ_then ?_
            refine JC_seq ?_
            refine JC_region ?_
            refine JL_val _ (Ev_assign rfl) rfl ?_
            refine JL_nil ?_
            refine JQ_then ?_
            refine JC_ret ?_
            refine JQ_ret (I64 (0:Int)) (res1 Tryd.results78 (RV_tmp rfl)) fun w1 hw1 => ?_
            have hk : kindN z = 0 := by
              try simp only [UInt8.lt_iff_toNat_lt, UInt8.le_iff_toNat_le, ← UInt8.toNat_inj, UInt8.reduceToNat] at hp1
              try simp only [UInt8.lt_iff_toNat_lt, UInt8.le_iff_toNat_le, ← UInt8.toNat_inj, UInt8.reduceToNat] at hp2
              try simp only [UInt8.lt_iff_toNat_lt, UInt8.le_iff_toNat_le, ← UInt8.toNat_inj, UInt8.reduceToNat] at hp3
              try simp only [UInt8.lt_iff_toNat_lt, UInt8.le_iff_toNat_le, ← UInt8.toNat_inj, UInt8.reduceToNat] at hp4
              try simp only [UInt8.lt_iff_toNat_lt, UInt8.le_iff_toNat_le, ← UInt8.toNat_inj, UInt8.reduceToNat] at hp5
              try simp only [UInt8.lt_iff_toNat_lt, UInt8.le_iff_toNat_le, ← UInt8.toNat_inj, UInt8.reduceToNat] at hp6
              try simp only [UInt8.lt_iff_toNat_lt, UInt8.le_iff_toNat_le, ← UInt8.toNat_inj, UInt8.reduceToNat] at hp7
              try simp only [UInt8.lt_iff_toNat_lt, UInt8.le_iff_toNat_le, ← UInt8.toNat_inj, UInt8.reduceToNat] at hp8
              unfold kindN
              rw [hz]
              repeat' split
              all_goals omega
            exact ⟨_, [], rfl, ⟨by rw [hk]; rfl, rfl⟩, hw1.sub (by simp) (by simp)⟩
      ·
        have hp3 : ¬ (((n:Int)) = (61:Int)) := of_decide_eq_false hb3
        refine JL_gskip 3 15 true _ rfl rfl hb3 rfl ?_
        refine JL_gskip 3 15 true _ rfl rfl hb3 rfl ?_
        refine JL_gskip 3 15 true _ rfl rfl hb3 rfl ?_
        refine JL_gskip 3 15 true _ rfl rfl hb3 rfl ?_
        refine JL_val _ (Ev_pickF _ rfl hb3 rfl) rfl ?_
        refine JL_nil ?_
        refine JQ_then ?_
        refine JC_condF _ rfl rfl ?_
        refine JC_skip ?_
        refine JQ_then ?_
        refine JC_seq ?_
        refine JC_seq ?_
        refine JC_region ?_
        refine JL_val _ (Ev_move rfl) rfl ?_
        refine JL_val (I64 ((n:Int))) (Ev_len Tryd.underlying22 rfl) rfl ?_
        refine JL_val (.bool (decide (((n:Int)) = (66:Int)))) (Ev_bini rfl rfl fun _ => bin_eql_i _ _) rfl ?_
        refine JL_val _ (Ev_move rfl) rfl ?_
        rcases Bool.eq_false_or_eq_true (decide (((n:Int)) = (66:Int))) with hb9 | hb9
        ·
          have hp9 : ((n:Int)) = (66:Int) := of_decide_eq_true hb9
          refine JL_gval 3 24 true _ _ rfl rfl hb9 (Ev_move rfl) rfl ?_
          refine JL_gval 3 24 true _ (Ptr bz1 oz1) rfl rfl hb9 (Ev_indexSlG 5 1 oz1 Tryd.underlying22 Tryd.sizeOf5 rfl hz1 rfl (by omega) (by omega) (by omega)) rfl ?_
          refine JL_gval 3 24 true _ (U8 (g8 z 0)) rfl rfl hb9 (Ev_load rfl (Ld_one Tryd.isAgg5 (MemAt.seg (MemAt.base hm1.1 hm1.2.1 hm1.2.2) (Seg.get (g8_get (i := 0) (by rw [hz]; omega))) (by omega)))) rfl ?_
          refine JL_gval 3 24 true _ (.bool (decide ((g8 z 0) = (2:UInt8)))) rfl rfl hb9 (Ev_bini rfl rfl fun _ => bin_eql_u8 (g8 z 0) (2:UInt8)) rfl ?_
          refine JL_val _ (Ev_pickT _ rfl hb9 rfl) rfl ?_
          refine JL_val _ (Ev_move rfl) rfl ?_
          rcases Bool.eq_false_or_eq_true (decide ((g8 z 0) = (2:UInt8))) with hb10 | hb10
          ·
            have hp10 : (g8 z 0) = (2:UInt8) := of_decide_eq_true hb10
            refine JL_gval 9 30 true _ _ rfl rfl hb10 (Ev_move rfl) rfl ?_
            refine JL_gval 9 30 true _ (Ptr bz1 (oz1 + 1)) rfl rfl hb10 (Ev_indexSlG 5 1 (oz1 + 1) Tryd.underlying22 Tryd.sizeOf5 rfl hz1 rfl (by omega) (by omega) (by omega)) rfl ?_
            refine JL_gval 9 30 true _ (U8 (g8 z 1)) rfl rfl hb10 (Ev_load rfl (Ld_one Tryd.isAgg5 (MemAt.seg (MemAt.base hm1.1 hm1.2.1 hm1.2.2) (Seg.get (g8_get (i := 1) (by rw [hz]; omega))) (by omega)))) rfl ?_
            refine JL_gval 9 30 true _ (.bool (decide ((0:UInt8) < (g8 z 1)))) rfl rfl hb10 (Ev_bini rfl rfl fun _ => bin_gtr_u8 (g8 z 1) (0:UInt8)) rfl ?_
            refine JL_val _ (Ev_pickT _ rfl hb10 rfl) rfl ?_
            refine JL_val _ (Ev_move rfl) rfl ?_
            rcases Bool.eq_false_or_eq_true (decide ((0:UInt8) < (g8 z 1))) with hb11 | hb11
            ·
              have hp11 : (0:UInt8) < (g8 z 1) := of_decide_eq_true hb11
              refine JL_gval 15 36 true _ _ rfl rfl hb11 (Ev_move rfl) rfl ?_
              refine JL_gval 15 36 true _ (Ptr bz1 (oz1 + 1)) rfl rfl hb11 (Ev_indexSlG 5 1 (oz1 + 1) Tryd.underlying22 Tryd.sizeOf5 rfl hz1 rfl (by omega) (by omega) (by omega)) rfl ?_
              refine JL_gval 15 36 true _ (U8 (g8 z 1)) rfl rfl hb11 (Ev_load rfl (Ld_one Tryd.isAgg5 (MemAt.seg (MemAt.base hm1.1 hm1.2.1 hm1.2.2) (Seg.get (g8_get (i := 1) (by rw [hz]; omega))) (by omega)))) rfl ?_
              refine JL_gval 15 36 true _ (.bool (decide ((g8 z 1) < (33:UInt8)))) rfl rfl hb11 (Ev_bini rfl rfl fun _ => bin_lss_u8 (g8 z 1) (33:UInt8)) rfl ?_
              refine JL_val _ (Ev_pickT _ rfl hb11 rfl) rfl ?_
              refine JL_nil ?_
              refine JQ_then ?_
              refine JC_cond (decide ((g8 z 1) < (33:UInt8))) rfl (fun hb12 => ?_) (fun hb12 => ?_)
              ·
                have hp12 : (g8 z 1) < (33:UInt8) := of_decide_eq_true hb12
                refine JC_seq ?_
                refine JC_region ?_
                refine JL_val _ (Ev_assign rfl) rfl ?_
                refine JL_nil ?_
                refine JQ_then ?_
                refine JC_ret ?_
                refine JQ_then_ret ?_
                refine JQ_ret (I64 (3:Int)) (res1 Tryd.results78 (RV_tmp rfl)) fun w1 hw1 => ?_
                have hk : kindN z = 3 := by
                  try simp only [UInt8.lt_iff_toNat_lt, UInt8.le_iff_toNat_le, ← UInt8.toNat_inj, UInt8.reduceToNat] at hp1
                  try simp only [UInt8.lt_iff_toNat_lt, UInt8.le_iff_toNat_le, ← UInt8.toNat_inj, UInt8.reduceToNat] at hp10
                  try simp only [UInt8.lt_iff_toNat_lt, UInt8.le_iff_toNat_le, ← UInt8.toNat_inj, UInt8.reduceToNat] at hp11
                  try simp only [UInt8.lt_iff_toNat_lt, UInt8.le_iff_toNat_le, ← UInt8.toNat_inj, UInt8.reduceToNat] at hp12
                  try simp only [UInt8.lt_iff_toNat_lt, UInt8.le_iff_toNat_le, ← UInt8.toNat_inj, UInt8.reduceToNat] at hp2
                  try simp only [UInt8.lt_iff_toNat_lt, UInt8.le_iff_toNat_le, ← UInt8.toNat_inj, UInt8.reduceToNat] at hp3
                  try simp only [UInt8.lt_iff_toNat_lt, UInt8.le_iff_toNat_le, ← UInt8.toNat_inj, UInt8.reduceToNat] at hp4
                  try simp only [UInt8.lt_iff_toNat_lt, UInt8.le_iff_toNat_le, ← UInt8.toNat_inj, UInt8.reduceToNat] at hp5
                  try simp only [UInt8.lt_iff_toNat_lt, UInt8.le_iff_toNat_le, ← UInt8.toNat_inj, UInt8.reduceToNat] at hp6
                  try simp only [UInt8.lt_iff_toNat_lt, UInt8.le_iff_toNat_le, ← UInt8.toNat_inj, UInt8.reduceToNat] at hp7
                  try simp only [UInt8.lt_iff_toNat_lt, UInt8.le_iff_toNat_le, ← UInt8.toNat_inj, UInt8.reduceToNat] at hp8
                  try simp only [UInt8.lt_iff_toNat_lt, UInt8.le_iff_toNat_le, ← UInt8.toNat_inj, UInt8.reduceToNat] at hp9
                  unfold kindN
                  rw [hz]
                  repeat' split
                  all_goals omega
                exact ⟨_, [], rfl, ⟨by rw [hk]; rfl, rfl⟩, hw1.sub (by simp) (by simp)⟩
              ·
                have hp12 : ¬ ((g8 z 1) < (33:UInt8)) := of_decide_eq_false hb12
                refine JC_skip ?_
                refine JQ_then ?_
                refine JC_seq ?_
                refine JC_region ?_
                refine JL_val _ (Ev_assign rfl) rfl ?_
                refine JL_nil ?_
                refine JQ_then ?_
                refine JC_ret ?_
                refine JQ_ret (I64 (0:Int)) (res1 Tryd.results78 (RV_tmp rfl)) fun w1 hw1 => ?_
                have hk : kindN z = 0 := by
                  try simp only [UInt8.lt_iff_toNat_lt, UInt8.le_iff_toNat_le, ← UInt8.toNat_inj, UInt8.reduceToNat] at hp1
                  try simp only [UInt8.lt_iff_toNat_lt, UInt8.le_iff_toNat_le, ← UInt8.toNat_inj, UInt8.reduceToNat] at hp10
                  try simp only [UInt8.lt_iff_toNat_lt, UInt8.le_iff_toNat_le, ← UInt8.toNat_inj, UInt8.reduceToNat] at hp11
                  try simp only [UInt8.lt_iff_toNat_lt, UInt8.le_iff_toNat_le, ← UInt8.toNat_inj, UInt8.reduceToNat] at hp12
                  try simp only [UInt8.lt_iff_toNat_lt, UInt8.le_iff_toNat_le, ← UInt8.toNat_inj, UInt8.reduceToNat] at hp2
                  try simp only [UInt8.lt_iff_toNat_lt, UInt8.le_iff_toNat_le, ← UInt8.toNat_inj, UInt8.reduceToNat] at hp3
                  try simp only [UInt8.lt_iff_toNat_lt, UInt8.le_iff_toNat_le, ← UInt8.toNat_inj, UInt8.reduceToNat] at hp4
                  try simp only [UInt8.lt_iff_toNat_lt, UInt8.le_iff_toNat_le, ← UInt8.toNat_inj, UInt8.reduceToNat] at hp5
                  try simp only [UInt8.lt_iff_toNat_lt, UInt8.le_iff_toNat_le, ← UInt8.toNat_inj, UInt8.reduceToNat] at hp6
                  try simp only [UInt8.lt_iff_toNat_lt, UInt8.le_iff_toNat_le, ← UInt8.toNat_inj, UInt8.reduceToNat] at hp7
                  try simp only [UInt8.lt_iff_toNat_lt, UInt8.le_iff_toNat_le, ← UInt8.toNat_inj, UInt8.reduceToNat] at hp8
                  try simp only [UInt8.lt_iff_toNat_lt, UInt8.le_iff_toNat_le, ← UInt8.toNat_inj, UInt8.reduceToNat] at hp9
                  unfold kindN
                  rw [hz]
                  repeat' split
                  all_goals omega
                exact ⟨_, [], rfl, ⟨by rw [hk]; rfl, rfl⟩, hw1.sub (by simp) (by simp)⟩
            ·
              have hp11 : ¬ ((0:UInt8) < (g8 z 1)) := of_decide_eq_false hb11
              refine JL_gskip 15 36 true _ rfl rfl hb11 rfl ?_
              refine JL_gskip 15 36 true _ rfl rfl hb11 rfl ?_
              refine JL_gskip 15 36 true _ rfl rfl hb11 rfl ?_
              refine JL_gskip 15 36 true _ rfl rfl hb11 rfl ?_
              refine JL_val _ (Ev_pickF _ rfl hb11 rfl) rfl ?_
              refine JL_nil ?_
              refine JQ_then ?_
              refine JC_condF _ rfl rfl ?_
              refine JC_skip ?_
              refine JQ_then ?_
              refine JC_seq ?_
              refine JC_region ?_
              refine JL_val _ (Ev_assign rfl) rfl ?_
              refine JL_nil ?_
              refine JQ_then ?_
              refine JC_ret ?_
              refine JQ_ret (I64 (0:Int)) (res1 Tryd.results78 (RV_tmp rfl)) fun w1 hw1 => ?_
              have hk : kindN z = 0 := by
                try simp only [UInt8.lt_iff_toNat_lt, UInt8.le_iff_toNat_le, ← UInt8.toNat_inj, UInt8.reduceToNat] at hp1
                try simp only [UInt8.lt_iff_toNat_lt, UInt8.le_iff_toNat_le, ← UInt8.toNat_inj, UInt8.reduceToNat] at hp10
                try simp only [UInt8.lt_iff_toNat_lt, UInt8.le_iff_toNat_le, ← UInt8.toNat_inj, UInt8.reduceToNat] at hp11
                try simp only [UInt8.lt_iff_toNat_lt, UInt8.le_iff_toNat_le, ← UInt8.toNat_inj, UInt8.reduceToNat] at hp12
                try simp only [UInt8.lt_iff_toNat_lt, UInt8.le_iff_toNat_le, ← UInt8.toNat_inj, UInt8.reduceToNat] at hp2
                try simp only [UInt8.lt_iff_toNat_lt, UInt8.le_iff_toNat_le, ← UInt8.toNat_inj, UInt8.reduceToNat] at hp3
                try simp only [UInt8.lt_iff_toNat_lt, UInt8.le_iff_toNat_le, ← UInt8.toNat_inj, UInt8.reduceToNat] at hp4
                try simp only [UInt8.lt_iff_toNat_lt, UInt8.le_iff_toNat_le, ← UInt8.toNat_inj, UInt8.reduceToNat] at hp5
                try simp only [UInt8.lt_iff_toNat_lt, UInt8.le_iff_toNat_le, ← UInt8.toNat_inj, UInt8.reduceToNat] at hp6
                try simp only [UInt8.lt_iff_toNat_lt, UInt8.le_iff_toNat_le, ← UInt8.toNat_inj, UInt8.reduceToNat] at hp7
                try simp only [UInt8.lt_iff_toNat_lt, UInt8.le_iff_toNat_le, ← UInt8.toNat_inj, UInt8.reduceToNat] at hp8
                try simp only [UInt8.lt_iff_toNat_lt, UInt8.le_iff_toNat_le, ← UInt8.toNat_inj, UInt8.reduceToNat] at hp9
                unfold kindN
                rw [hz]
                repeat' split
                all_goals omega
              exact ⟨_, [], rfl, ⟨by rw [hk]; rfl, rfl⟩, hw1.sub (by simp) (by simp)⟩
          ·
            have hp10 : ¬ ((g8 z 0) = (2:UInt8)) := of_decide_eq_false hb10
            refine JL_gskip 9 30 true _ rfl rfl hb10 rfl ?_
            refine JL_gskip 9 30 true _ rfl rfl hb10 rfl ?_
            refine JL_gskip 9 30 true _ rfl rfl hb10 rfl ?_
            refine JL_gskip 9 30 true _ rfl rfl hb10 rfl ?_
            refine JL_val _ (Ev_pickF _ rfl hb10 rfl) rfl ?_
            refine JL_val _ (Ev_move rfl) rfl ?_
            refine JL_gskip 15 36 true _ rfl rfl rfl rfl ?_
            refine JL_gskip 15 36 true _ rfl rfl rfl rfl ?_
            refine JL_gskip 15 36 true _ rfl rfl rfl rfl ?_
            refine JL_gskip 15 36 true _ rfl rfl rfl rfl ?_
            refine JL_val _ (Ev_pickF _ rfl rfl rfl) rfl ?_
            refine JL_nil ?_
            refine JQ_then ?_
            refine JC_condF _ rfl rfl ?_
            refine JC_skip ?_
            refine JQ_then ?_
            refine JC_seq ?_
            refine JC_region ?_
            refine JL_val _ (Ev_assign rfl) rfl ?_
            refine JL_nil ?_
            refine JQ_then ?_
            refine JC_ret ?_
            refine JQ_ret (I64 (0:Int)) (res1 Tryd.results78 (RV_tmp rfl)) fun w1 hw1 => ?_
            have hk : kindN z = 0 := by
              try simp only [UInt8.lt_iff_toNat_lt, UInt8.le_iff_toNat_le, ← UInt8.toNat_inj, UInt8.reduceToNat] at hp1
              try simp only [UInt8.lt_iff_toNat_lt, UInt8.le_iff_toNat_le, ← UInt8.toNat_inj, UInt8.reduceToNat] at hp10
              try simp only [UInt8.lt_iff_toNat_lt, UInt8.le_iff_toNat_le, ← UInt8.toNat_inj, UInt8.reduceToNat] at hp11
              try simp only [UInt8.lt_iff_toNat_lt, UInt8.le_iff_toNat_le, ← UInt8.toNat_inj, UInt8.reduceToNat] at hp12
              try simp only [UInt8.lt_iff_toNat_lt, UInt8.le_iff_toNat_le, ← UInt8.toNat_inj, UInt8.reduceToNat] at hp2
              try simp only [UInt8.lt_iff_toNat_lt, UInt8.le_iff_toNat_le, ← UInt8.toNat_inj, UInt8.reduceToNat] at hp3
              try simp only [UInt8.lt_iff_toNat_lt, UInt8.le_iff_toNat_le, ← UInt8.toNat_inj, UInt8.reduceToNat] at hp4
              try simp only [UInt8.lt_iff_toNat_lt, UInt8.le_iff_toNat_le, ← UInt8.toNat_inj, UInt8.reduceToNat] at hp5
              try simp only [UInt8.lt_iff_toNat_lt, UInt8.le_iff_toNat_le, ← UInt8.toNat_inj, UInt8.reduceToNat] at hp6
              try simp only [UInt8.lt_iff_toNat_lt, UInt8.le_iff_toNat_le, ← UInt8.toNat_inj, UInt8.reduceToNat] at hp7
              try simp only [UInt8.lt_iff_toNat_lt, UInt8.le_iff_toNat_le, ← UInt8.toNat_inj, UInt8.reduceToNat] at hp8
              try simp only [UInt8.lt_iff_toNat_lt, UInt8.le_iff_toNat_le, ← UInt8.toNat_inj, UInt8.reduceToNat] at hp9
              unfold kindN
              rw [hz]
              repeat' split
              all_goals omega
            exact ⟨_, [], rfl, ⟨by rw [hk]; rfl, rfl⟩, hw1.sub (by simp) (by simp)⟩
        ·
          have hp9 : ¬ (((n:Int)) = (66:Int)) := of_decide_eq_false hb9
          refine JL_gskip 3 24 true _ rfl rfl hb9 rfl ?_
          refine JL_gskip 3 24 true _ rfl rfl hb9 rfl ?_
          refine JL_gskip 3 24 true _ rfl rfl hb9 rfl ?_
          refine JL_gskip 3 24 true _ rfl rfl hb9 rfl ?_
          refine JL_val _ (Ev_pickF _ rfl hb9 rfl) rfl ?_
          refine JL_val _ (Ev_move rfl) rfl ?_
          refine JL_gskip 9 30 true _ rfl rfl rfl rfl ?_
          refine JL_gskip 9 30 true _ rfl rfl rfl rfl ?_
          refine JL_gskip 9 30 true _ rfl rfl rfl rfl ?_
          refine JL_gskip 9 30 true _ rfl rfl rfl rfl ?_
          refine JL_val _ (Ev_pickF _ rfl rfl rfl) rfl ?_
          refine JL_val _ (Ev_move rfl) rfl ?_
          refine JL_gskip 15 36 true _ rfl rfl rfl rfl ?_
          refine JL_gskip 15 36 true _ rfl rfl rfl rfl ?_
          refine JL_gskip 15 36 true _ rfl rfl rfl rfl ?_
          refine JL_gskip 15 36 true _ rfl rfl rfl rfl ?_
          refine JL_val _ (Ev_pickF _ rfl rfl rfl) rfl ?_
          refine JL_nil ?_
          refine JQ_then ?_
          refine JC_condF _ rfl rfl ?_
          refine JC_skip ?_
          refine JQ_then ?_
          refine JC_seq ?_
          refine JC_region ?_
          refine JL_val _ (Ev_assign rfl) rfl ?_
          refine JL_nil ?_
          refine JQ_then ?_
          refine JC_ret ?_
          refine JQ_ret (I64 (0:Int)) (res1 Tryd.results78 (RV_tmp rfl)) fun w1 hw1 => ?_
          have hk : kindN z = 0 := by
            try simp only [UInt8.lt_iff_toNat_lt, UInt8.le_iff_toNat_le, ← UInt8.toNat_inj, UInt8.reduceToNat] at hp1
            try simp only [UInt8.lt_iff_toNat_lt, UInt8.le_iff_toNat_le, ← UInt8.toNat_inj, UInt8.reduceToNat] at hp10
            try simp only [UInt8.lt_iff_toNat_lt, UInt8.le_iff_toNat_le, ← UInt8.toNat_inj, UInt8.reduceToNat] at hp11
            try simp only [UInt8.lt_iff_toNat_lt, UInt8.le_iff_toNat_le, ← UInt8.toNat_inj, UInt8.reduceToNat] at hp12
            try simp only [UInt8.lt_iff_toNat_lt, UInt8.le_iff_toNat_le, ← UInt8.toNat_inj, UInt8.reduceToNat] at hp2
            try simp only [UInt8.lt_iff_toNat_lt, UInt8.le_iff_toNat_le, ← UInt8.toNat_inj, UInt8.reduceToNat] at hp3
            try simp only [UInt8.lt_iff_toNat_lt, UInt8.le_iff_toNat_le, ← UInt8.toNat_inj, UInt8.reduceToNat] at hp4
            try simp only [UInt8.lt_iff_toNat_lt, UInt8.le_iff_toNat_le, ← UInt8.toNat_inj, UInt8.reduceToNat] at hp5
            try simp only [UInt8.lt_iff_toNat_lt, UInt8.le_iff_toNat_le, ← UInt8.toNat_inj, UInt8.reduceToNat] at hp6
            try simp only [UInt8.lt_iff_toNat_lt, UInt8.le_iff_toNat_le, ← UInt8.toNat_inj, UInt8.reduceToNat] at hp7
            try simp only [UInt8.lt_iff_toNat_lt, UInt8.le_iff_toNat_le, ← UInt8.toNat_inj, UInt8.reduceToNat] at hp8
            try simp only [UInt8.lt_iff_toNat_lt, UInt8.le_iff_toNat_le, ← UInt8.toNat_inj, UInt8.reduceToNat] at hp9
            unfold kindN
            rw [hz]
            repeat' split
            all_goals omega
          exact ⟨_, [], rfl, ⟨by rw [hk]; rfl, rfl⟩, hw1.sub (by simp) (by simp)⟩
  ·
    have hp1 : ¬ (((n:Int)) = (1:Int)) := of_decide_eq_false hb1
    refine JL_gskip 3 6 true _ rfl rfl hb1 rfl ?_
    refine JL_gskip 3 6 true _ rfl rfl hb1 rfl ?_
    refine JL_gskip 3 6 true _ rfl rfl hb1 rfl ?_
    refine JL_gskip 3 6 true _ rfl rfl hb1 rfl ?_
    refine JL_val _ (Ev_pickF _ rfl hb1 rfl) rfl ?_
    refine JL_nil ?_
    refine JQ_then ?_
    refine JC_condF _ rfl rfl ?_
    refine JC_skip ?_
    refine JQ_then ?_
    refine JC_seq ?_
    refine JC_seq ?_
    refine JC_region ?_
    refine JL_val _ (Ev_move rfl) rfl ?_
    refine JL_val (I64 ((n:Int))) (Ev_len Tryd.underlying22 rfl) rfl ?_
    refine JL_val (.bool (decide (((n:Int)) = (61:Int)))) (Ev_bini rfl rfl fun _ => bin_eql_i _ _) rfl ?_
    refine JL_val _ (Ev_move rfl) rfl ?_
    rcases Bool.eq_false_or_eq_true (decide (((n:Int)) = (61:Int))) with hb13 | hb13
    ·
      have hp13 : ((n:Int)) = (61:Int) := of_decide_eq_true hb13
      refine JL_gval 3 15 true _ _ rfl rfl hb13 (Ev_move rfl) rfl ?_
      obtain ⟨bz2, oz2, hz2, hm2⟩ := hr.pos (by rw [hz]; omega)
      refine JL_gval 3 15 true _ (Ptr bz2 oz2) rfl rfl hb13 (Ev_indexSlG 5 1 oz2 Tryd.underlying22 Tryd.sizeOf5 rfl hz2 rfl (by omega) (by omega) (by omega)) rfl ?_
      refine JL_gval 3 15 true _ (U8 (g8 z 0)) rfl rfl hb13 (Ev_load rfl (Ld_one Tryd.isAgg5 (MemAt.seg (MemAt.base hm2.1 hm2.2.1 hm2.2.2) (Seg.get (g8_get (i := 0) (by rw [hz]; omega))) (by omega)))) rfl ?_
      refine JL_gval 3 15 true _ (.bool (decide ((g8 z 0) = (1:UInt8)))) rfl rfl hb13 (Ev_bini rfl rfl fun _ => bin_eql_u8 (g8 z 0) (1:UInt8)) rfl ?_
      refine JL_val _ (Ev_pickT _ rfl hb13 rfl) rfl ?_
      refine JL_nil ?_
      refine JQ_then ?_
      refine JC_cond (decide ((g8 z 0) = (1:UInt8))) rfl (fun hb14 => ?_) (fun hb14 => ?_)
      ·
        have hp14 : (g8 z 0) = (1:UInt8) := of_decide_eq_true hb14
        refine JC_seq ?_
        refine JC_region ?_
        refine JL_val _ (Ev_assign rfl) rfl ?_
        refine JL_nil ?_
        refine JQ_then ?_
        refine JC_ret ?_
        refine JQ_then_ret ?_
        refine JQ_ret (I64 (2:Int)) (res1 Tryd.results78 (RV_tmp rfl)) fun w1 hw1 => ?_
        have hk : kindN z = 2 := by
          try simp only [UInt8.lt_iff_toNat_lt, UInt8.le_iff_toNat_le, ← UInt8.toNat_inj, UInt8.reduceToNat] at hp1
          try simp only [UInt8.lt_iff_toNat_lt, UInt8.le_iff_toNat_le, ← UInt8.toNat_inj, UInt8.reduceToNat] at hp10
          try simp only [UInt8.lt_iff_toNat_lt, UInt8.le_iff_toNat_le, ← UInt8.toNat_inj, UInt8.reduceToNat] at hp11
          try simp only [UInt8.lt_iff_toNat_lt, UInt8.le_iff_toNat_le, ← UInt8.toNat_inj, UInt8.reduceToNat] at hp12
          try simp only [UInt8.lt_iff_toNat_lt, UInt8.le_iff_toNat_le, ← UInt8.toNat_inj, UInt8.reduceToNat] at hp13
          try simp only [UInt8.lt_iff_toNat_lt, UInt8.le_iff_toNat_le, ← UInt8.toNat_inj, UInt8.reduceToNat] at hp14
          try simp only [UInt8.lt_iff_toNat_lt, UInt8.le_iff_toNat_le, ← UInt8.toNat_inj, UInt8.reduceToNat] at hp2
          try simp only [UInt8.lt_iff_toNat_lt, UInt8.le_iff_toNat_le, ← UInt8.toNat_inj, UInt8.reduceToNat] at hp3
          try simp only [UInt8.lt_iff_toNat_lt, UInt8.le_iff_toNat_le, ← UInt8.toNat_inj, UInt8.reduceToNat] at hp4
          try simp only [UInt8.lt_iff_toNat_lt, UInt8.le_iff_toNat_le, ← UInt8.toNat_inj, UInt8.reduceToNat] at hp5
          try simp only [UInt8.lt_iff_toNat_lt, UInt8.le_iff_toNat_le, ← UInt8.toNat_inj, UInt8.reduceToNat] at hp6
          try simp only [UInt8.lt_iff_toNat_lt, UInt8.le_iff_toNat_le, ← UInt8.toNat_inj, UInt8.reduceToNat] at hp7
          try simp only [UInt8.lt_iff_toNat_lt, UInt8.le_iff_toNat_le, ← UInt8.toNat_inj, UInt8.reduceToNat] at hp8
          try simp only [UInt8.lt_iff_toNat_lt, UInt8.le_iff_toNat_le, ← UInt8.toNat_inj, UInt8.reduceToNat] at hp9
          unfold kindN
          rw [hz]
          repeat' split
          all_goals omega
        exact ⟨_, [], rfl, ⟨by rw [hk]; rfl, rfl⟩, hw1.sub (by simp) (by simp)⟩
      ·
        have hp14 : ¬ ((g8 z 0) = (1:UInt8)) := of_decide_eq_false hb14
        refine JC_skip ?_
        refine JQ_then ?_
        refine JC_seq ?_
        refine JC_seq ?_
        refine JC_region ?_
        refine JL_val _ (Ev_move rfl) rfl ?_
        refine JL_val (I64 ((n:Int))) (Ev_len Tryd.underlying22 rfl) rfl ?_
        refine JL_val (.bool (decide (((n:Int)) = (66:Int)))) (Ev_bini rfl rfl fun _ => bin_eql_i _ _) rfl ?_
        refine JL_val _ (Ev_move rfl) rfl ?_
        rcases Bool.eq_false_or_eq_true (decide (((n:Int)) = (66:Int))) with hb15 | hb15
        ·
          have hp15 : ((n:Int)) = (66:Int) := of_decide_eq_true hb15
          refine JL_gval 3 24 true _ _ rfl rfl hb15 (Ev_move rfl) rfl ?_
          refine JL_gval 3 24 true _ (Ptr bz2 oz2) rfl rfl hb15 (Ev_indexSlG 5 1 oz2 Tryd.underlying22 Tryd.sizeOf5 rfl hz2 rfl (by omega) (by omega) (by omega)) rfl ?_
          refine JL_gval 3 24 true _ (U8 (g8 z 0)) rfl rfl hb15 (Ev_load rfl (Ld_one Tryd.isAgg5 (MemAt.seg (MemAt.base hm2.1 hm2.2.1 hm2.2.2) (Seg.get (g8_get (i := 0) (by rw [hz]; omega))) (by omega)))) rfl ?_
          refine JL_gval 3 24 true _ (.bool (decide ((g8 z 0) = (2:UInt8)))) rfl rfl hb15 (Ev_bini rfl rfl fun _ => bin_eql_u8 (g8 z 0) (2:UInt8)) rfl ?_
          refine JL_val _ (Ev_pickT _ rfl hb15 rfl) rfl ?_
          refine JL_val _ (Ev_move rfl) rfl ?_
          rcases Bool.eq_false_or_eq_true (decide ((g8 z 0) = (2:UInt8))) with hb16 | hb16
          ·
            have hp16 : (g8 z 0) = (2:UInt8) := of_decide_eq_true hb16
            refine JL_gval 9 30 true _ _ rfl rfl hb16 (Ev_move rfl) rfl ?_
            refine JL_gval 9 30 true _ (Ptr bz2 (oz2 + 1)) rfl rfl hb16 (Ev_indexSlG 5 1 (oz2 + 1) Tryd.underlying22 Tryd.sizeOf5 rfl hz2 rfl (by omega) (by omega) (by omega)) rfl ?_
            refine JL_gval 9 30 true _ (U8 (g8 z 1)) rfl rfl hb16 (Ev_load rfl (Ld_one Tryd.isAgg5 (MemAt.seg (MemAt.base hm2.1 hm2.2.1 hm2.2.2) (Seg.get (g8_get (i := 1) (by rw [hz]; omega))) (by omega)))) rfl ?_
            refine JL_gval 9 30 true _ (.bool (decide ((0:UInt8) < (g8 z 1)))) rfl rfl hb16 (Ev_bini rfl rfl fun _ => bin_gtr_u8 (g8 z 1) (0:UInt8)) rfl ?_
            refine JL_val _ (Ev_pickT _ rfl hb16 rfl) rfl ?_
            refine JL_val _ (Ev_move rfl) rfl ?_
            rcases Bool.eq_false_or_eq_true (decide ((0:UInt8) < (g8 z 1))) with hb17 | hb17
            ·
              have hp17 : (0:UInt8) < (g8 z 1) := of_decide_eq_true hb17
              refine JL_gval 15 36 true _ _ rfl rfl hb17 (Ev_move rfl) rfl ?_
              refine JL_gval 15 36 true _ (Ptr bz2 (oz2 + 1)) rfl rfl hb17 (Ev_indexSlG 5 1 (oz2 + 1) Tryd.underlying22 Tryd.sizeOf5 rfl hz2 rfl (by omega) (by omega) (by omega)) rfl ?_
              refine JL_gval 15 36 true _ (U8 (g8 z 1)) rfl rfl hb17 (Ev_load rfl (Ld_one Tryd.isAgg5 (MemAt.seg (MemAt.base hm2.1 hm2.2.1 hm2.2.2) (Seg.get (g8_get (i := 1) (by rw [hz]; omega))) (by omega)))) rfl ?_
              refine JL_gval 15 36 true _ (.bool (decide ((g8 z 1) < (33:UInt8)))) rfl rfl hb17 (Ev_bini rfl rfl fun _ => bin_lss_u8 (g8 z 1) (33:UInt8)) rfl ?_
              refine JL_val _ (Ev_pickT _ rfl hb17 rfl) rfl ?_
              refine JL_nil ?_
              refine JQ_then ?_
              refine JC_cond (decide ((g8 z 1) < (33:UInt8))) rfl (fun hb18 => ?_) (fun hb18 => ?_)
              ·
                have hp18 : (g8 z 1) < (33:UInt8) := of_decide_eq_true hb18
                refine JC_seq ?_
                refine JC_region ?_
                refine JL_val _ (Ev_assign rfl) rfl ?_
                refine JL_nil ?_
                refine JQ_then ?_
                refine JC_ret ?_
                refine JQ_then_ret ?_
                refine JQ_ret (I64 (3:Int)) (res1 Tryd.results78 (RV_tmp rfl)) fun w1 hw1 => ?_
                have hk : kindN z = 3 := by
                  try simp only [UInt8.lt_iff_toNat_lt, UInt8.le_iff_toNat_le, ← UInt8.toNat_inj, UInt8.reduceToNat] at hp1
                  try simp only [UInt8.lt_iff_toNat_lt, UInt8.le_iff_toNat_le, ← UInt8.toNat_inj, UInt8.reduceToNat] at hp10
                  try simp only [UInt8.lt_iff_toNat_lt, UInt8.le_iff_toNat_le, ← UInt8.toNat_inj, UInt8.reduceToNat] at hp11
                  try simp only [UInt8.lt_iff_toNat_lt, UInt8.le_iff_toNat_le, ← UInt8.toNat_inj, UInt8.reduceToNat] at hp12
                  try simp only [UInt8.lt_iff_toNat_lt, UInt8.le_iff_toNat_le, ← UInt8.toNat_inj, UInt8.reduceToNat] at hp13
                  try simp only [UInt8.lt_iff_toNat_lt, UInt8.le_iff_toNat_le, ← UInt8.toNat_inj, UInt8.reduceToNat] at hp14
                  try simp only [UInt8.lt_iff_toNat_lt, UInt8.le_iff_toNat_le, ← UInt8.toNat_inj, UInt8.reduceToNat] at hp15
                  try simp only [UInt8.lt_iff_toNat_lt, UInt8.le_iff_toNat_le, ← UInt8.toNat_inj, UInt8.reduceToNat] at hp16
                  try simp only [UInt8.lt_iff_toNat_lt, UInt8.le_iff_toNat_le, ← UInt8.toNat_inj, UInt8.reduceToNat] at hp17
                  try simp only [UInt8.lt_iff_toNat_lt, UInt8.le_iff_toNat_le, ← UInt8.toNat_inj, UInt8.reduceToNat] at hp18
                  try simp only [UInt8.lt_iff_toNat_lt, UInt8.le_iff_toNat_le, ← UInt8.toNat_inj, UInt8.reduceToNat] at hp2
                  try simp only [UInt8.lt_iff_toNat_lt, UInt8.le_iff_toNat_le, ← UInt8.toNat_inj, UInt8.reduceToNat] at hp3
                  try simp only [UInt8.lt_iff_toNat_lt, UInt8.le_iff_toNat_le, ← UInt8.toNat_inj, UInt8.reduceToNat] at hp4
                  try simp only [UInt8.lt_iff_toNat_lt, UInt8.le_iff_toNat_le, ← UInt8.toNat_inj, UInt8.reduceToNat] at hp5
                  try simp only [UInt8.lt_iff_toNat_lt, UInt8.le_iff_toNat_le, ← UInt8.toNat_inj, UInt8.reduceToNat] at hp6
                  try simp only [UInt8.lt_iff_toNat_lt, UInt8.le_iff_toNat_le, ← UInt8.toNat_inj, UInt8.reduceToNat] at hp7
                  try simp only [UInt8.lt_iff_toNat_lt, UInt8.le_iff_toNat_le, ← UInt8.toNat_inj, UInt8.reduceToNat] at hp8
                  try simp only [UInt8.lt_iff_toNat_lt, UInt8.le_iff_toNat_le, ← UInt8.toNat_inj, UInt8.reduceToNat] at hp9
                  unfold kindN
                  rw [hz]
                  repeat' split
                  all_goals omega
                exact ⟨_, [], rfl, ⟨by rw [hk]; rfl, rfl⟩, hw1.sub (by simp) (by simp)⟩
              ·
                have hp18 : ¬ ((g8 z 1) < (33:UInt8)) := of_decide_eq_false hb18
                refine JC_skip ?_
                refine JQ_then ?_
                refine JC_seq ?_
                refine JC_region ?_
                refine JL_val _ (Ev_assign rfl) rfl ?_
                refine JL_nil ?_
                refine JQ_then ?_
                refine JC_ret ?_
                refine JQ_ret (I64 (0:Int)) (res1 Tryd.results78 (RV_tmp rfl)) fun w1 hw1 => ?_
                have hk : kindN z = 0 := by
                  try simp only [UInt8.lt_iff_toNat_lt, UInt8.le_iff_toNat_le, ← UInt8.toNat_inj, UInt8.reduceToNat] at hp1
                  try simp only [UInt8.lt_iff_toNat_lt, UInt8.le_iff_toNat_le, ← UInt8.toNat_inj, UInt8.reduceToNat] at hp10
                  try simp only [UInt8.lt_iff_toNat_lt, UInt8.le_iff_toNat_le, ← UInt8.toNat_inj, UInt8.reduceToNat] at hp11
                  try simp only [UInt8.lt_iff_toNat_lt, UInt8.le_iff_toNat_le, ← UInt8.toNat_inj, UInt8.reduceToNat] at hp12
                  try simp only [UInt8.lt_iff_toNat_lt, UInt8.le_iff_toNat_le, ← UInt8.toNat_inj, UInt8.reduceToNat] at hp13
                  try simp only [UInt8.lt_iff_toNat_lt, UInt8.le_iff_toNat_le, ← UInt8.toNat_inj, UInt8.reduceToNat] at hp14
                  try simp only [UInt8.lt_iff_toNat_lt, UInt8.le_iff_toNat_le, ← UInt8.toNat_inj, UInt8.reduceToNat] at hp15
                  try simp only [UInt8.lt_iff_toNat_lt, UInt8.le_iff_toNat_le, ← UInt8.toNat_inj, UInt8.reduceToNat] at hp16
                  try simp only [UInt8.lt_iff_toNat_lt, UInt8.le_iff_toNat_le, ← UInt8.toNat_inj, UInt8.reduceToNat] at hp17
                  try simp only [UInt8.lt_iff_toNat_lt, UInt8.le_iff_toNat_le, ← UInt8.toNat_inj, UInt8.reduceToNat] at hp18
                  try simp only [UInt8.lt_iff_toNat_lt, UInt8.le_iff_toNat_le, ← UInt8.toNat_inj, UInt8.reduceToNat] at hp2
                  try simp only [UInt8.lt_iff_toNat_lt, UInt8.le_iff_toNat_le, ← UInt8.toNat_inj, UInt8.reduceToNat] at hp3
                  try simp only [UInt8.lt_iff_toNat_lt, UInt8.le_iff_toNat_le, ← UInt8.toNat_inj, UInt8.reduceToNat] at hp4
                  try simp only [UInt8.lt_iff_toNat_lt, UInt8.le_iff_toNat_le, ← UInt8.toNat_inj, UInt8.reduceToNat] at hp5
                  try simp only [UInt8.lt_iff_toNat_lt, UInt8.le_iff_toNat_le, ← UInt8.toNat_inj, UInt8.reduceToNat] at hp6
                  try simp only [UInt8.lt_iff_toNat_lt, UInt8.le_iff_toNat_le, ← UInt8.toNat_inj, UInt8.reduceToNat] at hp7
                  try simp only [UInt8.lt_iff_toNat_lt, UInt8.le_iff_toNat_le, ← UInt8.toNat_inj, UInt8.reduceToNat] at hp8
                  try simp only [UInt8.lt_iff_toNat_lt, UInt8.le_iff_toNat_le, ← UInt8.toNat_inj, UInt8.reduceToNat] at hp9
                  unfold kindN
                  rw [hz]
                  repeat' split
                  all_goals omega
                exact ⟨_, [], rfl, ⟨by rw [hk]; rfl, rfl⟩, hw1.sub (by simp) (by simp)⟩
            ·
              have hp17 : ¬ ((0:UInt8) < (g8 z 1)) := of_decide_eq_false hb17
              refine JL_gskip 15 36 true _ rfl rfl hb17 rfl ?_
              refine JL_gskip 15 36 true _ rfl rfl hb17 rfl ?_
              refine JL_gskip 15 36 true _ rfl rfl hb17 rfl ?_
              refine JL_gskip 15 36 true _ rfl rfl hb17 rfl ?_
              refine JL_val _ (Ev_pickF _ rfl hb17 rfl) rfl ?_
              refine JL_nil ?_
              refine JQ_then ?_
              refine JC_condF _ rfl rfl ?_
              refine JC_skip ?_
              refine JQ_then ?_
              refine JC_seq ?_
              refine JC_region ?_
              refine JL_val _ (Ev_assign rfl) rfl ?_
              refine JL_nil ?_
              refine JQ_then ?_
              refine JC_ret ?_
              refine JQ_ret (I64 (0:Int)) (res1 Tryd.results78 (RV_tmp rfl)) fun w1 hw1 => ?_
              have hk : kindN z = 0 := by
                try simp only [UInt8.lt_iff_toNat_lt, UInt8.le_iff_toNat_le, ← UInt8.toNat_inj, UInt8.reduceToNat] at hp1
                try simp only [UInt8.lt_iff_toNat_lt, UInt8.le_iff_toNat_le, ← UInt8.toNat_inj, UInt8.reduceToNat] at hp10
                try simp only [UInt8.lt_iff_toNat_lt, UInt8.le_iff_toNat_le, ← UInt8.toNat_inj, UInt8.reduceToNat] at hp11
                try simp only [UInt8.lt_iff_toNat_lt, UInt8.le_iff_toNat_le, ← UInt8.toNat_inj, UInt8.reduceToNat] at hp12
                try simp only [UInt8.lt_iff_toNat_lt, UInt8.le_iff_toNat_le, ← UInt8.toNat_inj, UInt8.reduceToNat] at hp13
                try simp only [UInt8.lt_iff_toNat_lt, UInt8.le_iff_toNat_le, ← UInt8.toNat_inj, UInt8.reduceToNat] at hp14
                try simp only [UInt8.lt_iff_toNat_lt, UInt8.le_iff_toNat_le, ← UInt8.toNat_inj, UInt8.reduceToNat] at hp15
                try simp only [UInt8.lt_iff_toNat_lt, UInt8.le_iff_toNat_le, ← UInt8.toNat_inj, UInt8.reduceToNat] at hp16
                try simp only [UInt8.lt_iff_toNat_lt, UInt8.le_iff_toNat_le, ← UInt8.toNat_inj, UInt8.reduceToNat] at hp17
                try simp only [UInt8.lt_iff_toNat_lt, UInt8.le_iff_toNat_le, ← UInt8.toNat_inj, UInt8.reduceToNat] at hp18
                try simp only [UInt8.lt_iff_toNat_lt, UInt8.le_iff_toNat_le, ← UInt8.toNat_inj, UInt8.reduceToNat] at hp2
                try simp only [UInt8.lt_iff_toNat_lt, UInt8.le_iff_toNat_le, ← UInt8.toNat_inj, UInt8.reduceToNat] at hp3
                try simp only [UInt8.lt_iff_toNat_lt, UInt8.le_iff_toNat_le, ← UInt8.toNat_inj, UInt8.reduceToNat] at hp4
                try simp only [UInt8.lt_iff_toNat_lt, UInt8.le_iff_toNat_le, ← UInt8.toNat_inj, UInt8.reduceToNat] at hp5
                try simp only [UInt8.lt_iff_toNat_lt, UInt8.le_iff_toNat_le, ← UInt8.toNat_inj, UInt8.reduceToNat] at hp6
                try simp only [UInt8.lt_iff_toNat_lt, UInt8.le_iff_toNat_le, ← UInt8.toNat_inj, UInt8.reduceToNat] at hp7
                try simp only [UInt8.lt_iff_toNat_lt, UInt8.le_iff_toNat_le, ← UInt8.toNat_inj, UInt8.reduceToNat] at hp8
                try simp only [UInt8.lt_iff_toNat_lt, UInt8.le_iff_toNat_le, ← UInt8.toNat_inj, UInt8.reduceToNat] at hp9
                unfold kindN
                rw [hz]
                repeat' split
                all_goals omega
              exact ⟨_, [], rfl, ⟨by rw [hk]; rfl, rfl⟩, hw1.sub (by simp) (by simp)⟩
          ·
            have hp16 : ¬ ((g8 z 0) = (2:UInt8)) := of_decide_eq_false hb16
            refine JL_gskip 9 30 true _ rfl rfl hb16 rfl ?_
            refine JL_gskip 9 30 true _ rfl rfl hb16 rfl ?_
            refine JL_gskip 9 30 true _ rfl rfl hb16 rfl ?_
            refine JL_gskip 9 30 true _ rfl rfl hb16 rfl ?_
            refine JL_val _ (Ev_pickF _ rfl hb16 rfl) rfl ?_
            refine JL_val _ (Ev_move rfl) rfl ?_
            refine JL_gskip 15 36 true _ rfl rfl rfl rfl ?_
            refine JL_gskip 15 36 true _ rfl rfl rfl rfl ?_
            refine JL_gskip 15 36 true _ rfl rfl rfl rfl ?_
            refine JL_gskip 15 36 true _ rfl rfl rfl rfl ?_
            refine JL_val _ (Ev_pickF _ rfl rfl rfl) rfl ?_
            refine JL_nil ?_
            refine JQ_then ?_
            refine JC_condF _ rfl rfl ?_
            refine JC_skip ?_
            refine JQ_then ?_
            refine JC_seq ?_
            refine JC_region ?_
            refine JL_val _ (Ev_assign rfl) rfl ?_
            refine JL_nil ?_
            refine JQ_then ?_
            refine JC_ret ?_
            refine JQ_ret (I64 (0:Int)) (res1 Tryd.results78 (RV_tmp rfl)) fun w1 hw1 => ?_
            have hk : kindN z = 0 := by
              try simp only [UInt8.lt_iff_toNat_lt, UInt8.le_iff_toNat_le, ← UInt8.toNat_inj, UInt8.reduceToNat] at hp1
              try simp only [UInt8.lt_iff_toNat_lt, UInt8.le_iff_toNat_le, ← UInt8.toNat_inj, UInt8.reduceToNat] at hp10
              try simp only [UInt8.lt_iff_toNat_lt, UInt8.le_iff_toNat_le, ← UInt8.toNat_inj, UInt8.reduceToNat] at hp11
              try simp only [UInt8.lt_iff_toNat_lt, UInt8.le_iff_toNat_le, ← UInt8.toNat_inj, UInt8.reduceToNat] at hp12
              try simp only [UInt8.lt_iff_toNat_lt, UInt8.le_iff_toNat_le, ← UInt8.toNat_inj, UInt8.reduceToNat] at hp13
              try simp only [UInt8.lt_iff_toNat_lt, UInt8.le_iff_toNat_le, ← UInt8.toNat_inj, UInt8.reduceToNat] at hp14
              try simp only [UInt8.lt_iff_toNat_lt, UInt8.le_iff_toNat_le, ← UInt8.toNat_inj, UInt8.reduceToNat] at hp15
              try simp only [UInt8.lt_iff_toNat_lt, UInt8.le_iff_toNat_le, ← UInt8.toNat_inj, UInt8.reduceToNat] at hp16
              try simp only [UInt8.lt_iff_toNat_lt, UInt8.le_iff_toNat_le, ← UInt8.toNat_inj, UInt8.reduceToNat] at hp17
              try simp only [UInt8.lt_iff_toNat_lt, UInt8.le_iff_toNat_le, ← UInt8.toNat_inj, UInt8.reduceToNat] at hp18
              try simp only [UInt8.lt_iff_toNat_lt, UInt8.le_iff_toNat_le, ← UInt8.toNat_inj, UInt8.reduceToNat] at hp2
              try simp only [UInt8.lt_iff_toNat_lt, UInt8.le_iff_toNat_le, ← UInt8.toNat_inj, UInt8.reduceToNat] at hp3
              try simp only [UInt8.lt_iff_toNat_lt, UInt8.le_iff_toNat_le, ← UInt8.toNat_inj, UInt8.reduceToNat] at hp4
              try simp only [UInt8.lt_iff_toNat_lt, UInt8.le_iff_toNat_le, ← UInt8.toNat_inj, UInt8.reduceToNat] at hp5
              try simp only [UInt8.lt_iff_toNat_lt, UInt8.le_iff_toNat_le, ← UInt8.toNat_inj, UInt8.reduceToNat] at hp6
              try simp only [UInt8.lt_iff_toNat_lt, UInt8.le_iff_toNat_le, ← UInt8.toNat_inj, UInt8.reduceToNat] at hp7
              try simp only [UInt8.lt_iff_toNat_lt, UInt8.le_iff_toNat_le, ← UInt8.toNat_inj, UInt8.reduceToNat] at hp8
              try simp only [UInt8.lt_iff_toNat_lt, UInt8.le_iff_toNat_le, ← UInt8.toNat_inj, UInt8.reduceToNat] at hp9
              unfold kindN
              rw [hz]
              repeat' split
              all_goals omega
            exact ⟨_, [], rfl, ⟨by rw [hk]; rfl, rfl⟩, hw1.sub (by simp) (by simp)⟩
        ·
          have hp15 : ¬ (((n:Int)) = (66:Int)) := of_decide_eq_false hb15
          refine JL_gskip 3 24 true _ rfl rfl hb15 rfl ?_
          refine JL_gskip 3 24 true _ rfl rfl hb15 rfl ?_
          refine JL_gskip 3 24 true _ rfl rfl hb15 rfl ?_
          refine JL_gskip 3 24 true _ rfl rfl hb15 rfl ?_
          refine JL_val _ (Ev_pickF _ rfl hb15 rfl) rfl ?_
          refine JL_val _ (Ev_move rfl) rfl ?_
          refine JL_gskip 9 30 true _ rfl rfl rfl rfl ?_
          refine JL_gskip 9 30 true _ rfl rfl rfl rfl ?_
          refine JL_gskip 9 30 true _ rfl rfl rfl rfl ?_
          refine JL_gskip 9 30 true _ rfl rfl rfl rfl ?_
          refine JL_val _ (Ev_pickF _ rfl rfl rfl) rfl ?_
          refine JL_val _ (Ev_move rfl) rfl ?_
          refine JL_gskip 15 36 true _ rfl rfl rfl rfl ?_
          refine JL_gskip 15 36 true _ rfl rfl rfl rfl ?_
          refine JL_gskip 15 36 true _ rfl rfl rfl rfl ?_
          refine JL_gskip 15 36 true _ rfl rfl rfl rfl ?_
          refine JL_val _ (Ev_pickF _ rfl rfl rfl) rfl ?_
          refine JL_nil ?_
          refine JQ_then ?_
          refine JC_condF _ rfl rfl ?_
          refine JC_skip ?_
          refine JQ_then ?_
          refine JC_seq ?_
          refine JC_region ?_
          refine JL_val _ (Ev_assign rfl) rfl ?_
          refine JL_nil ?_
          refine JQ_then ?_
          refine JC_ret ?_
          refine JQ_ret (I64 (0:Int)) (res1 Tryd.results78 (RV_tmp rfl)) fun w1 hw1 => ?_
          have hk : kindN z = 0 := by
            try simp only [UInt8.lt_iff_toNat_lt, UInt8.le_iff_toNat_le, ← UInt8.toNat_inj, UInt8.reduceToNat] at hp1
            try simp only [UInt8.lt_iff_toNat_lt, UInt8.le_iff_toNat_le, ← UInt8.toNat_inj, UInt8.reduceToNat] at hp10
            try simp only [UInt8.lt_iff_toNat_lt, UInt8.le_iff_toNat_le, ← UInt8.toNat_inj, UInt8.reduceToNat] at hp11
            try simp only [UInt8.lt_iff_toNat_lt, UInt8.le_iff_toNat_le, ← UInt8.toNat_inj, UInt8.reduceToNat] at hp12
            try simp only [UInt8.lt_iff_toNat_lt, UInt8.le_iff_toNat_le, ← UInt8.toNat_inj, UInt8.reduceToNat] at hp13
            try simp only [UInt8.lt_iff_toNat_lt, UInt8.le_iff_toNat_le, ← UInt8.toNat_inj, UInt8.reduceToNat] at hp14
            try simp only [UInt8.lt_iff_toNat_lt, UInt8.le_iff_toNat_le, ← UInt8.toNat_inj, UInt8.reduceToNat] at hp15
            try simp only [UInt8.lt_iff_toNat_lt, UInt8.le_iff_toNat_le, ← UInt8.toNat_inj, UInt8.reduceToNat] at hp16
            try simp only [UInt8.lt_iff_toNat_lt, UInt8.le_iff_toNat_le, ← UInt8.toNat_inj, UInt8.reduceToNat] at hp17
            try simp only [UInt8.lt_iff_toNat_lt, UInt8.le_iff_toNat_le, ← UInt8.toNat_inj, UInt8.reduceToNat] at hp18
            try simp only [UInt8.lt_iff_toNat_lt, UInt8.le_iff_toNat_le, ← UInt8.toNat_inj, UInt8.reduceToNat] at hp2
            try simp only [UInt8.lt_iff_toNat_lt, UInt8.le_iff_toNat_le, ← UInt8.toNat_inj, UInt8.reduceToNat] at hp3
            try simp only [UInt8.lt_iff_toNat_lt, UInt8.le_iff_toNat_le, ← UInt8.toNat_inj, UInt8.reduceToNat] at hp4
            try simp only [UInt8.lt_iff_toNat_lt, UInt8.le_iff_toNat_le, ← UInt8.toNat_inj, UInt8.reduceToNat] at hp5
            try simp only [UInt8.lt_iff_toNat_lt, UInt8.le_iff_toNat_le, ← UInt8.toNat_inj, UInt8.reduceToNat] at hp6
            try simp only [UInt8.lt_iff_toNat_lt, UInt8.le_iff_toNat_le, ← UInt8.toNat_inj, UInt8.reduceToNat] at hp7
            try simp only [UInt8.lt_iff_toNat_lt, UInt8.le_iff_toNat_le, ← UInt8.toNat_inj, UInt8.reduceToNat] at hp8
            try simp only [UInt8.lt_iff_toNat_lt, UInt8.le_iff_toNat_le, ← UInt8.toNat_inj, UInt8.reduceToNat] at hp9
            unfold kindN
            rw [hz]
            repeat' split
            all_goals omega
          exact ⟨_, [], rfl, ⟨by rw [hk]; rfl, rfl⟩, hw1.sub (by simp) (by simp)⟩
    ·
      have hp13 : ¬ (((n:Int)) = (61:Int)) := of_decide_eq_false hb13
      refine JL_gskip 3 15 true _ rfl rfl hb13 rfl ?_
      refine JL_gskip 3 15 true _ rfl rfl hb13 rfl ?_
      refine JL_gskip 3 15 true _ rfl rfl hb13 rfl ?_
      refine JL_gskip 3 15 true _ rfl rfl hb13 rfl ?_
      refine JL_val _ (Ev_pickF _ rfl hb13 rfl) rfl ?_
      refine JL_nil ?_
      refine JQ_then ?_
      refine JC_condF _ rfl rfl ?_
      refine JC_skip ?_
      refine JQ_then ?_
      refine JC_seq ?_
      refine JC_seq ?_
      refine JC_region ?_
      refine JL_val _ (Ev_move rfl) rfl ?_
      refine JL_val (I64 ((n:Int))) (Ev_len Tryd.underlying22 rfl) rfl ?_
      refine JL_val (.bool (decide (((n:Int)) = (66:Int)))) (Ev_bini rfl rfl fun _ => bin_eql_i _ _) rfl ?_
      refine JL_val _ (Ev_move rfl) rfl ?_
      rcases Bool.eq_false_or_eq_true (decide (((n:Int)) = (66:Int))) with hb19 | hb19
      ·
        have hp19 : ((n:Int)) = (66:Int) := of_decide_eq_true hb19
        refine JL_gval 3 24 true _ _ rfl rfl hb19 (Ev_move rfl) rfl ?_
        obtain ⟨bz3, oz3, hz3, hm3⟩ := hr.pos (by rw [hz]; omega)
        refine JL_gval 3 24 true _ (Ptr bz3 oz3) rfl rfl hb19 (Ev_indexSlG 5 1 oz3 Tryd.underlying22 Tryd.sizeOf5 rfl hz3 rfl (by omega) (by omega) (by omega)) rfl ?_
        refine JL_gval 3 24 true _ (U8 (g8 z 0)) rfl rfl hb19 (Ev_load rfl (Ld_one Tryd.isAgg5 (MemAt.seg (MemAt.base hm3.1 hm3.2.1 hm3.2.2) (Seg.get (g8_get (i := 0) (by rw [hz]; omega))) (by omega)))) rfl ?_
        refine JL_gval 3 24 true _ (.bool (decide ((g8 z 0) = (2:UInt8)))) rfl rfl hb19 (Ev_bini rfl rfl fun _ => bin_eql_u8 (g8 z 0) (2:UInt8)) rfl ?_
        refine JL_val _ (Ev_pickT _ rfl hb19 rfl) rfl ?_
        refine JL_val _ (Ev_move rfl) rfl ?_
        rcases Bool.eq_false_or_eq_true (decide ((g8 z 0) = (2:UInt8))) with hb20 | hb20
        ·
          have hp20 : (g8 z 0) = (2:UInt8) := of_decide_eq_true hb20
          refine JL_gval 9 30 true _ _ rfl rfl hb20 (Ev_move rfl) rfl ?_
          refine JL_gval 9 30 true _ (Ptr bz3 (oz3 + 1)) rfl rfl hb20 (Ev_indexSlG 5 1 (oz3 + 1) Tryd.underlying22 Tryd.sizeOf5 rfl hz3 rfl (by omega) (by omega) (by omega)) rfl ?_
          refine JL_gval 9 30 true _ (U8 (g8 z 1)) rfl rfl hb20 (Ev_load rfl (Ld_one Tryd.isAgg5 (MemAt.seg (MemAt.base hm3.1 hm3.2.1 hm3.2.2) (Seg.get (g8_get (i := 1) (by rw [hz]; omega))) (by omega)))) rfl ?_
          refine JL_gval 9 30 true _ (.bool (decide ((0:UInt8) < (g8 z 1)))) rfl rfl hb20 (Ev_bini rfl rfl fun _ => bin_gtr_u8 (g8 z 1) (0:UInt8)) rfl ?_
          refine JL_val _ (Ev_pickT _ rfl hb20 rfl) rfl ?_
          refine JL_val _ (Ev_move rfl) rfl ?_
          rcases Bool.eq_false_or_eq_true (decide ((0:UInt8) < (g8 z 1))) with hb21 | hb21
          ·
            have hp21 : (0:UInt8) < (g8 z 1) := of_decide_eq_true hb21
            refine JL_gval 15 36 true _ _ rfl rfl hb21 (Ev_move rfl) rfl ?_
            refine JL_gval 15 36 true _ (Ptr bz3 (oz3 + 1)) rfl rfl hb21 (Ev_indexSlG 5 1 (oz3 + 1) Tryd.underlying22 Tryd.sizeOf5 rfl hz3 rfl (by omega) (by omega) (by omega)) rfl ?_
            refine JL_gval 15 36 true _ (U8 (g8 z 1)) rfl rfl hb21 (Ev_load rfl (Ld_one Tryd.isAgg5 (MemAt.seg (MemAt.base hm3.1 hm3.2.1 hm3.2.2) (Seg.get (g8_get (i := 1) (by rw [hz]; omega))) (by omega)))) rfl ?_
            refine JL_gval 15 36 true _ (.bool (decide ((g8 z 1) < (33:UInt8)))) rfl rfl hb21 (Ev_bini rfl rfl fun _ => bin_lss_u8 (g8 z 1) (33:UInt8)) rfl ?_
            refine JL_val _ (Ev_pickT _ rfl hb21 rfl) rfl ?_
            refine JL_nil ?_
            refine JQ_then ?_
            refine JC_cond (decide ((g8 z 1) < (33:UInt8))) rfl (fun hb22 => ?_) (fun hb22 => ?_)
            ·
              have hp22 : (g8 z 1) < (33:UInt8) := of_decide_eq_true hb22
              refine JC_seq ?_
              refine JC_region ?_
              refine JL_val _ (Ev_assign rfl) rfl ?_
              refine JL_nil ?_
              refine JQ_then ?_
              refine JC_ret ?_
              refine JQ_then_ret ?_
              refine JQ_ret (I64 (3:Int)) (res1 Tryd.results78 (RV_tmp rfl)) fun w1 hw1 => ?_
              have hk : kindN z = 3 := by
                try simp only [UInt8.lt_iff_toNat_lt, UInt8.le_iff_toNat_le, ← UInt8.toNat_inj, UInt8.reduceToNat] at hp1
                try simp only [UInt8.lt_iff_toNat_lt, UInt8.le_iff_toNat_le, ← UInt8.toNat_inj, UInt8.reduceToNat] at hp10
                try simp only [UInt8.lt_iff_toNat_lt, UInt8.le_iff_toNat_le, ← UInt8.toNat_inj, UInt8.reduceToNat] at hp11
                try simp only [UInt8.lt_iff_toNat_lt, UInt8.le_iff_toNat_le, ← UInt8.toNat_inj, UInt8.reduceToNat] at hp12
                try simp only [UInt8.lt_iff_toNat_lt, UInt8.le_iff_toNat_le, ← UInt8.toNat_inj, UInt8.reduceToNat] at hp13
                try simp only [UInt8.lt_iff_toNat_lt, UInt8.le_iff_toNat_le, ← UInt8.toNat_inj, UInt8.reduceToNat] at hp14
                try simp only [UInt8.lt_iff_toNat_lt, UInt8.le_iff_toNat_le, ← UInt8.toNat_inj, UInt8.reduceToNat] at hp15
                try simp only [UInt8.lt_iff_toNat_lt, UInt8.le_iff_toNat_le, ← UInt8.toNat_inj, UInt8.reduceToNat] at hp16
                try simp only [UInt8.lt_iff_toNat_lt, UInt8.le_iff_toNat_le, ← UInt8.toNat_inj, UInt8.reduceToNat] at hp17
                try simp only [UInt8.lt_iff_toNat_lt, UInt8.le_iff_toNat_le, ← UInt8.toNat_inj, UInt8.reduceToNat] at hp18
                try simp only [UInt8.lt_iff_toNat_lt, UInt8.le_iff_toNat_le, ← UInt8.toNat_inj, UInt8.reduceToNat] at hp19
                try simp only [UInt8.lt_iff_toNat_lt, UInt8.le_iff_toNat_le, ← UInt8.toNat_inj, UInt8.reduceToNat] at hp2
                try simp only [UInt8.lt_iff_toNat_lt, UInt8.le_iff_toNat_le, ← UInt8.toNat_inj, UInt8.reduceToNat] at hp20
                try simp only [UInt8.lt_iff_toNat_lt, UInt8.le_iff_toNat_le, ← UInt8.toNat_inj, UInt8.reduceToNat] at hp21
                try simp only [UInt8.lt_iff_toNat_lt, UInt8.le_iff_toNat_le, ← UInt8.toNat_inj, UInt8.reduceToNat] at hp22
                try simp only [UInt8.lt_iff_toNat_lt, UInt8.le_iff_toNat_le, ← UInt8.toNat_inj, UInt8.reduceToNat] at hp3
                try simp only [UInt8.lt_iff_toNat_lt, UInt8.le_iff_toNat_le, ← UInt8.toNat_inj, UInt8.reduceToNat] at hp4
                try simp only [UInt8.lt_iff_toNat_lt, UInt8.le_iff_toNat_le, ← UInt8.toNat_inj, UInt8.reduceToNat] at hp5
                try simp only [UInt8.lt_iff_toNat_lt, UInt8.le_iff_toNat_le, ← UInt8.toNat_inj, UInt8.reduceToNat] at hp6
                try simp only [UInt8.lt_iff_toNat_lt, UInt8.le_iff_toNat_le, ← UInt8.toNat_inj, UInt8.reduceToNat] at hp7
                try simp only [UInt8.lt_iff_toNat_lt, UInt8.le_iff_toNat_le, ← UInt8.toNat_inj, UInt8.reduceToNat] at hp8
                try simp only [UInt8.lt_iff_toNat_lt, UInt8.le_iff_toNat_le, ← UInt8.toNat_inj, UInt8.reduceToNat] at hp9
                unfold kindN
                rw [hz]
                repeat' split
                all_goals omega
              exact ⟨_, [], rfl, ⟨by rw [hk]; rfl, rfl⟩, hw1.sub (by simp) (by simp)⟩
            ·
              have hp22 : ¬ ((g8 z 1) < (33:UInt8)) := of_decide_eq_false hb22
              refine JC_skip ?_
              refine JQ_then ?_
              refine JC_seq ?_
              refine JC_region ?_
              refine JL_val _ (Ev_assign rfl) rfl ?_
              refine JL_nil ?_
              refine JQ_then ?_
              refine JC_ret ?_
              refine JQ_ret (I64 (0:Int)) (res1 Tryd.results78 (RV_tmp rfl)) fun w1 hw1 => ?_
              have hk : kindN z = 0 := by
                try simp only [UInt8.lt_iff_toNat_lt, UInt8.le_iff_toNat_le, ← UInt8.toNat_inj, UInt8.reduceToNat] at hp1
                try simp only [UInt8.lt_iff_toNat_lt, UInt8.le_iff_toNat_le, ← UInt8.toNat_inj, UInt8.reduceToNat] at hp10
                try simp only [UInt8.lt_iff_toNat_lt, UInt8.le_iff_toNat_le, ← UInt8.toNat_inj, UInt8.reduceToNat] at hp11
                try simp only [UInt8.lt_iff_toNat_lt, UInt8.le_iff_toNat_le, ← UInt8.toNat_inj, UInt8.reduceToNat] at hp12
                try simp only [UInt8.lt_iff_toNat_lt, UInt8.le_iff_toNat_le, ← UInt8.toNat_inj, UInt8.reduceToNat] at hp13
                try simp only [UInt8.lt_iff_toNat_lt, UInt8.le_iff_toNat_le, ← UInt8.toNat_inj, UInt8.reduceToNat] at hp14
                try simp only [UInt8.lt_iff_toNat_lt, UInt8.le_iff_toNat_le, ← UInt8.toNat_inj, UInt8.reduceToNat] at hp15
                try simp only [UInt8.lt_iff_toNat_lt, UInt8.le_iff_toNat_le, ← UInt8.toNat_inj, UInt8.reduceToNat] at hp16
                try simp only [UInt8.lt_iff_toNat_lt, UInt8.le_iff_toNat_le, ← UInt8.toNat_inj, UInt8.reduceToNat] at hp17
                try simp only [UInt8.lt_iff_toNat_lt, UInt8.le_iff_toNat_le, ← UInt8.toNat_inj, UInt8.reduceToNat] at hp18
                try simp only [UInt8.lt_iff_toNat_lt, UInt8.le_iff_toNat_le, ← UInt8.toNat_inj, UInt8.reduceToNat] at hp19
                try simp only [UInt8.lt_iff_toNat_lt, UInt8.le_iff_toNat_le, ← UInt8.toNat_inj, UInt8.reduceToNat] at hp2
                try simp only [UInt8.lt_iff_toNat_lt, UInt8.le_iff_toNat_le, ← UInt8.toNat_inj, UInt8.reduceToNat] at hp20
                try simp only [UInt8.lt_iff_toNat_lt, UInt8.le_iff_toNat_le, ← UInt8.toNat_inj, UInt8.reduceToNat] at hp21
                try simp only [UInt8.lt_iff_toNat_lt, UInt8.le_iff_toNat_le, ← UInt8.toNat_inj, UInt8.reduceToNat] at hp22
                try simp only [UInt8.lt_iff_toNat_lt, UInt8.le_iff_toNat_le, ← UInt8.toNat_inj, UInt8.reduceToNat] at hp3
                try simp only [UInt8.lt_iff_toNat_lt, UInt8.le_iff_toNat_le, ← UInt8.toNat_inj, UInt8.reduceToNat] at hp4
                try simp only [UInt8.lt_iff_toNat_lt, UInt8.le_iff_toNat_le, ← UInt8.toNat_inj, UInt8.reduceToNat] at hp5
                try simp only [UInt8.lt_iff_toNat_lt, UInt8.le_iff_toNat_le, ← UInt8.toNat_inj, UInt8.reduceToNat] at hp6
                try simp only [UInt8.lt_iff_toNat_lt, UInt8.le_iff_toNat_le, ← UInt8.toNat_inj, UInt8.reduceToNat] at hp7
                try simp only [UInt8.lt_iff_toNat_lt, UInt8.le_iff_toNat_le, ← UInt8.toNat_inj, UInt8.reduceToNat] at hp8
                try simp only [UInt8.lt_iff_toNat_lt, UInt8.le_iff_toNat_le, ← UInt8.toNat_inj, UInt8.reduceToNat] at hp9
                unfold kindN
                rw [hz]
                repeat' split
                all_goals omega
              exact ⟨_, [], rfl, ⟨by rw [hk]; rfl, rfl⟩, hw1.sub (by simp) (by simp)⟩
          ·
            have hp21 : ¬ ((0:UInt8) < (g8 z 1)) := of_decide_eq_false hb21
            refine JL_gskip 15 36 true _ rfl rfl hb21 rfl ?_
            refine JL_gskip 15 36 true _ rfl rfl hb21 rfl ?_
            refine JL_gskip 15 36 true _ rfl rfl hb21 rfl ?_
            refine JL_gskip 15 36 true _ rfl rfl hb21 rfl ?_
            refine JL_val _ (Ev_pickF _ rfl hb21 rfl) rfl ?_
            refine JL_nil ?_
            refine JQ_then ?_
            refine JC_condF _ rfl rfl ?_
            refine JC_skip ?_
            refine JQ_then ?_
            refine JC_seq ?_
            refine JC_region ?_
            refine JL_val _ (Ev_assign rfl) rfl ?_
            refine JL_nil ?_
            refine JQ_then ?_
            refine JC_ret ?_
            refine JQ_ret (I64 (0:Int)) (res1 Tryd.results78 (RV_tmp rfl)) fun w1 hw1 => ?_
            have hk : kindN z = 0 := by
              try simp only [UInt8.lt_iff_toNat_lt, UInt8.le_iff_toNat_le, ← UInt8.toNat_inj, UInt8.reduceToNat] at hp1
              try simp only [UInt8.lt_iff_toNat_lt, UInt8.le_iff_toNat_le, ← UInt8.toNat_inj, UInt8.reduceToNat] at hp10
              try simp only [UInt8.lt_iff_toNat_lt, UInt8.le_iff_toNat_le, ← UInt8.toNat_inj, UInt8.reduceToNat] at hp11
              try simp only [UInt8.lt_iff_toNat_lt, UInt8.le_iff_toNat_le, ← UInt8.toNat_inj, UInt8.reduceToNat] at hp12
              try simp only [UInt8.lt_iff_toNat_lt, UInt8.le_iff_toNat_le, ← UInt8.toNat_inj, UInt8.reduceToNat] at hp13
              try simp only [UInt8.lt_iff_toNat_lt, UInt8.le_iff_toNat_le, ← UInt8.toNat_inj, UInt8.reduceToNat] at hp14
              try simp only [UInt8.lt_iff_toNat_lt, UInt8.le_iff_toNat_le, ← UInt8.toNat_inj, UInt8.reduceToNat] at hp15
              try simp only [UInt8.lt_iff_toNat_lt, UInt8.le_iff_toNat_le, ← UInt8.toNat_inj, UInt8.reduceToNat] at hp16
              try simp only [UInt8.lt_iff_toNat_lt, UInt8.le_iff_toNat_le, ← UInt8.toNat_inj, UInt8.reduceToNat] at hp17
              try simp only [UInt8.lt_iff_toNat_lt, UInt8.le_iff_toNat_le, ← UInt8.toNat_inj, UInt8.reduceToNat] at hp18
              try simp only [UInt8.lt_iff_toNat_lt, UInt8.le_iff_toNat_le, ← UInt8.toNat_inj, UInt8.reduceToNat] at hp19
              try simp only [UInt8.lt_iff_toNat_lt, UInt8.le_iff_toNat_le, ← UInt8.toNat_inj, UInt8.reduceToNat] at hp2
              try simp only [UInt8.lt_iff_toNat_lt, UInt8.le_iff_toNat_le, ← UInt8.toNat_inj, UInt8.reduceToNat] at hp20
              try simp only [UInt8.lt_iff_toNat_lt, UInt8.le_iff_toNat_le, ← UInt8.toNat_inj, UInt8.reduceToNat] at hp21
              try simp only [UInt8.lt_iff_toNat_lt, UInt8.le_iff_toNat_le, ← UInt8.toNat_inj, UInt8.reduceToNat] at hp22
              try simp only [UInt8.lt_iff_toNat_lt, UInt8.le_iff_toNat_le, ← UInt8.toNat_inj, UInt8.reduceToNat] at hp3
              try simp only [UInt8.lt_iff_toNat_lt, UInt8.le_iff_toNat_le, ← UInt8.toNat_inj, UInt8.reduceToNat] at hp4
              try simp only [UInt8.lt_iff_toNat_lt, UInt8.le_iff_toNat_le, ← UInt8.toNat_inj, UInt8.reduceToNat] at hp5
              try simp only [UInt8.lt_iff_toNat_lt, UInt8.le_iff_toNat_le, ← UInt8.toNat_inj, UInt8.reduceToNat] at hp6
              try simp only [UInt8.lt_iff_toNat_lt, UInt8.le_iff_toNat_le, ← UInt8.toNat_inj, UInt8.reduceToNat] at hp7
              try simp only [UInt8.lt_iff_toNat_lt, UInt8.le_iff_toNat_le, ← UInt8.toNat_inj, UInt8.reduceToNat] at hp8
              try simp only [UInt8.lt_iff_toNat_lt, UInt8.le_iff_toNat_le, ← UInt8.toNat_inj, UInt8.reduceToNat] at hp9
              unfold kindN
              rw [hz]
              repeat' split
              all_goals omega
            exact ⟨_, [], rfl, ⟨by rw [hk]; rfl, rfl⟩, hw1.sub (by simp) (by simp)⟩
        ·
          have hp20 : ¬ ((g8 z 0) = (2:UInt8)) := of_decide_eq_false hb20
          refine JL_gskip 9 30 true _ rfl rfl hb20 rfl ?_
          refine JL_gskip 9 30 true _ rfl rfl hb20 rfl ?_
          refine JL_gskip 9 30 true _ rfl rfl hb20 rfl ?_
          refine JL_gskip 9 30 true _ rfl rfl hb20 rfl ?_
          refine JL_val _ (Ev_pickF _ rfl hb20 rfl) rfl ?_
          refine JL_val _ (Ev_move rfl) rfl ?_
          refine JL_gskip 15 36 true _ rfl rfl rfl rfl ?_
          refine JL_gskip 15 36 true _ rfl rfl rfl rfl ?_
          refine JL_gskip 15 36 true _ rfl rfl rfl rfl ?_
          refine JL_gskip 15 36 true _ rfl rfl rfl rfl ?_
          refine JL_val _ (Ev_pickF _ rfl rfl rfl) rfl ?_
          refine JL_nil ?_
          refine JQ_then ?_
          refine JC_condF _ rfl rfl ?_
          refine JC_skip ?_
          refine JQ_then ?_
          refine JC_seq ?_
          refine JC_region ?_
          refine JL_val _ (Ev_assign rfl) rfl ?_
          refine JL_nil ?_
          refine JQ_then ?_
          refine JC_ret ?_
          refine JQ_ret (I64 (0:Int)) (res1 Tryd.results78 (RV_tmp rfl)) fun w1 hw1 => ?_
          have hk : kindN z = 0 := by
            try simp only [UInt8.lt_iff_toNat_lt, UInt8.le_iff_toNat_le, ← UInt8.toNat_inj, UInt8.reduceToNat] at hp1
            try simp only [UInt8.lt_iff_toNat_lt, UInt8.le_iff_toNat_le, ← UInt8.toNat_inj, UInt8.reduceToNat] at hp10
            try simp only [UInt8.lt_iff_toNat_lt, UInt8.le_iff_toNat_le, ← UInt8.toNat_inj, UInt8.reduceToNat] at hp11
            try simp only [UInt8.lt_iff_toNat_lt, UInt8.le_iff_toNat_le, ← UInt8.toNat_inj, UInt8.reduceToNat] at hp12
            try simp only [UInt8.lt_iff_toNat_lt, UInt8.le_iff_toNat_le, ← UInt8.toNat_inj, UInt8.reduceToNat] at hp13
            try simp only [UInt8.lt_iff_toNat_lt, UInt8.le_iff_toNat_le, ← UInt8.toNat_inj, UInt8.reduceToNat] at hp14
            try simp only [UInt8.lt_iff_toNat_lt, UInt8.le_iff_toNat_le, ← UInt8.toNat_inj, UInt8.reduceToNat] at hp15
            try simp only [UInt8.lt_iff_toNat_lt, UInt8.le_iff_toNat_le, ← UInt8.toNat_inj, UInt8.reduceToNat] at hp16
            try simp only [UInt8.lt_iff_toNat_lt, UInt8.le_iff_toNat_le, ← UInt8.toNat_inj, UInt8.reduceToNat] at hp17
            try simp only [UInt8.lt_iff_toNat_lt, UInt8.le_iff_toNat_le, ← UInt8.toNat_inj, UInt8.reduceToNat] at hp18
            try simp only [UInt8.lt_iff_toNat_lt, UInt8.le_iff_toNat_le, ← UInt8.toNat_inj, UInt8.reduceToNat] at hp19
            try simp only [UInt8.lt_iff_toNat_lt, UInt8.le_iff_toNat_le, ← UInt8.toNat_inj, UInt8.reduceToNat] at hp2
            try simp only [UInt8.lt_iff_toNat_lt, UInt8.le_iff_toNat_le, ← UInt8.toNat_inj, UInt8.reduceToNat] at hp20
            try simp only [UInt8.lt_iff_toNat_lt, UInt8.le_iff_toNat_le, ← UInt8.toNat_inj, UInt8.reduceToNat] at hp21
            try simp only [UInt8.lt_iff_toNat_lt, UInt8.le_iff_toNat_le, ← UInt8.toNat_inj, UInt8.reduceToNat] at hp22
            try simp only [UInt8.lt_iff_toNat_lt, UInt8.le_iff_toNat_le, ← UInt8.toNat_inj, UInt8.reduceToNat] at hp3
            try simp only [UInt8.lt_iff_toNat_lt, UInt8.le_iff_toNat_le, ← UInt8.toNat_inj, UInt8.reduceToNat] at hp4
            try simp only [UInt8.lt_iff_toNat_lt, UInt8.le_iff_toNat_le, ← UInt8.toNat_inj, UInt8.reduceToNat] at hp5
            try simp only [UInt8.lt_iff_toNat_lt, UInt8.le_iff_toNat_le, ← UInt8.toNat_inj, UInt8.reduceToNat] at hp6
            try simp only [UInt8.lt_iff_toNat_lt, UInt8.le_iff_toNat_le, ← UInt8.toNat_inj, UInt8.reduceToNat] at hp7
            try simp only [UInt8.lt_iff_toNat_lt, UInt8.le_iff_toNat_le, ← UInt8.toNat_inj, UInt8.reduceToNat] at hp8
            try simp only [UInt8.lt_iff_toNat_lt, UInt8.le_iff_toNat_le, ← UInt8.toNat_inj, UInt8.reduceToNat] at hp9
            unfold kindN
            rw [hz]
            repeat' split
            all_goals omega
          exact ⟨_, [], rfl, ⟨by rw [hk]; rfl, rfl⟩, hw1.sub (by simp) (by simp)⟩
      ·
        have hp19 : ¬ (((n:Int)) = (66:Int)) := of_decide_eq_false hb19
        refine JL_gskip 3 24 true _ rfl rfl hb19 rfl ?_
        refine JL_gskip 3 24 true _ rfl rfl hb19 rfl ?_
        refine JL_gskip 3 24 true _ rfl rfl hb19 rfl ?_
        refine JL_gskip 3 24 true _ rfl rfl hb19 rfl ?_
        refine JL_val _ (Ev_pickF _ rfl hb19 rfl) rfl ?_
        refine JL_val _ (Ev_move rfl) rfl ?_
        refine JL_gskip 9 30 true _ rfl rfl rfl rfl ?_
        refine JL_gskip 9 30 true _ rfl rfl rfl rfl ?_
        refine JL_gskip 9 30 true _ rfl rfl rfl rfl ?_
        refine JL_gskip 9 30 true _ rfl rfl rfl rfl ?_
        refine JL_val _ (Ev_pickF _ rfl rfl rfl) rfl ?_
        refine JL_val _ (Ev_move rfl) rfl ?_
        refine JL_gskip 15 36 true _ rfl rfl rfl rfl ?_
        refine JL_gskip 15 36 true _ rfl rfl rfl rfl ?_
        refine JL_gskip 15 36 true _ rfl rfl rfl rfl ?_
        refine JL_gskip 15 36 true _ rfl rfl rfl rfl ?_
        refine JL_val _ (Ev_pickF _ rfl rfl rfl) rfl ?_
        refine JL_nil ?_
        refine JQ_then ?_
        refine JC_condF _ rfl rfl ?_
        refine JC_skip ?_
        refine JQ_then ?_
        refine JC_seq ?_
        refine JC_region ?_
        refine JL_val _ (Ev_assign rfl) rfl ?_
        refine JL_nil ?_
        refine JQ_then ?_
        refine JC_ret ?_
        refine JQ_ret (I64 (0:Int)) (res1 Tryd.results78 (RV_tmp rfl)) fun w1 hw1 => ?_
        have hk : kindN z = 0 := by
          try simp only [UInt8.lt_iff_toNat_lt, UInt8.le_iff_toNat_le, ← UInt8.toNat_inj, UInt8.reduceToNat] at hp1
          try simp only [UInt8.lt_iff_toNat_lt, UInt8.le_iff_toNat_le, ← UInt8.toNat_inj, UInt8.reduceToNat] at hp10
          try simp only [UInt8.lt_iff_toNat_lt, UInt8.le_iff_toNat_le, ← UInt8.toNat_inj, UInt8.reduceToNat] at hp11
          try simp only [UInt8.lt_iff_toNat_lt, UInt8.le_iff_toNat_le, ← UInt8.toNat_inj, UInt8.reduceToNat] at hp12
          try simp only [UInt8.lt_iff_toNat_lt, UInt8.le_iff_toNat_le, ← UInt8.toNat_inj, UInt8.reduceToNat] at hp13
          try simp only [UInt8.lt_iff_toNat_lt, UInt8.le_iff_toNat_le, ← UInt8.toNat_inj, UInt8.reduceToNat] at hp14
          try simp only [UInt8.lt_iff_toNat_lt, UInt8.le_iff_toNat_le, ← UInt8.toNat_inj, UInt8.reduceToNat] at hp15
          try simp only [UInt8.lt_iff_toNat_lt, UInt8.le_iff_toNat_le, ← UInt8.toNat_inj, UInt8.reduceToNat] at hp16
          try simp only [UInt8.lt_iff_toNat_lt, UInt8.le_iff_toNat_le, ← UInt8.toNat_inj, UInt8.reduceToNat] at hp17
          try simp only [UInt8.lt_iff_toNat_lt, UInt8.le_iff_toNat_le, ← UInt8.toNat_inj, UInt8.reduceToNat] at hp18
          try simp only [UInt8.lt_iff_toNat_lt, UInt8.le_iff_toNat_le, ← UInt8.toNat_inj, UInt8.reduceToNat] at hp19
          try simp only [UInt8.lt_iff_toNat_lt, UInt8.le_iff_toNat_le, ← UInt8.toNat_inj, UInt8.reduceToNat] at hp2
          try simp only [UInt8.lt_iff_toNat_lt, UInt8.le_iff_toNat_le, ← UInt8.toNat_inj, UInt8.reduceToNat] at hp20
          try simp only [UInt8.lt_iff_toNat_lt, UInt8.le_iff_toNat_le, ← UInt8.toNat_inj, UInt8.reduceToNat] at hp21
          try simp only [UInt8.lt_iff_toNat_lt, UInt8.le_iff_toNat_le, ← UInt8.toNat_inj, UInt8.reduceToNat] at hp22
          try simp only [UInt8.lt_iff_toNat_lt, UInt8.le_iff_toNat_le, ← UInt8.toNat_inj, UInt8.reduceToNat] at hp3
          try simp only [UInt8.lt_iff_toNat_lt, UInt8.le_iff_toNat_le, ← UInt8.toNat_inj, UInt8.reduceToNat] at hp4
          try simp only [UInt8.lt_iff_toNat_lt, UInt8.le_iff_toNat_le, ← UInt8.toNat_inj, UInt8.reduceToNat] at hp5
          try simp only [UInt8.lt_iff_toNat_lt, UInt8.le_iff_toNat_le, ← UInt8.toNat_inj, UInt8.reduceToNat] at hp6
          try simp only [UInt8.lt_iff_toNat_lt, UInt8.le_iff_toNat_le, ← UInt8.toNat_inj, UInt8.reduceToNat] at hp7
          try simp only [UInt8.lt_iff_toNat_lt, UInt8.le_iff_toNat_le, ← UInt8.toNat_inj, UInt8.reduceToNat] at hp8
          try simp only [UInt8.lt_iff_toNat_lt, UInt8.le_iff_toNat_le, ← UInt8.toNat_inj, UInt8.reduceToNat] at hp9
          unfold kindN
          rw [hz]
          repeat' split
          all_goals omega
        exact ⟨_, [], rfl, ⟨by rw [hk]; rfl, rfl⟩, hw1.sub (by simp) (by simp)⟩

theorem rleafText_c (i : UInt64) (e : UInt64) (d t : List UInt8)  (w : World) (hd : d.length = 32) (ht : t.length = 16)  : Calls Tryd.prog 82 #[U64 i, .agg (List.toArray (α := Value) ([U64 e] ++ cu8 d ++ cu8 t))] w (Post w [] (fun v L => ∃ g sp cap, v = Slc g 0 61 cap ∧ L = [⟨g, cu8 (leafT i e d t) ++ sp, 5, (0, 0)⟩] ∧ sp.length = cap - 61 ∧ 61 ≤ cap ∧ cap ≤ maxLen)) := by
  have hmx : maxLen = 9223372036854775807 := rfl
  refine enter (P := Tryd.prog) (f := 82) (fn := Tryd.f82) w [] 14 [] [U64 i, .agg (List.toArray (α := Value) ([U64 e] ++ cu8 d ++ cu8 t))] Tryd.func82 rfl rfl (by simp) (Hp.start (by simp) (by simp) (by simp)) ?_
  show JC _ _ _ [(0, U64 i), (1, .agg (List.toArray (α := Value) ([U64 e] ++ cu8 d ++ cu8 t)))] _
  refine JC_seq ?_
  refine JC_region ?_
  refine JL_step (Step_box (.agg (List.toArray (α := Value) ([U64 e] ++ cu8 d ++ cu8 t))) ([U64 e] ++ cu8 d ++ cu8 t) rfl (by first | rfl | simp)) rfl ?_
  rintro v1 L1 ⟨nb1, hnb1, rfl, rfl⟩
  show JL _ _ _ _ ((3, Ptr nb1 0) :: _) [⟨nb1, [U64 e] ++ cu8 d ++ cu8 t, 81, (0, 0)⟩]
  refine JL_val _ (Ev_assign rfl) rfl ?_
  refine JL_nil ?_
  refine JQ_then ?_
  refine JC_seq ?_
  refine JC_region ?_
  refine JL_step (Step_buildSlice 5 1 _ [(0, U8 (1:UInt8))] (cu8 ([(1:UInt8)])) Tryd.underlying22 Tryd.sizeOf5 Tryd.zeroValue5 rfl rfl rfl (by kernel_rfl)) rfl ?_
  rintro v1 L1 ⟨nb2, hnb2, rfl, rfl⟩
  show JL _ _ _ _ ((6, Slc nb2 0 1 1) :: _) [⟨nb1, [U64 e] ++ cu8 d ++ cu8 t, 81, (0, 0)⟩, ⟨nb2, cu8 ([(1:UInt8)]), 5, (0, 0)⟩]
  refine JL_val _ (Ev_move rfl) rfl ?_
  refine JL_step (Step_callN 55 [U64 i, I64 (4:Int)] _ (Cl_func [U64 i, I64 (4:Int)] Tryd.call55 rfl) (fun w1 hw1 => rnumber_c i 4 w1 (by omega))) rfl ?_
  rintro v1 L1 ⟨_, ⟨nb3, rfl, rfl⟩, rfl⟩
  show JL _ _ _ _ ((8, Slc nb3 0 4 4) :: _) [⟨nb1, [U64 e] ++ cu8 d ++ cu8 t, 81, (0, 0)⟩, ⟨nb2, cu8 ([(1:UInt8)]), 5, (0, 0)⟩, ⟨nb3, cu8 (numK 4 i 4), 5, (0, 0)⟩]
  refine JL_step (Step_appM8 22 5 [false, true, false] (Slc nb2 0 1 1) 1 ([(1:UInt8)]) (numK 4 i 4) (some ⟨nb3, 0, none⟩) 4 4 5 Tryd.underlying22 Tryd.info5 rfl (.inr ⟨nb2, [], 1, rfl, (by simp [take?, cu8, cu32, cu64]), rfl, (by simp), (by omega), (by unfold maxLen; omega)⟩) rfl (by simp [(show (numK 4 i 4).length = 4 from numK_len _ _ _)]; try omega) (SrcAt.mem (MemAt.ent 2 rfl (Seg.whole _))) (by omega) (by unfold maxLen; omega) (by omega)) rfl ?_
  rintro v1 L1 ⟨nb4, sp1, cp1, hg1, rfl, rfl, ha1, ha2, ha3, ha4⟩
  show JL _ _ _ _ ((9, Slc nb4 0 5 cp1) :: _) [⟨nb1, [U64 e] ++ cu8 d ++ cu8 t, 81, (0, 0)⟩, ⟨nb3, cu8 (numK 4 i 4), 5, (0, 0)⟩, ⟨nb4, cu8 (([(1:UInt8)]) ++ (numK 4 i 4)) ++ sp1, 5, (0, 0)⟩]
  refine JL_val _ (Ev_assign rfl) rfl ?_
  refine JL_nil ?_
  refine JQ_then ?_
  refine JC_seq ?_
  refine JC_region ?_
  refine JL_val _ (Ev_move rfl) rfl ?_
  refine JL_val (.agg (List.toArray (α := Value) ([U64 e] ++ cu8 d ++ cu8 t))) (Ev_load rfl (Ld_agg Tryd.isAgg81 Tryd.sizeOf81 (by simp [hd, ht]) (MemAt.ent 0 rfl (Seg.whole _)))) rfl ?_
  refine JL_step (Step_callN 112 [.agg (List.toArray (α := Value) ([U64 e] ++ cu8 d ++ cu8 t))] _ (Cl_func [.agg (List.toArray (α := Value) ([U64 e] ++ cu8 d ++ cu8 t))] Tryd.call112 rfl) (fun w1 hw1 => rput7_c e d t w1 hd ht)) rfl ?_
  rintro v1 L1 ⟨_, ⟨nb5, sp2, cp2, rfl, rfl, hc1, hc2, hc3⟩, rfl⟩
  show JL _ _ _ _ ((12, Slc nb5 0 56 cp2) :: _) [⟨nb1, [U64 e] ++ cu8 d ++ cu8 t, 81, (0, 0)⟩, ⟨nb3, cu8 (numK 4 i 4), 5, (0, 0)⟩, ⟨nb4, cu8 (([(1:UInt8)]) ++ (numK 4 i 4)) ++ sp1, 5, (0, 0)⟩, ⟨nb5, cu8 (putL e d t) ++ sp2, 5, (0, 0)⟩]
  refine JL_step (Step_appM8 22 5 [false, false, true, false] (Slc nb4 0 5 cp1) 5 (([(1:UInt8)]) ++ (numK 4 i 4)) (putL e d t) (some ⟨nb5, 0, none⟩) 56 cp2 61 Tryd.underlying22 Tryd.info5 rfl (.inr ⟨nb4, sp1, cp1, rfl, rfl, (by first | exact ha1 | simp [ha1]), ha2, (by omega), (by omega)⟩) rfl (by simp [(show (putL e d t).length = 56 from (putL_len hd ht))]; try omega) (SrcAt.mem (MemAt.ent 3 rfl (Seg.left (Seg.whole _)))) (by omega) (by unfold maxLen; omega) (by omega)) rfl ?_
  rintro v1 L1 ⟨nb6, sp3, cp3, hg2, rfl, rfl, ha5, ha6, ha7, ha8⟩
  show JL _ _ _ _ ((13, Slc nb6 0 61 cp3) :: _) [⟨nb1, [U64 e] ++ cu8 d ++ cu8 t, 81, (0, 0)⟩, ⟨nb3, cu8 (numK 4 i 4), 5, (0, 0)⟩, ⟨nb5, cu8 (putL e d t) ++ sp2, 5, (0, 0)⟩, ⟨nb6, cu8 ((([(1:UInt8)]) ++ (numK 4 i 4)) ++ (putL e d t)) ++ sp3, 5, (0, 0)⟩]
  refine JL_val _ (Ev_assign rfl) rfl ?_
  refine JL_nil ?_
  refine JQ_then ?_
  refine JC_ret ?_
  refine K_mask [false, false, false, true] ?_
  show JQ _ _ _ _ [⟨nb6, cu8 ((([(1:UInt8)]) ++ (numK 4 i 4)) ++ (putL e d t)) ++ sp3, 5, (0, 0)⟩]
  refine JQ_ret (Slc nb6 0 61 cp3) (res1 Tryd.results82 (RV_tmp rfl)) fun w1 hw1 => ?_
  have hq : (([(1:UInt8)]) ++ (numK 4 i 4)) ++ (putL e d t) = leafT i e d t := by rw [leafT_ref]
  rw [hq] at hw1
  exact ⟨_, _, rfl, ⟨nb6, sp3, cp3, rfl, rfl, ha6, ha7, ha8⟩, hw1.sub (by simp) (by simp)⟩

theorem rjoinText_c (h : Nat) (l r : List UInt8) (w : World) (hl : l.length = 32) (hr : r.length = 32) (h1 : 1 ≤ h) (h2 : h ≤ 32)  : Calls Tryd.prog 75 #[I64 ((h:Int)), .agg (cu8 l).toArray, .agg (cu8 r).toArray] w (Post w [] (fun v L => ∃ g sp cap, v = Slc g 0 66 cap ∧ L = [⟨g, cu8 (joinT h l r) ++ sp, 5, (0, 0)⟩] ∧ sp.length = cap - 66 ∧ 66 ≤ cap ∧ cap ≤ maxLen)) := by
  have hmx : maxLen = 9223372036854775807 := rfl
  refine enter w [] 16 [] [I64 ((h:Int)), .agg (cu8 l).toArray, .agg (cu8 r).toArray] Tryd.func75 rfl rfl (by simp) (Hp.start (by simp) (by simp) (by simp)) ?_
  show JC _ _ _ [(0, I64 ((h:Int))), (1, .agg (cu8 l).toArray), (2, .agg (cu8 r).toArray)] _
  refine JC_seq ?_
  refine JC_region ?_
  refine JL_step (Step_box (.agg (cu8 l).toArray) (cu8 l) rfl (by first | rfl | simp)) rfl ?_
  rintro v1 L1 ⟨nb1, hnb1, rfl, rfl⟩
  show JL _ _ _ _ ((4, Ptr nb1 0) :: _) [⟨nb1, cu8 l, 25, (0, 0)⟩]
  refine JL_step (Step_box (.agg (cu8 r).toArray) (cu8 r) rfl (by first | rfl | simp)) rfl ?_
  rintro v1 L1 ⟨nb2, hnb2, rfl, rfl⟩
  show JL _ _ _ _ ((5, Ptr nb2 0) :: _) [⟨nb1, cu8 l, 25, (0, 0)⟩, ⟨nb2, cu8 r, 25, (0, 0)⟩]
  refine JL_val _ (Ev_assign rfl) rfl ?_
  refine JL_nil ?_
  refine JQ_then ?_
  refine JC_seq ?_
  refine JC_region ?_
  refine JL_val _ (Ev_move rfl) rfl ?_
  refine JL_val (U8 (UInt8.ofNat h)) (Ev_conv _ _ rfl fun _ => conv_i64_u8 (by rw [Tryd.underlying3]; rfl) Tryd.underlying5 h _ (by omega)) rfl ?_
  refine JL_step (Step_buildSlice 5 1 _ [(0, U8 (2:UInt8)), (1, U8 (UInt8.ofNat h))] (cu8 ([(2:UInt8), UInt8.ofNat h])) Tryd.underlying22 Tryd.sizeOf5 Tryd.zeroValue5 rfl rfl rfl (by kernel_rfl)) rfl ?_
  rintro v1 L1 ⟨nb3, hnb3, rfl, rfl⟩
  show JL _ _ _ _ ((10, Slc nb3 0 2 2) :: _) [⟨nb1, cu8 l, 25, (0, 0)⟩, ⟨nb2, cu8 r, 25, (0, 0)⟩, ⟨nb3, cu8 ([(2:UInt8), UInt8.ofNat h]), 5, (0, 0)⟩]
  refine JL_val (Slc nb1 0 32 32) (Ev_sliceA 32 5 1 0 32 0 32 Tryd.underlying25 Tryd.sizeOf5 rfl rfl rfl (by omega) (by omega) (by omega) (by omega) (by omega) 32 (by omega)) rfl ?_
  refine JL_step (Step_appM8 22 5 [false, false, true] (Slc nb3 0 2 2) 2 ([(2:UInt8), UInt8.ofNat h]) l (some ⟨nb1, 0, none⟩) 32 32 34 Tryd.underlying22 Tryd.info5 rfl (.inr ⟨nb3, [], 2, rfl, (by simp [take?, cu8, cu32, cu64]), rfl, (by simp), (by omega), (by unfold maxLen; omega)⟩) rfl (by simp [hl]; try omega) (SrcAt.mem (MemAt.ent 0 rfl (Seg.whole _))) (by omega) (by unfold maxLen; omega) (by omega)) rfl ?_
  rintro v1 L1 ⟨nb4, sp1, cp1, hg1, rfl, rfl, ha1, ha2, ha3, ha4⟩
  show JL _ _ _ _ ((12, Slc nb4 0 34 cp1) :: _) [⟨nb1, cu8 l, 25, (0, 0)⟩, ⟨nb2, cu8 r, 25, (0, 0)⟩, ⟨nb4, cu8 (([(2:UInt8), UInt8.ofNat h]) ++ l) ++ sp1, 5, (0, 0)⟩]
  refine JL_val _ (Ev_assign rfl) rfl ?_
  refine JL_nil ?_
  refine JQ_then ?_
  refine JC_seq ?_
  refine JC_region ?_
  refine JL_val _ (Ev_move rfl) rfl ?_
  refine JL_val (Slc nb2 0 32 32) (Ev_sliceA 32 5 1 0 32 0 32 Tryd.underlying25 Tryd.sizeOf5 rfl rfl rfl (by omega) (by omega) (by omega) (by omega) (by omega) 32 (by omega)) rfl ?_
  refine JL_step (Step_appM8 22 5 [false, false, true] (Slc nb4 0 34 cp1) 34 (([(2:UInt8), UInt8.ofNat h]) ++ l) r (some ⟨nb2, 0, none⟩) 32 32 66 Tryd.underlying22 Tryd.info5 rfl (.inr ⟨nb4, sp1, cp1, rfl, rfl, (by first | exact ha1 | simp [ha1]), ha2, (by omega), (by omega)⟩) rfl (by simp [hr]; try omega) (SrcAt.mem (MemAt.ent 1 rfl (Seg.whole _))) (by omega) (by unfold maxLen; omega) (by omega)) rfl ?_
  rintro v1 L1 ⟨nb5, sp2, cp2, hg2, rfl, rfl, ha5, ha6, ha7, ha8⟩
  show JL _ _ _ _ ((15, Slc nb5 0 66 cp2) :: _) [⟨nb1, cu8 l, 25, (0, 0)⟩, ⟨nb2, cu8 r, 25, (0, 0)⟩, ⟨nb5, cu8 ((([(2:UInt8), UInt8.ofNat h]) ++ l) ++ r) ++ sp2, 5, (0, 0)⟩]
  refine JL_val _ (Ev_assign rfl) rfl ?_
  refine JL_nil ?_
  refine JQ_then ?_
  refine JC_ret ?_
  refine K_mask [false, false, true] ?_
  show JQ _ _ _ _ [⟨nb5, cu8 ((([(2:UInt8), UInt8.ofNat h]) ++ l) ++ r) ++ sp2, 5, (0, 0)⟩]
  refine JQ_ret (Slc nb5 0 66 cp2) (res1 Tryd.results75 (RV_tmp rfl)) fun w1 hw1 => ?_
  have hq : (([(2:UInt8), UInt8.ofNat h]) ++ l) ++ r = joinT h l r := by rw [joinT_ref]
  rw [hq] at hw1
  exact ⟨_, _, rfl, ⟨nb5, sp2, cp2, rfl, rfl, ha6, ha7, ha8⟩, hw1.sub (by simp) (by simp)⟩

theorem rleaf_c (i : UInt64) (e : UInt64) (d t : List UInt8)  (w : World) (hd : d.length = 32) (ht : t.length = 16) (hGr : GLr w) (hGi : GLi w) : Calls Tryd.prog 81 #[U64 i, .agg (List.toArray (α := Value) ([U64 e] ++ cu8 d ++ cu8 t))] w (Post w [] (fun v L => v = .agg (cu8 (sumG constL initL (leafT i e d t))).toArray ∧ L = [])) := by
  refine enter (P := Tryd.prog) (f := 81) (fn := Tryd.f81) w [] 9 [] [U64 i, .agg (List.toArray (α := Value) ([U64 e] ++ cu8 d ++ cu8 t))] Tryd.func81 rfl rfl (by simp) (Hp.start (by simp) (by simp) (by simp)) ?_
  show JC _ _ _ [(0, U64 i), (1, .agg (List.toArray (α := Value) ([U64 e] ++ cu8 d ++ cu8 t)))] _
  refine JC_seq ?_
  refine JC_region ?_
  refine JL_step (Step_box (.agg (List.toArray (α := Value) ([U64 e] ++ cu8 d ++ cu8 t))) ([U64 e] ++ cu8 d ++ cu8 t) rfl (by first | rfl | simp)) rfl ?_
  rintro v1 L1 ⟨nb1, hnb1, rfl, rfl⟩
  show JL _ _ _ _ ((3, Ptr nb1 0) :: _) [⟨nb1, [U64 e] ++ cu8 d ++ cu8 t, 81, (0, 0)⟩]
  refine JL_step (Step_alloc _ (cu8 (zr8 32)) Tryd.zeroValue25 (by kernel_rfl)) rfl ?_
  rintro v1 L1 ⟨nb2, hnb2, rfl, rfl⟩
  show JL _ _ _ _ ((4, Ptr nb2 0) :: _) [⟨nb1, [U64 e] ++ cu8 d ++ cu8 t, 81, (0, 0)⟩, ⟨nb2, cu8 (zr8 32), 25, (0, 0)⟩]
  refine JL_nil ?_
  refine JQ_then ?_
  refine JC_seq ?_
  refine JC_region ?_
  refine JL_val _ (Ev_move rfl) rfl ?_
  refine JL_val (.agg (List.toArray (α := Value) ([U64 e] ++ cu8 d ++ cu8 t))) (Ev_load rfl (Ld_agg Tryd.isAgg81 Tryd.sizeOf81 (by simp [hd, ht]) (MemAt.ent 0 rfl (Seg.whole _)))) rfl ?_
  refine JL_step (Step_callN 82 [U64 i, .agg (List.toArray (α := Value) ([U64 e] ++ cu8 d ++ cu8 t))] _ (Cl_func [U64 i, .agg (List.toArray (α := Value) ([U64 e] ++ cu8 d ++ cu8 t))] Tryd.call82 rfl) (fun w1 hw1 => rleafText_c i e d t w1 hd ht)) rfl ?_
  rintro v1 L1 ⟨_, ⟨nb3, sp1, cp1, rfl, rfl, hc1, hc2, hc3⟩, rfl⟩
  show JL _ _ _ _ ((7, Slc nb3 0 61 cp1) :: _) [⟨nb1, [U64 e] ++ cu8 d ++ cu8 t, 81, (0, 0)⟩, ⟨nb2, cu8 (zr8 32), 25, (0, 0)⟩, ⟨nb3, cu8 (leafT i e d t) ++ sp1, 5, (0, 0)⟩]
  refine JL_step (Step_callP 24 [Slc nb3 0 61 cp1] (.agg (cu8 (sumG constL initL (leafT i e d t))).toArray) (Cl_func [Slc nb3 0 61 cp1] Tryd.call24 rfl) (fun w1 hw1 => rsum_c (some ⟨nb3, 0, none⟩) 61 cp1 (leafT i e d t) w1 (show (leafT i e d t).length = 61 from (leafT_len hd ht)) (by omega) (RdB.of hw1 (MemAt.ent 2 rfl (Seg.left (Seg.whole _))) (by simp)) (GLr.at hw1 hGr) (GLi.at hw1 hGi))) rfl ?_
  rintro v1 L1 ⟨rfl, rfl⟩
  show JL _ _ _ _ ((8, .agg (cu8 (sumG constL initL (leafT i e d t))).toArray) :: _) [⟨nb1, [U64 e] ++ cu8 d ++ cu8 t, 81, (0, 0)⟩, ⟨nb2, cu8 (zr8 32), 25, (0, 0)⟩, ⟨nb3, cu8 (leafT i e d t) ++ sp1, 5, (0, 0)⟩]
  refine JL_step (Step_store 1 nb2 0 32 (cu8 (zr8 32)) 25 (.agg (cu8 (sumG constL initL (leafT i e d t))).toArray) (cu8 (sumG constL initL (leafT i e d t))) (cu8 (sumG constL initL (leafT i e d t))) rfl rfl rfl (by first | rfl | simp) Tryd.sizeOf25 (len_cu8 (sumG_len _ _ _)) (by first | exact one_u8 | exact one_u32 | exact one_u64 | (simp [cu8, cu32, cu64, Value.oneCell']; done)) (by simp [(zr8_len 32)]) (lay_whole (by simp [(zr8_len 32), (sumG_len _ _ _)]))) rfl ?_
  rintro v1 L1 ⟨rfl, rfl⟩
  show JL _ _ _ _ _ [⟨nb1, [U64 e] ++ cu8 d ++ cu8 t, 81, (0, 0)⟩, ⟨nb2, cu8 (sumG constL initL (leafT i e d t)), 25, (0, 0)⟩, ⟨nb3, cu8 (leafT i e d t) ++ sp1, 5, (0, 0)⟩]
  refine JL_nil ?_
  refine JQ_then ?_
  refine JC_ret ?_
  refine K_mask [false, true, false] ?_
  show JQ _ _ _ _ [⟨nb2, cu8 (sumG constL initL (leafT i e d t)), 25, (0, 0)⟩]
  refine JQ_ret (.agg (cu8 (sumG constL initL (leafT i e d t))).toArray) (res1 Tryd.results81 (RV_cell rfl (Ld_agg Tryd.isAgg25 Tryd.sizeOf25 (len_cu8 (sumG_len _ _ _)) (MemAt.ent 0 rfl (Seg.whole _))))) fun w1 hw1 => ?_
  exact ⟨_, [], rfl, ⟨rfl, rfl⟩, hw1.sub (by simp) (by simp)⟩

theorem rjoin_n_c (h : Nat) (l r : List UInt8) (w : World) (hl : l.length = 32) (hr : r.length = 32) (h1 : 1 ≤ h) (h2 : h ≤ 32) (hGr : GLr w) (hGi : GLi w) : Calls Tryd.prog 74 #[I64 ((h:Int)), .agg (cu8 l).toArray, .agg (cu8 r).toArray] w (Post w [] (fun v L => v = .agg (cu8 (sumG constL initL (joinT h l r))).toArray ∧ L = [])) := by
  refine enter w [] 12 [] [I64 ((h:Int)), .agg (cu8 l).toArray, .agg (cu8 r).toArray] Tryd.func74 rfl rfl (by simp) (Hp.start (by simp) (by simp) (by simp)) ?_
  show JC _ _ _ [(0, I64 ((h:Int))), (1, .agg (cu8 l).toArray), (2, .agg (cu8 r).toArray)] _
  refine JC_seq ?_
  refine JC_region ?_
  refine JL_step (Step_box (.agg (cu8 l).toArray) (cu8 l) rfl (by first | rfl | simp)) rfl ?_
  rintro v1 L1 ⟨nb1, hnb1, rfl, rfl⟩
  show JL _ _ _ _ ((4, Ptr nb1 0) :: _) [⟨nb1, cu8 l, 25, (0, 0)⟩]
  refine JL_step (Step_box (.agg (cu8 r).toArray) (cu8 r) rfl (by first | rfl | simp)) rfl ?_
  rintro v1 L1 ⟨nb2, hnb2, rfl, rfl⟩
  show JL _ _ _ _ ((5, Ptr nb2 0) :: _) [⟨nb1, cu8 l, 25, (0, 0)⟩, ⟨nb2, cu8 r, 25, (0, 0)⟩]
  refine JL_step (Step_alloc _ (cu8 (zr8 32)) Tryd.zeroValue25 (by kernel_rfl)) rfl ?_
  rintro v1 L1 ⟨nb3, hnb3, rfl, rfl⟩
  show JL _ _ _ _ ((6, Ptr nb3 0) :: _) [⟨nb1, cu8 l, 25, (0, 0)⟩, ⟨nb2, cu8 r, 25, (0, 0)⟩, ⟨nb3, cu8 (zr8 32), 25, (0, 0)⟩]
  refine JL_nil ?_
  refine JQ_then ?_
  refine JC_seq ?_
  refine JC_region ?_
  refine JL_val _ (Ev_move rfl) rfl ?_
  refine JL_val (.agg (cu8 l).toArray) (Ev_load rfl (Ld_agg Tryd.isAgg25 Tryd.sizeOf25 (len_cu8 hl) (MemAt.ent 0 rfl (Seg.whole _)))) rfl ?_
  refine JL_val (.agg (cu8 r).toArray) (Ev_load rfl (Ld_agg Tryd.isAgg25 Tryd.sizeOf25 (len_cu8 hr) (MemAt.ent 1 rfl (Seg.whole _)))) rfl ?_
  refine JL_step (Step_callN 75 [I64 ((h:Int)), .agg (cu8 l).toArray, .agg (cu8 r).toArray] _ (Cl_func [I64 ((h:Int)), .agg (cu8 l).toArray, .agg (cu8 r).toArray] Tryd.call75 rfl) (fun w1 hw1 => rjoinText_c h l r w1 hl hr (by omega) (by omega))) rfl ?_
  rintro v1 L1 ⟨_, ⟨nb4, sp1, cp1, rfl, rfl, hc1, hc2, hc3⟩, rfl⟩
  show JL _ _ _ _ ((10, Slc nb4 0 66 cp1) :: _) [⟨nb1, cu8 l, 25, (0, 0)⟩, ⟨nb2, cu8 r, 25, (0, 0)⟩, ⟨nb3, cu8 (zr8 32), 25, (0, 0)⟩, ⟨nb4, cu8 (joinT h l r) ++ sp1, 5, (0, 0)⟩]
  refine JL_step (Step_callP 24 [Slc nb4 0 66 cp1] (.agg (cu8 (sumG constL initL (joinT h l r))).toArray) (Cl_func [Slc nb4 0 66 cp1] Tryd.call24 rfl) (fun w1 hw1 => rsum_c (some ⟨nb4, 0, none⟩) 66 cp1 (joinT h l r) w1 (show (joinT h l r).length = 66 from (joinT_len hl hr)) (by omega) (RdB.of hw1 (MemAt.ent 3 rfl (Seg.left (Seg.whole _))) (by simp)) (GLr.at hw1 hGr) (GLi.at hw1 hGi))) rfl ?_
  rintro v1 L1 ⟨rfl, rfl⟩
  show JL _ _ _ _ ((11, .agg (cu8 (sumG constL initL (joinT h l r))).toArray) :: _) [⟨nb1, cu8 l, 25, (0, 0)⟩, ⟨nb2, cu8 r, 25, (0, 0)⟩, ⟨nb3, cu8 (zr8 32), 25, (0, 0)⟩, ⟨nb4, cu8 (joinT h l r) ++ sp1, 5, (0, 0)⟩]
  refine JL_step (Step_store 2 nb3 0 32 (cu8 (zr8 32)) 25 (.agg (cu8 (sumG constL initL (joinT h l r))).toArray) (cu8 (sumG constL initL (joinT h l r))) (cu8 (sumG constL initL (joinT h l r))) rfl rfl rfl (by first | rfl | simp) Tryd.sizeOf25 (len_cu8 (sumG_len _ _ _)) (by first | exact one_u8 | exact one_u32 | exact one_u64 | (simp [cu8, cu32, cu64, Value.oneCell']; done)) (by simp [(zr8_len 32)]) (lay_whole (by simp [(zr8_len 32), (sumG_len _ _ _)]))) rfl ?_
  rintro v1 L1 ⟨rfl, rfl⟩
  show JL _ _ _ _ _ [⟨nb1, cu8 l, 25, (0, 0)⟩, ⟨nb2, cu8 r, 25, (0, 0)⟩, ⟨nb3, cu8 (sumG constL initL (joinT h l r)), 25, (0, 0)⟩, ⟨nb4, cu8 (joinT h l r) ++ sp1, 5, (0, 0)⟩]
  refine JL_nil ?_
  refine JQ_then ?_
  refine JC_ret ?_
  refine K_mask [false, false, true, false] ?_
  show JQ _ _ _ _ [⟨nb3, cu8 (sumG constL initL (joinT h l r)), 25, (0, 0)⟩]
  refine JQ_ret (.agg (cu8 (sumG constL initL (joinT h l r))).toArray) (res1 Tryd.results74 (RV_cell rfl (Ld_agg Tryd.isAgg25 Tryd.sizeOf25 (len_cu8 (sumG_len _ _ _)) (MemAt.ent 0 rfl (Seg.whole _))))) fun w1 hw1 => ?_
  exact ⟨_, [], rfl, ⟨rfl, rfl⟩, hw1.sub (by simp) (by simp)⟩

theorem rempties_c  (w : World) (hGr : GLr w) (hGi : GLi w) : Calls Tryd.prog 73 #[] w (Post w [] (fun v L => ∃ g sp cap, v = Slc g 0 33 cap ∧ L = [⟨g, cu8 (empR 32) ++ sp, 25, (0, 0)⟩] ∧ sp.length = 32*cap - 1056 ∧ 33 ≤ cap ∧ cap ≤ maxLen)) := by
  have hmx : maxLen = 9223372036854775807 := rfl
  refine enter w [] 26 [] [] Tryd.func73 rfl rfl (by simp) (Hp.start (by simp) (by simp) (by simp)) ?_
  show JC _ _ _ [] _
  refine JC_seq ?_
  refine JC_region ?_
  refine JL_val _ (Ev_assign rfl) rfl ?_
  refine JL_nil ?_
  refine JQ_then ?_
  refine JC_seq ?_
  refine JC_region ?_
  refine JL_step (Step_buildSlice 5 1 _ [(0, U8 (0:UInt8))] (cu8 ([(0:UInt8)])) Tryd.underlying22 Tryd.sizeOf5 Tryd.zeroValue5 rfl rfl rfl (by kernel_rfl)) rfl ?_
  rintro v1 L1 ⟨nb1, hnb1, rfl, rfl⟩
  show JL _ _ _ _ ((3, Slc nb1 0 1 1) :: _) [⟨nb1, cu8 ([(0:UInt8)]), 5, (0, 0)⟩]
  refine JL_step (Step_callP 24 [Slc nb1 0 1 1] (.agg (cu8 (sumG constL initL ([(0:UInt8)]))).toArray) (Cl_func [Slc nb1 0 1 1] Tryd.call24 rfl) (fun w1 hw1 => rsum_c (some ⟨nb1, 0, none⟩) 1 1 ([(0:UInt8)]) w1 rfl (by omega) (RdB.of hw1 (MemAt.ent 0 rfl (Seg.whole _)) (by simp)) (GLr.at hw1 hGr) (GLi.at hw1 hGi))) rfl ?_
  rintro v1 L1 ⟨rfl, rfl⟩
  show JL _ _ _ _ ((4, .agg (cu8 (sumG constL initL ([(0:UInt8)]))).toArray) :: _) [⟨nb1, cu8 ([(0:UInt8)]), 5, (0, 0)⟩]
  refine JL_step (Step_buildSlice 25 32 _ [(0, .agg (cu8 (sumG constL initL ([(0:UInt8)]))).toArray)] (cu8 (sumG constL initL ([(0:UInt8)]))) Tryd.underlying105 Tryd.sizeOf25 Tryd.zeroValue25 rfl rfl rfl (fill_firstS (sumG_len _ _ _) (by kernel_rfl))) rfl ?_
  rintro v1 L1 ⟨nb2, hnb2, rfl, rfl⟩
  show JL _ _ _ _ ((5, Slc nb2 0 1 1) :: _) [⟨nb1, cu8 ([(0:UInt8)]), 5, (0, 0)⟩, ⟨nb2, cu8 (sumG constL initL ([(0:UInt8)])), 25, (0, 0)⟩]
  refine JL_val _ (Ev_assign rfl) rfl ?_
  refine JL_nil ?_
  refine JQ_then ?_
  refine JC_seq ?_
  refine JC_seq ?_
  refine JC_region ?_
  refine JL_val _ (Ev_assign rfl) rfl ?_
  refine JL_nil ?_
  refine JQ_then ?_
  refine JC_block ?_
  skip
  refine K_mask [false, true] ?_
  show JC _ _ _ _ [⟨nb2, cu8 (sumG constL initL ([(0:UInt8)])), 25, (0, 0)⟩]
  refine JC_loop (ι := (Unit) ⊕ (Nat × List UInt8 × Nat × List Value × Nat)) (fun x => match x with | .inl _ => [(0, .slice none 0 0), (1, Slc nb2 0 1 1), (2, I64 (1:Int))] | .inr ⟨q, o, g1, sp1, cp1⟩ => [(0, .slice none 0 0), (1, Slc g1 0 (q + 1) cp1), (2, I64 ((q:Int) + 1))]) (fun x => match x with | .inl _ => [⟨nb2, cu8 (sumG constL initL [0]), 25, (0, 0)⟩] | .inr ⟨q, o, g1, sp1, cp1⟩ => [⟨g1, cu8 o ++ sp1, 25, (0, 0)⟩]) (fun x => match x with | .inl _ => True | .inr ⟨q, o, g1, sp1, cp1⟩ => 1 ≤ q ∧ q ≤ 32 ∧ o = empR q ∧ o.length = 32*q + 32 ∧ sp1.length = 32*cp1 - (32*q + 32) ∧ q + 1 ≤ cp1 ∧ cp1 ≤ maxLen) (fun x => match x with | .inl _ => 33 | .inr ⟨q, o, g1, sp1, cp1⟩ => 32 - q) (.inl ()) trivial (Sub.cons rfl (Sub.cons rfl (Sub.cons rfl (Sub.nil)))) rfl ?_
  rintro (_ | ⟨q, o, g1, sp1, cp1⟩) hx
  ·
    obtain _ := hx
    show JC _ _ _ [(0, .slice none 0 0), (1, Slc nb2 0 1 1), (2, I64 (1:Int))] [⟨nb2, cu8 (sumG constL initL [0]), 25, (0, 0)⟩]
    refine JC_seq ?_
    refine JC_seq ?_
    refine JC_region ?_
    refine JL_val _ (Ev_move rfl) rfl ?_
    refine JL_val (.bool (decide ((1:Int) ≤ (32:Int)))) (Ev_bini rfl rfl fun _ => bin_leq_i _ _) rfl ?_
    refine JL_nil ?_
    refine JQ_then ?_
    refine JC_condT _ rfl (by decide) ?_
    refine JC_skip ?_
    refine JQ_then ?_
    refine JC_seq ?_
    refine JC_block ?_
    refine JC_draw 26 4 [(0, Slc nb2 0 1 1), (1, I64 (1:Int)), (2, Slc nb2 0 1 1), (3, I64 (1:Int)), (4, I64 (0:Int)), (5, Ptr nb2 0), (6, .agg (cu8 (sumG constL initL [0])).toArray), (7, Slc nb2 0 1 1), (8, I64 (1:Int)), (9, I64 (0:Int)), (10, Ptr nb2 0), (11, .agg (cu8 (sumG constL initL [0])).toArray)] Tryd.mixed rfl (by decide +kernel) ?_
    refine DP_one ⟨[], [0, 1, 2, 3, 4, 5, 6, 7, 8, 9, 10, 11], [], [0, 1, 2, 3, 4, 5, 6, 7, 8, 9, 10, 11], [12]⟩ 12 _ rfl rfl (by decide +kernel) rfl ⟨⟨_, rfl, Qok_val rfl (Ev_move rfl)⟩, ⟨_, rfl, Qok_val rfl (Ev_move rfl)⟩, ⟨_, rfl, Qok_val rfl (Ev_move rfl)⟩, ⟨_, rfl, Qok_val rfl (Ev_move rfl)⟩, ⟨_, rfl, Qok_val rfl (Ev_bini rfl rfl fun _ => bin_sub_i _ _ (0:Int) (by omega) (by omega))⟩, ⟨_, rfl, Qok_val rfl (Ev_indexSl 25 32 0 Tryd.underlying105 Tryd.sizeOf25 rfl rfl (by omega) (by omega) (by omega))⟩, ⟨_, rfl, Qok_val rfl (Ev_load rfl (Ld_agg Tryd.isAgg25 Tryd.sizeOf25 (len_cu8 (sumG_len _ _ _)) (MemAt.ent 0 rfl (Seg.whole _))))⟩, ⟨_, rfl, Qok_val rfl (Ev_move rfl)⟩, ⟨_, rfl, Qok_val rfl (Ev_move rfl)⟩, ⟨_, rfl, Qok_val rfl (Ev_bini rfl rfl fun _ => bin_sub_i _ _ (0:Int) (by omega) (by omega))⟩, ⟨_, rfl, Qok_val rfl (Ev_indexSl 25 32 0 Tryd.underlying105 Tryd.sizeOf25 rfl rfl (by omega) (by omega) (by omega))⟩, ⟨_, rfl, Qok_val rfl (Ev_load rfl (Ld_agg Tryd.isAgg25 Tryd.sizeOf25 (len_cu8 (sumG_len _ _ _)) (MemAt.ent 0 rfl (Seg.whole _))))⟩, trivial⟩ rfl (Cok_step rfl (Step_callP 74 [I64 (1:Int), .agg (cu8 (sumG constL initL [0])).toArray, .agg (cu8 (sumG constL initL [0])).toArray] (.agg (cu8 (sumG constL initL (joinT 1 (sumG constL initL [0]) (sumG constL initL [0])))).toArray) (Cl_func [I64 (1:Int), .agg (cu8 (sumG constL initL [0])).toArray, .agg (cu8 (sumG constL initL [0])).toArray] Tryd.call74 rfl) (fun w1 hw1 => rjoin_n_c 1 (sumG constL initL [0]) (sumG constL initL [0]) w1 (sumG_len _ _ _) (sumG_len _ _ _) (by omega) (by omega) (GLr.at hw1 hGr) (GLi.at hw1 hGi)))) ?_
    rintro v1 L1 ⟨rfl, rfl⟩
    refine ⟨[], ?_⟩
    show DP _ _ _ _ _ _ _ _ [⟨nb2, cu8 (sumG constL initL [0]), 25, (0, 0)⟩]
    refine DP_one ⟨[12], [0, 1, 2, 3, 4, 5, 6, 7, 8, 9, 10, 11], [1, 2, 3, 4, 5, 6, 7, 8, 9, 10, 11], [0], [13]⟩ 13 _ rfl rfl (by decide +kernel) rfl ⟨⟨_, rfl, Qok_val rfl (Ev_move rfl)⟩, trivial⟩ rfl (Cok_step rfl (Step_buildSlice 25 32 _ [(0, .agg (cu8 (sumG constL initL (joinT 1 (sumG constL initL [0]) (sumG constL initL [0])))).toArray)] (cu8 (sumG constL initL (joinT 1 (sumG constL initL [0]) (sumG constL initL [0])))) Tryd.underlying105 Tryd.sizeOf25 Tryd.zeroValue25 rfl rfl rfl (fill_firstS (sumG_len _ _ _) (by kernel_rfl)))) ?_
    rintro v1 L1 ⟨nb3, hnb3, rfl, rfl⟩
    refine ⟨[], ?_⟩
    show DP _ _ _ _ _ _ _ _ [⟨nb2, cu8 (sumG constL initL [0]), 25, (0, 0)⟩, ⟨nb3, cu8 (sumG constL initL (joinT 1 (sumG constL initL [0]) (sumG constL initL [0]))), 25, (0, 0)⟩]
    refine DP_one ⟨[12, 13], [0, 1, 2, 3, 4, 5, 6, 7, 8, 9, 10, 11], [1, 2, 3, 4, 5, 6, 7, 8, 9, 10, 11], [0], [14]⟩ 14 _ rfl rfl (by decide +kernel) rfl ⟨⟨_, rfl, Qok_val rfl (Ev_move rfl)⟩, trivial⟩ rfl (Cok_step rfl (Step_appH 105 25 32 32 (.agg (cu8 (zr8 32)).toArray) [true, false] (Slc nb2 0 1 1) 1 (sumG constL initL [0]) (sumG constL initL (joinT 1 (sumG constL initL [0]) (sumG constL initL [0]))) (some ⟨nb3, 0, none⟩) 1 1 2 64 Tryd.underlying105 (by kernel_rfl) (by kernel_rfl) (by decide) rfl (.inr ⟨nb2, [], 1, rfl, (by simp [take?, cu8]), (by have h : (sumG constL initL [0]).length = 32 := (sumG_len _ _ _); omega), (by simp), (by omega), (by unfold maxLen; omega)⟩) rfl (by have h : (sumG constL initL (joinT 1 (sumG constL initL [0]) (sumG constL initL [0]))).length = 32 := (sumG_len _ _ _); omega) (SrcAt.mem (MemAt.ent 1 rfl (Seg.whole _))) (by omega) (by unfold maxLen; omega) (by omega) (by omega))) ?_
    rintro v1 L1 ⟨nb4, sp1, cp1, hg1, rfl, rfl, ha1, ha2, ha3, ha4⟩
    refine ⟨[(15, Slc nb4 0 2 cp1)], ?_⟩
    show DP _ _ _ _ _ _ _ _ [⟨nb3, cu8 (sumG constL initL (joinT 1 (sumG constL initL [0]) (sumG constL initL [0]))), 25, (0, 0)⟩, ⟨nb4, cu8 ((sumG constL initL [0]) ++ (sumG constL initL (joinT 1 (sumG constL initL [0]) (sumG constL initL [0])))) ++ sp1, 25, (0, 0)⟩]
    refine DP_end ⟨[12, 13, 14], [0, 1, 2, 3, 4, 5, 6, 7, 8, 9, 10, 11, 15], [0, 1, 2, 3, 4, 5, 6, 7, 8, 9, 10, 11], [15], []⟩ rfl rfl (by decide +kernel) rfl ⟨⟨_, rfl, Qok_val rfl (Ev_assign rfl)⟩, trivial⟩ ?_
    refine K_sub (F' := [(10, Slc nb2 0 1 1), (11, I64 (1:Int)), (12, Slc nb2 0 1 1), (13, I64 (1:Int)), (14, I64 (0:Int)), (15, Ptr nb2 0), (16, .agg (cu8 (sumG constL initL [0])).toArray), (17, Slc nb2 0 1 1), (18, I64 (1:Int)), (19, I64 (0:Int)), (20, Ptr nb2 0), (21, .agg (cu8 (sumG constL initL [0])).toArray), (22, .agg (cu8 (sumG constL initL (joinT 1 (sumG constL initL [0]) (sumG constL initL [0])))).toArray), (23, Slc nb3 0 1 1), (24, Slc nb4 0 2 cp1), (1, Slc nb4 0 2 cp1), (0, .slice none 0 0), (2, I64 (1:Int)), (6, I64 (1:Int)), (7, .bool (decide ((1:Int) ≤ (32:Int))))]) (Sub.cons (by kernel_rfl) (Sub.cons (by kernel_rfl) (Sub.cons (by kernel_rfl) (Sub.cons (by kernel_rfl) (Sub.cons (by kernel_rfl) (Sub.cons (by kernel_rfl) (Sub.cons (by kernel_rfl) (Sub.cons (by kernel_rfl) (Sub.cons (by kernel_rfl) (Sub.cons (by kernel_rfl) (Sub.cons (by kernel_rfl) (Sub.cons (by kernel_rfl) (Sub.cons (by kernel_rfl) (Sub.cons (by kernel_rfl) (Sub.cons (by kernel_rfl) (Sub.cons (by kernel_rfl) (Sub.cons (by kernel_rfl) (Sub.cons (by kernel_rfl) (Sub.cons (by kernel_rfl) (Sub.cons (by kernel_rfl) (Sub.nil))))))))))))))))))))) ?_
    show JQ _ _ _ [(10, Slc nb2 0 1 1), (11, I64 (1:Int)), (12, Slc nb2 0 1 1), (13, I64 (1:Int)), (14, I64 (0:Int)), (15, Ptr nb2 0), (16, .agg (cu8 (sumG constL initL [0])).toArray), (17, Slc nb2 0 1 1), (18, I64 (1:Int)), (19, I64 (0:Int)), (20, Ptr nb2 0), (21, .agg (cu8 (sumG constL initL [0])).toArray), (22, .agg (cu8 (sumG constL initL (joinT 1 (sumG constL initL [0]) (sumG constL initL [0])))).toArray), (23, Slc nb3 0 1 1), (24, Slc nb4 0 2 cp1), (1, Slc nb4 0 2 cp1), (0, .slice none 0 0), (2, I64 (1:Int)), (6, I64 (1:Int)), (7, .bool (decide ((1:Int) ≤ (32:Int))))] _
    refine JQ_in_normal ?_
    refine JQ_then ?_
    refine JC_region ?_
    refine JL_val _ (Ev_move rfl) rfl ?_
    refine JL_val (I64 (2:Int)) (Ev_bini rfl rfl fun _ => bin_add_i _ _ (2:Int) (by omega) (by omega)) rfl ?_
    refine JL_val _ (Ev_assign rfl) rfl ?_
    refine JL_nil ?_
    refine JQ_thenK ?_
    refine K_mask [false, true] ?_
    show K _ _ [⟨nb4, cu8 ((sumG constL initL [0]) ++ (sumG constL initL (joinT 1 (sumG constL initL [0]) (sumG constL initL [0])))) ++ sp1, 25, (0, 0)⟩] _
    refine K_next (.inr (1, (sumG constL initL [0]) ++ (sumG constL initL (joinT 1 (sumG constL initL [0]) (sumG constL initL [0]))), nb4, sp1, cp1)) ⟨by omega, by omega, by rw [← empR_zero]; exact empR_first, (ha1).trans (by omega), (ha2).trans (by omega), by omega, ha4⟩ (by first | (simp; omega) | simp | (dsimp only; omega) | omega) (Sub.cons rfl (Sub.cons rfl (Sub.cons rfl (Sub.nil)))) rfl
  ·
    obtain ⟨hx0, hx1, hx2, ho, hx4, hx5, hx6⟩ := hx
    show JC _ _ _ [(0, .slice none 0 0), (1, Slc g1 0 (q + 1) cp1), (2, I64 ((q:Int) + 1))] [⟨g1, cu8 o ++ sp1, 25, (0, 0)⟩]
    refine JC_seq ?_
    refine JC_seq ?_
    refine JC_region ?_
    refine JL_val _ (Ev_move rfl) rfl ?_
    refine JL_val (.bool (decide (((q:Int) + 1) ≤ (32:Int)))) (Ev_bini rfl rfl fun _ => bin_leq_i _ _) rfl ?_
    refine JL_nil ?_
    refine JQ_then ?_
    refine JC_cond (decide (((q:Int) + 1) ≤ (32:Int))) rfl (fun hb1 => ?_) (fun hb1 => ?_)
    ·
      have hp1 : ((q:Int) + 1) ≤ (32:Int) := of_decide_eq_true hb1
      refine JC_skip ?_
      refine JQ_then ?_
      refine JC_seq ?_
      refine JC_block ?_
      have hl1 : (mid o (32*q) 32).length = 32 := mid_len (by rw [ho]; omega)
      have hl2 : (mid o (32*q) 32).length = 32 := mid_len (by rw [ho]; omega)
      refine JC_draw 26 4 [(0, Slc g1 0 (q + 1) cp1), (1, I64 ((q:Int) + 1)), (2, Slc g1 0 (q + 1) cp1), (3, I64 ((q:Int) + 1)), (4, I64 ((q:Int))), (5, Ptr g1 (32*q)), (6, .agg (cu8 (mid o (32*q) 32)).toArray), (7, Slc g1 0 (q + 1) cp1), (8, I64 ((q:Int) + 1)), (9, I64 ((q:Int))), (10, Ptr g1 (32*q)), (11, .agg (cu8 (mid o (32*q) 32)).toArray)] Tryd.mixed rfl (by decide +kernel) ?_
      have hl3 : (mid o (32*q) 32).length = 32 := mid_len (by rw [ho]; omega)
      have hl4 : (mid o (32*q) 32).length = 32 := mid_len (by rw [ho]; omega)
      refine DP_one ⟨[], [0, 1, 2, 3, 4, 5, 6, 7, 8, 9, 10, 11], [], [0, 1, 2, 3, 4, 5, 6, 7, 8, 9, 10, 11], [12]⟩ 12 _ rfl rfl (by decide +kernel) rfl ⟨⟨_, rfl, Qok_val rfl (Ev_move rfl)⟩, ⟨_, rfl, Qok_val rfl (Ev_move rfl)⟩, ⟨_, rfl, Qok_val rfl (Ev_move rfl)⟩, ⟨_, rfl, Qok_val rfl (Ev_move rfl)⟩, ⟨_, rfl, Qok_val rfl (Ev_bini rfl rfl fun _ => bin_sub_i _ _ ((q:Int)) (by omega) (by omega))⟩, ⟨_, rfl, Qok_val rfl (Ev_indexSl 25 32 (32*q) Tryd.underlying105 Tryd.sizeOf25 rfl rfl (by omega) (by omega) (by omega))⟩, ⟨_, rfl, Qok_val rfl (Ev_load rfl (Ld_agg Tryd.isAgg25 Tryd.sizeOf25 (len_cu8 hl3) (MemAt.ent 0 rfl (Seg.left (segm_u8 (32*q) 32 (by rw [ho]; omega))))))⟩, ⟨_, rfl, Qok_val rfl (Ev_move rfl)⟩, ⟨_, rfl, Qok_val rfl (Ev_move rfl)⟩, ⟨_, rfl, Qok_val rfl (Ev_bini rfl rfl fun _ => bin_sub_i _ _ ((q:Int)) (by omega) (by omega))⟩, ⟨_, rfl, Qok_val rfl (Ev_indexSl 25 32 (32*q) Tryd.underlying105 Tryd.sizeOf25 rfl rfl (by omega) (by omega) (by omega))⟩, ⟨_, rfl, Qok_val rfl (Ev_load rfl (Ld_agg Tryd.isAgg25 Tryd.sizeOf25 (len_cu8 hl4) (MemAt.ent 0 rfl (Seg.left (segm_u8 (32*q) 32 (by rw [ho]; omega))))))⟩, trivial⟩ rfl (Cok_step rfl (Step_callP 74 [I64 ((q:Int) + 1), .agg (cu8 (mid o (32*q) 32)).toArray, .agg (cu8 (mid o (32*q) 32)).toArray] (.agg (cu8 (sumG constL initL (joinT (q + 1) (mid o (32*q) 32) (mid o (32*q) 32)))).toArray) (Cl_func [I64 ((q:Int) + 1), .agg (cu8 (mid o (32*q) 32)).toArray, .agg (cu8 (mid o (32*q) 32)).toArray] Tryd.call74 rfl) (fun w1 hw1 => rjoin_n_c (q + 1) (mid o (32*q) 32) (mid o (32*q) 32) w1 hl1 hl2 (by omega) (by omega) (GLr.at hw1 hGr) (GLi.at hw1 hGi)))) ?_
      rintro v1 L1 ⟨rfl, rfl⟩
      refine ⟨[], ?_⟩
      show DP _ _ _ _ _ _ _ _ [⟨g1, cu8 o ++ sp1, 25, (0, 0)⟩]
      refine DP_one ⟨[12], [0, 1, 2, 3, 4, 5, 6, 7, 8, 9, 10, 11], [1, 2, 3, 4, 5, 6, 7, 8, 9, 10, 11], [0], [13]⟩ 13 _ rfl rfl (by decide +kernel) rfl ⟨⟨_, rfl, Qok_val rfl (Ev_move rfl)⟩, trivial⟩ rfl (Cok_step rfl (Step_buildSlice 25 32 _ [(0, .agg (cu8 (sumG constL initL (joinT (q + 1) (mid o (32*q) 32) (mid o (32*q) 32)))).toArray)] (cu8 (sumG constL initL (joinT (q + 1) (mid o (32*q) 32) (mid o (32*q) 32)))) Tryd.underlying105 Tryd.sizeOf25 Tryd.zeroValue25 rfl rfl rfl (fill_firstS (sumG_len _ _ _) (by kernel_rfl)))) ?_
      rintro v1 L1 ⟨nb5, hnb5, rfl, rfl⟩
      refine ⟨[], ?_⟩
      show DP _ _ _ _ _ _ _ _ [⟨g1, cu8 o ++ sp1, 25, (0, 0)⟩, ⟨nb5, cu8 (sumG constL initL (joinT (q + 1) (mid o (32*q) 32) (mid o (32*q) 32))), 25, (0, 0)⟩]
      refine DP_one ⟨[12, 13], [0, 1, 2, 3, 4, 5, 6, 7, 8, 9, 10, 11], [1, 2, 3, 4, 5, 6, 7, 8, 9, 10, 11], [0], [14]⟩ 14 _ rfl rfl (by decide +kernel) rfl ⟨⟨_, rfl, Qok_val rfl (Ev_move rfl)⟩, trivial⟩ rfl (Cok_step rfl (Step_appH 105 25 32 32 (.agg (cu8 (zr8 32)).toArray) [true, false] (Slc g1 0 (q + 1) cp1) (q + 1) o (sumG constL initL (joinT (q + 1) (mid o (32*q) 32) (mid o (32*q) 32))) (some ⟨nb5, 0, none⟩) 1 1 (q + 2) (32*q + 64) Tryd.underlying105 (by kernel_rfl) (by kernel_rfl) (by decide) rfl (.inr ⟨g1, sp1, cp1, rfl, rfl, (by have h : (o).length = (32*q + 32) := ho; omega), (by first | exact hx4 | omega), (by omega), (by omega)⟩) rfl (by have h : (sumG constL initL (joinT (q + 1) (mid o (32*q) 32) (mid o (32*q) 32))).length = 32 := (sumG_len _ _ _); omega) (SrcAt.mem (MemAt.ent 1 rfl (Seg.whole _))) (by omega) (by unfold maxLen; omega) (by omega) (by omega))) ?_
      rintro v1 L1 ⟨nb6, sp2, cp2, hg2, rfl, rfl, ha5, ha6, ha7, ha8⟩
      refine ⟨[(15, Slc nb6 0 (q + 2) cp2)], ?_⟩
      show DP _ _ _ _ _ _ _ _ [⟨nb5, cu8 (sumG constL initL (joinT (q + 1) (mid o (32*q) 32) (mid o (32*q) 32))), 25, (0, 0)⟩, ⟨nb6, cu8 (o ++ (sumG constL initL (joinT (q + 1) (mid o (32*q) 32) (mid o (32*q) 32)))) ++ sp2, 25, (0, 0)⟩]
      refine DP_end ⟨[12, 13, 14], [0, 1, 2, 3, 4, 5, 6, 7, 8, 9, 10, 11, 15], [0, 1, 2, 3, 4, 5, 6, 7, 8, 9, 10, 11], [15], []⟩ rfl rfl (by decide +kernel) rfl ⟨⟨_, rfl, Qok_val rfl (Ev_assign rfl)⟩, trivial⟩ ?_
      refine K_sub (F' := [(10, Slc g1 0 (q + 1) cp1), (11, I64 ((q:Int) + 1)), (12, Slc g1 0 (q + 1) cp1), (13, I64 ((q:Int) + 1)), (14, I64 ((q:Int))), (15, Ptr g1 (32*q)), (16, .agg (cu8 (mid o (32*q) 32)).toArray), (17, Slc g1 0 (q + 1) cp1), (18, I64 ((q:Int) + 1)), (19, I64 ((q:Int))), (20, Ptr g1 (32*q)), (21, .agg (cu8 (mid o (32*q) 32)).toArray), (22, .agg (cu8 (sumG constL initL (joinT (q + 1) (mid o (32*q) 32) (mid o (32*q) 32)))).toArray), (23, Slc nb5 0 1 1), (24, Slc nb6 0 (q + 2) cp2), (1, Slc nb6 0 (q + 2) cp2), (0, .slice none 0 0), (2, I64 ((q:Int) + 1)), (6, I64 ((q:Int) + 1)), (7, .bool (decide (((q:Int) + 1) ≤ (32:Int))))]) (Sub.cons (by kernel_rfl) (Sub.cons (by kernel_rfl) (Sub.cons (by kernel_rfl) (Sub.cons (by kernel_rfl) (Sub.cons (by kernel_rfl) (Sub.cons (by kernel_rfl) (Sub.cons (by kernel_rfl) (Sub.cons (by kernel_rfl) (Sub.cons (by kernel_rfl) (Sub.cons (by kernel_rfl) (Sub.cons (by kernel_rfl) (Sub.cons (by kernel_rfl) (Sub.cons (by kernel_rfl) (Sub.cons (by kernel_rfl) (Sub.cons (by kernel_rfl) (Sub.cons (by kernel_rfl) (Sub.cons (by kernel_rfl) (Sub.cons (by kernel_rfl) (Sub.cons (by kernel_rfl) (Sub.cons (by kernel_rfl) (Sub.nil))))))))))))))))))))) ?_
      show JQ _ _ _ [(10, Slc g1 0 (q + 1) cp1), (11, I64 ((q:Int) + 1)), (12, Slc g1 0 (q + 1) cp1), (13, I64 ((q:Int) + 1)), (14, I64 ((q:Int))), (15, Ptr g1 (32*q)), (16, .agg (cu8 (mid o (32*q) 32)).toArray), (17, Slc g1 0 (q + 1) cp1), (18, I64 ((q:Int) + 1)), (19, I64 ((q:Int))), (20, Ptr g1 (32*q)), (21, .agg (cu8 (mid o (32*q) 32)).toArray), (22, .agg (cu8 (sumG constL initL (joinT (q + 1) (mid o (32*q) 32) (mid o (32*q) 32)))).toArray), (23, Slc nb5 0 1 1), (24, Slc nb6 0 (q + 2) cp2), (1, Slc nb6 0 (q + 2) cp2), (0, .slice none 0 0), (2, I64 ((q:Int) + 1)), (6, I64 ((q:Int) + 1)), (7, .bool (decide (((q:Int) + 1) ≤ (32:Int))))] _
      refine JQ_in_normal ?_
      refine JQ_then ?_
      refine JC_region ?_
      refine JL_val _ (Ev_move rfl) rfl ?_
      refine JL_val (I64 ((q:Int) + 2)) (Ev_bini rfl rfl fun _ => bin_add_i _ _ ((q:Int) + 2) (by omega) (by omega)) rfl ?_
      refine JL_val _ (Ev_assign rfl) rfl ?_
      refine JL_nil ?_
      refine JQ_thenK ?_
      refine K_mask [false, true] ?_
      show K _ _ [⟨nb6, cu8 (o ++ (sumG constL initL (joinT (q + 1) (mid o (32*q) 32) (mid o (32*q) 32)))) ++ sp2, 25, (0, 0)⟩] _
      refine K_next (.inr (q + 1, o ++ (sumG constL initL (joinT (q + 1) (mid o (32*q) 32) (mid o (32*q) 32))), nb6, sp2, cp2)) ⟨by omega, by omega, by rw [hx2]; exact empR_step q, (ha5).trans (by omega), (ha6).trans (by omega), by omega, ha8⟩ (by first | (simp; omega) | simp | (dsimp only; omega) | omega) (Sub.cons rfl (Sub.cons rfl (Sub.cons (some_i64 (by omega)) (Sub.nil)))) rfl
    ·
      have hp1 : ¬ (((q:Int) + 1) ≤ (32:Int)) := of_decide_eq_false hb1
      refine JC_exit ?_
      refine JQ_then_exit ?_
      refine JQ_then_exit ?_
      refine JQ_in_same ?_
      refine JQ_then ?_
      refine JC_seq ?_
      refine JC_region ?_
      refine JL_val _ (Ev_move rfl) rfl ?_
      refine JL_val _ (Ev_assign rfl) rfl ?_
      refine JL_nil ?_
      refine JQ_then ?_
      refine JC_ret ?_
      refine JQ_ret (Slc g1 0 (q + 1) cp1) (res1 Tryd.results73 (RV_tmp rfl)) fun w1 hw1 => ?_
      obtain rfl : q = 32 := by omega
      rw [hx2] at hw1
      exact ⟨_, _, rfl, ⟨g1, sp1, cp1, rfl, rfl, by omega, by omega, hx6⟩, hw1.sub (by simp) (by simp)⟩

end Go.Proofs.YtncoifiafklkjaaDoor
