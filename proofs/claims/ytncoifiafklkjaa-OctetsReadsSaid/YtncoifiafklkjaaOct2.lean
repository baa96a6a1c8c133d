import Derived.Test.YtncoifiafklkjaaOct1
namespace Go.Proofs.Ytncoifiafklkjaa
open Go Go.Sx
set_option linter.unusedVariables false
set_option linter.unusedSimpArgs false
set_option maxRecDepth 100000
attribute [local irreducible] mid zr8 zr32 zr64 numK rnK ftN valK rvalK
theorem scloneNil_c  (w : World) : Calls Try.prog 83 #[.slice none 0 0] w (Post w [] (fun v L => v = .slice none 0 0 ∧ L = [])) := by
  refine enter w [] 8 [] [.slice none 0 0] Try.func83 rfl rfl (by simp) (Hp.start (by simp) (by simp) (by simp)) ?_
  show JC _ _ _ [(0, .slice none 0 0)] _
  refine JC_seq ?_
  refine JC_region ?_
  refine JL_val _ (Ev_assign rfl) rfl ?_
  refine JL_nil ?_
  refine JQ_then ?_
  refine JC_seq ?_
  refine JC_seq ?_
  refine JC_region ?_
  refine JL_val _ (Ev_move rfl) rfl ?_
  refine JL_val (.bool true) (Ev_bin _ _ _ rfl rfl (fun _ => eqGuard_sl ..) fun _ => eql_sl_nil_nil Try.underlying38) rfl ?_
  refine JL_nil ?_
  refine JQ_then ?_
  refine JC_condT _ rfl rfl ?_
  refine JC_seq ?_
  refine JC_region ?_
  refine JL_val _ (Ev_assign rfl) rfl ?_
  refine JL_nil ?_
  refine JQ_then ?_
  refine JC_ret ?_
  refine JQ_then_ret ?_
  refine JQ_ret (.slice none 0 0) (res1 Try.results83 (RV_tmp rfl)) fun w1 hw1 => ?_
  exact ⟨_, [], rfl, ⟨rfl, rfl⟩, hw1.sub (by simp) (by simp)⟩

theorem sclone_c (ao : Option Addr) (n cb : Nat) (b : List UInt8) (w : World) (ha : ao.isNone = false) (hb : b.length = n) (hn : n ≤ 35184372088832) (hr : RdB w [] ao b) : Calls Try.prog 83 #[.slice ao n cb] w (Post w [] (fun v L => ∃ g sp cap, v = Slc g 0 n cap ∧ L = [⟨g, cu8 (b) ++ sp, 5, (0, 0)⟩] ∧ sp.length = cap - n ∧ n ≤ cap ∧ cap ≤ maxLen)) := by
  refine enter w [] 8 [] [.slice ao n cb] Try.func83 rfl rfl (by simp) (Hp.start (by simp) (by simp) (by simp)) ?_
  show JC _ _ _ [(0, .slice ao n cb)] _
  refine JC_seq ?_
  refine JC_region ?_
  refine JL_val _ (Ev_assign rfl) rfl ?_
  refine JL_nil ?_
  refine JQ_then ?_
  refine JC_seq ?_
  refine JC_seq ?_
  refine JC_region ?_
  refine JL_val _ (Ev_move rfl) rfl ?_
  refine JL_val (.bool ao.isNone) (Ev_bin _ _ _ rfl rfl (fun _ => eqGuard_sl ..) fun _ => eql_sl_any Try.underlying38) rfl ?_
  refine JL_nil ?_
  refine JQ_then ?_
  refine JC_condF _ rfl ha ?_
  refine JC_skip ?_
  refine JQ_then ?_
  refine JC_seq ?_
  refine JC_region ?_
  refine JL_step (Step_buildSlice0 5 1 Try.underlying38 Try.sizeOf5) rfl ?_
  rintro v1 L1 ⟨nb1, hnb1, rfl, rfl⟩
  show JL _ _ _ _ ((5, Slc nb1 0 0 0) :: _) [⟨nb1, [], 5, (0, 0)⟩]
  refine JL_val _ (Ev_move rfl) rfl ?_
  refine JL_step (Step_appM8 38 5 [true] (Slc nb1 0 0 0) 0 ([] : List UInt8) b ao n cb n Try.underlying38 Try.info5 rfl (.inr ⟨nb1, [], 0, rfl, (by simp [take?, cu8, cu32, cu64]), rfl, (by simp), (by omega), (by unfold maxLen; omega)⟩) rfl (by simp [hb]; try omega) (hr.src) (by omega) (by unfold maxLen; omega) (by omega)) rfl ?_
  rintro v1 L1 ⟨nb2, sp1, cp1, hg1, rfl, rfl, ha1, ha2, ha3, ha4⟩
  show JL _ _ _ _ ((7, Slc nb2 0 n cp1) :: _) [⟨nb2, cu8 (([] : List UInt8) ++ b) ++ sp1, 5, (0, 0)⟩]
  refine JL_val _ (Ev_assign rfl) rfl ?_
  refine JL_nil ?_
  refine JQ_then ?_
  refine JC_ret ?_
  refine JQ_ret (Slc nb2 0 n cp1) (res1 Try.results83 (RV_tmp rfl)) fun w1 hw1 => ?_
  exact ⟨_, _, rfl, ⟨nb2, sp1, cp1, rfl, rfl, ha2, ha3, ha4⟩, hw1⟩

theorem str_dec (x y : List UInt8) : decide ((⟨x.toArray⟩ : ByteArray) = ⟨y.toArray⟩) = decide (x = y) := by
  rw [Bool.eq_iff_iff]; simp

theorem bytes_c (a1 a2 : Option Addr) (n1 n2 c1 c2 : Nat) (x y : List UInt8) (w : World) (hx : x.length = n1) (hy : y.length = n2) (h1 : RdB w [] a1 x) (h2 : RdB w [] a2 y) : Calls Try.prog 25 #[.slice a1 n1 c1, .slice a2 n2 c2] w (Post w [] (fun v L => v = .bool (decide (x = y)) ∧ L = [])) := by
  refine enter w [] 10 [] [.slice a1 n1 c1, .slice a2 n2 c2] Try.func25 rfl rfl (by simp) (Hp.start (by simp) (by simp) (by simp)) ?_
  show JC _ _ _ [(0, .slice a1 n1 c1), (1, .slice a2 n2 c2)] _
  refine JC_seq ?_
  refine JC_region ?_
  refine JL_val _ (Ev_assign rfl) rfl ?_
  refine JL_nil ?_
  refine JQ_then ?_
  refine JC_seq ?_
  refine JC_region ?_
  refine JL_val _ (Ev_move rfl) rfl ?_
  refine JL_val (.string (⟨x.toArray⟩ : ByteArray)) (Ev_toStr 5 a1 n1 c1 x Try.underlying38 Try.underlying5 Try.underlying9 rfl (by simp [hx]; try omega) (h1.src)) rfl ?_
  refine JL_val _ (Ev_move rfl) rfl ?_
  refine JL_val (.string (⟨y.toArray⟩ : ByteArray)) (Ev_toStr 5 a2 n2 c2 y Try.underlying38 Try.underlying5 Try.underlying9 rfl (by simp [hy]; try omega) (h2.src)) rfl ?_
  refine JL_val (.bool (decide (x = y))) (Ev_bin _ _ _ rfl rfl (fun _ => eqGuard_str ..) fun _ => eql_str) rfl ?_
  refine JL_val _ (Ev_assign rfl) rfl ?_
  refine JL_nil ?_
  refine JQ_then ?_
  refine JC_ret ?_
  refine JQ_ret (.bool (decide (x = y))) (res1 Try.results25 (RV_tmp rfl)) fun w1 hw1 => ?_
  refine ⟨_, [], rfl, ⟨?_, rfl⟩, hw1.sub (by simp) (by simp)⟩
  rfl

theorem bytesB_c (wb e : Nat) (sv : Value) (ax : Option Addr) (p cx : Nat) (w : World) (h0 : w.heap[wb]? = some (.cells [errV 36 e, sv].toArray 66 (0, 0))) (hm : 65535 < p) : Calls Try.prog 42 #[Ptr wb 0, .slice ax p cx] w (Post w [wb] (fun v L => v = Ptr wb 0 ∧ L = [⟨wb, [errV 36 (erN e 3), sv], 66, (0, 0)⟩])) := by
  refine enter w [wb] 23 [⟨wb, [errV 36 e, sv], 66, (0, 0)⟩] [Ptr wb 0, .slice ax p cx] Try.func42 rfl rfl (by simp) (Hp.start (by simpa using h0) (by simp) (by simp)) ?_
  show JC _ _ _ [(0, Ptr wb 0), (1, .slice ax p cx)] _
  refine JC_seq ?_
  refine JC_region ?_
  refine JL_val _ (Ev_assign rfl) rfl ?_
  refine JL_nil ?_
  refine JQ_then ?_
  refine JC_seq ?_
  refine JC_seq ?_
  refine JC_region ?_
  refine JL_val _ (Ev_move rfl) rfl ?_
  refine JL_val (.bool false) (Ev_bin _ _ _ rfl rfl (fun _ => eqGuard_ptr ..) fun _ => eql_ptr_nil Try.underlying62) rfl ?_
  refine JL_nil ?_
  refine JQ_then ?_
  refine JC_condF _ rfl rfl ?_
  refine JC_skip ?_
  refine JQ_then ?_
  refine JC_seq ?_
  refine JC_seq ?_
  refine JC_region ?_
  refine JL_val _ (Ev_move rfl) rfl ?_
  refine JL_val (I64 ((p:Int))) (Ev_len Try.underlying38 rfl) rfl ?_
  refine JL_val (.bool (decide ((65535:Int) < ((p:Int))))) (Ev_bini rfl rfl fun _ => bin_gtr_i _ _) rfl ?_
  refine JL_nil ?_
  refine JQ_then ?_
  refine JC_condT _ rfl (decide_eq_true (by omega)) ?_
  refine JC_seq ?_
  refine JC_region ?_
  refine JL_val _ (Ev_move rfl) rfl ?_
  refine JL_val _ (Ev_nilCheck rfl) rfl ?_
  refine JL_val (Ptr wb 0) (Ev_fieldAddr 0 64 1 Try.underlying66 rfl Try.sizeOf64 rfl rfl) rfl ?_
  refine JL_val (.iface 36 (I64 (3:Int))) (Ev_iface Try.underlying36 rfl rfl) rfl ?_
  refine JL_step (Step_callW 80 [Ptr wb 0, .iface 36 (I64 (3:Int))] 0 ⟨wb, [errV 36 e, sv], 66, (0, 0)⟩ _ (fun v e' l' => v = .tuple #[] ∧ e' = ⟨wb, [errV 36 (erN e 3), sv], 66, (0, 0)⟩ ∧ l' = []) (Cl_func [Ptr wb 0, .iface 36 (I64 (3:Int))] Try.call80 rfl) rfl (by rintro v l ⟨rfl, rfl⟩; exact ⟨_, _, rfl, rfl, rfl, rfl, rfl⟩) (fun w1 hw1 => failWi_c wb e 3 sv w1 (by decide) (hw1.ent _ (List.mem_of_getElem? (i := 0) rfl)))) rfl ?_
  rintro v1 L1 ⟨_, _, ⟨rfl, rfl, rfl⟩, rfl⟩
  show JL _ _ _ _ ((14, .tuple #[]) :: _) [⟨wb, [errV 36 (erN e 3), sv], 66, (0, 0)⟩]
  refine JL_nil ?_
  refine JQ_then ?_
  refine JC_seq ?_
  refine JC_region ?_
  refine JL_val _ (Ev_move rfl) rfl ?_
  refine JL_val _ (Ev_assign rfl) rfl ?_
  refine JL_nil ?_
  refine JQ_then ?_
  refine JC_ret ?_
  refine JQ_then_ret ?_
  refine JQ_ret (Ptr wb 0) (res1 Try.results42 (RV_tmp rfl)) fun w1 hw1 => ?_
  exact ⟨_, _, rfl, ⟨rfl, rfl⟩, hw1⟩

theorem bytesN_c (wb tot : Nat) (ev : Value) (ax : Option Addr) (p cx : Nat) (z : List UInt8) (w : World) (h0 : w.heap[wb]? = some (.cells [ev, .slice none 0 0].toArray 66 (0, 0))) (hz : z.length = p) (hr : RdB w [wb] ax z) (hm : p ≤ 65535) (ht : p + 2 = tot) : Calls Try.prog 42 #[Ptr wb 0, .slice ax p cx] w (Post w [wb] (fun v L => v = Ptr wb 0 ∧ ∃ g sp cap, L = [⟨wb, [ev, Slc g 0 tot cap], 66, (0, 0)⟩, ⟨g, cu8 (numK 2 (UInt64.ofNat p) 2 ++ z) ++ sp, 5, (0, 0)⟩] ∧ sp.length = cap - tot ∧ tot ≤ cap ∧ cap ≤ maxLen)) := by
  have hmx : maxLen = 9223372036854775807 := rfl
  refine enter w [wb] 23 [⟨wb, [ev, .slice none 0 0], 66, (0, 0)⟩] [Ptr wb 0, .slice ax p cx] Try.func42 rfl rfl (by simp) (Hp.start (by simpa using h0) (by simp) (by simp)) ?_
  show JC _ _ _ [(0, Ptr wb 0), (1, .slice ax p cx)] _
  refine JC_seq ?_
  refine JC_region ?_
  refine JL_val _ (Ev_assign rfl) rfl ?_
  refine JL_nil ?_
  refine JQ_then ?_
  refine JC_seq ?_
  refine JC_seq ?_
  refine JC_region ?_
  refine JL_val _ (Ev_move rfl) rfl ?_
  refine JL_val (.bool false) (Ev_bin _ _ _ rfl rfl (fun _ => eqGuard_ptr ..) fun _ => eql_ptr_nil Try.underlying62) rfl ?_
  refine JL_nil ?_
  refine JQ_then ?_
  refine JC_condF _ rfl rfl ?_
  refine JC_skip ?_
  refine JQ_then ?_
  refine JC_seq ?_
  refine JC_seq ?_
  refine JC_region ?_
  refine JL_val _ (Ev_move rfl) rfl ?_
  refine JL_val (I64 ((p:Int))) (Ev_len Try.underlying38 rfl) rfl ?_
  refine JL_val (.bool (decide ((65535:Int) < ((p:Int))))) (Ev_bini rfl rfl fun _ => bin_gtr_i _ _) rfl ?_
  refine JL_nil ?_
  refine JQ_then ?_
  refine JC_condF _ rfl (decide_eq_false (by omega)) ?_
  refine JC_skip ?_
  refine JQ_then ?_
  refine JC_seq ?_
  refine JC_region ?_
  refine JL_val _ (Ev_move rfl) rfl ?_
  refine JL_val _ (Ev_move rfl) rfl ?_
  refine JL_val (I64 ((p:Int))) (Ev_len Try.underlying38 rfl) rfl ?_
  refine JL_val (U64 (UInt64.ofNat p)) (Ev_conv _ _ rfl fun _ => conv_i64_u64 (by rw [Try.underlying3]; rfl) Try.underlying44 p _ (by omega)) rfl ?_
  refine JL_step (Step_call 40 _ [true] [wb] _ (Cl_func [Ptr wb 0, U64 (UInt64.ofNat p), I64 (2:Int)] Try.call40 rfl) rfl (fun w1 hw1 => numN_c wb 2 ev (UInt64.ofNat p) 2 w1 (hw1.ent _ (List.mem_of_getElem? (i := 0) rfl)) (by unfold Szd; omega) (fun _ => shr16 (by omega)) (by omega))) rfl ?_
  rintro v1 L1 ⟨_, ⟨rfl, nb1, sp1, cp1, rfl, hc1, hc2, hc3⟩, rfl⟩
  show JL _ _ _ _ ((20, Ptr wb 0) :: _) [⟨wb, [ev, Slc nb1 0 2 cp1], 66, (0, 0)⟩, ⟨nb1, cu8 (numK 2 (UInt64.ofNat p) 2) ++ sp1, 5, (0, 0)⟩]
  refine JL_val _ (Ev_move rfl) rfl ?_
  refine JL_step (Step_call 44 _ [true, true] [wb, nb1] _ (Cl_func [Ptr wb 0, .slice ax p cx] Try.call44 rfl) rfl (fun w1 hw1 => rawO_c wb nb1 2 cp1 (p + 2) ev (numK 2 (UInt64.ofNat p) 2) sp1 ax p cx z w1 (hw1.ent _ (List.mem_of_getElem? (i := 0) rfl)) (hw1.ent _ (List.mem_of_getElem? (i := 1) rfl)) (hw1.ne (i := 0) (j := 1) rfl rfl (by decide)) (show (numK 2 (UInt64.ofNat p) 2).length = 2 from (numK_len _ _ _)) hc1 hc2 hc3 (by omega) hz (by omega) (hr.at (M' := [wb, nb1]) hw1 (hw1.apart [0, 1] _ rfl)) (by omega))) rfl ?_
  rintro v1 L1 ⟨_, ⟨rfl, nb2, sp2, cp2, rfl, hc4, hc5, hc6⟩, rfl⟩
  show JL _ _ _ _ ((22, Ptr wb 0) :: _) [⟨wb, [ev, Slc nb2 0 (p + 2) cp2], 66, (0, 0)⟩, ⟨nb2, cu8 ((numK 2 (UInt64.ofNat p) 2) ++ z) ++ sp2, 5, (0, 0)⟩]
  refine JL_val _ (Ev_assign rfl) rfl ?_
  refine JL_nil ?_
  refine JQ_then ?_
  refine JC_ret ?_
  refine JQ_ret (Ptr wb 0) (res1 Try.results42 (RV_tmp rfl)) fun w1 hw1 => ?_
  obtain rfl : tot = (p + 2) := by omega
  exact ⟨_, _, rfl, ⟨rfl, nb2, sp2, cp2, rfl, hc4, hc5, hc6⟩, hw1⟩

theorem bytesO_c (wb gb n cap0 tot : Nat) (ev : Value) (o : List UInt8) (sp0 : List Value) (ax : Option Addr) (p cx : Nat) (z : List UInt8) (w : World) (h0 : w.heap[wb]? = some (.cells [ev, Slc gb 0 n cap0].toArray 66 (0, 0))) (h1 : w.heap[gb]? = some (.cells (cu8 o ++ sp0).toArray 5 (0, 0))) (hne : wb ≠ gb) (ho : o.length = n) (hsp : sp0.length = cap0 - n) (hca : n ≤ cap0) (hcm : cap0 ≤ maxLen) (hn : n ≤ 900000000) (hz : z.length = p) (hr : RdB w [wb, gb] ax z) (hm : p ≤ 65535) (ht : n + p + 2 = tot) : Calls Try.prog 42 #[Ptr wb 0, .slice ax p cx] w (Post w [wb, gb] (fun v L => v = Ptr wb 0 ∧ ∃ g sp cap, L = [⟨wb, [ev, Slc g 0 tot cap], 66, (0, 0)⟩, ⟨g, cu8 ((o ++ numK 2 (UInt64.ofNat p) 2) ++ z) ++ sp, 5, (0, 0)⟩] ∧ sp.length = cap - tot ∧ tot ≤ cap ∧ cap ≤ maxLen)) := by
  have hmx : maxLen = 9223372036854775807 := rfl
  refine enter w [wb, gb] 23 [⟨wb, [ev, Slc gb 0 n cap0], 66, (0, 0)⟩, ⟨gb, cu8 o ++ sp0, 5, (0, 0)⟩] [Ptr wb 0, .slice ax p cx] Try.func42 rfl rfl (by simp) (Hp.start (by simp; exact ⟨h0, h1⟩) (by simp; exact hne) (by simp)) ?_
  show JC _ _ _ [(0, Ptr wb 0), (1, .slice ax p cx)] _
  refine JC_seq ?_
  refine JC_region ?_
  refine JL_val _ (Ev_assign rfl) rfl ?_
  refine JL_nil ?_
  refine JQ_then ?_
  refine JC_seq ?_
  refine JC_seq ?_
  refine JC_region ?_
  refine JL_val _ (Ev_move rfl) rfl ?_
  refine JL_val (.bool false) (Ev_bin _ _ _ rfl rfl (fun _ => eqGuard_ptr ..) fun _ => eql_ptr_nil Try.underlying62) rfl ?_
  refine JL_nil ?_
  refine JQ_then ?_
  refine JC_condF _ rfl rfl ?_
  refine JC_skip ?_
  refine JQ_then ?_
  refine JC_seq ?_
  refine JC_seq ?_
  refine JC_region ?_
  refine JL_val _ (Ev_move rfl) rfl ?_
  refine JL_val (I64 ((p:Int))) (Ev_len Try.underlying38 rfl) rfl ?_
  refine JL_val (.bool (decide ((65535:Int) < ((p:Int))))) (Ev_bini rfl rfl fun _ => bin_gtr_i _ _) rfl ?_
  refine JL_nil ?_
  refine JQ_then ?_
  refine JC_condF _ rfl (decide_eq_false (by omega)) ?_
  refine JC_skip ?_
  refine JQ_then ?_
  refine JC_seq ?_
  refine JC_region ?_
  refine JL_val _ (Ev_move rfl) rfl ?_
  refine JL_val _ (Ev_move rfl) rfl ?_
  refine JL_val (I64 ((p:Int))) (Ev_len Try.underlying38 rfl) rfl ?_
  refine JL_val (U64 (UInt64.ofNat p)) (Ev_conv _ _ rfl fun _ => conv_i64_u64 (by rw [Try.underlying3]; rfl) Try.underlying44 p _ (by omega)) rfl ?_
  refine JL_step (Step_call 40 _ [true, true] [wb, gb] _ (Cl_func [Ptr wb 0, U64 (UInt64.ofNat p), I64 (2:Int)] Try.call40 rfl) rfl (fun w1 hw1 => numO_c wb gb n cap0 (n + 2) ev o sp0 (UInt64.ofNat p) 2 w1 (hw1.ent _ (List.mem_of_getElem? (i := 0) rfl)) (hw1.ent _ (List.mem_of_getElem? (i := 1) rfl)) (hw1.ne (i := 0) (j := 1) rfl rfl (by decide)) ho hsp hca hcm (by omega) (by unfold Szd; omega) (fun _ => shr16 (by omega)) (by omega))) rfl ?_
  rintro v1 L1 ⟨_, ⟨rfl, nb1, sp1, cp1, rfl, hc1, hc2, hc3⟩, rfl⟩
  show JL _ _ _ _ ((20, Ptr wb 0) :: _) [⟨wb, [ev, Slc nb1 0 (n + 2) cp1], 66, (0, 0)⟩, ⟨nb1, cu8 (o ++ numK 2 (UInt64.ofNat p) 2) ++ sp1, 5, (0, 0)⟩]
  refine JL_val _ (Ev_move rfl) rfl ?_
  refine JL_step (Step_call 44 _ [true, true] [wb, nb1] _ (Cl_func [Ptr wb 0, .slice ax p cx] Try.call44 rfl) rfl (fun w1 hw1 => rawO_c wb nb1 (n + 2) cp1 (n + p + 2) ev (o ++ numK 2 (UInt64.ofNat p) 2) sp1 ax p cx z w1 (hw1.ent _ (List.mem_of_getElem? (i := 0) rfl)) (hw1.ent _ (List.mem_of_getElem? (i := 1) rfl)) (hw1.ne (i := 0) (j := 1) rfl rfl (by decide)) (show (o ++ numK 2 (UInt64.ofNat p) 2).length = (n + 2) from (by rw [List.length_append, ho, numK_len] <;> omega)) hc1 hc2 hc3 (by omega) hz (by omega) (hr.at (M' := [wb, nb1]) hw1 (hw1.apart [0, 1] _ rfl)) (by omega))) rfl ?_
  rintro v1 L1 ⟨_, ⟨rfl, nb2, sp2, cp2, rfl, hc4, hc5, hc6⟩, rfl⟩
  show JL _ _ _ _ ((22, Ptr wb 0) :: _) [⟨wb, [ev, Slc nb2 0 (n + p + 2) cp2], 66, (0, 0)⟩, ⟨nb2, cu8 ((o ++ numK 2 (UInt64.ofNat p) 2) ++ z) ++ sp2, 5, (0, 0)⟩]
  refine JL_val _ (Ev_assign rfl) rfl ?_
  refine JL_nil ?_
  refine JQ_then ?_
  refine JC_ret ?_
  refine JQ_ret (Ptr wb 0) (res1 Try.results42 (RV_tmp rfl)) fun w1 hw1 => ?_
  obtain rfl : tot = (n + p + 2) := by omega
  exact ⟨_, _, rfl, ⟨rfl, nb2, sp2, cp2, rfl, hc4, hc5, hc6⟩, hw1⟩

theorem bytesWNil_c (v : Value) (w : World) : Calls Try.prog 42 #[.pointer none, v] w (Post w [] (fun v L => v = .pointer none ∧ L = [])) := by
  refine enter w [] 23 [] [.pointer none, v] Try.func42 rfl rfl (by simp) (Hp.start (by simp) (by simp) (by simp)) ?_
  show JC _ _ _ [(0, .pointer none), (1, v)] _
  refine JC_seq ?_
  refine JC_region ?_
  refine JL_val _ (Ev_assign rfl) rfl ?_
  refine JL_nil ?_
  refine JQ_then ?_
  refine JC_seq ?_
  refine JC_seq ?_
  refine JC_region ?_
  refine JL_val _ (Ev_move rfl) rfl ?_
  refine JL_val (.bool true) (Ev_bin _ _ _ rfl rfl (fun _ => eqGuard_ptr ..) fun _ => eql_ptr_nil_nil Try.underlying62) rfl ?_
  refine JL_nil ?_
  refine JQ_then ?_
  refine JC_condT _ rfl rfl ?_
  refine JC_seq ?_
  refine JC_region ?_
  refine JL_val _ (Ev_assign rfl) rfl ?_
  refine JL_nil ?_
  refine JQ_then ?_
  refine JC_ret ?_
  refine JQ_then_ret ?_
  refine JQ_ret (.pointer none) (res1 Try.results42 (RV_tmp rfl)) fun w1 hw1 => ?_
  exact ⟨_, [], rfl, ⟨rfl, rfl⟩, hw1.sub (by simp) (by simp)⟩

theorem hashN_c (wb tot : Nat) (ev : Value) (h : List UInt8) (w : World) (h0 : w.heap[wb]? = some (.cells [ev, .slice none 0 0].toArray 66 (0, 0))) (hh : h.length = 32) (ht : 32 = tot) : Calls Try.prog 47 #[Ptr wb 0, .agg (cu8 h).toArray] w (Post w [wb] (fun v L => v = Ptr wb 0 ∧ ∃ g sp cap, L = [⟨wb, [ev, Slc g 0 tot cap], 66, (0, 0)⟩, ⟨g, cu8 (h) ++ sp, 5, (0, 0)⟩] ∧ sp.length = cap - tot ∧ tot ≤ cap ∧ cap ≤ maxLen)) := by
  have hmx : maxLen = 9223372036854775807 := rfl
  refine enter w [wb] 8 [⟨wb, [ev, .slice none 0 0], 66, (0, 0)⟩] [Ptr wb 0, .agg (cu8 h).toArray] Try.func47 rfl rfl (by simp) (Hp.start (by simpa using h0) (by simp) (by simp)) ?_
  show JC _ _ _ [(0, Ptr wb 0), (1, .agg (cu8 h).toArray)] _
  refine JC_seq ?_
  refine JC_region ?_
  refine JL_step (Step_box (.agg (cu8 h).toArray) (cu8 h) rfl (by first | rfl | simp)) rfl ?_
  rintro v1 L1 ⟨nb1, hnb1, rfl, rfl⟩
  show JL _ _ _ _ ((3, Ptr nb1 0) :: _) [⟨wb, [ev, .slice none 0 0], 66, (0, 0)⟩, ⟨nb1, cu8 h, 76, (0, 0)⟩]
  refine JL_val _ (Ev_assign rfl) rfl ?_
  refine JL_nil ?_
  refine JQ_then ?_
  refine JC_seq ?_
  refine JC_region ?_
  refine JL_val _ (Ev_move rfl) rfl ?_
  refine JL_val (Slc nb1 0 32 32) (Ev_sliceA 32 5 1 0 32 0 32 Try.underlying76 Try.sizeOf5 rfl rfl rfl (by omega) (by omega) (by omega) (by omega) (by omega) 32 (by omega)) rfl ?_
  refine JL_step (Step_call 44 _ [true, false] [wb] _ (Cl_func [Ptr wb 0, Slc nb1 0 32 32] Try.call44 rfl) rfl (fun w1 hw1 => rawN_c wb 32 ev (some ⟨nb1, 0, none⟩) 32 32 h w1 (hw1.ent _ (List.mem_of_getElem? (i := 0) rfl)) hh (by omega) (RdB.of hw1 (MemAt.ent 1 rfl (Seg.whole _)) (by intro _; simp only [List.mem_cons, List.not_mem_nil, or_false]; exact hw1.ne (i := 1) (j := 0) rfl rfl (by decide))) (by omega) (by omega))) rfl ?_
  rintro v1 L1 ⟨_, ⟨rfl, nb2, sp1, cp1, rfl, hc1, hc2, hc3⟩, rfl⟩
  show JL _ _ _ _ ((7, Ptr wb 0) :: _) [⟨nb1, cu8 h, 76, (0, 0)⟩, ⟨wb, [ev, Slc nb2 0 32 cp1], 66, (0, 0)⟩, ⟨nb2, cu8 h ++ sp1, 5, (0, 0)⟩]
  refine JL_val _ (Ev_assign rfl) rfl ?_
  refine JL_nil ?_
  refine JQ_then ?_
  refine JC_ret ?_
  refine K_mask [false, true, true] ?_
  show JQ _ _ _ _ [⟨wb, [ev, Slc nb2 0 32 cp1], 66, (0, 0)⟩, ⟨nb2, cu8 h ++ sp1, 5, (0, 0)⟩]
  refine JQ_ret (Ptr wb 0) (res1 Try.results47 (RV_tmp rfl)) fun w1 hw1 => ?_
  obtain rfl : tot = 32 := by omega
  exact ⟨_, _, rfl, ⟨rfl, nb2, sp1, cp1, rfl, hc1, hc2, hc3⟩, hw1⟩

theorem hashO_c (wb gb n cap0 tot : Nat) (ev : Value) (o : List UInt8) (sp0 : List Value) (h : List UInt8) (w : World) (h0 : w.heap[wb]? = some (.cells [ev, Slc gb 0 n cap0].toArray 66 (0, 0))) (h1 : w.heap[gb]? = some (.cells (cu8 o ++ sp0).toArray 5 (0, 0))) (hne : wb ≠ gb) (ho : o.length = n) (hsp : sp0.length = cap0 - n) (hca : n ≤ cap0) (hcm : cap0 ≤ maxLen) (hn : n ≤ 1000000000) (hh : h.length = 32) (ht : n + 32 = tot) : Calls Try.prog 47 #[Ptr wb 0, .agg (cu8 h).toArray] w (Post w [wb, gb] (fun v L => v = Ptr wb 0 ∧ ∃ g sp cap, L = [⟨wb, [ev, Slc g 0 tot cap], 66, (0, 0)⟩, ⟨g, cu8 (o ++ h) ++ sp, 5, (0, 0)⟩] ∧ sp.length = cap - tot ∧ tot ≤ cap ∧ cap ≤ maxLen)) := by
  have hmx : maxLen = 9223372036854775807 := rfl
  refine enter w [wb, gb] 8 [⟨wb, [ev, Slc gb 0 n cap0], 66, (0, 0)⟩, ⟨gb, cu8 o ++ sp0, 5, (0, 0)⟩] [Ptr wb 0, .agg (cu8 h).toArray] Try.func47 rfl rfl (by simp) (Hp.start (by simp; exact ⟨h0, h1⟩) (by simp; exact hne) (by simp)) ?_
  show JC _ _ _ [(0, Ptr wb 0), (1, .agg (cu8 h).toArray)] _
  refine JC_seq ?_
  refine JC_region ?_
  refine JL_step (Step_box (.agg (cu8 h).toArray) (cu8 h) rfl (by first | rfl | simp)) rfl ?_
  rintro v1 L1 ⟨nb1, hnb1, rfl, rfl⟩
  show JL _ _ _ _ ((3, Ptr nb1 0) :: _) [⟨wb, [ev, Slc gb 0 n cap0], 66, (0, 0)⟩, ⟨gb, cu8 o ++ sp0, 5, (0, 0)⟩, ⟨nb1, cu8 h, 76, (0, 0)⟩]
  refine JL_val _ (Ev_assign rfl) rfl ?_
  refine JL_nil ?_
  refine JQ_then ?_
  refine JC_seq ?_
  refine JC_region ?_
  refine JL_val _ (Ev_move rfl) rfl ?_
  refine JL_val (Slc nb1 0 32 32) (Ev_sliceA 32 5 1 0 32 0 32 Try.underlying76 Try.sizeOf5 rfl rfl rfl (by omega) (by omega) (by omega) (by omega) (by omega) 32 (by omega)) rfl ?_
  refine JL_step (Step_call 44 _ [true, true, false] [wb, gb] _ (Cl_func [Ptr wb 0, Slc nb1 0 32 32] Try.call44 rfl) rfl (fun w1 hw1 => rawO_c wb gb n cap0 (n + 32) ev o sp0 (some ⟨nb1, 0, none⟩) 32 32 h w1 (hw1.ent _ (List.mem_of_getElem? (i := 0) rfl)) (hw1.ent _ (List.mem_of_getElem? (i := 1) rfl)) (hw1.ne (i := 0) (j := 1) rfl rfl (by decide)) ho hsp hca hcm (by omega) hh (by omega) (RdB.of hw1 (MemAt.ent 2 rfl (Seg.whole _)) (by intro _; simp only [List.mem_cons, List.not_mem_nil, or_false, not_or]; exact ⟨hw1.ne (i := 2) (j := 0) rfl rfl (by decide), hw1.ne (i := 2) (j := 1) rfl rfl (by decide)⟩)) (by omega))) rfl ?_
  rintro v1 L1 ⟨_, ⟨rfl, nb2, sp1, cp1, rfl, hc1, hc2, hc3⟩, rfl⟩
  show JL _ _ _ _ ((7, Ptr wb 0) :: _) [⟨nb1, cu8 h, 76, (0, 0)⟩, ⟨wb, [ev, Slc nb2 0 (n + 32) cp1], 66, (0, 0)⟩, ⟨nb2, cu8 (o ++ h) ++ sp1, 5, (0, 0)⟩]
  refine JL_val _ (Ev_assign rfl) rfl ?_
  refine JL_nil ?_
  refine JQ_then ?_
  refine JC_ret ?_
  refine K_mask [false, true, true] ?_
  show JQ _ _ _ _ [⟨wb, [ev, Slc nb2 0 (n + 32) cp1], 66, (0, 0)⟩, ⟨nb2, cu8 (o ++ h) ++ sp1, 5, (0, 0)⟩]
  refine JQ_ret (Ptr wb 0) (res1 Try.results47 (RV_tmp rfl)) fun w1 hw1 => ?_
  obtain rfl : tot = (n + 32) := by omega
  exact ⟨_, _, rfl, ⟨rfl, nb2, sp1, cp1, rfl, hc1, hc2, hc3⟩, hw1⟩

theorem hashWNil_c (h : List UInt8) (w : World) (hh : h.length = 32) : Calls Try.prog 47 #[.pointer none, .agg (cu8 h).toArray] w (Post w [] (fun v L => v = .pointer none ∧ L = [])) := by
  refine enter w [] 8 [] [.pointer none, .agg (cu8 h).toArray] Try.func47 rfl rfl (by simp) (Hp.start (by simp) (by simp) (by simp)) ?_
  show JC _ _ _ [(0, .pointer none), (1, .agg (cu8 h).toArray)] _
  refine JC_seq ?_
  refine JC_region ?_
  refine JL_step (Step_box (.agg (cu8 h).toArray) (cu8 h) rfl (by first | rfl | simp)) rfl ?_
  rintro v1 L1 ⟨nb1, hnb1, rfl, rfl⟩
  show JL _ _ _ _ ((3, Ptr nb1 0) :: _) [⟨nb1, cu8 h, 76, (0, 0)⟩]
  refine JL_val _ (Ev_assign rfl) rfl ?_
  refine JL_nil ?_
  refine JQ_then ?_
  refine JC_seq ?_
  refine JC_region ?_
  refine JL_val _ (Ev_move rfl) rfl ?_
  refine JL_val (Slc nb1 0 32 32) (Ev_sliceA 32 5 1 0 32 0 32 Try.underlying76 Try.sizeOf5 rfl rfl rfl (by omega) (by omega) (by omega) (by omega) (by omega) 32 (by omega)) rfl ?_
  refine JL_step (Step_callP 44 [.pointer none, Slc nb1 0 32 32] (.pointer none) (Cl_func [.pointer none, Slc nb1 0 32 32] Try.call44 rfl) (fun w1 _ => rawNil_c (Slc nb1 0 32 32) w1)) rfl ?_
  rintro v1 L1 ⟨rfl, rfl⟩
  show JL _ _ _ _ ((7, .pointer none) :: _) [⟨nb1, cu8 h, 76, (0, 0)⟩]
  refine JL_val _ (Ev_assign rfl) rfl ?_
  refine JL_nil ?_
  refine JQ_then ?_
  refine JC_ret ?_
  refine JQ_ret (.pointer none) (res1 Try.results47 (RV_tmp rfl)) fun w1 hw1 => ?_
  exact ⟨_, [], rfl, ⟨rfl, rfl⟩, hw1.sub (by simp) (by simp)⟩

theorem flagN_c (wb tot : Nat) (ev : Value) (b : Bool) (w : World) (h0 : w.heap[wb]? = some (.cells [ev, .slice none 0 0].toArray 66 (0, 0))) (ht : 1 = tot) : Calls Try.prog 48 #[Ptr wb 0, .bool b] w (Post w [wb] (fun v L => v = Ptr wb 0 ∧ ∃ g sp cap, L = [⟨wb, [ev, Slc g 0 tot cap], 66, (0, 0)⟩, ⟨g, cu8 (numK 1 (bitU b) 1) ++ sp, 5, (0, 0)⟩] ∧ sp.length = cap - tot ∧ tot ≤ cap ∧ cap ≤ maxLen)) := by
  have hmx : maxLen = 9223372036854775807 := rfl
  refine enter w [wb] 10 [⟨wb, [ev, .slice none 0 0], 66, (0, 0)⟩] [Ptr wb 0, .bool b] Try.func48 rfl rfl (by simp) (Hp.start (by simpa using h0) (by simp) (by simp)) ?_
  show JC _ _ _ [(0, Ptr wb 0), (1, .bool b)] _
  refine JC_seq ?_
  refine JC_region ?_
  refine JL_val _ (Ev_assign rfl) rfl ?_
  refine JL_nil ?_
  refine JQ_then ?_
  refine JC_seq ?_
  refine JC_seq ?_
  refine JC_region ?_
  refine JL_val _ (Ev_move rfl) rfl ?_
  refine JL_nil ?_
  refine JQ_then ?_
  refine JC_cond (b) rfl (fun hb1 => ?_) (fun hb1 => ?_)
  ·
    refine JC_seq ?_
    refine JC_region ?_
    refine JL_val _ (Ev_move rfl) rfl ?_
    refine JL_step (Step_call 40 _ [true] [wb] _ (Cl_func [Ptr wb 0, U64 (1:UInt64), I64 (1:Int)] Try.call40 rfl) rfl (fun w1 hw1 => numN_c wb 1 ev (1:UInt64) 1 w1 (hw1.ent _ (List.mem_of_getElem? (i := 0) rfl)) (by unfold Szd; omega) (fun _ => by decide) (by omega))) rfl ?_
    rintro v1 L1 ⟨_, ⟨rfl, nb1, sp1, cp1, rfl, hc1, hc2, hc3⟩, rfl⟩
    show JL _ _ _ _ ((7, Ptr wb 0) :: _) [⟨wb, [ev, Slc nb1 0 1 cp1], 66, (0, 0)⟩, ⟨nb1, cu8 (numK 1 (1:UInt64) 1) ++ sp1, 5, (0, 0)⟩]
    refine JL_val _ (Ev_assign rfl) rfl ?_
    refine JL_nil ?_
    refine JQ_then ?_
    refine JC_ret ?_
    refine JQ_then_ret ?_
    refine JQ_ret (Ptr wb 0) (res1 Try.results48 (RV_tmp rfl)) fun w1 hw1 => ?_
    first | rw [show bitU b = 1 from by rw [hb1]; rfl] | rw [show bitU b = 0 from by rw [hb1]; rfl]
    obtain rfl : tot = 1 := by omega
    exact ⟨_, _, rfl, ⟨rfl, nb1, sp1, cp1, rfl, hc1, hc2, hc3⟩, hw1⟩
  ·
    refine JC_skip ?_
    refine JQ_then ?_
    refine JC_seq ?_
    refine JC_region ?_
    refine JL_val _ (Ev_move rfl) rfl ?_
    refine JL_step (Step_call 40 _ [true] [wb] _ (Cl_func [Ptr wb 0, U64 (0:UInt64), I64 (1:Int)] Try.call40 rfl) rfl (fun w1 hw1 => numN_c wb 1 ev (0:UInt64) 1 w1 (hw1.ent _ (List.mem_of_getElem? (i := 0) rfl)) (by unfold Szd; omega) (fun _ => by decide) (by omega))) rfl ?_
    rintro v1 L1 ⟨_, ⟨rfl, nb2, sp2, cp2, rfl, hc4, hc5, hc6⟩, rfl⟩
    show JL _ _ _ _ ((9, Ptr wb 0) :: _) [⟨wb, [ev, Slc nb2 0 1 cp2], 66, (0, 0)⟩, ⟨nb2, cu8 (numK 1 (0:UInt64) 1) ++ sp2, 5, (0, 0)⟩]
    refine JL_val _ (Ev_assign rfl) rfl ?_
    refine JL_nil ?_
    refine JQ_then ?_
    refine JC_ret ?_
    refine JQ_ret (Ptr wb 0) (res1 Try.results48 (RV_tmp rfl)) fun w1 hw1 => ?_
    first | rw [show bitU b = 1 from by rw [hb1]; rfl] | rw [show bitU b = 0 from by rw [hb1]; rfl]
    obtain rfl : tot = 1 := by omega
    exact ⟨_, _, rfl, ⟨rfl, nb2, sp2, cp2, rfl, hc4, hc5, hc6⟩, hw1⟩

theorem flagO_c (wb gb n cap0 tot : Nat) (ev : Value) (o : List UInt8) (sp0 : List Value) (b : Bool) (w : World) (h0 : w.heap[wb]? = some (.cells [ev, Slc gb 0 n cap0].toArray 66 (0, 0))) (h1 : w.heap[gb]? = some (.cells (cu8 o ++ sp0).toArray 5 (0, 0))) (hne : wb ≠ gb) (ho : o.length = n) (hsp : sp0.length = cap0 - n) (hca : n ≤ cap0) (hcm : cap0 ≤ maxLen) (hn : n ≤ 1000000000) (ht : n + 1 = tot) : Calls Try.prog 48 #[Ptr wb 0, .bool b] w (Post w [wb, gb] (fun v L => v = Ptr wb 0 ∧ ∃ g sp cap, L = [⟨wb, [ev, Slc g 0 tot cap], 66, (0, 0)⟩, ⟨g, cu8 (o ++ numK 1 (bitU b) 1) ++ sp, 5, (0, 0)⟩] ∧ sp.length = cap - tot ∧ tot ≤ cap ∧ cap ≤ maxLen)) := by
  have hmx : maxLen = 9223372036854775807 := rfl
  refine enter w [wb, gb] 10 [⟨wb, [ev, Slc gb 0 n cap0], 66, (0, 0)⟩, ⟨gb, cu8 o ++ sp0, 5, (0, 0)⟩] [Ptr wb 0, .bool b] Try.func48 rfl rfl (by simp) (Hp.start (by simp; exact ⟨h0, h1⟩) (by simp; exact hne) (by simp)) ?_
  show JC _ _ _ [(0, Ptr wb 0), (1, .bool b)] _
  refine JC_seq ?_
  refine JC_region ?_
  refine JL_val _ (Ev_assign rfl) rfl ?_
  refine JL_nil ?_
  refine JQ_then ?_
  refine JC_seq ?_
  refine JC_seq ?_
  refine JC_region ?_
  refine JL_val _ (Ev_move rfl) rfl ?_
  refine JL_nil ?_
  refine JQ_then ?_
  refine JC_cond (b) rfl (fun hb1 => ?_) (fun hb1 => ?_)
  ·
    refine JC_seq ?_
    refine JC_region ?_
    refine JL_val _ (Ev_move rfl) rfl ?_
    refine JL_step (Step_call 40 _ [true, true] [wb, gb] _ (Cl_func [Ptr wb 0, U64 (1:UInt64), I64 (1:Int)] Try.call40 rfl) rfl (fun w1 hw1 => numO_c wb gb n cap0 (n + 1) ev o sp0 (1:UInt64) 1 w1 (hw1.ent _ (List.mem_of_getElem? (i := 0) rfl)) (hw1.ent _ (List.mem_of_getElem? (i := 1) rfl)) (hw1.ne (i := 0) (j := 1) rfl rfl (by decide)) ho hsp hca hcm (by omega) (by unfold Szd; omega) (fun _ => by decide) (by omega))) rfl ?_
    rintro v1 L1 ⟨_, ⟨rfl, nb1, sp1, cp1, rfl, hc1, hc2, hc3⟩, rfl⟩
    show JL _ _ _ _ ((7, Ptr wb 0) :: _) [⟨wb, [ev, Slc nb1 0 (n + 1) cp1], 66, (0, 0)⟩, ⟨nb1, cu8 (o ++ numK 1 (1:UInt64) 1) ++ sp1, 5, (0, 0)⟩]
    refine JL_val _ (Ev_assign rfl) rfl ?_
    refine JL_nil ?_
    refine JQ_then ?_
    refine JC_ret ?_
    refine JQ_then_ret ?_
    refine JQ_ret (Ptr wb 0) (res1 Try.results48 (RV_tmp rfl)) fun w1 hw1 => ?_
    first | rw [show bitU b = 1 from by rw [hb1]; rfl] | rw [show bitU b = 0 from by rw [hb1]; rfl]
    obtain rfl : tot = (n + 1) := by omega
    exact ⟨_, _, rfl, ⟨rfl, nb1, sp1, cp1, rfl, hc1, hc2, hc3⟩, hw1⟩
  ·
    refine JC_skip ?_
    refine JQ_then ?_
    refine JC_seq ?_
    refine JC_region ?_
    refine JL_val _ (Ev_move rfl) rfl ?_
    refine JL_step (Step_call 40 _ [true, true] [wb, gb] _ (Cl_func [Ptr wb 0, U64 (0:UInt64), I64 (1:Int)] Try.call40 rfl) rfl (fun w1 hw1 => numO_c wb gb n cap0 (n + 1) ev o sp0 (0:UInt64) 1 w1 (hw1.ent _ (List.mem_of_getElem? (i := 0) rfl)) (hw1.ent _ (List.mem_of_getElem? (i := 1) rfl)) (hw1.ne (i := 0) (j := 1) rfl rfl (by decide)) ho hsp hca hcm (by omega) (by unfold Szd; omega) (fun _ => by decide) (by omega))) rfl ?_
    rintro v1 L1 ⟨_, ⟨rfl, nb2, sp2, cp2, rfl, hc4, hc5, hc6⟩, rfl⟩
    show JL _ _ _ _ ((9, Ptr wb 0) :: _) [⟨wb, [ev, Slc nb2 0 (n + 1) cp2], 66, (0, 0)⟩, ⟨nb2, cu8 (o ++ numK 1 (0:UInt64) 1) ++ sp2, 5, (0, 0)⟩]
    refine JL_val _ (Ev_assign rfl) rfl ?_
    refine JL_nil ?_
    refine JQ_then ?_
    refine JC_ret ?_
    refine JQ_ret (Ptr wb 0) (res1 Try.results48 (RV_tmp rfl)) fun w1 hw1 => ?_
    first | rw [show bitU b = 1 from by rw [hb1]; rfl] | rw [show bitU b = 0 from by rw [hb1]; rfl]
    obtain rfl : tot = (n + 1) := by omega
    exact ⟨_, _, rfl, ⟨rfl, nb2, sp2, cp2, rfl, hc4, hc5, hc6⟩, hw1⟩

theorem flagWNil_c (b : Bool) (w : World) : Calls Try.prog 48 #[.pointer none, .bool b] w (Post w [] (fun v L => v = .pointer none ∧ L = [])) := by
  refine enter w [] 10 [] [.pointer none, .bool b] Try.func48 rfl rfl (by simp) (Hp.start (by simp) (by simp) (by simp)) ?_
  show JC _ _ _ [(0, .pointer none), (1, .bool b)] _
  refine JC_seq ?_
  refine JC_region ?_
  refine JL_val _ (Ev_assign rfl) rfl ?_
  refine JL_nil ?_
  refine JQ_then ?_
  refine JC_seq ?_
  refine JC_seq ?_
  refine JC_region ?_
  refine JL_val _ (Ev_move rfl) rfl ?_
  refine JL_nil ?_
  refine JQ_then ?_
  refine JC_cond (b) rfl (fun hb1 => ?_) (fun hb1 => ?_)
  ·
    refine JC_seq ?_
    refine JC_region ?_
    refine JL_val _ (Ev_move rfl) rfl ?_
    refine JL_step (Step_callP 40 [.pointer none, U64 (1:UInt64), I64 (1:Int)] (.pointer none) (Cl_func [.pointer none, U64 (1:UInt64), I64 (1:Int)] Try.call40 rfl) (fun w1 _ => numNil_c (1:UInt64) (1:Int) w1)) rfl ?_
    rintro v1 L1 ⟨rfl, rfl⟩
    show JL _ _ _ _ ((7, .pointer none) :: _) []
    refine JL_val _ (Ev_assign rfl) rfl ?_
    refine JL_nil ?_
    refine JQ_then ?_
    refine JC_ret ?_
    refine JQ_then_ret ?_
    refine JQ_ret (.pointer none) (res1 Try.results48 (RV_tmp rfl)) fun w1 hw1 => ?_
    exact ⟨_, [], rfl, ⟨rfl, rfl⟩, hw1.sub (by simp) (by simp)⟩
  ·
    refine JC_skip ?_
    refine JQ_then ?_
    refine JC_seq ?_
    refine JC_region ?_
    refine JL_val _ (Ev_move rfl) rfl ?_
    refine JL_step (Step_callP 40 [.pointer none, U64 (0:UInt64), I64 (1:Int)] (.pointer none) (Cl_func [.pointer none, U64 (0:UInt64), I64 (1:Int)] Try.call40 rfl) (fun w1 _ => numNil_c (0:UInt64) (1:Int) w1)) rfl ?_
    rintro v1 L1 ⟨rfl, rfl⟩
    show JL _ _ _ _ ((9, .pointer none) :: _) []
    refine JL_val _ (Ev_assign rfl) rfl ?_
    refine JL_nil ?_
    refine JQ_then ?_
    refine JC_ret ?_
    refine JQ_ret (.pointer none) (res1 Try.results48 (RV_tmp rfl)) fun w1 hw1 => ?_
    exact ⟨_, [], rfl, ⟨rfl, rfl⟩, hw1.sub (by simp) (by simp)⟩

theorem doneN_c (wb e : Nat) (w : World) (hw : RdA w wb 0 [errV 36 e, .slice none 0 0]) (he : e = 0) : Calls Try.prog 50 #[Ptr wb 0] w (Post w [] (fun v L => v = .tuple #[.slice none 0 0, .nilIface] ∧ L = [])) := by
  refine enter w [] 25 [] [Ptr wb 0] Try.func50 rfl rfl (by simp) (Hp.start (by simp) (by simp) (by simp)) ?_
  show JC _ _ _ [(0, Ptr wb 0)] _
  refine JC_seq ?_
  refine JC_region ?_
  refine JL_val _ (Ev_assign rfl) rfl ?_
  refine JL_val _ (Ev_assign rfl) rfl ?_
  refine JL_nil ?_
  refine JQ_then ?_
  refine JC_seq ?_
  refine JC_block ?_
  refine JC_seq ?_
  refine JC_region ?_
  refine JL_val _ (Ev_move rfl) rfl ?_
  refine JL_val (.bool false) (Ev_bin _ _ _ rfl rfl (fun _ => eqGuard_ptr ..) fun _ => eql_ptr_nil Try.underlying62) rfl ?_
  refine JL_val _ (Ev_assign rfl) rfl ?_
  refine JL_nil ?_
  refine JQ_then ?_
  refine JC_condF _ rfl rfl ?_
  refine JC_seq ?_
  refine JC_region ?_
  refine JL_val _ (Ev_move rfl) rfl ?_
  refine JL_val _ (Ev_nilCheck rfl) rfl ?_
  refine JL_val (Ptr wb 0) (Ev_fieldAddr 0 64 1 Try.underlying66 rfl Try.sizeOf64 rfl rfl) rfl ?_
  refine JL_val (Ptr wb 0) (Ev_fieldAddr 0 30 1 Try.underlying64 rfl Try.sizeOf30 rfl rfl) rfl ?_
  refine JL_val (errV 36 e) (Ev_load rfl (Ld_one Try.isAgg30 (MemAt.seg (hw.mem (by simp)) (Seg.head) (by omega)))) rfl ?_
  refine JL_val (.bool (!(decide (e = 0)))) (Ev_bin _ _ _ rfl rfl (fun _ => eqGuard_errV ..) fun _ => neq_errV Try.underlying30 _ _) rfl ?_
  refine JL_val _ (Ev_assign rfl) rfl ?_
  refine JL_nil ?_
  refine JQ_then ?_
  refine JC_condF _ rfl (by rw [show (decide (e = 0)) = true from (decide_eq_true he)]; rfl) ?_
  refine JC_skip ?_
  refine JQ_in_normal ?_
  refine JQ_then ?_
  refine JC_seq ?_
  refine JC_region ?_
  refine JL_val _ (Ev_move rfl) rfl ?_
  refine JL_val _ (Ev_nilCheck rfl) rfl ?_
  refine JL_val (Ptr wb 1) (Ev_fieldAddr 1 38 1 Try.underlying66 rfl Try.sizeOf38 rfl rfl) rfl ?_
  refine JL_val (.slice none 0 0) (Ev_load rfl (Ld_one Try.isAgg38 (MemAt.seg (hw.mem (by simp)) (Seg.tail (Seg.head)) (by omega)))) rfl ?_
  refine JL_step (Step_callP 83 [.slice none 0 0] (.slice none 0 0) (Cl_func [.slice none 0 0] Try.call83 rfl) (fun w1 hw1 => scloneNil_c w1)) rfl ?_
  rintro v1 L1 ⟨rfl, rfl⟩
  show JL _ _ _ _ ((24, .slice none 0 0) :: _) []
  refine JL_val _ (Ev_assign rfl) rfl ?_
  refine JL_val _ (Ev_assign rfl) rfl ?_
  refine JL_nil ?_
  refine JQ_then ?_
  refine JC_ret ?_
  refine JQ_ret (.tuple #[.slice none 0 0, .nilIface]) (res2 Try.results50 (RV_tmp rfl) (RV_tmp rfl)) fun w1 hw1 => ?_
  exact ⟨_, [], rfl, ⟨rfl, rfl⟩, hw1.sub (by simp) (by simp)⟩

theorem doneE_c (wb e : Nat) (sv : Value) (w : World) (hw : RdA w wb 0 [errV 36 e, sv]) (he : e ≠ 0) : Calls Try.prog 50 #[Ptr wb 0] w (Post w [] (fun v L => v = .tuple #[.slice none 0 0, errV 36 e] ∧ L = [])) := by
  refine enter w [] 25 [] [Ptr wb 0] Try.func50 rfl rfl (by simp) (Hp.start (by simp) (by simp) (by simp)) ?_
  show JC _ _ _ [(0, Ptr wb 0)] _
  refine JC_seq ?_
  refine JC_region ?_
  refine JL_val _ (Ev_assign rfl) rfl ?_
  refine JL_val _ (Ev_assign rfl) rfl ?_
  refine JL_nil ?_
  refine JQ_then ?_
  refine JC_seq ?_
  refine JC_block ?_
  refine JC_seq ?_
  refine JC_region ?_
  refine JL_val _ (Ev_move rfl) rfl ?_
  refine JL_val (.bool false) (Ev_bin _ _ _ rfl rfl (fun _ => eqGuard_ptr ..) fun _ => eql_ptr_nil Try.underlying62) rfl ?_
  refine JL_val _ (Ev_assign rfl) rfl ?_
  refine JL_nil ?_
  refine JQ_then ?_
  refine JC_condF _ rfl rfl ?_
  refine JC_seq ?_
  refine JC_region ?_
  refine JL_val _ (Ev_move rfl) rfl ?_
  refine JL_val _ (Ev_nilCheck rfl) rfl ?_
  refine JL_val (Ptr wb 0) (Ev_fieldAddr 0 64 1 Try.underlying66 rfl Try.sizeOf64 rfl rfl) rfl ?_
  refine JL_val (Ptr wb 0) (Ev_fieldAddr 0 30 1 Try.underlying64 rfl Try.sizeOf30 rfl rfl) rfl ?_
  refine JL_val (errV 36 e) (Ev_load rfl (Ld_one Try.isAgg30 (MemAt.seg (hw.mem (by simp)) (Seg.head) (by omega)))) rfl ?_
  refine JL_val (.bool (!(decide (e = 0)))) (Ev_bin _ _ _ rfl rfl (fun _ => eqGuard_errV ..) fun _ => neq_errV Try.underlying30 _ _) rfl ?_
  refine JL_val _ (Ev_assign rfl) rfl ?_
  refine JL_nil ?_
  refine JQ_then ?_
  refine JC_condT _ rfl (by rw [show (decide (e = 0)) = false from (decide_eq_false he)]; rfl) ?_
  refine JC_seq ?_
  refine JC_draw 25 1 [(0, Ptr wb 0), (1, Ptr wb 0), (2, Ptr wb 0), (3, Ptr wb 0), (4, errV 36 e), (5, .slice none 0 0), (6, errV 36 e)] Try.mixed rfl (by decide +kernel) ?_
  refine DP_end ⟨[], [0, 1, 2, 3, 4, 5, 6], [], [0, 1, 2, 3, 4, 5, 6], []⟩ rfl rfl (by decide +kernel) rfl ⟨⟨_, rfl, Qok_val rfl (Ev_move rfl)⟩, ⟨_, rfl, Qok_val rfl (Ev_nilCheck rfl)⟩, ⟨_, rfl, Qok_val rfl (Ev_fieldAddr 0 64 1 Try.underlying66 rfl Try.sizeOf64 rfl rfl)⟩, ⟨_, rfl, Qok_val rfl (Ev_fieldAddr 0 30 1 Try.underlying64 rfl Try.sizeOf30 rfl rfl)⟩, ⟨_, rfl, Qok_val rfl (Ev_load rfl (Ld_one Try.isAgg30 (MemAt.seg (hw.mem (by simp)) (Seg.head) (by omega))))⟩, ⟨_, rfl, Qok_val rfl (Ev_assign rfl)⟩, ⟨_, rfl, Qok_val rfl (Ev_assign rfl)⟩, trivial⟩ ?_
  refine K_sub (F' := [(2, .slice none 0 0), (3, errV 36 e), (0, Ptr wb 0)]) (Sub.cons (by kernel_rfl) (Sub.cons (by kernel_rfl) (Sub.cons (by kernel_rfl) (Sub.nil)))) ?_
  show JQ _ _ _ [(2, .slice none 0 0), (3, errV 36 e), (0, Ptr wb 0)] _
  refine JQ_then ?_
  refine JC_ret ?_
  refine JQ_in_ret ?_
  refine JQ_then_ret ?_
  refine JQ_ret (.tuple #[.slice none 0 0, errV 36 e]) (res2 Try.results50 (RV_tmp rfl) (RV_tmp rfl)) fun w1 hw1 => ?_
  exact ⟨_, [], rfl, ⟨rfl, rfl⟩, hw1.sub (by simp) (by simp)⟩

theorem doneO_c (wb e gb n cap0 : Nat) (o : List UInt8) (w : World) (hw : RdA w wb 0 [errV 36 e, Slc gb 0 n cap0]) (he : e = 0) (ho : o.length = n) (hn : n ≤ 2000000000) (hr : RdB w [] (some ⟨gb, 0, none⟩) o) : Calls Try.prog 50 #[Ptr wb 0] w (Post w [] (fun v L => ∃ g sp cap, v = .tuple #[Slc g 0 n cap, .nilIface] ∧ L = [⟨g, cu8 o ++ sp, 5, (0, 0)⟩] ∧ sp.length = cap - n ∧ n ≤ cap ∧ cap ≤ maxLen)) := by
  refine enter w [] 25 [] [Ptr wb 0] Try.func50 rfl rfl (by simp) (Hp.start (by simp) (by simp) (by simp)) ?_
  show JC _ _ _ [(0, Ptr wb 0)] _
  refine JC_seq ?_
  refine JC_region ?_
  refine JL_val _ (Ev_assign rfl) rfl ?_
  refine JL_val _ (Ev_assign rfl) rfl ?_
  refine JL_nil ?_
  refine JQ_then ?_
  refine JC_seq ?_
  refine JC_block ?_
  refine JC_seq ?_
  refine JC_region ?_
  refine JL_val _ (Ev_move rfl) rfl ?_
  refine JL_val (.bool false) (Ev_bin _ _ _ rfl rfl (fun _ => eqGuard_ptr ..) fun _ => eql_ptr_nil Try.underlying62) rfl ?_
  refine JL_val _ (Ev_assign rfl) rfl ?_
  refine JL_nil ?_
  refine JQ_then ?_
  refine JC_condF _ rfl rfl ?_
  refine JC_seq ?_
  refine JC_region ?_
  refine JL_val _ (Ev_move rfl) rfl ?_
  refine JL_val _ (Ev_nilCheck rfl) rfl ?_
  refine JL_val (Ptr wb 0) (Ev_fieldAddr 0 64 1 Try.underlying66 rfl Try.sizeOf64 rfl rfl) rfl ?_
  refine JL_val (Ptr wb 0) (Ev_fieldAddr 0 30 1 Try.underlying64 rfl Try.sizeOf30 rfl rfl) rfl ?_
  refine JL_val (errV 36 e) (Ev_load rfl (Ld_one Try.isAgg30 (MemAt.seg (hw.mem (by simp)) (Seg.head) (by omega)))) rfl ?_
  refine JL_val (.bool (!(decide (e = 0)))) (Ev_bin _ _ _ rfl rfl (fun _ => eqGuard_errV ..) fun _ => neq_errV Try.underlying30 _ _) rfl ?_
  refine JL_val _ (Ev_assign rfl) rfl ?_
  refine JL_nil ?_
  refine JQ_then ?_
  refine JC_condF _ rfl (by rw [show (decide (e = 0)) = true from (decide_eq_true he)]; rfl) ?_
  refine JC_skip ?_
  refine JQ_in_normal ?_
  refine JQ_then ?_
  refine JC_seq ?_
  refine JC_region ?_
  refine JL_val _ (Ev_move rfl) rfl ?_
  refine JL_val _ (Ev_nilCheck rfl) rfl ?_
  refine JL_val (Ptr wb 1) (Ev_fieldAddr 1 38 1 Try.underlying66 rfl Try.sizeOf38 rfl rfl) rfl ?_
  refine JL_val (.slice (some ⟨gb, 0, none⟩) n cap0) (Ev_load rfl (Ld_one Try.isAgg38 (MemAt.seg (hw.mem (by simp)) (Seg.tail (Seg.head)) (by omega)))) rfl ?_
  refine JL_step (Step_callN 83 [.slice (some ⟨gb, 0, none⟩) n cap0] _ (Cl_func [.slice (some ⟨gb, 0, none⟩) n cap0] Try.call83 rfl) (fun w1 hw1 => sclone_c (some ⟨gb, 0, none⟩) n cap0 o w1 rfl ho (by omega) (hr.at (M' := []) hw1 (by simp)))) rfl ?_
  rintro v1 L1 ⟨_, ⟨nb1, sp1, cp1, rfl, rfl, hc1, hc2, hc3⟩, rfl⟩
  show JL _ _ _ _ ((24, Slc nb1 0 n cp1) :: _) [⟨nb1, cu8 o ++ sp1, 5, (0, 0)⟩]
  refine JL_val _ (Ev_assign rfl) rfl ?_
  refine JL_val _ (Ev_assign rfl) rfl ?_
  refine JL_nil ?_
  refine JQ_then ?_
  refine JC_ret ?_
  refine JQ_ret (.tuple #[Slc nb1 0 n cp1, .nilIface]) (res2 Try.results50 (RV_tmp rfl) (RV_tmp rfl)) fun w1 hw1 => ?_
  exact ⟨_, _, rfl, ⟨nb1, sp1, cp1, rfl, rfl, hc1, hc2, hc3⟩, hw1.sub (by simp) (by simp)⟩

theorem doneNil_c  (w : World) : Calls Try.prog 50 #[.pointer none] w (Post w [] (fun v L => v = .tuple #[.slice none 0 0, .iface 36 (I64 11)] ∧ L = [])) := by
  refine enter w [] 25 [] [.pointer none] Try.func50 rfl rfl (by simp) (Hp.start (by simp) (by simp) (by simp)) ?_
  show JC _ _ _ [(0, .pointer none)] _
  refine JC_seq ?_
  refine JC_region ?_
  refine JL_val _ (Ev_assign rfl) rfl ?_
  refine JL_val _ (Ev_assign rfl) rfl ?_
  refine JL_nil ?_
  refine JQ_then ?_
  refine JC_seq ?_
  refine JC_block ?_
  refine JC_seq ?_
  refine JC_region ?_
  refine JL_val _ (Ev_move rfl) rfl ?_
  refine JL_val (.bool true) (Ev_bin _ _ _ rfl rfl (fun _ => eqGuard_ptr ..) fun _ => eql_ptr_nil_nil Try.underlying62) rfl ?_
  refine JL_val _ (Ev_assign rfl) rfl ?_
  refine JL_nil ?_
  refine JQ_then ?_
  refine JC_condT _ rfl rfl ?_
  refine JC_seq ?_
  refine JC_region ?_
  refine JL_val (.iface 36 (I64 (11:Int))) (Ev_iface Try.underlying36 rfl rfl) rfl ?_
  refine JL_val _ (Ev_assign rfl) rfl ?_
  refine JL_val _ (Ev_assign rfl) rfl ?_
  refine JL_nil ?_
  refine JQ_then ?_
  refine JC_ret ?_
  refine JQ_in_ret ?_
  refine JQ_then_ret ?_
  refine JQ_ret (.tuple #[.slice none 0 0, .iface 36 (I64 (11:Int))]) (res2 Try.results50 (RV_tmp rfl) (RV_tmp rfl)) fun w1 hw1 => ?_
  exact ⟨_, [], rfl, ⟨rfl, rfl⟩, hw1.sub (by simp) (by simp)⟩

theorem errNo_c  (w : World) : Calls Try.prog 51 #[.nilIface] w (Post w [] (fun v L => v = I64 0 ∧ L = [])) := by
  refine enter w [] 18 [] [.nilIface] Try.func51 rfl rfl (by simp) (Hp.start (by simp) (by simp) (by simp)) ?_
  show JC _ _ _ [(0, .nilIface)] _
  refine JC_seq ?_
  refine JC_region ?_
  refine JL_val _ (Ev_assign rfl) rfl ?_
  refine JL_nil ?_
  refine JQ_then ?_
  refine JC_seq ?_
  refine JC_seq ?_
  refine JC_region ?_
  refine JL_val _ (Ev_move rfl) rfl ?_
  refine JL_val (.bool true) (Ev_bin _ _ _ rfl rfl (fun _ => eqGuard_nn ..) fun _ => eql_if_nil_nil Try.underlying30) rfl ?_
  refine JL_nil ?_
  refine JQ_then ?_
  refine JC_condT _ rfl rfl ?_
  refine JC_seq ?_
  refine JC_region ?_
  refine JL_val _ (Ev_assign rfl) rfl ?_
  refine JL_nil ?_
  refine JQ_then ?_
  refine JC_ret ?_
  refine JQ_then_ret ?_
  refine JQ_ret (I64 (0:Int)) (res1 Try.results51 (RV_tmp rfl)) fun w1 hw1 => ?_
  exact ⟨_, [], rfl, ⟨rfl, rfl⟩, hw1.sub (by simp) (by simp)⟩

theorem errSome_c (e : Nat) (w : World) (he : e ≠ 0) : Calls Try.prog 51 #[.iface 36 (I64 ((e:Int)))] w (Post w [] (fun v L => v = I64 (e : Int) ∧ L = [])) := by
  refine enter w [] 18 [] [.iface 36 (I64 ((e:Int)))] Try.func51 rfl rfl (by simp) (Hp.start (by simp) (by simp) (by simp)) ?_
  show JC _ _ _ [(0, .iface 36 (I64 ((e:Int))))] _
  refine JC_seq ?_
  refine JC_region ?_
  refine JL_val _ (Ev_assign rfl) rfl ?_
  refine JL_nil ?_
  refine JQ_then ?_
  refine JC_seq ?_
  refine JC_seq ?_
  refine JC_region ?_
  refine JL_val _ (Ev_move rfl) rfl ?_
  refine JL_val (.bool false) (Ev_bin _ _ _ rfl rfl (fun _ => eqGuard_if ..) fun _ => eql_if_nil Try.underlying30) rfl ?_
  refine JL_nil ?_
  refine JQ_then ?_
  refine JC_condF _ rfl rfl ?_
  refine JC_skip ?_
  refine JQ_then ?_
  refine JC_seq ?_
  refine JC_seq ?_
  refine JC_region ?_
  refine JL_val _ (Ev_move rfl) rfl ?_
  refine JL_val (.tuple #[I64 ((e:Int)), .bool true]) (Ev_assert _ _ rfl (fun _ => by kernel_rfl)) rfl ?_
  refine JL_val _ (Ev_move rfl) rfl ?_
  refine JL_val _ (Ev_extract rfl rfl) rfl ?_
  refine JL_val _ (Ev_extract rfl rfl) rfl ?_
  refine JL_val _ (Ev_assign rfl) rfl ?_
  refine JL_val _ (Ev_assign rfl) rfl ?_
  refine JL_nil ?_
  refine JQ_then ?_
  refine JC_seq ?_
  refine JC_region ?_
  refine JL_val _ (Ev_move rfl) rfl ?_
  refine JL_val _ (Ev_move rfl) rfl ?_
  refine JL_gval 1 13 true _ _ rfl rfl rfl (Ev_move rfl) rfl ?_
  refine JL_gval 1 13 true _ (.bool (decide (((e:Int)) ≠ (0:Int)))) rfl rfl rfl (Ev_bini rfl rfl fun _ => bin_neq_i _ _) rfl ?_
  refine JL_val _ (Ev_pickT _ rfl rfl rfl) rfl ?_
  refine JL_nil ?_
  refine JQ_then ?_
  refine JC_condT _ rfl (decide_eq_true (by omega)) ?_
  refine JC_seq ?_
  refine JC_region ?_
  refine JL_val _ (Ev_move rfl) rfl ?_
  refine JL_val _ (Ev_assign rfl) rfl ?_
  refine JL_nil ?_
  refine JQ_then ?_
  refine JC_ret ?_
  refine JQ_then_ret ?_
  refine JQ_ret (I64 ((e:Int))) (res1 Try.results51 (RV_tmp rfl)) fun w1 hw1 => ?_
  exact ⟨_, [], rfl, ⟨rfl, rfl⟩, hw1.sub (by simp) (by simp)⟩

theorem errNum_w (e : Nat) (w : World) : Calls Try.prog 51 #[errV 36 e] w (Post w [] (fun v L => v = I64 (e : Int) ∧ L = [])) := by
  by_cases he : e = 0
  · subst he; exact errNo_c w
  · rw [errV_pos he]; exact errSome_c e w he

theorem is_c (e k : Nat) (w : World) : Calls Try.prog 24 #[errV 36 e, I64 ((k:Int))] w (Post w [] (fun v L => v = .bool (decide ((e:Int) = (k:Int))) ∧ L = [])) := by
  refine enter w [] 9 [] [errV 36 e, I64 ((k:Int))] Try.func24 rfl rfl (by simp) (Hp.start (by simp) (by simp) (by simp)) ?_
  show JC _ _ _ [(0, errV 36 e), (1, I64 ((k:Int)))] _
  refine JC_seq ?_
  refine JC_region ?_
  refine JL_val _ (Ev_assign rfl) rfl ?_
  refine JL_nil ?_
  refine JQ_then ?_
  refine JC_seq ?_
  refine JC_region ?_
  refine JL_val _ (Ev_move rfl) rfl ?_
  refine JL_step (Step_callP 51 [errV 36 e] (I64 ((e:Int))) (Cl_func [errV 36 e] Try.call51 rfl) (fun w1 hw1 => errNum_w e w1)) rfl ?_
  rintro v1 L1 ⟨rfl, rfl⟩
  show JL _ _ _ _ ((6, I64 ((e:Int))) :: _) []
  refine JL_val _ (Ev_move rfl) rfl ?_
  refine JL_val (.bool (decide (((e:Int)) = ((k:Int))))) (Ev_bini rfl rfl fun _ => bin_eql_i _ _) rfl ?_
  refine JL_val _ (Ev_assign rfl) rfl ?_
  refine JL_nil ?_
  refine JQ_then ?_
  refine JC_ret ?_
  refine JQ_ret (.bool (decide (((e:Int)) = ((k:Int))))) (res1 Try.results24 (RV_tmp rfl)) fun w1 hw1 => ?_
  exact ⟨_, [], rfl, ⟨rfl, rfl⟩, hw1.sub (by simp) (by simp)⟩

end Go.Proofs.Ytncoifiafklkjaa
