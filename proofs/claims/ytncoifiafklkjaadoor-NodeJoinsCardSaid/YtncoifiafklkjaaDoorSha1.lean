import Derived.Test.YtncoifiafklkjaaDoorFx
import Derived.Test.YtncoifiafklkjaaDoorShaLaw
namespace Go.Proofs.YtncoifiafklkjaaDoor
open Go Go.Sx
set_option linter.unusedVariables false
set_option linter.unusedSimpArgs false
set_option maxRecDepth 100000
attribute [local irreducible] mid zr8 zr32 rotr wordL
def constL : List UInt32 := [1116352408, 1899447441, 3049323471, 3921009573, 961987163, 1508970993, 2453635748, 2870763221, 3624381080, 310598401, 607225278, 1426881987, 1925078388, 2162078206, 2614888103, 3248222580, 3835390401, 4022224774, 264347078, 604807628, 770255983, 1249150122, 1555081692, 1996064986, 2554220882, 2821834349, 2952996808, 3210313671, 3336571891, 3584528711, 113926993, 338241895, 666307205, 773529912, 1294757372, 1396182291, 1695183700, 1986661051, 2177026350, 2456956037, 2730485921, 2820302411, 3259730800, 3345764771, 3516065817, 3600352804, 4094571909, 275423344, 430227734, 506948616, 659060556, 883997877, 958139571, 1322822218, 1537002063, 1747873779, 1955562222, 2024104815, 2227730452, 2361852424, 2428436474, 2756734187, 3204031479, 3329325298]
def initL : List UInt32 := [1779033703, 3144134277, 1013904242, 2773480762, 1359893119, 2600822924, 528734635, 1541459225]
theorem constL_len : constL.length = 64 := rfl
theorem initL_len : initL.length = 8 := rfl
def GLs (w : World) : Prop := RdA w 3 0 (cu32 constL) ∧ RdA w 2 0 (cu32 initL)
def GLr (w : World) : Prop := RdA w 0 0 (cu32 constL)
def GLi (w : World) : Prop := RdA w 1 0 (cu32 initL)
theorem RdA_at {C : Cx} {L : List Ent} {w : World} {b off : Nat} {vs : List Value} (hw : Hp C.w0 C.M L w) (h : RdA C.w0 b off vs) (hz : 0 < vs.length) (hM : b ∉ C.M) : RdA w b off vs := RdA.of hw (h.mem hM) hz
theorem GLs.at {C : Cx} {L : List Ent} {w : World} (hw : Hp C.w0 C.M L w) (h : GLs C.w0) (h1 : 3 ∉ C.M := by simp) (h2 : 2 ∉ C.M := by simp) : GLs w := ⟨RdA_at hw h.1 (by simp [constL_len]) h1, RdA_at hw h.2 (by simp [initL_len]) h2⟩
theorem GLr.at {C : Cx} {L : List Ent} {w : World} (hw : Hp C.w0 C.M L w) (h : GLr C.w0) (h1 : 0 ∉ C.M := by simp) : GLr w := RdA_at hw h (by simp [constL_len]) h1
theorem GLi.at {C : Cx} {L : List Ent} {w : World} (hw : Hp C.w0 C.M L w) (h : GLi C.w0) (h1 : 1 ∉ C.M := by simp) : GLi w := RdA_at hw h (by simp [initL_len]) h1

theorem rot_and {k : Nat} (h1 : 1 ≤ k) (h2 : k ≤ 31) : (u64i (-(k:Int)) &&& (31:UInt64)).toNat = 32 - k := by
  have : k = 1 ∨ k = 2 ∨ k = 3 ∨ k = 4 ∨ k = 5 ∨ k = 6 ∨ k = 7 ∨ k = 8 ∨ k = 9 ∨ k = 10 ∨ k = 11 ∨ k = 12 ∨ k = 13 ∨ k = 14 ∨ k = 15 ∨ k = 16 ∨ k = 17 ∨ k = 18 ∨ k = 19 ∨ k = 20 ∨ k = 21 ∨ k = 22 ∨ k = 23 ∨ k = 24 ∨ k = 25 ∨ k = 26 ∨ k = 27 ∨ k = 28 ∨ k = 29 ∨ k = 30 ∨ k = 31 := by omega
  rcases this with rfl | rfl | rfl | rfl | rfl | rfl | rfl | rfl | rfl | rfl | rfl | rfl | rfl | rfl | rfl | rfl | rfl | rfl | rfl | rfl | rfl | rfl | rfl | rfl | rfl | rfl | rfl | rfl | rfl | rfl | rfl <;> rfl

theorem rotl_c (x : UInt32) (k : Nat) (w : World) (h1 : 1 ≤ k) (h2 : k ≤ 31) : Calls Tryd.prog 115 #[U32 x, I64 (-(k:Int))] w (Post w [] (fun v L => v = U32 (rotr x k) ∧ L = [])) := by
  have hr := rot_and h1 h2
  have hs2 : ((32:UInt64) - (u64i (-(k:Int)) &&& (31:UInt64))).toNat = k := by rw [UInt64.toNat_sub, hr, show (32:UInt64).toNat = 32 from rfl]; omega
  refine enter w [] 17 [] [U32 x, I64 (-(k:Int))] Tryd.func115 rfl rfl (by simp) (Hp.start (by simp) (by simp) (by simp)) ?_
  show JC _ _ _ [(0, U32 x), (1, I64 (-(k:Int)))] _
  refine JC_seq ?_
  refine JC_region ?_
  refine JL_val _ (Ev_assign rfl) rfl ?_
  refine JL_nil ?_
  refine JQ_then ?_
  refine JC_seq ?_
  refine JC_region ?_
  refine JL_val _ (Ev_move rfl) rfl ?_
  refine JL_val (U64 (u64i (-(k:Int)))) (Ev_conv _ _ rfl fun _ => conv_i64_u64i (by rw [Tryd.underlying3]; rfl) Tryd.underlying52 (-(k:Int))) rfl ?_
  refine JL_val (U64 ((u64i (-(k:Int))) &&& (31:UInt64))) (Ev_bini rfl rfl fun _ => bin_and_u64 (u64i (-(k:Int))) (31:UInt64)) rfl ?_
  refine JL_val _ (Ev_assign rfl) rfl ?_
  refine JL_nil ?_
  refine JQ_then ?_
  refine JC_seq ?_
  refine JC_region ?_
  refine JL_val _ (Ev_move rfl) rfl ?_
  refine JL_val _ (Ev_move rfl) rfl ?_
  refine JL_val (U32 (x <<< UInt32.ofNat (((u64i (-(k:Int))) &&& (31:UInt64)).toNat))) (Ev_bini rfl rfl fun _ => bin_shl_u32 x _ _ (((u64i (-(k:Int))) &&& (31:UInt64)).toNat) (by omega) (by omega)) rfl ?_
  refine JL_val _ (Ev_move rfl) rfl ?_
  refine JL_val _ (Ev_move rfl) rfl ?_
  refine JL_val (U64 ((32:UInt64) - ((u64i (-(k:Int))) &&& (31:UInt64)))) (Ev_bini rfl rfl fun _ => bin_sub_u64 (32:UInt64) ((u64i (-(k:Int))) &&& (31:UInt64))) rfl ?_
  refine JL_val (U32 (x >>> UInt32.ofNat (((32:UInt64) - ((u64i (-(k:Int))) &&& (31:UInt64))).toNat))) (Ev_bini rfl rfl fun _ => bin_shr_u32 x _ _ (((32:UInt64) - ((u64i (-(k:Int))) &&& (31:UInt64))).toNat) (by omega) (by omega)) rfl ?_
  refine JL_val (U32 ((x <<< UInt32.ofNat (((u64i (-(k:Int))) &&& (31:UInt64)).toNat)) ||| (x >>> UInt32.ofNat (((32:UInt64) - ((u64i (-(k:Int))) &&& (31:UInt64))).toNat)))) (Ev_bini rfl rfl fun _ => bin_or_u32 (x <<< UInt32.ofNat (((u64i (-(k:Int))) &&& (31:UInt64)).toNat)) (x >>> UInt32.ofNat (((32:UInt64) - ((u64i (-(k:Int))) &&& (31:UInt64))).toNat))) rfl ?_
  refine JL_val _ (Ev_assign rfl) rfl ?_
  refine JL_nil ?_
  refine JQ_then ?_
  refine JC_ret ?_
  refine JQ_ret (U32 ((x <<< UInt32.ofNat (((u64i (-(k:Int))) &&& (31:UInt64)).toNat)) ||| (x >>> UInt32.ofNat (((32:UInt64) - ((u64i (-(k:Int))) &&& (31:UInt64))).toNat)))) (res1 Tryd.results115 (RV_tmp rfl)) fun w1 hw1 => ?_
  refine ⟨_, [], rfl, ⟨?_, rfl⟩, hw1.sub (by simp) (by simp)⟩
  simp only [hr, hs2]
  rw [rotr]

theorem turn_c (x : UInt32) (k : Nat) (w : World) (h1 : 1 ≤ k) (h2 : k ≤ 31) : Calls Tryd.prog 86 #[U32 x, I64 ((k:Int))] w (Post w [] (fun v L => v = U32 (rotr x k) ∧ L = [])) := by
  refine enter w [] 9 [] [U32 x, I64 ((k:Int))] Tryd.func86 rfl rfl (by simp) (Hp.start (by simp) (by simp) (by simp)) ?_
  show JC _ _ _ [(0, U32 x), (1, I64 ((k:Int)))] _
  refine JC_seq ?_
  refine JC_region ?_
  refine JL_val _ (Ev_assign rfl) rfl ?_
  refine JL_nil ?_
  refine JQ_then ?_
  refine JC_seq ?_
  refine JC_region ?_
  refine JL_val _ (Ev_move rfl) rfl ?_
  refine JL_val _ (Ev_move rfl) rfl ?_
  refine JL_val (I64 (-(k:Int))) (Ev_un _ _ rfl fun _ => un_neg_i _ (-(k:Int)) (by omega) (by omega)) rfl ?_
  refine JL_step (Step_callP 115 [U32 x, I64 (-(k:Int))] (U32 (rotr x k)) (Cl_func [U32 x, I64 (-(k:Int))] Tryd.call115 rfl) (fun w1 hw1 => rotl_c x k w1 (by omega) (by omega))) rfl ?_
  rintro v1 L1 ⟨rfl, rfl⟩
  show JL _ _ _ _ ((8, U32 (rotr x k)) :: _) []
  refine JL_val _ (Ev_assign rfl) rfl ?_
  refine JL_nil ?_
  refine JQ_then ?_
  refine JC_ret ?_
  refine JQ_ret (U32 (rotr x k)) (res1 Tryd.results86 (RV_tmp rfl)) fun w1 hw1 => ?_
  exact ⟨_, [], rfl, ⟨rfl, rfl⟩, hw1.sub (by simp) (by simp)⟩

theorem rturn_c (x : UInt32) (k : Nat) (w : World) (h1 : 1 ≤ k) (h2 : k ≤ 31) : Calls Tryd.prog 87 #[U32 x, I64 ((k:Int))] w (Post w [] (fun v L => v = U32 (rotr x k) ∧ L = [])) := by
  refine enter w [] 15 [] [U32 x, I64 ((k:Int))] Tryd.func87 rfl rfl (by simp) (Hp.start (by simp) (by simp) (by simp)) ?_
  show JC _ _ _ [(0, U32 x), (1, I64 ((k:Int)))] _
  refine JC_seq ?_
  refine JC_region ?_
  refine JL_val _ (Ev_assign rfl) rfl ?_
  refine JL_nil ?_
  refine JQ_then ?_
  refine JC_seq ?_
  refine JC_region ?_
  refine JL_val _ (Ev_move rfl) rfl ?_
  refine JL_val _ (Ev_move rfl) rfl ?_
  refine JL_val (U64 (UInt64.ofNat k)) (Ev_conv _ _ rfl fun _ => conv_i64_u64 (by rw [Tryd.underlying3]; rfl) Tryd.underlying52 k _ (by omega)) rfl ?_
  refine JL_val (U32 (x >>> UInt32.ofNat k)) (Ev_bini rfl rfl fun _ => bin_shr_u32 x _ _ k (by omega) (ofN_i (by omega))) rfl ?_
  refine JL_val _ (Ev_move rfl) rfl ?_
  refine JL_val _ (Ev_move rfl) rfl ?_
  refine JL_val (I64 (-(k:Int) + 32)) (Ev_bini rfl rfl fun _ => bin_sub_i _ _ (-(k:Int) + 32) (by omega) (by omega)) rfl ?_
  refine JL_val (U64 (UInt64.ofNat (32 - k))) (Ev_conv _ _ rfl fun _ => conv_i64_u64 (by rw [Tryd.underlying3]; rfl) Tryd.underlying52 (32 - k) _ (by omega)) rfl ?_
  refine JL_val (U32 (x <<< UInt32.ofNat (32 - k))) (Ev_bini rfl rfl fun _ => bin_shl_u32 x _ _ (32 - k) (by omega) (ofN_i (by omega))) rfl ?_
  refine JL_val (U32 ((x >>> UInt32.ofNat k) ||| (x <<< UInt32.ofNat (32 - k)))) (Ev_bini rfl rfl fun _ => bin_or_u32 (x >>> UInt32.ofNat k) (x <<< UInt32.ofNat (32 - k))) rfl ?_
  refine JL_val _ (Ev_assign rfl) rfl ?_
  refine JL_nil ?_
  refine JQ_then ?_
  refine JC_ret ?_
  refine JQ_ret (U32 ((x >>> UInt32.ofNat k) ||| (x <<< UInt32.ofNat (32 - k)))) (res1 Tryd.results87 (RV_tmp rfl)) fun w1 hw1 => ?_
  refine ⟨_, [], rfl, ⟨?_, rfl⟩, hw1.sub (by simp) (by simp)⟩
  rw [rotr, UInt32.or_comm]

theorem word_c (az : Option Addr) (cz : Nat) (z : List UInt8) (w : World) (hz : z.length = 4) (hr : RdB w [] az z) : Calls Tryd.prog 114 #[.slice az 4 cz] w (Post w [] (fun v L => v = U32 (wordL z) ∧ L = [])) := by
  refine enter w [] 25 [] [.slice az 4 cz] Tryd.func114 rfl rfl (by simp) (Hp.start (by simp) (by simp) (by simp)) ?_
  show JC _ _ _ [(0, .slice az 4 cz)] _
  refine JC_seq ?_
  refine JC_region ?_
  refine JL_val _ (Ev_assign rfl) rfl ?_
  refine JL_nil ?_
  refine JQ_then ?_
  refine JC_seq ?_
  obtain ⟨bz1, oz1, hz1, hm1⟩ := hr.pos (by rw [hz]; omega)
  refine JC_draw 25 1 [(0, .slice az 4 cz), (1, Ptr bz1 oz1), (2, U8 (g8 z 0)), (3, U32 ((g8 z 0).toUInt32)), (4, U32 (((g8 z 0).toUInt32) <<< (24:UInt32))), (5, .slice az 4 cz), (6, Ptr bz1 (oz1 + 1)), (7, U8 (g8 z 1)), (8, U32 ((g8 z 1).toUInt32)), (9, U32 (((g8 z 1).toUInt32) <<< (16:UInt32))), (10, U32 ((((g8 z 0).toUInt32) <<< (24:UInt32)) ||| (((g8 z 1).toUInt32) <<< (16:UInt32)))), (11, .slice az 4 cz), (12, Ptr bz1 (oz1 + 2)), (13, U8 (g8 z 2)), (14, U32 ((g8 z 2).toUInt32)), (15, U32 (((g8 z 2).toUInt32) <<< (8:UInt32))), (16, U32 (((((g8 z 0).toUInt32) <<< (24:UInt32)) ||| (((g8 z 1).toUInt32) <<< (16:UInt32))) ||| (((g8 z 2).toUInt32) <<< (8:UInt32)))), (17, .slice az 4 cz), (18, Ptr bz1 (oz1 + 3)), (19, U8 (g8 z 3)), (20, U32 ((g8 z 3).toUInt32)), (21, U32 ((((((g8 z 0).toUInt32) <<< (24:UInt32)) ||| (((g8 z 1).toUInt32) <<< (16:UInt32))) ||| (((g8 z 2).toUInt32) <<< (8:UInt32))) ||| ((g8 z 3).toUInt32))), (22, U32 ((((((g8 z 0).toUInt32) <<< (24:UInt32)) ||| (((g8 z 1).toUInt32) <<< (16:UInt32))) ||| (((g8 z 2).toUInt32) <<< (8:UInt32))) ||| ((g8 z 3).toUInt32)))] Tryd.mixed rfl (by decide +kernel) ?_
  refine DP_end ⟨[], [0, 1, 2, 3, 4, 5, 6, 7, 8, 9, 10, 11, 12, 13, 14, 15, 16, 17, 18, 19, 20, 21, 22], [], [0, 1, 2, 3, 4, 5, 6, 7, 8, 9, 10, 11, 12, 13, 14, 15, 16, 17, 18, 19, 20, 21, 22], []⟩ rfl rfl (by decide +kernel) rfl ⟨⟨_, rfl, Qok_val rfl (Ev_move rfl)⟩, ⟨_, rfl, Qok_val rfl (Ev_indexSlG 5 1 oz1 Tryd.underlying22 Tryd.sizeOf5 rfl hz1 rfl (by omega) (by omega) (by omega))⟩, ⟨_, rfl, Qok_val rfl (Ev_load rfl (Ld_one Tryd.isAgg5 (MemAt.seg (MemAt.base hm1.1 hm1.2.1 hm1.2.2) (Seg.get (g8_get (i := 0) (by rw [hz]; omega))) (by omega))))⟩, ⟨_, rfl, Qok_val rfl (Ev_conv _ _ rfl fun _ => conv_u8_u32 (by rw [Tryd.underlying5]; rfl) Tryd.underlying30 _)⟩, ⟨_, rfl, Qok_val rfl (Ev_bini rfl rfl fun _ => bin_shl_u32 ((g8 z 0).toUInt32) _ _ 24 (by decide) rfl)⟩, ⟨_, rfl, Qok_val rfl (Ev_move rfl)⟩, ⟨_, rfl, Qok_val rfl (Ev_indexSlG 5 1 (oz1 + 1) Tryd.underlying22 Tryd.sizeOf5 rfl hz1 rfl (by omega) (by omega) (by omega))⟩, ⟨_, rfl, Qok_val rfl (Ev_load rfl (Ld_one Tryd.isAgg5 (MemAt.seg (MemAt.base hm1.1 hm1.2.1 hm1.2.2) (Seg.get (g8_get (i := 1) (by rw [hz]; omega))) (by omega))))⟩, ⟨_, rfl, Qok_val rfl (Ev_conv _ _ rfl fun _ => conv_u8_u32 (by rw [Tryd.underlying5]; rfl) Tryd.underlying30 _)⟩, ⟨_, rfl, Qok_val rfl (Ev_bini rfl rfl fun _ => bin_shl_u32 ((g8 z 1).toUInt32) _ _ 16 (by decide) rfl)⟩, ⟨_, rfl, Qok_val rfl (Ev_bini rfl rfl fun _ => bin_or_u32 (((g8 z 0).toUInt32) <<< (24:UInt32)) (((g8 z 1).toUInt32) <<< (16:UInt32)))⟩, ⟨_, rfl, Qok_val rfl (Ev_move rfl)⟩, ⟨_, rfl, Qok_val rfl (Ev_indexSlG 5 1 (oz1 + 2) Tryd.underlying22 Tryd.sizeOf5 rfl hz1 rfl (by omega) (by omega) (by omega))⟩, ⟨_, rfl, Qok_val rfl (Ev_load rfl (Ld_one Tryd.isAgg5 (MemAt.seg (MemAt.base hm1.1 hm1.2.1 hm1.2.2) (Seg.get (g8_get (i := 2) (by rw [hz]; omega))) (by omega))))⟩, ⟨_, rfl, Qok_val rfl (Ev_conv _ _ rfl fun _ => conv_u8_u32 (by rw [Tryd.underlying5]; rfl) Tryd.underlying30 _)⟩, ⟨_, rfl, Qok_val rfl (Ev_bini rfl rfl fun _ => bin_shl_u32 ((g8 z 2).toUInt32) _ _ 8 (by decide) rfl)⟩, ⟨_, rfl, Qok_val rfl (Ev_bini rfl rfl fun _ => bin_or_u32 ((((g8 z 0).toUInt32) <<< (24:UInt32)) ||| (((g8 z 1).toUInt32) <<< (16:UInt32))) (((g8 z 2).toUInt32) <<< (8:UInt32)))⟩, ⟨_, rfl, Qok_val rfl (Ev_move rfl)⟩, ⟨_, rfl, Qok_val rfl (Ev_indexSlG 5 1 (oz1 + 3) Tryd.underlying22 Tryd.sizeOf5 rfl hz1 rfl (by omega) (by omega) (by omega))⟩, ⟨_, rfl, Qok_val rfl (Ev_load rfl (Ld_one Tryd.isAgg5 (MemAt.seg (MemAt.base hm1.1 hm1.2.1 hm1.2.2) (Seg.get (g8_get (i := 3) (by rw [hz]; omega))) (by omega))))⟩, ⟨_, rfl, Qok_val rfl (Ev_conv _ _ rfl fun _ => conv_u8_u32 (by rw [Tryd.underlying5]; rfl) Tryd.underlying30 _)⟩, ⟨_, rfl, Qok_val rfl (Ev_bini rfl rfl fun _ => bin_or_u32 (((((g8 z 0).toUInt32) <<< (24:UInt32)) ||| (((g8 z 1).toUInt32) <<< (16:UInt32))) ||| (((g8 z 2).toUInt32) <<< (8:UInt32))) ((g8 z 3).toUInt32))⟩, ⟨_, rfl, Qok_val rfl (Ev_assign rfl)⟩, trivial⟩ ?_
  refine K_sub (F' := [(2, U32 ((((((g8 z 0).toUInt32) <<< (24:UInt32)) ||| (((g8 z 1).toUInt32) <<< (16:UInt32))) ||| (((g8 z 2).toUInt32) <<< (8:UInt32))) ||| ((g8 z 3).toUInt32)))]) (Sub.cons (by kernel_rfl) (Sub.nil)) ?_
  show JQ _ _ _ [(2, U32 ((((((g8 z 0).toUInt32) <<< (24:UInt32)) ||| (((g8 z 1).toUInt32) <<< (16:UInt32))) ||| (((g8 z 2).toUInt32) <<< (8:UInt32))) ||| ((g8 z 3).toUInt32)))] _
  refine JQ_then ?_
  refine JC_ret ?_
  refine JQ_ret (U32 ((((((g8 z 0).toUInt32) <<< (24:UInt32)) ||| (((g8 z 1).toUInt32) <<< (16:UInt32))) ||| (((g8 z 2).toUInt32) <<< (8:UInt32))) ||| ((g8 z 3).toUInt32))) (res1 Tryd.results114 (RV_tmp rfl)) fun w1 hw1 => ?_
  refine ⟨_, [], rfl, ⟨?_, rfl⟩, hw1.sub (by simp) (by simp)⟩
  rw [wordL]

end Go.Proofs.YtncoifiafklkjaaDoor
