import Derived.Test.YtncoifiafklkjaaDoorSxA
namespace Go.Sx
open Go Go.RowKit

theorem wrap_u64' (n : Int) : IntKind.u64.wrap n = n % 18446744073709551616 := by simp [IntKind.wrap, IntKind.bits, IntKind.signed]
theorem wrapU8 (a : UInt8) : IntKind.u8.wrap (a.toNat : Int) = a.toNat := by
  rw [IntKind.wrap_u8']; have := a.toNat_lt; omega
theorem wrapU32 (a : UInt32) : IntKind.u32.wrap (a.toNat : Int) = a.toNat := by
  rw [IntKind.wrap_u32']; have := a.toNat_lt; omega
theorem wrapU64 (a : UInt64) : IntKind.u64.wrap (a.toNat : Int) = a.toNat := by
  rw [wrap_u64']; have := a.toNat_lt; omega
theorem cast_mod (a b : Nat) : ((a : Int) % (b : Int)) = ((a % b : Nat) : Int) := rfl
theorem eqGuard_plain {P : Program} {w : World} (op : BinOp) (t : TypeId) (x y : Operand) (u v : Value) (h1 : op ≠ .eql) (h2 : op ≠ .neq) : (eqGuard op t x y u v).run P w = .ok () w := by
  cases op <;> simp_all [eqGuard]
theorem eqGuard_int {P : Program} {w : World} (op : BinOp) (t : TypeId) (x y : Operand) (k k' : IntKind) (m n : Int) : (eqGuard op t x y (.int k m) (.int k' n)).run P w = .ok () w := by
  cases op <;> simp [eqGuard]
variable {P : Program} {w : World} {T : TypeId}


theorem bin_add_u8 (a b : UInt8) : (binOp .add T (U8 a) (U8 b)).run P w = .ok (U8 (a + b)) w := by
  simp [binOp, Op.intArith, IntKind.wrap_u8', UInt8.toNat_add]
theorem bin_sub_u8 (a b : UInt8) : (binOp .sub T (U8 a) (U8 b)).run P w = .ok (U8 (a - b)) w := by
  have := a.toNat_lt; have := b.toNat_lt
  simp [binOp, Op.intArith, IntKind.wrap_u8', UInt8.toNat_sub]; omega
theorem bin_mul_u8 (a b : UInt8) : (binOp .mul T (U8 a) (U8 b)).run P w = .ok (U8 (a * b)) w := by
  simp [binOp, Op.intArith, IntKind.wrap_u8', UInt8.toNat_mul]
theorem bin_xor_u8 (a b : UInt8) : (binOp .xor T (U8 a) (U8 b)).run P w = .ok (U8 (a ^^^ b)) w := by
  rw [binOp_xor]; simp [go_sem]; rw [u8_xor_nat _ _ a.toNat_lt b.toNat_lt]
theorem bin_and_u8 (a b : UInt8) : (binOp .and T (U8 a) (U8 b)).run P w = .ok (U8 (a &&& b)) w := by
  rw [binOp_and]; simp [go_sem]; rw [u8_and_nat _ _ a.toNat_lt b.toNat_lt]
theorem bin_or_u8 (a b : UInt8) : (binOp .or T (U8 a) (U8 b)).run P w = .ok (U8 (a ||| b)) w := by
  rw [binOp_or]; simp [go_sem]; rw [u8_or_nat _ _ a.toNat_lt b.toNat_lt]
theorem bin_quo_u8 (a b : UInt8) (hb : b ≠ 0) : (binOp .quo T (U8 a) (U8 b)).run P w = .ok (U8 (a / b)) w := by
  have h0 : (b.toNat : Int) ≠ 0 := by intro h; apply hb; apply UInt8.toNat_inj.1; simpa using h
  have e : ((a.toNat : Int).tdiv b.toNat) = ((a / b).toNat : Int) := by rw [UInt8.toNat_div]; rfl
  simp only [binOp, Op.intDiv, if_neg h0]
  rw [e, wrapU8]; simp
theorem bin_rem_u8 (a b : UInt8) (hb : b ≠ 0) : (binOp .rem T (U8 a) (U8 b)).run P w = .ok (U8 (a % b)) w := by
  have h0 : (b.toNat : Int) ≠ 0 := by intro h; apply hb; apply UInt8.toNat_inj.1; simpa using h
  have e : ((a.toNat : Int).tmod b.toNat) = ((a % b).toNat : Int) := by rw [UInt8.toNat_mod]; rfl
  simp only [binOp, Op.intDiv, if_neg h0]
  rw [e]; simp
theorem bin_eql_u8 (a b : UInt8) : (binOp .eql T (U8 a) (U8 b)).run P w = .ok (.bool (decide (a = b))) w := by
  have e : ((a.toNat : Int) == (b.toNat : Int)) = decide (a = b) := by rw [Bool.eq_iff_iff]; simp [← UInt8.toNat_inj]; omega
  rw [binOp_eql, e]; simp
theorem bin_neq_u8 (a b : UInt8) : (binOp .neq T (U8 a) (U8 b)).run P w = .ok (.bool (decide (a ≠ b))) w := by
  have e : ((a.toNat : Int) != (b.toNat : Int)) = decide (a ≠ b) := by rw [Bool.eq_iff_iff]; simp [← UInt8.toNat_inj]; omega
  rw [binOp_neq, e]; simp
theorem bin_lss_u8 (a b : UInt8) : (binOp .lss T (U8 a) (U8 b)).run P w = .ok (.bool (decide (a < b))) w := by
  rw [binOp_lss]; simp [UInt8.lt_iff_toNat_lt]
theorem bin_leq_u8 (a b : UInt8) : (binOp .leq T (U8 a) (U8 b)).run P w = .ok (.bool (decide (a ≤ b))) w := by
  rw [binOp_leq]; simp [UInt8.le_iff_toNat_le]
theorem bin_gtr_u8 (a b : UInt8) : (binOp .gtr T (U8 a) (U8 b)).run P w = .ok (.bool (decide (b < a))) w := by
  rw [binOp_gtr]; simp [UInt8.lt_iff_toNat_lt]
theorem bin_geq_u8 (a b : UInt8) : (binOp .geq T (U8 a) (U8 b)).run P w = .ok (.bool (decide (b ≤ a))) w := by
  rw [binOp_geq]; simp [UInt8.le_iff_toNat_le]
/-- a shift by n places, n < 8 -/
theorem bin_shl_u8 (a : UInt8) (yk : IntKind) (y : Int) (n : Nat) (hn : n < 8) (hy : y = n) : (binOp .shl T (U8 a) (.int yk y)).run P w = .ok (U8 (a <<< UInt8.ofNat n)) w := by
  subst hy
  have e : IntKind.u8.wrap ((a.toNat : Int) * 2 ^ (min (n : Int).toNat 8)) = ((a <<< UInt8.ofNat n).toNat : Int) := by
    rw [IntKind.wrap_u8', UInt8.toNat_shiftLeft, show min (n : Int).toNat 8 = n from by omega, Nat.shiftLeft_eq]
    have : (UInt8.ofNat n).toNat % 8 = n := by simp; omega
    rw [this]; simp
  simp only [binOp, Op.shift, IntKind.bits]
  rw [if_neg (by omega), e]; simp
theorem bin_shr_u8 (a : UInt8) (yk : IntKind) (y : Int) (n : Nat) (hn : n < 8) (hy : y = n) : (binOp .shr T (U8 a) (.int yk y)).run P w = .ok (U8 (a >>> UInt8.ofNat n)) w := by
  subst hy
  have e : ((a.toNat : Int).fdiv (2 ^ (min (n : Int).toNat 8))) = ((a >>> UInt8.ofNat n).toNat : Int) := by
    rw [UInt8.toNat_shiftRight, show min (n : Int).toNat 8 = n from by omega, Nat.shiftRight_eq_div_pow]
    have : (UInt8.ofNat n).toNat % 8 = n := by simp; omega
    rw [this, Int.fdiv_eq_ediv_of_nonneg _ (by exact Int.pow_nonneg (by omega))]; simp
  simp only [binOp, Op.shift, IntKind.bits]
  rw [if_neg (by omega), e]; simp
/-- a shift out of the number -/
theorem bin_shlB_u8 (a : UInt8) (yk : IntKind) (y : Int) (hy : 8 ≤ y) : (binOp .shl T (U8 a) (.int yk y)).run P w = .ok (U8 0) w := by
  simp only [binOp, Op.shift, IntKind.bits]
  rw [if_neg (by omega), show min y.toNat 8 = 8 from by omega, IntKind.wrap_u8']; simp
theorem bin_shrB_u8 (a : UInt8) (yk : IntKind) (y : Int) (hy : 8 ≤ y) : (binOp .shr T (U8 a) (.int yk y)).run P w = .ok (U8 0) w := by
  have := a.toNat_lt
  simp only [binOp, Op.shift, IntKind.bits]
  rw [if_neg (by omega), show min y.toNat 8 = 8 from by omega, Int.fdiv_eq_ediv_of_nonneg _ (by omega), Int.ediv_eq_zero_of_lt (by omega) (by omega)]; simp


theorem bin_add_u32 (a b : UInt32) : (binOp .add T (U32 a) (U32 b)).run P w = .ok (U32 (a + b)) w := by
  simp [binOp, Op.intArith, IntKind.wrap_u32', UInt32.toNat_add]
theorem bin_sub_u32 (a b : UInt32) : (binOp .sub T (U32 a) (U32 b)).run P w = .ok (U32 (a - b)) w := by
  have := a.toNat_lt; have := b.toNat_lt
  simp [binOp, Op.intArith, IntKind.wrap_u32', UInt32.toNat_sub]; omega
theorem bin_mul_u32 (a b : UInt32) : (binOp .mul T (U32 a) (U32 b)).run P w = .ok (U32 (a * b)) w := by
  simp [binOp, Op.intArith, IntKind.wrap_u32', UInt32.toNat_mul]
theorem bin_xor_u32 (a b : UInt32) : (binOp .xor T (U32 a) (U32 b)).run P w = .ok (U32 (a ^^^ b)) w := by
  rw [binOp_xor]; simp [go_sem]; rw [u32_xor_nat _ _ a.toNat_lt b.toNat_lt]
theorem bin_and_u32 (a b : UInt32) : (binOp .and T (U32 a) (U32 b)).run P w = .ok (U32 (a &&& b)) w := by
  rw [binOp_and]; simp [go_sem]; rw [u32_and_nat _ _ a.toNat_lt b.toNat_lt]
theorem bin_or_u32 (a b : UInt32) : (binOp .or T (U32 a) (U32 b)).run P w = .ok (U32 (a ||| b)) w := by
  rw [binOp_or]; simp [go_sem]; rw [u32_or_nat _ _ a.toNat_lt b.toNat_lt]
theorem bin_quo_u32 (a b : UInt32) (hb : b ≠ 0) : (binOp .quo T (U32 a) (U32 b)).run P w = .ok (U32 (a / b)) w := by
  have h0 : (b.toNat : Int) ≠ 0 := by intro h; apply hb; apply UInt32.toNat_inj.1; simpa using h
  have e : ((a.toNat : Int).tdiv b.toNat) = ((a / b).toNat : Int) := by rw [UInt32.toNat_div]; rfl
  simp only [binOp, Op.intDiv, if_neg h0]
  rw [e, wrapU32]; simp
theorem bin_rem_u32 (a b : UInt32) (hb : b ≠ 0) : (binOp .rem T (U32 a) (U32 b)).run P w = .ok (U32 (a % b)) w := by
  have h0 : (b.toNat : Int) ≠ 0 := by intro h; apply hb; apply UInt32.toNat_inj.1; simpa using h
  have e : ((a.toNat : Int).tmod b.toNat) = ((a % b).toNat : Int) := by rw [UInt32.toNat_mod]; rfl
  simp only [binOp, Op.intDiv, if_neg h0]
  rw [e]; simp
theorem bin_eql_u32 (a b : UInt32) : (binOp .eql T (U32 a) (U32 b)).run P w = .ok (.bool (decide (a = b))) w := by
  have e : ((a.toNat : Int) == (b.toNat : Int)) = decide (a = b) := by rw [Bool.eq_iff_iff]; simp [← UInt32.toNat_inj]; omega
  rw [binOp_eql, e]; simp
theorem bin_neq_u32 (a b : UInt32) : (binOp .neq T (U32 a) (U32 b)).run P w = .ok (.bool (decide (a ≠ b))) w := by
  have e : ((a.toNat : Int) != (b.toNat : Int)) = decide (a ≠ b) := by rw [Bool.eq_iff_iff]; simp [← UInt32.toNat_inj]; omega
  rw [binOp_neq, e]; simp
theorem bin_lss_u32 (a b : UInt32) : (binOp .lss T (U32 a) (U32 b)).run P w = .ok (.bool (decide (a < b))) w := by
  rw [binOp_lss]; simp [UInt32.lt_iff_toNat_lt]
theorem bin_leq_u32 (a b : UInt32) : (binOp .leq T (U32 a) (U32 b)).run P w = .ok (.bool (decide (a ≤ b))) w := by
  rw [binOp_leq]; simp [UInt32.le_iff_toNat_le]
theorem bin_gtr_u32 (a b : UInt32) : (binOp .gtr T (U32 a) (U32 b)).run P w = .ok (.bool (decide (b < a))) w := by
  rw [binOp_gtr]; simp [UInt32.lt_iff_toNat_lt]
theorem bin_geq_u32 (a b : UInt32) : (binOp .geq T (U32 a) (U32 b)).run P w = .ok (.bool (decide (b ≤ a))) w := by
  rw [binOp_geq]; simp [UInt32.le_iff_toNat_le]
/-- a shift by n places, n < 32 -/
theorem bin_shl_u32 (a : UInt32) (yk : IntKind) (y : Int) (n : Nat) (hn : n < 32) (hy : y = n) : (binOp .shl T (U32 a) (.int yk y)).run P w = .ok (U32 (a <<< UInt32.ofNat n)) w := by
  subst hy
  have e : IntKind.u32.wrap ((a.toNat : Int) * 2 ^ (min (n : Int).toNat 32)) = ((a <<< UInt32.ofNat n).toNat : Int) := by
    rw [IntKind.wrap_u32', UInt32.toNat_shiftLeft, show min (n : Int).toNat 32 = n from by omega, Nat.shiftLeft_eq]
    have : (UInt32.ofNat n).toNat % 32 = n := by simp; omega
    rw [this]; simp
  simp only [binOp, Op.shift, IntKind.bits]
  rw [if_neg (by omega), e]; simp
theorem bin_shr_u32 (a : UInt32) (yk : IntKind) (y : Int) (n : Nat) (hn : n < 32) (hy : y = n) : (binOp .shr T (U32 a) (.int yk y)).run P w = .ok (U32 (a >>> UInt32.ofNat n)) w := by
  subst hy
  have e : ((a.toNat : Int).fdiv (2 ^ (min (n : Int).toNat 32))) = ((a >>> UInt32.ofNat n).toNat : Int) := by
    rw [UInt32.toNat_shiftRight, show min (n : Int).toNat 32 = n from by omega, Nat.shiftRight_eq_div_pow]
    have : (UInt32.ofNat n).toNat % 32 = n := by simp; omega
    rw [this, Int.fdiv_eq_ediv_of_nonneg _ (by exact Int.pow_nonneg (by omega))]; simp
  simp only [binOp, Op.shift, IntKind.bits]
  rw [if_neg (by omega), e]; simp
/-- a shift out of the number -/
theorem bin_shlB_u32 (a : UInt32) (yk : IntKind) (y : Int) (hy : 32 ≤ y) : (binOp .shl T (U32 a) (.int yk y)).run P w = .ok (U32 0) w := by
  simp only [binOp, Op.shift, IntKind.bits]
  rw [if_neg (by omega), show min y.toNat 32 = 32 from by omega, IntKind.wrap_u32']; simp
theorem bin_shrB_u32 (a : UInt32) (yk : IntKind) (y : Int) (hy : 32 ≤ y) : (binOp .shr T (U32 a) (.int yk y)).run P w = .ok (U32 0) w := by
  have := a.toNat_lt
  simp only [binOp, Op.shift, IntKind.bits]
  rw [if_neg (by omega), show min y.toNat 32 = 32 from by omega, Int.fdiv_eq_ediv_of_nonneg _ (by omega), Int.ediv_eq_zero_of_lt (by omega) (by omega)]; simp


theorem bin_add_u64 (a b : UInt64) : (binOp .add T (U64 a) (U64 b)).run P w = .ok (U64 (a + b)) w := by
  simp [binOp, Op.intArith, wrap_u64', UInt64.toNat_add]
theorem bin_sub_u64 (a b : UInt64) : (binOp .sub T (U64 a) (U64 b)).run P w = .ok (U64 (a - b)) w := by
  have := a.toNat_lt; have := b.toNat_lt
  simp [binOp, Op.intArith, wrap_u64', UInt64.toNat_sub]; omega
theorem bin_mul_u64 (a b : UInt64) : (binOp .mul T (U64 a) (U64 b)).run P w = .ok (U64 (a * b)) w := by
  simp [binOp, Op.intArith, wrap_u64', UInt64.toNat_mul]
theorem bin_xor_u64 (a b : UInt64) : (binOp .xor T (U64 a) (U64 b)).run P w = .ok (U64 (a ^^^ b)) w := by
  rw [binOp_xor]; simp [go_sem]; rw [u64_xor_nat _ _ a.toNat_lt b.toNat_lt]
theorem bin_and_u64 (a b : UInt64) : (binOp .and T (U64 a) (U64 b)).run P w = .ok (U64 (a &&& b)) w := by
  rw [binOp_and]; simp [go_sem]; rw [u64_and_nat _ _ a.toNat_lt b.toNat_lt]
theorem bin_or_u64 (a b : UInt64) : (binOp .or T (U64 a) (U64 b)).run P w = .ok (U64 (a ||| b)) w := by
  rw [binOp_or]; simp [go_sem]; rw [u64_or_nat _ _ a.toNat_lt b.toNat_lt]
theorem bin_quo_u64 (a b : UInt64) (hb : b ≠ 0) : (binOp .quo T (U64 a) (U64 b)).run P w = .ok (U64 (a / b)) w := by
  have h0 : (b.toNat : Int) ≠ 0 := by intro h; apply hb; apply UInt64.toNat_inj.1; simpa using h
  have e : ((a.toNat : Int).tdiv b.toNat) = ((a / b).toNat : Int) := by rw [UInt64.toNat_div]; rfl
  simp only [binOp, Op.intDiv, if_neg h0]
  rw [e, wrapU64]; simp
theorem bin_rem_u64 (a b : UInt64) (hb : b ≠ 0) : (binOp .rem T (U64 a) (U64 b)).run P w = .ok (U64 (a % b)) w := by
  have h0 : (b.toNat : Int) ≠ 0 := by intro h; apply hb; apply UInt64.toNat_inj.1; simpa using h
  have e : ((a.toNat : Int).tmod b.toNat) = ((a % b).toNat : Int) := by rw [UInt64.toNat_mod]; rfl
  simp only [binOp, Op.intDiv, if_neg h0]
  rw [e]; simp
theorem bin_eql_u64 (a b : UInt64) : (binOp .eql T (U64 a) (U64 b)).run P w = .ok (.bool (decide (a = b))) w := by
  have e : ((a.toNat : Int) == (b.toNat : Int)) = decide (a = b) := by rw [Bool.eq_iff_iff]; simp [← UInt64.toNat_inj]; omega
  rw [binOp_eql, e]; simp
theorem bin_neq_u64 (a b : UInt64) : (binOp .neq T (U64 a) (U64 b)).run P w = .ok (.bool (decide (a ≠ b))) w := by
  have e : ((a.toNat : Int) != (b.toNat : Int)) = decide (a ≠ b) := by rw [Bool.eq_iff_iff]; simp [← UInt64.toNat_inj]; omega
  rw [binOp_neq, e]; simp
theorem bin_lss_u64 (a b : UInt64) : (binOp .lss T (U64 a) (U64 b)).run P w = .ok (.bool (decide (a < b))) w := by
  rw [binOp_lss]; simp [UInt64.lt_iff_toNat_lt]
theorem bin_leq_u64 (a b : UInt64) : (binOp .leq T (U64 a) (U64 b)).run P w = .ok (.bool (decide (a ≤ b))) w := by
  rw [binOp_leq]; simp [UInt64.le_iff_toNat_le]
theorem bin_gtr_u64 (a b : UInt64) : (binOp .gtr T (U64 a) (U64 b)).run P w = .ok (.bool (decide (b < a))) w := by
  rw [binOp_gtr]; simp [UInt64.lt_iff_toNat_lt]
theorem bin_geq_u64 (a b : UInt64) : (binOp .geq T (U64 a) (U64 b)).run P w = .ok (.bool (decide (b ≤ a))) w := by
  rw [binOp_geq]; simp [UInt64.le_iff_toNat_le]
/-- a shift by n places, n < 64 -/
theorem bin_shl_u64 (a : UInt64) (yk : IntKind) (y : Int) (n : Nat) (hn : n < 64) (hy : y = n) : (binOp .shl T (U64 a) (.int yk y)).run P w = .ok (U64 (a <<< UInt64.ofNat n)) w := by
  subst hy
  have e : IntKind.u64.wrap ((a.toNat : Int) * 2 ^ (min (n : Int).toNat 64)) = ((a <<< UInt64.ofNat n).toNat : Int) := by
    rw [wrap_u64', UInt64.toNat_shiftLeft, show min (n : Int).toNat 64 = n from by omega, Nat.shiftLeft_eq]
    have : (UInt64.ofNat n).toNat % 64 = n := by simp; omega
    rw [this]; simp
  simp only [binOp, Op.shift, IntKind.bits]
  rw [if_neg (by omega), e]; simp
theorem bin_shr_u64 (a : UInt64) (yk : IntKind) (y : Int) (n : Nat) (hn : n < 64) (hy : y = n) : (binOp .shr T (U64 a) (.int yk y)).run P w = .ok (U64 (a >>> UInt64.ofNat n)) w := by
  subst hy
  have e : ((a.toNat : Int).fdiv (2 ^ (min (n : Int).toNat 64))) = ((a >>> UInt64.ofNat n).toNat : Int) := by
    rw [UInt64.toNat_shiftRight, show min (n : Int).toNat 64 = n from by omega, Nat.shiftRight_eq_div_pow]
    have : (UInt64.ofNat n).toNat % 64 = n := by simp; omega
    rw [this, Int.fdiv_eq_ediv_of_nonneg _ (by exact Int.pow_nonneg (by omega))]; simp
  simp only [binOp, Op.shift, IntKind.bits]
  rw [if_neg (by omega), e]; simp
/-- a shift out of the number -/
theorem bin_shlB_u64 (a : UInt64) (yk : IntKind) (y : Int) (hy : 64 ≤ y) : (binOp .shl T (U64 a) (.int yk y)).run P w = .ok (U64 0) w := by
  simp only [binOp, Op.shift, IntKind.bits]
  rw [if_neg (by omega), show min y.toNat 64 = 64 from by omega, wrap_u64']; simp
theorem bin_shrB_u64 (a : UInt64) (yk : IntKind) (y : Int) (hy : 64 ≤ y) : (binOp .shr T (U64 a) (.int yk y)).run P w = .ok (U64 0) w := by
  have := a.toNat_lt
  simp only [binOp, Op.shift, IntKind.bits]
  rw [if_neg (by omega), show min y.toNat 64 = 64 from by omega, Int.fdiv_eq_ediv_of_nonneg _ (by omega), Int.ediv_eq_zero_of_lt (by omega) (by omega)]; simp

end Go.Sx