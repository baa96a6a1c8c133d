import Derived.Test.YtncoifiafklkjaaDoorSxC
namespace Go.Sx
open Go Go.RowKit
variable {C : Cx} {F : Frm} {L : List Ent} {Q : Exit → Act → World → Prop} {ops : Array Oper} {l : List Oper}

/-! ### numbers of kind int -/
variable {P : Program} {w : World} {T : TypeId}
theorem wrap_i64_in (n : Int) (h1 : -9223372036854775808 ≤ n) (h2 : n ≤ 9223372036854775807) : IntKind.i64.wrap n = n := IntWalk.i64_in n ⟨h1, h2⟩
theorem bin_add_i (x y r : Int) (h1 : -9223372036854775808 ≤ r ∧ r ≤ 9223372036854775807) (hr : x + y = r) : (binOp .add T (I64 x) (I64 y)).run P w = .ok (I64 r) w := by
  subst hr; simp [binOp, Op.intArith, wrap_i64_in _ h1.1 h1.2]
theorem bin_sub_i (x y r : Int) (h1 : -9223372036854775808 ≤ r ∧ r ≤ 9223372036854775807) (hr : x - y = r) : (binOp .sub T (I64 x) (I64 y)).run P w = .ok (I64 r) w := by
  subst hr; simp [binOp, Op.intArith, wrap_i64_in _ h1.1 h1.2]
theorem bin_mul_i (x y r : Int) (h1 : -9223372036854775808 ≤ r ∧ r ≤ 9223372036854775807) (hr : x * y = r) : (binOp .mul T (I64 x) (I64 y)).run P w = .ok (I64 r) w := by
  subst hr; simp [binOp, Op.intArith, wrap_i64_in _ h1.1 h1.2]
theorem bin_quo_i (x y r : Int) (hx : 0 ≤ x ∧ x ≤ 9223372036854775807) (hy : 1 ≤ y) (hr : x / y = r) : (binOp .quo T (I64 x) (I64 y)).run P w = .ok (I64 r) w := by
  subst hr
  have h0 : y ≠ 0 := by omega
  have := IntWalk.i64_quo x y ⟨hx.1, hx.2, hy⟩
  simp [binOp, Op.intDiv, h0, this]
theorem bin_rem_i (x y r : Int) (hx : 0 ≤ x) (hy : 1 ≤ y) (hr : x % y = r) : (binOp .rem T (I64 x) (I64 y)).run P w = .ok (I64 r) w := by
  subst hr
  have h0 : y ≠ 0 := by omega
  simp [binOp, Op.intDiv, h0, Int.tmod_eq_emod_of_nonneg hx]
theorem bin_eql_i (x y : Int) : (binOp .eql T (I64 x) (I64 y)).run P w = .ok (.bool (decide (x = y))) w := by
  have e : (x == y) = decide (x = y) := by rw [Bool.eq_iff_iff]; simp
  rw [binOp_eql, e]; simp
theorem bin_neq_i (x y : Int) : (binOp .neq T (I64 x) (I64 y)).run P w = .ok (.bool (decide (x ≠ y))) w := by
  have e : (x != y) = decide (x ≠ y) := by rw [Bool.eq_iff_iff]; simp
  rw [binOp_neq, e]; simp
theorem bin_lss_i (x y : Int) : (binOp .lss T (I64 x) (I64 y)).run P w = .ok (.bool (decide (x < y))) w := by rw [binOp_lss]; simp
theorem bin_leq_i (x y : Int) : (binOp .leq T (I64 x) (I64 y)).run P w = .ok (.bool (decide (x ≤ y))) w := by rw [binOp_leq]; simp
theorem bin_gtr_i (x y : Int) : (binOp .gtr T (I64 x) (I64 y)).run P w = .ok (.bool (decide (y < x))) w := by rw [binOp_gtr]; simp
theorem bin_geq_i (x y : Int) : (binOp .geq T (I64 x) (I64 y)).run P w = .ok (.bool (decide (y ≤ x))) w := by rw [binOp_geq]; simp

/-! ### conversions -/
theorem conv_int {src dst : TypeId} {k : IntKind} (n m : Int) (hs : (P.underlying src).isSome = true) (hd : P.underlying dst = some (.int k)) (k' : IntKind) (h : k.wrap n = m) : (convert src dst (.int k' n)).run P w = .ok (.int k m) w := by
  cases hu : P.underlying src with
  | none => rw [hu] at hs; cases hs
  | some d => subst h; simp [convert, run_underlying hu, run_underlying hd, Conv.intToInt]
theorem conv_lit {src dst : TypeId} {k : IntKind} {n m : Int} {k' : IntKind} (hs : (P.underlying src).isSome = true) (hd : P.underlying dst = some (.int k)) (h : k.wrap n = m) : (convert src dst (.int k' n)).run P w = .ok (.int k m) w := conv_int n m hs hd k' h
theorem conv_ii {src dst : TypeId} (n : Int) (hs : (P.underlying src).isSome = true) (hd : P.underlying dst = some (.int .i64)) (h1 : -9223372036854775808 ≤ n) (h2 : n ≤ 9223372036854775807) : (convert src dst (I64 n)).run P w = .ok (I64 n) w :=
  conv_int n n hs hd _ (wrap_i64_in n h1 h2)


theorem conv_same_u8 {src dst : TypeId} (hs : (P.underlying src).isSome = true) (hd : P.underlying dst = some (.int .u8)) (x : UInt8) : (convert src dst (U8 x)).run P w = .ok (U8 x) w := conv_int _ _ hs hd _ (wrapU8 x)
theorem conv_i64_u8 {src dst : TypeId} (hs : (P.underlying src).isSome = true) (hd : P.underlying dst = some (.int .u8)) (n : Nat) (x : Int) (h : x = n) : (convert src dst (I64 x)).run P w = .ok (U8 (UInt8.ofNat n)) w :=
  conv_int _ _ hs hd _ (by subst h; rw [IntKind.wrap_u8']; simp)
theorem un_xor_u8 (x : UInt8) : (Op.unary .xor (U8 x)).run P w = .ok (U8 (~~~x)) w := by
  have hx := x.toNat_lt
  have e : (BitVec.ofInt 8 (255:Int)) ^^^ (BitVec.ofInt 8 (x.toNat : Int)) = (~~~x).toBitVec := by
    rw [show BitVec.ofInt 8 (255:Int) = BitVec.allOnes 8 from by decide, show BitVec.ofInt 8 (x.toNat : Int) = x.toBitVec from by apply BitVec.eq_of_toNat_eq; rw [BitVec.toNat_ofInt]; simp; omega, BitVec.allOnes_xor]
    rfl
  show Sem.run P (pure (Value.int .u8 (IntKind.u8.wrap ((BitVec.ofInt 8 (255:Int)) ^^^ (BitVec.ofInt 8 (x.toNat : Int))).toNat))) w = _
  rw [e]
  show Sem.run P (pure (Value.int .u8 (IntKind.u8.wrap ((~~~x).toNat : Int)))) w = _
  rw [wrapU8]; simp

theorem conv_u8_u32 {src dst : TypeId} (hs : (P.underlying src).isSome = true) (hd : P.underlying dst = some (.int .u32)) (x : UInt8) : (convert src dst (U8 x)).run P w = .ok (U32 x.toUInt32) w :=
  conv_int _ _ hs hd _ (by have := x.toNat_lt; rw [IntKind.wrap_u32']; simp; try omega)
theorem conv_u8_u64 {src dst : TypeId} (hs : (P.underlying src).isSome = true) (hd : P.underlying dst = some (.int .u64)) (x : UInt8) : (convert src dst (U8 x)).run P w = .ok (U64 x.toUInt64) w :=
  conv_int _ _ hs hd _ (by have := x.toNat_lt; rw [wrap_u64']; simp; try omega)
theorem conv_u8_i64 {src dst : TypeId} (hs : (P.underlying src).isSome = true) (hd : P.underlying dst = some (.int .i64)) (x : UInt8) (r : Int) (hr : (x.toNat : Int) = r) : (convert src dst (U8 x)).run P w = .ok (I64 r) w :=
  conv_int _ _ hs hd _ (by subst hr; have := x.toNat_lt; exact wrap_i64_in _ (by omega) (by omega))

theorem conv_same_u32 {src dst : TypeId} (hs : (P.underlying src).isSome = true) (hd : P.underlying dst = some (.int .u32)) (x : UInt32) : (convert src dst (U32 x)).run P w = .ok (U32 x) w := conv_int _ _ hs hd _ (wrapU32 x)
theorem conv_i64_u32 {src dst : TypeId} (hs : (P.underlying src).isSome = true) (hd : P.underlying dst = some (.int .u32)) (n : Nat) (x : Int) (h : x = n) : (convert src dst (I64 x)).run P w = .ok (U32 (UInt32.ofNat n)) w :=
  conv_int _ _ hs hd _ (by subst h; rw [IntKind.wrap_u32']; simp)
theorem un_xor_u32 (x : UInt32) : (Op.unary .xor (U32 x)).run P w = .ok (U32 (~~~x)) w := by
  have hx := x.toNat_lt
  have e : (BitVec.ofInt 32 (4294967295:Int)) ^^^ (BitVec.ofInt 32 (x.toNat : Int)) = (~~~x).toBitVec := by
    rw [show BitVec.ofInt 32 (4294967295:Int) = BitVec.allOnes 32 from by decide, show BitVec.ofInt 32 (x.toNat : Int) = x.toBitVec from by apply BitVec.eq_of_toNat_eq; rw [BitVec.toNat_ofInt]; simp; omega, BitVec.allOnes_xor]
    rfl
  show Sem.run P (pure (Value.int .u32 (IntKind.u32.wrap ((BitVec.ofInt 32 (4294967295:Int)) ^^^ (BitVec.ofInt 32 (x.toNat : Int))).toNat))) w = _
  rw [e]
  show Sem.run P (pure (Value.int .u32 (IntKind.u32.wrap ((~~~x).toNat : Int)))) w = _
  rw [wrapU32]; simp

theorem conv_u32_u8 {src dst : TypeId} (hs : (P.underlying src).isSome = true) (hd : P.underlying dst = some (.int .u8)) (x : UInt32) : (convert src dst (U32 x)).run P w = .ok (U8 x.toUInt8) w :=
  conv_int _ _ hs hd _ (by have := x.toNat_lt; rw [IntKind.wrap_u8']; simp; try omega)
theorem conv_u32_u64 {src dst : TypeId} (hs : (P.underlying src).isSome = true) (hd : P.underlying dst = some (.int .u64)) (x : UInt32) : (convert src dst (U32 x)).run P w = .ok (U64 x.toUInt64) w :=
  conv_int _ _ hs hd _ (by have := x.toNat_lt; rw [wrap_u64']; simp; try omega)
theorem conv_u32_i64 {src dst : TypeId} (hs : (P.underlying src).isSome = true) (hd : P.underlying dst = some (.int .i64)) (x : UInt32) (r : Int) (hr : (x.toNat : Int) = r) : (convert src dst (U32 x)).run P w = .ok (I64 r) w :=
  conv_int _ _ hs hd _ (by subst hr; have := x.toNat_lt; exact wrap_i64_in _ (by omega) (by omega))

theorem conv_same_u64 {src dst : TypeId} (hs : (P.underlying src).isSome = true) (hd : P.underlying dst = some (.int .u64)) (x : UInt64) : (convert src dst (U64 x)).run P w = .ok (U64 x) w := conv_int _ _ hs hd _ (wrapU64 x)
theorem conv_i64_u64 {src dst : TypeId} (hs : (P.underlying src).isSome = true) (hd : P.underlying dst = some (.int .u64)) (n : Nat) (x : Int) (h : x = n) : (convert src dst (I64 x)).run P w = .ok (U64 (UInt64.ofNat n)) w :=
  conv_int _ _ hs hd _ (by subst h; rw [wrap_u64']; simp)
theorem un_xor_u64 (x : UInt64) : (Op.unary .xor (U64 x)).run P w = .ok (U64 (~~~x)) w := by
  have hx := x.toNat_lt
  have e : (BitVec.ofInt 64 (18446744073709551615:Int)) ^^^ (BitVec.ofInt 64 (x.toNat : Int)) = (~~~x).toBitVec := by
    rw [show BitVec.ofInt 64 (18446744073709551615:Int) = BitVec.allOnes 64 from by decide, show BitVec.ofInt 64 (x.toNat : Int) = x.toBitVec from by apply BitVec.eq_of_toNat_eq; rw [BitVec.toNat_ofInt]; simp; omega, BitVec.allOnes_xor]
    rfl
  show Sem.run P (pure (Value.int .u64 (IntKind.u64.wrap ((BitVec.ofInt 64 (18446744073709551615:Int)) ^^^ (BitVec.ofInt 64 (x.toNat : Int))).toNat))) w = _
  rw [e]
  show Sem.run P (pure (Value.int .u64 (IntKind.u64.wrap ((~~~x).toNat : Int)))) w = _
  rw [wrapU64]; simp

theorem conv_u64_u8 {src dst : TypeId} (hs : (P.underlying src).isSome = true) (hd : P.underlying dst = some (.int .u8)) (x : UInt64) : (convert src dst (U64 x)).run P w = .ok (U8 x.toUInt8) w :=
  conv_int _ _ hs hd _ (by have := x.toNat_lt; rw [IntKind.wrap_u8']; simp; try omega)
theorem conv_u64_u32 {src dst : TypeId} (hs : (P.underlying src).isSome = true) (hd : P.underlying dst = some (.int .u32)) (x : UInt64) : (convert src dst (U64 x)).run P w = .ok (U32 x.toUInt32) w :=
  conv_int _ _ hs hd _ (by have := x.toNat_lt; rw [IntKind.wrap_u32']; simp; try omega)
theorem conv_u64_i64 {src dst : TypeId} (hs : (P.underlying src).isSome = true) (hd : P.underlying dst = some (.int .i64)) (x : UInt64) (r : Int) (hr : (x.toNat : Int) = r) (hx : x.toNat < 9223372036854775808) : (convert src dst (U64 x)).run P w = .ok (I64 r) w :=
  conv_int _ _ hs hd _ (by subst hr; have := x.toNat_lt; exact wrap_i64_in _ (by omega) (by omega))

/-! ### equality -/
theorem eqGuard_ptr (op : BinOp) (t : TypeId) (x y : Operand) (p q : Option Addr) : (eqGuard op t x y (.pointer p) (.pointer q)).run P w = .ok () w := by cases op <;> simp [eqGuard]
theorem eqGuard_sl (op : BinOp) (t : TypeId) (x y : Operand) (p q : Option Addr) (a b c d : Nat) : (eqGuard op t x y (.slice p a b) (.slice q c d)).run P w = .ok () w := by cases op <;> simp [eqGuard]
theorem eqGuard_bool (op : BinOp) (t : TypeId) (x y : Operand) (p q : Bool) : (eqGuard op t x y (.bool p) (.bool q)).run P w = .ok () w := by cases op <;> simp [eqGuard]
theorem eqGuard_str (op : BinOp) (t : TypeId) (x y : Operand) (p q : ByteArray) : (eqGuard op t x y (.string p) (.string q)).run P w = .ok () w := by cases op <;> simp [eqGuard]
theorem eqGuard_if (op : BinOp) (t : TypeId) (x y : Operand) (d : TypeId) (p : Value) : (eqGuard op t x y (.iface d p) .nilIface).run P w = .ok () w := by cases op <;> simp [eqGuard]
theorem eqGuard_nilc (op : BinOp) (t : TypeId) (x : Operand) (v : Value) : (eqGuard op t x (.const v) .nilIface .nilIface).run P w = .ok () w := by cases op <;> simp [eqGuard]
theorem eqGuard_agg (op : BinOp) (t : TypeId) (x y : Operand) (p q : Array Value) (hg : P.eqGuardType P.depth t = false) : (eqGuard op t x y (.agg p) (.agg q)).run P w = .ok () w := by cases op <;> simp [eqGuard, program, Sem.run, hg]

theorem eql_of {t : TypeId} {x y : Value} {b : Bool} (hi : binOp .eql t x y = (do pure (.bool (← Op.equal t x y)))) (h : (Op.equal t x y).run P w = .ok b w) : (binOp .eql t x y).run P w = .ok (.bool b) w := by rw [hi]; simp [h]
theorem neq_of {t : TypeId} {x y : Value} {b : Bool} (hi : binOp .neq t x y = (do pure (.bool (!(← Op.equal t x y))))) (h : (Op.equal t x y).run P w = .ok b w) : (binOp .neq t x y).run P w = .ok (.bool !b) w := by rw [hi]; simp [h]
theorem equal_succ (t : TypeId) (x y : Value) : ∃ d, Op.equal t x y = Op.equalIn (d + 1) t x y := ⟨9999, rfl⟩
theorem equal_ptr_nil {t e : TypeId} (hu : P.underlying t = some (.pointer e)) (a : Addr) : (Op.equal t (.pointer (some a)) (.pointer none)).run P w = .ok false w := by
  unfold Op.equal Op.maxDepth
  rw [show (10000:Nat) = 9999 + 1 from rfl]
  generalize 9999 = d
  simp [Op.equalIn, run_underlying hu]
theorem equal_ptr_nil_nil {t e : TypeId} (hu : P.underlying t = some (.pointer e)) : (Op.equal t (.pointer none) (.pointer none)).run P w = .ok true w := by
  unfold Op.equal Op.maxDepth
  rw [show (10000:Nat) = 9999 + 1 from rfl]
  generalize 9999 = d
  simp [Op.equalIn, run_underlying hu]
theorem equal_sl_any {t e : TypeId} (hu : P.underlying t = some (.slice e)) (a : Option Addr) (n c : Nat) : (Op.equal t (.slice a n c) (.slice none 0 0)).run P w = .ok a.isNone w := by
  cases a <;> (unfold Op.equal Op.maxDepth; rw [show (10000:Nat) = 9999 + 1 from rfl]; generalize 9999 = d; simp [Op.equalIn, run_underlying hu])
theorem equal_if_nil {t : TypeId} {ms : Array (String × TypeId)} (hu : P.underlying t = some (.interface ms)) (d : TypeId) (v : Value) : (Op.equal t (.iface d v) .nilIface).run P w = .ok false w := by
  unfold Op.equal Op.maxDepth
  rw [show (10000:Nat) = 9999 + 1 from rfl]
  generalize 9999 = d
  simp [Op.equalIn, run_underlying hu]
theorem equal_if_nil_nil {t : TypeId} {ms : Array (String × TypeId)} (hu : P.underlying t = some (.interface ms)) : (Op.equal t .nilIface .nilIface).run P w = .ok true w := by
  unfold Op.equal Op.maxDepth
  rw [show (10000:Nat) = 9999 + 1 from rfl]
  generalize 9999 = d
  simp [Op.equalIn, run_underlying hu]
theorem equal_bool {t : TypeId} (hu : P.underlying t = some .bool) (a b : Bool) : (Op.equal t (.bool a) (.bool b)).run P w = .ok (a == b) w := by
  unfold Op.equal Op.maxDepth
  rw [show (10000:Nat) = 9999 + 1 from rfl]
  generalize 9999 = d
  simp [Op.equalIn, run_underlying hu]

theorem eql_ptr_nil {t e : TypeId} (hu : P.underlying t = some (.pointer e)) {a : Addr} : (binOp .eql t (.pointer (some a)) (.pointer none)).run P w = .ok (.bool false) w := eql_of (by simp [binOp]) (equal_ptr_nil hu a)
theorem neq_ptr_nil {t e : TypeId} (hu : P.underlying t = some (.pointer e)) {a : Addr} : (binOp .neq t (.pointer (some a)) (.pointer none)).run P w = .ok (.bool (true)) w := neq_of (by simp [binOp]) (equal_ptr_nil hu a)
theorem eql_ptr_nil_nil {t e : TypeId} (hu : P.underlying t = some (.pointer e)) : (binOp .eql t (.pointer none) (.pointer none)).run P w = .ok (.bool true) w := eql_of (by simp [binOp]) (equal_ptr_nil_nil hu)
theorem neq_ptr_nil_nil {t e : TypeId} (hu : P.underlying t = some (.pointer e)) : (binOp .neq t (.pointer none) (.pointer none)).run P w = .ok (.bool (false)) w := neq_of (by simp [binOp]) (equal_ptr_nil_nil hu)
theorem eql_sl_any {t e : TypeId} (hu : P.underlying t = some (.slice e)) {a : Option Addr} {n c : Nat} : (binOp .eql t (.slice a n c) (.slice none 0 0)).run P w = .ok (.bool a.isNone) w := eql_of (by simp [binOp]) (equal_sl_any hu a n c)
theorem neq_sl_any {t e : TypeId} (hu : P.underlying t = some (.slice e)) {a : Option Addr} {n c : Nat} : (binOp .neq t (.slice a n c) (.slice none 0 0)).run P w = .ok (.bool (!a.isNone)) w := neq_of (by simp [binOp]) (equal_sl_any hu a n c)
theorem eql_sl_nil {t e : TypeId} (hu : P.underlying t = some (.slice e)) {a : Addr} {n c : Nat} : (binOp .eql t (.slice (some a) n c) (.slice none 0 0)).run P w = .ok (.bool false) w := eql_of (by simp [binOp]) (equal_sl_any hu (some a) n c)
theorem neq_sl_nil {t e : TypeId} (hu : P.underlying t = some (.slice e)) {a : Addr} {n c : Nat} : (binOp .neq t (.slice (some a) n c) (.slice none 0 0)).run P w = .ok (.bool (true)) w := neq_of (by simp [binOp]) (equal_sl_any hu (some a) n c)
theorem eql_sl_nil_nil {t e : TypeId} (hu : P.underlying t = some (.slice e)) : (binOp .eql t (.slice none 0 0) (.slice none 0 0)).run P w = .ok (.bool true) w := eql_of (by simp [binOp]) (equal_sl_any hu none 0 0)
theorem neq_sl_nil_nil {t e : TypeId} (hu : P.underlying t = some (.slice e)) : (binOp .neq t (.slice none 0 0) (.slice none 0 0)).run P w = .ok (.bool (false)) w := neq_of (by simp [binOp]) (equal_sl_any hu none 0 0)
theorem eql_if_nil {t : TypeId} {ms : Array (String × TypeId)} (hu : P.underlying t = some (.interface ms)) {d : TypeId} {v : Value} : (binOp .eql t (.iface d v) (.nilIface)).run P w = .ok (.bool false) w := eql_of (by simp [binOp]) (equal_if_nil hu d v)
theorem neq_if_nil {t : TypeId} {ms : Array (String × TypeId)} (hu : P.underlying t = some (.interface ms)) {d : TypeId} {v : Value} : (binOp .neq t (.iface d v) (.nilIface)).run P w = .ok (.bool (true)) w := neq_of (by simp [binOp]) (equal_if_nil hu d v)
theorem eql_if_nil_nil {t : TypeId} {ms : Array (String × TypeId)} (hu : P.underlying t = some (.interface ms)) : (binOp .eql t (.nilIface) (.nilIface)).run P w = .ok (.bool true) w := eql_of (by simp [binOp]) (equal_if_nil_nil hu)
theorem neq_if_nil_nil {t : TypeId} {ms : Array (String × TypeId)} (hu : P.underlying t = some (.interface ms)) : (binOp .neq t (.nilIface) (.nilIface)).run P w = .ok (.bool (false)) w := neq_of (by simp [binOp]) (equal_if_nil_nil hu)
theorem eql_bool {t : TypeId} (hu : P.underlying t = some .bool) {a b : Bool} : (binOp .eql t (.bool a) (.bool b)).run P w = .ok (.bool (a == b)) w := eql_of (by simp [binOp]) (equal_bool hu a b)
theorem neq_bool {t : TypeId} (hu : P.underlying t = some .bool) {a b : Bool} : (binOp .neq t (.bool a) (.bool b)).run P w = .ok (.bool (!(a == b))) w := neq_of (by simp [binOp]) (equal_bool hu a b)

theorem eql_str {t : TypeId} {a b : List UInt8} : (binOp .eql t (.string ⟨a.toArray⟩) (.string ⟨b.toArray⟩)).run P w = .ok (.bool (decide (a = b))) w := by
  have e : (a == b) = decide (a = b) := by rw [Bool.eq_iff_iff]; simp
  simp [binOp, Op.stringOp, e]
theorem neq_str {t : TypeId} {a b : List UInt8} : (binOp .neq t (.string ⟨a.toArray⟩) (.string ⟨b.toArray⟩)).run P w = .ok (.bool (decide (a ≠ b))) w := by
  have e : (a == b) = decide (a = b) := by rw [Bool.eq_iff_iff]; simp
  simp [binOp, Op.stringOp, e]

/-! ### typed rows of cells -/

def cu8 (l : List UInt8) : List Value := l.map fun x => U8 x
@[simp] theorem cu8_length (l : List UInt8) : (cu8 l).length = l.length := by simp [cu8]
theorem cu8_get? (l : List UInt8) (i : Nat) : (cu8 l)[i]? = (l[i]?).map fun x => U8 x := by simp [cu8]
def g8 (l : List UInt8) (i : Nat) : UInt8 := l.getD i 0
theorem g8_get {l : List UInt8} {i : Nat} (h : i < l.length) : (cu8 l)[i]? = some (U8 (g8 l i)) := by
  simp [cu8, g8, h]
theorem g8_eq {l : List UInt8} {i : Nat} (h : i < l.length) : g8 l i = l[i] := by simp [g8, h]
theorem g8_set (l : List UInt8) (i j : Nat) (v : UInt8) (h : i < l.length) : g8 (l.set i v) j = if i = j then v else g8 l j := by
  simp only [g8, List.getD_eq_getElem?_getD, List.getElem?_set]
  split
  · subst j; simp
  · rfl
theorem lay8 (l : List UInt8) (i : Nat) (v : UInt8) (h : i < l.length) : lay (cu8 l) i [U8 v] = cu8 (l.set i v) := by
  simp [lay, cu8, List.set_eq_take_append_cons_drop]
  simp [h]
theorem one_u8 {l : List UInt8} : ∀ u ∈ cu8 l, u.oneCell' = true := by
  intro u hu; simp only [cu8, List.mem_map] at hu; obtain ⟨x, _, rfl⟩ := hu; rfl
theorem seg_u8_mid {l : List UInt8} (o n : Nat) (_h : o + n ≤ l.length) : Seg (cu8 l) o (cu8 ((l.drop o).take n)) := by
  intro j v hj
  simp only [cu8, List.getElem?_map, List.getElem?_take, List.getElem?_drop] at hj ⊢
  split at hj
  · exact hj
  · simp at hj
theorem cu8_app (a b : List UInt8) : cu8 (a ++ b) = cu8 a ++ cu8 b := by simp [cu8]
theorem cu8_inj {a b : List UInt8} (h : cu8 a = cu8 b) : a = b := by
  unfold cu8 at h
  exact (List.map_inj_right (fun x y hxy => by have h2 : (x.toNat : Int) = y.toNat := by simpa using hxy
                                               exact UInt8.toNat_inj.1 (by omega))).1 h
def cu32 (l : List UInt32) : List Value := l.map fun x => U32 x
@[simp] theorem cu32_length (l : List UInt32) : (cu32 l).length = l.length := by simp [cu32]
theorem cu32_get? (l : List UInt32) (i : Nat) : (cu32 l)[i]? = (l[i]?).map fun x => U32 x := by simp [cu32]
def g32 (l : List UInt32) (i : Nat) : UInt32 := l.getD i 0
theorem g32_get {l : List UInt32} {i : Nat} (h : i < l.length) : (cu32 l)[i]? = some (U32 (g32 l i)) := by
  simp [cu32, g32, h]
theorem g32_eq {l : List UInt32} {i : Nat} (h : i < l.length) : g32 l i = l[i] := by simp [g32, h]
theorem g32_set (l : List UInt32) (i j : Nat) (v : UInt32) (h : i < l.length) : g32 (l.set i v) j = if i = j then v else g32 l j := by
  simp only [g32, List.getD_eq_getElem?_getD, List.getElem?_set]
  split
  · subst j; simp
  · rfl
theorem lay32 (l : List UInt32) (i : Nat) (v : UInt32) (h : i < l.length) : lay (cu32 l) i [U32 v] = cu32 (l.set i v) := by
  simp [lay, cu32, List.set_eq_take_append_cons_drop]
  simp [h]
theorem one_u32 {l : List UInt32} : ∀ u ∈ cu32 l, u.oneCell' = true := by
  intro u hu; simp only [cu32, List.mem_map] at hu; obtain ⟨x, _, rfl⟩ := hu; rfl
theorem seg_u32_mid {l : List UInt32} (o n : Nat) (_h : o + n ≤ l.length) : Seg (cu32 l) o (cu32 ((l.drop o).take n)) := by
  intro j v hj
  simp only [cu32, List.getElem?_map, List.getElem?_take, List.getElem?_drop] at hj ⊢
  split at hj
  · exact hj
  · simp at hj
theorem cu32_app (a b : List UInt32) : cu32 (a ++ b) = cu32 a ++ cu32 b := by simp [cu32]
theorem cu32_inj {a b : List UInt32} (h : cu32 a = cu32 b) : a = b := by
  unfold cu32 at h
  exact (List.map_inj_right (fun x y hxy => by have h2 : (x.toNat : Int) = y.toNat := by simpa using hxy
                                               exact UInt32.toNat_inj.1 (by omega))).1 h
def cu64 (l : List UInt64) : List Value := l.map fun x => U64 x
@[simp] theorem cu64_length (l : List UInt64) : (cu64 l).length = l.length := by simp [cu64]
theorem cu64_get? (l : List UInt64) (i : Nat) : (cu64 l)[i]? = (l[i]?).map fun x => U64 x := by simp [cu64]
def g64 (l : List UInt64) (i : Nat) : UInt64 := l.getD i 0
theorem g64_get {l : List UInt64} {i : Nat} (h : i < l.length) : (cu64 l)[i]? = some (U64 (g64 l i)) := by
  simp [cu64, g64, h]
theorem g64_eq {l : List UInt64} {i : Nat} (h : i < l.length) : g64 l i = l[i] := by simp [g64, h]
theorem g64_set (l : List UInt64) (i j : Nat) (v : UInt64) (h : i < l.length) : g64 (l.set i v) j = if i = j then v else g64 l j := by
  simp only [g64, List.getD_eq_getElem?_getD, List.getElem?_set]
  split
  · subst j; simp
  · rfl
theorem lay64 (l : List UInt64) (i : Nat) (v : UInt64) (h : i < l.length) : lay (cu64 l) i [U64 v] = cu64 (l.set i v) := by
  simp [lay, cu64, List.set_eq_take_append_cons_drop]
  simp [h]
theorem one_u64 {l : List UInt64} : ∀ u ∈ cu64 l, u.oneCell' = true := by
  intro u hu; simp only [cu64, List.mem_map] at hu; obtain ⟨x, _, rfl⟩ := hu; rfl
theorem seg_u64_mid {l : List UInt64} (o n : Nat) (_h : o + n ≤ l.length) : Seg (cu64 l) o (cu64 ((l.drop o).take n)) := by
  intro j v hj
  simp only [cu64, List.getElem?_map, List.getElem?_take, List.getElem?_drop] at hj ⊢
  split at hj
  · exact hj
  · simp at hj
theorem cu64_app (a b : List UInt64) : cu64 (a ++ b) = cu64 a ++ cu64 b := by simp [cu64]
theorem cu64_inj {a b : List UInt64} (h : cu64 a = cu64 b) : a = b := by
  unfold cu64 at h
  exact (List.map_inj_right (fun x y hxy => by have h2 : (x.toNat : Int) = y.toNat := by simpa using hxy
                                               exact UInt64.toNat_inj.1 (by omega))).1 h

theorem lay_whole {cs vs : List Value} (h : vs.length = cs.length) : lay cs 0 vs = vs := by
  simp [lay, h]
end Go.Sx
