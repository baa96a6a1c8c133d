import Derived.Test.YtncoifiafklkjaaDoorSxMisc
import Derived.LaidEql
namespace Go.Sx
open Go Go.RowKit
set_option linter.unusedVariables false
set_option linter.unusedSimpArgs false
/-- an error by its number; 0: none -/
def errV (T e : Nat) : Value := if e = 0 then .nilIface else .iface T (I64 e)
theorem errV_zero (T : Nat) : errV T 0 = .nilIface := rfl
theorem errV_pos {T e : Nat} (h : e ≠ 0) : errV T e = .iface T (I64 e) := if_neg h
theorem errV_one {T e : Nat} : ∀ u ∈ [errV T e], u.oneCell' = true := by
  intro u hu
  obtain rfl : u = errV T e := by simpa using hu
  unfold errV
  split <;> simp [Value.oneCell']
theorem errV_cells {T e : Nat} : (errV T e).cells.toList = [errV T e] := by
  unfold errV
  split <;> rfl
section
variable {P : Program} {w : World}
theorem eqGuard_errV (op : BinOp) (t : TypeId) (x : Operand) (v : Value) (T e : Nat) : (eqGuard op t x (.const v) (errV T e) .nilIface).run P w = .ok () w := by
  unfold errV
  split
  · exact eqGuard_nilc op t x v
  · exact eqGuard_if op t x _ _ _
theorem eql_errV {t : TypeId} {ms : Array (String × TypeId)} (hu : P.underlying t = some (.interface ms)) (T e : Nat) : (binOp .eql t (errV T e) .nilIface).run P w = .ok (.bool (decide (e = 0))) w := by
  by_cases h : e = 0
  · subst h; exact eql_if_nil_nil hu
  · rw [errV_pos h, decide_eq_false h]; exact eql_if_nil hu
theorem neq_errV {t : TypeId} {ms : Array (String × TypeId)} (hu : P.underlying t = some (.interface ms)) (T e : Nat) : (binOp .neq t (errV T e) .nilIface).run P w = .ok (.bool (!(decide (e = 0)))) w := by
  by_cases h : e = 0
  · subst h; exact neq_if_nil_nil hu
  · rw [errV_pos h, decide_eq_false h]; exact neq_if_nil hu
theorem equal_ptr_same {t e n : TypeId} (hu : P.underlying t = some (.pointer e)) (hS : (sizeOf e).run P w = .ok n w) (hn : n ≠ 0) (a : Addr) : (Op.equal t (.pointer (some a)) (.pointer (some a))).run P w = .ok true w := by
  unfold Op.equal Op.maxDepth
  rw [show (10000:Nat) = 9999 + 1 from rfl]
  generalize 9999 = d
  simp [Op.equalIn, run_underlying hu, hS, hn, run_sameAddr_same]
theorem eql_ptr_same {t e n : TypeId} (hu : P.underlying t = some (.pointer e)) (hS : (sizeOf e).run P w = .ok n w) (hn : n ≠ 0) {a : Addr} : (binOp .eql t (.pointer (some a)) (.pointer (some a))).run P w = .ok (.bool true) w := eql_of (by simp [binOp]) (equal_ptr_same hu hS hn a)
theorem neq_ptr_same {t e n : TypeId} (hu : P.underlying t = some (.pointer e)) (hS : (sizeOf e).run P w = .ok n w) (hn : n ≠ 0) {a : Addr} : (binOp .neq t (.pointer (some a)) (.pointer (some a))).run P w = .ok (.bool (false)) w := neq_of (by simp [binOp]) (equal_ptr_same hu hS hn a)
theorem bin_shl8_i {t : TypeId} (a : UInt8) (k : IntKind) : (binOp .shl t (I64 (a.toNat : Int)) (.int k 8)).run P w = .ok (I64 ((256 * a.toNat : Nat) : Int)) w := by
  have ha := UInt8.toNat_lt a
  have : IntKind.i64.wrap ((a.toNat : Int) * 256) = ((256 * a.toNat : Nat) : Int) := by
    rw [wrap_i64_in _ (by omega) (by omega)]; omega
  have e2 : IntKind.i64.wrap ((a.toNat : Int) * 2 ^ (min (8 : Int).toNat 64)) = ((256 * a.toNat : Nat) : Int) := by
    have e3 : min (8 : Int).toNat 64 = 8 := by decide
    have e4 : (2:Int) ^ 8 = 256 := by decide
    rw [e3, e4]; exact this
  simp only [binOp, Op.shift, IntKind.bits]
  rw [if_neg (by omega), e2]; simp
theorem bin_or8_i {t : TypeId} (a b : UInt8) : (binOp .or t (I64 ((256 * a.toNat : Nat) : Int)) (I64 (b.toNat : Int))).run P w = .ok (I64 ((256 * a.toNat + b.toNat : Nat) : Int)) w := by
  have ha := UInt8.toNat_lt a
  have hb := UInt8.toNat_lt b
  have ha' : a.toNat < 256 := ha
  have hb' : b.toNat < 256 := hb
  have hw : IntKind.i64.wrap ((256 * a.toNat + b.toNat : Nat) : Int) = ((256 * a.toNat + b.toNat : Nat) : Int) := wrap_i64_in _ (by omega) (by omega)
  have e : ((256 * a.toNat) ||| b.toNat) = 256 * a.toNat + b.toNat := by
    have h := Nat.shiftLeft_add_eq_or_of_lt (i := 8) (b := b.toNat) hb a.toNat
    rw [Nat.shiftLeft_eq, show a.toNat * 2 ^ 8 = 256 * a.toNat from Nat.mul_comm _ _] at h
    exact h.symm
  have ho : ∀ n : Nat, n < 18446744073709551616 → (BitVec.ofInt 64 (n : Int)).toNat = n := fun n hn => by
    rw [BitVec.ofInt_natCast, BitVec.toNat_ofNat]
    exact Nat.mod_eq_of_lt hn
  have hb2 : bits .or .i64 ((256 * a.toNat : Nat) : Int) (b.toNat : Int) = ((256 * a.toNat + b.toNat : Nat) : Int) := by
    show IntKind.i64.wrap ((BitVec.ofInt 64 ((256 * a.toNat : Nat) : Int) ||| BitVec.ofInt 64 (b.toNat : Int)).toNat : Int) = _
    rw [BitVec.toNat_or, ho _ (by omega), ho _ (by omega), e]
    exact hw
  rw [Int.natCast_mul, Int.natCast_add, Int.natCast_mul] at hb2
  rw [binOp_or]; simp [go_sem]; exact hb2
end
end Go.Sx
