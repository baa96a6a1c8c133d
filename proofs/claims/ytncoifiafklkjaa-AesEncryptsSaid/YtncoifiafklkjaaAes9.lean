import Derived.Test.YtncoifiafklkjaaAes8
namespace Go.Proofs.Ytncoifiafklkjaa
open Go Go.Sx
theorem aesKeys_c (key : List UInt8) (i : Int) (w : World) (hk : key.length = 16) (hb : -9223372036854775808 ≤ i ∧ i ≤ 9223372036854775807) : Calls Try.prog 5 #[.agg (cu8 key).toArray, I64 i] w (Post w [] (fun v L => v = .bool true ∧ L = [])) := by
  by_cases hi : i < 0 ∨ 10 < i
  · exact aesKeysOut_c key i w hk hi
  · obtain ⟨n, rfl⟩ : ∃ n : Nat, i = n := ⟨i.toNat, by omega⟩
    exact aesKeysIn_c key n w hk (by omega)
theorem aesEncrypts_w (key b : List UInt8) (w : World) (hk : key.length = 16) (hb : b.length = 16) : Calls Try.prog 6 #[.agg (cu8 key).toArray, .agg (cu8 b).toArray] w (Post w [] (fun v L => v = .bool true ∧ L = [])) := aesEncrypts_c key b w hk hb
end Go.Proofs.Ytncoifiafklkjaa
