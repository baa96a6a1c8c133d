import Derived.Test.YtncoifiafklkjaaFx
import Derived.Test.YtncoifiafklkjaaSxL
import Derived.Test.YtncoifiafklkjaaAes7
namespace Go.Proofs.Ytncoifiafklkjaa
open Go Go.Sx
set_option linter.unusedVariables false
set_option linter.unusedSimpArgs false
set_option maxRecDepth 100000

theorem gmul2 (x : UInt8) : gmul 2 x = rdbl x := by revert x; apply u8_all; decide +kernel
theorem gmul3 (x : UInt8) : gmul 3 x = rdbl x ^^^ x := by revert x; apply u8_all; decide +kernel
theorem rmxN_out (t : List UInt8) (ht : t.length = 16) : ∀ d, d ≤ 4 → ∀ p, 4*d ≤ p → g8 (rmxN t d) p = g8 t p
  | 0, _, p, _ => rfl
  | d + 1, hd, p, hp => by
    have hl := rmxN_len t d
    simp only [rmxN]
    rw [g8_set _ _ _ _ (by simp; omega), if_neg (by omega), g8_set _ _ _ _ (by simp; omega), if_neg (by omega), g8_set _ _ _ _ (by simp; omega), if_neg (by omega), g8_set _ _ _ _ (by omega), if_neg (by omega)]
    exact rmxN_out t ht d (by omega) p (by omega)
theorem rmxN_get (t : List UInt8) (ht : t.length = 16) : ∀ d, d ≤ 4 → ∀ p, p < 4*d → g8 (rmxN t d) p = mixAt t [2, 3, 1, 1] p
  | 0, _, p, hp => by omega
  | d + 1, hd, p, hp => by
    have hl := rmxN_len t d
    by_cases h : p < 4*d
    · simp only [rmxN]
      rw [g8_set _ _ _ _ (by simp; omega), if_neg (by omega), g8_set _ _ _ _ (by simp; omega), if_neg (by omega), g8_set _ _ _ _ (by simp; omega), if_neg (by omega), g8_set _ _ _ _ (by omega), if_neg (by omega)]
      exact rmxN_get t ht d (by omega) p h
    · have hc : p = 4*d ∨ p = 4*d + 1 ∨ p = 4*d + 2 ∨ p = 4*d + 3 := by omega
      simp only [rmxN]
      rcases hc with rfl | rfl | rfl | rfl
      · rw [g8_set _ _ _ _ (by simp; omega), if_neg (by omega), g8_set _ _ _ _ (by simp; omega), if_neg (by omega), g8_set _ _ _ _ (by simp; omega), if_neg (by omega), g8_set _ _ _ _ (by omega), if_pos rfl, mixAt0]
        simp only [g8, List.getD_cons_zero, List.getD_cons_succ, gmul2, gmul3, one_gmul]
        ac_rfl
      · rw [g8_set _ _ _ _ (by simp; omega), if_neg (by omega), g8_set _ _ _ _ (by simp; omega), if_neg (by omega), g8_set _ _ _ _ (by simp; omega), if_pos rfl, mixAt1]
        simp only [g8, List.getD_cons_zero, List.getD_cons_succ, gmul2, gmul3, one_gmul]
        ac_rfl
      · rw [g8_set _ _ _ _ (by simp; omega), if_neg (by omega), g8_set _ _ _ _ (by simp; omega), if_pos rfl, mixAt2]
        simp only [g8, List.getD_cons_zero, List.getD_cons_succ, gmul2, gmul3, one_gmul]
        ac_rfl
      · rw [g8_set _ _ _ _ (by simp; omega), if_pos rfl, mixAt3]
        simp only [g8, List.getD_cons_zero, List.getD_cons_succ, gmul2, gmul3, one_gmul]
        ac_rfl
theorem rmx_mix (t : List UInt8) (ht : t.length = 16) : rmxN t 4 = mixL t [2, 3, 1, 1] := by
  refine ext8 (by rw [rmxN_len, mixL_len, ht]) fun p hp => ?_
  rw [rmxN_len, ht] at hp
  rw [rmxN_get t ht 4 (by omega) p (by omega), mixL_get _ _ hp]
theorem rencN_enc (ks b : List UInt8) (hb : b.length = 16) : ∀ j, j ≤ 9 → rencN ks b j = encN ks b j
  | 0, _ => by rw [rencN, encN, radd_add 0 hb]
  | j + 1, hj => by
    rw [rencN, encN, rencN_enc ks b hb j (by omega)]
    unfold rRound
    rw [if_pos (by omega), rsh_sh, rmx_mix _ (sh1L_len _ _), radd_add _ (mixL_len _ _)]
    rfl
theorem renc_enc (key b : List UInt8) (hk : key.length = 16) (hb : b.length = 16) : encL (rkL key) b = rencL (rkeysL key) b := by
  rw [rkeys_rk key hk, rencL, rencN, rencN_enc _ b hb 9 (by omega), encL]
  unfold rRound
  rw [if_neg (by omega), rsh_sh, radd_add _ (sh1L_len _ _)]
theorem dec_encN (ks b : List UInt8) (hb : b.length = 16) : ∀ j, j ≤ 9 → decN ks (encL ks b) j = encN ks b (9 - j)
  | 0, _ => by
    rw [decN, encL, addL_addL (sh1L_len _ _), sh_back (encN_len ks b hb 9)]
  | j + 1, hj => by
    rw [decN, dec_encN ks b hb j (by omega), show 9 - j = (9 - (j + 1)) + 1 from by omega, encN, show 16*(9 - (j + 1)) + 16 = 16*(9 - (j + 1) + 1) from by omega, addL_addL (mixL_len _ _), mix_mixB _ (sh1L_len _ _), sh_back (encN_len ks b hb _)]
theorem dec_enc (ks b : List UInt8) (hks : ks.length = 176) (hb : b.length = 16) : decL ks (encL ks b) = b := by
  rw [decL, dec_encN ks b hb 9 (by omega), show 9 - 9 = 0 from rfl, encN, addL_addL hb]
theorem enc_decN (ks b : List UInt8) (hb : b.length = 16) : ∀ j, j ≤ 9 → encN ks (decL ks b) j = decN ks b (9 - j)
  | 0, _ => by
    rw [encN, decL, addL_addL (decN_len _ _ _)]
  | j + 1, hj => by
    rw [encN, enc_decN ks b hb j (by omega), show 9 - j = (9 - (j + 1)) + 1 from by omega, decN, sh_there (mixL_len _ _), mix_mixA _ (addL_len (decN_len _ _ _)), show 9 - (9 - (j + 1)) = j + 1 from by omega, show 16*(j + 1) = 16*j + 16 from by omega, addL_addL (decN_len _ _ _)]
theorem enc_dec (ks b : List UInt8) (hks : ks.length = 176) (hb : b.length = 16) : encL ks (decL ks b) = b := by
  rw [encL, enc_decN ks b hb 9 (by omega), show 9 - 9 = 0 from rfl, decN, sh_there (addL_len hb), addL_addL hb]

end Go.Proofs.Ytncoifiafklkjaa
