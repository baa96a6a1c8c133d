import Derived.Test.YtncoifiafklkjaaFx
import Derived.Test.YtncoifiafklkjaaSxL
import Derived.Test.YtncoifiafklkjaaAes6
namespace Go.Proofs.Ytncoifiafklkjaa
open Go Go.Sx
set_option linter.unusedVariables false
set_option linter.unusedSimpArgs false
set_option maxRecDepth 100000

theorem rIn_len (w : List UInt8) (i : Nat) (t : List UInt8) : ∀ k, (rIn w i t k).length = w.length + k
  | 0 => rfl
  | k + 1 => by simp [rIn, rIn_len w i t k]; omega
theorem rN_len (key : List UInt8) (hk : key.length = 16) : ∀ m, (rN key m).2.length = 16 + 4*m
  | 0 => by simp [rN, hk]
  | m + 1 => by
    have h := rN_len key hk m
    rw [rN]; unfold rStep
    split <;> (simp only [rIn_len, h]; omega)
theorem rkeysL_len (key : List UInt8) (hk : key.length = 16) : (rkeysL key).length = 176 := by rw [rkeysL, rN_len key hk]
theorem encL_len (ks b : List UInt8) (hb : b.length = 16) : (encL ks b).length = 16 := by rw [encL]; exact addL_len (sh1L_len _ _)
theorem decN_len (ks b : List UInt8) : ∀ j, (decN ks b j).length = 16
  | 0 => sh3L_len _ _
  | j + 1 => sh3L_len _ _
theorem encN_len (ks b : List UInt8) (hb : b.length = 16) : ∀ j, (encN ks b j).length = 16
  | 0 => addL_len hb
  | j + 1 => addL_len (mixL_len _ _)
theorem decL_len (ks b : List UInt8) (hb : b.length = 16) : (decL ks b).length = 16 := by rw [decL]; exact addL_len (decN_len _ _ 9)
theorem rshIn_len (s t : List UInt8) (c : Nat) : ∀ r, (rshIn s t c r).length = t.length
  | 0 => rfl
  | r + 1 => by simp [rshIn, rshIn_len s t c r]
theorem rshN_len (s : List UInt8) : ∀ c, (rshN s c).length = 16
  | 0 => zr8_len 16
  | c + 1 => by rw [rshN, rshIn_len, rshN_len s c]
theorem rmxN_len (t : List UInt8) : ∀ d, (rmxN t d).length = t.length
  | 0 => rfl
  | d + 1 => by simp [rmxN, rmxN_len t d]
theorem rencN_len (ks b : List UInt8) (hb : b.length = 16) : ∀ n, (rencN ks b n).length = 16
  | 0 => raddL_len hb
  | n + 1 => by
    rw [rencN]; unfold rRound
    split
    · exact raddL_len (by rw [rmxN_len, rshN_len])
    · exact raddL_len (rshN_len _ _)
theorem rencL_len (ks b : List UInt8) (hb : b.length = 16) : (rencL ks b).length = 16 := rencN_len ks b hb 10

/-! keys -/
theorem ksN_get (ws : List UInt8) (h : ws.length = 176) : ∀ j, j ≤ 44 → ∀ p, p < 4*j → g8 (ksN ws j) p = g8 ws p
  | 0, _, p, hp => by omega
  | j + 1, hj, p, hp => by
    have h1 := ksN_len ws h j (by omega)
    have h2 : (mid ws (4*j) 4).length = 4 := mid_len (by omega)
    rw [ksN, show 4*(j % 4) + 16*(j / 4) = 4*j from by omega, g8_spl (by rw [h2, h1]; omega), h2]
    split
    · rename_i hc
      rw [g8_mid (by omega)]; congr 1; omega
    · exact ksN_get ws h j (by omega) p (by omega)
theorem ksN_all (ws : List UInt8) (h : ws.length = 176) : ksN ws 44 = ws :=
  ext8 (by rw [ksN_len ws h 44 (by omega), h]) fun j hj => ksN_get ws h 44 (by omega) j (by rw [ksN_len ws h 44 (by omega)] at hj; omega)
theorem wsIn_old (ws : List UInt8) (i : Nat) (w : List UInt8) (h : 4*i + 4 ≤ ws.length) : ∀ k, k ≤ 4 → ∀ p, p < 4*i → g8 (wsIn ws i w k) p = g8 ws p
  | 0, _, p, hp => rfl
  | k + 1, hk, p, hp => by
    rw [wsIn, g8_set _ _ _ _ (by rw [wsIn_len]; omega), if_neg (by omega)]
    exact wsIn_old ws i w h k (by omega) p hp
theorem wsIn_new (ws : List UInt8) (i : Nat) (w : List UInt8) (hi : 4 ≤ i) (h : 4*i + 4 ≤ ws.length) : ∀ k, k ≤ 4 → ∀ j, j < k → g8 (wsIn ws i w k) (4*i + j) = g8 ws (4*i + j - 16) ^^^ g8 w j
  | 0, _, j, hj => by omega
  | k + 1, hk, j, hj => by
    rw [wsIn, g8_set _ _ _ _ (by rw [wsIn_len]; omega)]
    split
    · have : k = j := by omega
      subst this
      rw [wsIn_old ws i w h k (by omega) _ (by omega)]
    · exact wsIn_new ws i w hi h k (by omega) j (by omega)
theorem rIn_old (w : List UInt8) (i : Nat) (t : List UInt8) : ∀ k p, p < w.length → g8 (rIn w i t k) p = g8 w p
  | 0, p, hp => rfl
  | k + 1, p, hp => by
    rw [rIn, g8_app, if_pos (by rw [rIn_len]; omega)]
    exact rIn_old w i t k p hp
theorem rIn_new (w : List UInt8) (i : Nat) (t : List UInt8) (hi : 4 ≤ i) (h : w.length = 4*i) : ∀ k, k ≤ 4 → ∀ j, j < k → g8 (rIn w i t k) (4*i + j) = g8 w (4*i + j - 16) ^^^ g8 t j
  | 0, _, j, hj => by omega
  | k + 1, hk, j, hj => by
    rw [rIn, g8_app]
    split
    · rename_i hc
      rw [rIn_len] at hc
      exact rIn_new w i t hi h k (by omega) j (by omega)
    · rename_i hc
      rw [rIn_len] at hc
      have : k = j := by omega
      subst this
      rw [rIn_len, show 4*i + k - (w.length + k) = 0 from by omega, rIn_old w i t k _ (by omega)]
      rfl
theorem there_get (a : UInt8) : g8 thereL a.toNat = subst1 a := by revert a; apply u8_all; decide +kernel
theorem there_subs (a : UInt8) : g8 thereL a.toNat = g8 subsL a.toNat := by rw [there_get, subs_subst]
theorem lt4 {p : Nat → Prop} (h0 : p 0) (h1 : p 1) (h2 : p 2) (h3 : p 3) : ∀ j, j < 4 → p j
  | 0, _ => h0
  | 1, _ => h1
  | 2, _ => h2
  | 3, _ => h3
theorem ws_first (key : List UInt8) (hk : key.length = 16) : ∀ i, i ≤ 4 → (wsN key i).1 = 1 ∧ ∀ p, p < 4*i → g8 (wsN key i).2 p = g8 key p
  | 0, _ => ⟨rfl, fun p hp => by omega⟩
  | i + 1, hi => by
    have ih := ws_first key hk i (by omega)
    have hl := wsN_len key hk i
    have h2 : (mid key (4*i) 4).length = 4 := mid_len (by omega)
    rw [wsN]; unfold wsStep
    rw [if_pos (by omega)]
    refine ⟨ih.1, fun p hp => ?_⟩
    show g8 (spl _ _ _) p = _
    rw [g8_spl (by rw [h2, hl]; omega), h2]
    split
    · rw [g8_mid (by omega)]; congr 1; omega
    · exact ih.2 p (by omega)
theorem ws_rN (key : List UInt8) (hk : key.length = 16) : ∀ m, m ≤ 40 → (wsN key (m + 4)).1 = (rN key m).1 ∧ ∀ p, p < 4*(m + 4) → g8 (wsN key (m + 4)).2 p = g8 (rN key m).2 p
  | 0, _ => by
    have h := ws_first key hk 4 (by omega)
    exact ⟨h.1, h.2⟩
  | m + 1, hm => by
    obtain ⟨ih1, ih2⟩ := ws_rN key hk m (by omega)
    have hl := wsN_len key hk (m + 4)
    have hr := rN_len key hk m
    have hmid : ∀ j, j < 4 → g8 (mid (wsN key (m + 4)).2 (4*(m + 4) - 4) 4) j = g8 (rN key m).2 (4*(m + 4) - 4 + j) := fun j hj => by
      rw [g8_mid hj]; exact ih2 _ (by omega)
    rw [show m + 1 + 4 = (m + 4) + 1 from by omega, wsN, rN]
    unfold wsStep rStep
    rw [if_neg (by omega)]
    dsimp only
    have step : ∀ (w t : List UInt8), (∀ j, j < 4 → g8 w j = g8 t j) → ∀ p, p < 4*(m + 4 + 1) → g8 (wsIn (wsN key (m + 4)).2 (m + 4) w 4) p = g8 (rIn (rN key m).2 (m + 4) t 4) p := by
      intro w t hwt p hp
      by_cases hc : p < 4*(m + 4)
      · rw [wsIn_old _ _ _ (by omega) 4 (by omega) p hc, rIn_old _ _ _ 4 p (by omega)]
        exact ih2 p hc
      · obtain ⟨j, rfl⟩ : ∃ j, p = 4*(m + 4) + j := ⟨p - 4*(m + 4), by omega⟩
        rw [wsIn_new _ _ _ (by omega) (by omega) 4 (by omega) j (by omega), rIn_new _ _ _ (by omega) (by omega) 4 (by omega) j (by omega)]
        rw [hwt j (by omega), ih2 _ (by omega)]
    split
    · refine ⟨by rw [rdbl_eq]; exact congrArg dbl ih1, step _ _ (lt4 ?_ ?_ ?_ ?_)⟩
      · show g8 thereL _ ^^^ _ = g8 subsL _ ^^^ _
        rw [there_subs, ih1, hmid 1 (by omega)]
        rw [show 4*(m + 4) - 4 + 1 = 4*(m + 4) - 3 from by omega]
      · show g8 thereL _ = g8 subsL _
        rw [there_subs, hmid 2 (by omega)]
        rw [show 4*(m + 4) - 4 + 2 = 4*(m + 4) - 2 from by omega]
      · show g8 thereL _ = g8 subsL _
        rw [there_subs, hmid 3 (by omega)]
        rw [show 4*(m + 4) - 4 + 3 = 4*(m + 4) - 1 from by omega]
      · show g8 thereL _ = g8 subsL _
        rw [there_subs, hmid 0 (by omega)]; rfl
    · refine ⟨ih1, step _ _ (lt4 ?_ ?_ ?_ ?_)⟩
      · rw [hmid 0 (by omega)]; rfl
      · rw [hmid 1 (by omega), show 4*(m + 4) - 4 + 1 = 4*(m + 4) - 3 from by omega]; rfl
      · rw [hmid 2 (by omega), show 4*(m + 4) - 4 + 2 = 4*(m + 4) - 2 from by omega]; rfl
      · rw [hmid 3 (by omega), show 4*(m + 4) - 4 + 3 = 4*(m + 4) - 1 from by omega]; rfl
theorem rkeys_rk (key : List UInt8) (hk : key.length = 16) : rkeysL key = rkL key := by
  rw [rkL, ksN_all _ (wsN_len key hk 44)]
  refine ext8 (by rw [rkeysL_len key hk, wsN_len key hk]) fun j hj => ?_
  rw [rkeysL_len key hk] at hj
  exact ((ws_rN key hk 40 (by omega)).2 j (by omega)).symm

theorem addN_get (a b : List UInt8) : ∀ k, k ≤ a.length → ∀ p, g8 (addN a b k) p = if p < k then g8 a p ^^^ g8 b p else g8 a p
  | 0, _, p => rfl
  | k + 1, hk, p => by
    rw [addN, g8_set _ _ _ _ (by rw [addN_len]; omega)]
    split
    · rename_i h; subst h
      rw [addN_get a b k (by omega), if_neg (by omega), if_pos (by omega)]
    · rw [addN_get a b k (by omega)]
      by_cases h : p < k
      · rw [if_pos h, if_pos (by omega)]
      · rw [if_neg h, if_neg (by omega)]
theorem addL_get {a b : List UInt8} (ha : a.length = 16) {p : Nat} (hp : p < 16) : g8 (addL a b) p = g8 a p ^^^ g8 b p := by
  rw [addL, addN_get a b 16 (by omega), if_pos hp]
theorem addL_addL {a b : List UInt8} (ha : a.length = 16) : addL (addL a b) b = a := by
  refine ext8 (by rw [addL_len (addL_len ha), ha]) fun j hj => ?_
  rw [addL_len (addL_len ha)] at hj
  rw [addL_get (addL_len ha) hj, addL_get ha hj, UInt8.xor_assoc, UInt8.xor_self, UInt8.xor_zero]
theorem raddN_get (ks : List UInt8) (n : Nat) (b : List UInt8) : ∀ k, k ≤ b.length → ∀ p, g8 (raddN ks n b k) p = if p < k then g8 b p ^^^ g8 ks (p + 16*n) else g8 b p
  | 0, _, p => rfl
  | k + 1, hk, p => by
    rw [raddN, g8_set _ _ _ _ (by rw [raddN_len]; omega)]
    split
    · rename_i h; subst h
      rw [raddN_get ks n b k (by omega), if_neg (by omega), if_pos (by omega)]
    · rw [raddN_get ks n b k (by omega)]
      by_cases h : p < k
      · rw [if_pos h, if_pos (by omega)]
      · rw [if_neg h, if_neg (by omega)]
theorem radd_add {ks b : List UInt8} (n : Nat) (hb : b.length = 16) : raddL ks n b = addL b (mid ks (16*n) 16) := by
  refine ext8 (by rw [raddL_len hb, addL_len hb]) fun j hj => ?_
  rw [raddL_len hb] at hj
  rw [addL_get hb hj, g8_mid hj, raddL, raddN_get ks n b 16 (by omega), if_pos hj, Nat.add_comm]
theorem sh1N_get (tb b : List UInt8) : ∀ k, k ≤ 16 → ∀ p, p < k → g8 (sh1N tb b k) p = g8 tb (g8 b (4*((p % 4 + p / 4) % 4) + p % 4)).toNat
  | 0, _, p, hp => by omega
  | k + 1, hk, p, hp => by
    rw [sh1N, g8_set _ _ _ _ (by rw [sh1N_len]; omega)]
    split
    · rename_i h; subst h; rfl
    · exact sh1N_get tb b k (by omega) p (by omega)
theorem sh3N_get (tb b : List UInt8) : ∀ k, k ≤ 16 → ∀ p, p < k → g8 (sh3N tb b k) p = g8 tb (g8 b (4*((3*(p % 4) + p / 4) % 4) + p % 4)).toNat
  | 0, _, p, hp => by omega
  | k + 1, hk, p, hp => by
    rw [sh3N, g8_set _ _ _ _ (by rw [sh3N_len]; omega)]
    split
    · rename_i h; subst h; rfl
    · exact sh3N_get tb b k (by omega) p (by omega)
theorem back_there (a : UInt8) : g8 backL (g8 thereL a.toNat).toNat = a := by rw [there_get]; revert a; apply u8_all; decide +kernel
theorem there_back (a : UInt8) : g8 thereL (g8 backL a.toNat).toNat = a := by
  rw [there_get]; revert a; apply u8_all; decide +kernel
theorem sh_back {s : List UInt8} (hs : s.length = 16) : sh3L backL (sh1L thereL s) = s := by
  refine ext8 (by rw [sh3L_len, hs]) fun p hp => ?_
  rw [sh3L_len] at hp
  rw [sh3L, sh3N_get _ _ 16 (by omega) p hp, sh1L, sh1N_get _ _ 16 (by omega) _ (by omega), back_there]
  congr 1; omega
theorem sh_there {s : List UInt8} (hs : s.length = 16) : sh1L thereL (sh3L backL s) = s := by
  refine ext8 (by rw [sh1L_len, hs]) fun p hp => ?_
  rw [sh1L_len] at hp
  rw [sh1L, sh1N_get _ _ 16 (by omega) p hp, sh3L, sh3N_get _ _ 16 (by omega) _ (by omega), there_back]
  congr 1; omega
theorem rshIn_get (s t : List UInt8) (c : Nat) (h : 4*c + 4 ≤ t.length) : ∀ r, r ≤ 4 → ∀ p, g8 (rshIn s t c r) p = if 4*c ≤ p ∧ p < 4*c + r then g8 subsL (g8 s (4*((c + (p - 4*c)) % 4) + (p - 4*c))).toNat else g8 t p
  | 0, _, p => by rw [if_neg (by omega)]; rfl
  | r + 1, hr, p => by
    rw [rshIn, g8_set _ _ _ _ (by rw [rshIn_len]; omega)]
    split
    · rename_i h; subst h
      rw [if_pos (by omega), Nat.add_sub_cancel_left]
    · rw [rshIn_get s t c h r (by omega)]
      by_cases h : 4*c ≤ p ∧ p < 4*c + r
      · rw [if_pos h, if_pos (by omega)]
      · rw [if_neg h, if_neg (by omega)]
theorem rshN_get (s : List UInt8) : ∀ c, c ≤ 4 → ∀ p, p < 4*c → g8 (rshN s c) p = g8 subsL (g8 s (4*((p / 4 + p % 4) % 4) + p % 4)).toNat
  | 0, _, p, hp => by omega
  | c + 1, hc, p, hp => by
    rw [rshN, rshIn_get s _ c (by rw [rshN_len]; omega) 4 (by omega)]
    split
    · rename_i h
      have e1 : p / 4 = c := by omega
      have e2 : p % 4 = p - 4*c := by omega
      rw [e1, e2]
    · exact rshN_get s c (by omega) p (by omega)
theorem rsh_sh (s : List UInt8) : rshN s 4 = sh1L thereL s := by
  refine ext8 (by rw [rshN_len, sh1L_len]) fun p hp => ?_
  rw [rshN_len] at hp
  rw [rshN_get s 4 (by omega) p (by omega), sh1L, sh1N_get _ _ 16 (by omega) p hp, there_subs, Nat.add_comm (p / 4)]
theorem mixIn_old (b m o : List UInt8) (i : Nat) (h : i < o.length) : ∀ j p, p ≠ i → g8 (mixIn b m o i j) p = g8 o p
  | 0, p, _ => rfl
  | j + 1, p, hp => by
    rw [mixIn, g8_set _ _ _ _ (by rw [mixIn_len]; exact h), if_neg (fun e => hp e.symm)]
    exact mixIn_old b m o i h j p hp
theorem mixIn_new (b m o : List UInt8) (i : Nat) (h : i < o.length) (j : Nat) : g8 (mixIn b m o i (j + 1)) i = g8 (mixIn b m o i j) i ^^^ gmul (g8 m j) (g8 b ((j + i % 4) % 4 + 4*(i / 4))) := by
  rw [mixIn, g8_set _ _ _ _ (by rw [mixIn_len]; exact h), if_pos rfl]
def mixAt (b m : List UInt8) (i : Nat) : UInt8 := ((gmul (g8 m 0) (g8 b ((0 + i % 4) % 4 + 4*(i / 4))) ^^^ gmul (g8 m 1) (g8 b ((1 + i % 4) % 4 + 4*(i / 4)))) ^^^ gmul (g8 m 2) (g8 b ((2 + i % 4) % 4 + 4*(i / 4)))) ^^^ gmul (g8 m 3) (g8 b ((3 + i % 4) % 4 + 4*(i / 4)))
theorem mixN_rest (b m : List UInt8) : ∀ i, i ≤ 16 → ∀ p, i ≤ p → g8 (mixN b m i) p = 0
  | 0, _, p, _ => g8_zr
  | i + 1, hi, p, hp => by
    rw [mixN, mixIn_old _ _ _ _ (by rw [mixN_len]; omega) _ _ (by omega)]
    exact mixN_rest b m i (by omega) p (by omega)
theorem mixN_get (b m : List UInt8) : ∀ i, i ≤ 16 → ∀ p, p < i → g8 (mixN b m i) p = mixAt b m p
  | 0, _, p, hp => by omega
  | i + 1, hi, p, hp => by
    have hl : i < (mixN b m i).length := by rw [mixN_len]; omega
    rw [mixN]
    by_cases h : p = i
    · subst h
      rw [mixIn_new _ _ _ _ hl, mixIn_new _ _ _ _ hl, mixIn_new _ _ _ _ hl, mixIn_new _ _ _ _ hl]
      rw [show g8 (mixIn b m (mixN b m p) p 0) p = 0 from mixN_rest b m p (by omega) p (by omega), UInt8.zero_xor]
      rfl
    · rw [mixIn_old _ _ _ _ hl _ _ h]
      exact mixN_get b m i (by omega) p (by omega)
theorem mixL_get (b m : List UInt8) {p : Nat} (hp : p < 16) : g8 (mixL b m) p = mixAt b m p := mixN_get b m 16 (by omega) p hp
theorem mfa0 (x : UInt8) : (gmul 2 (gmul 14 x) ^^^ gmul 3 (gmul 9 x) ^^^ gmul 1 (gmul 13 x) ^^^ gmul 1 (gmul 11 x)) = x := by revert x; apply u8_all; decide +kernel
theorem mfa1 (x : UInt8) : (gmul 2 (gmul 11 x) ^^^ gmul 3 (gmul 14 x) ^^^ gmul 1 (gmul 9 x) ^^^ gmul 1 (gmul 13 x)) = 0 := by revert x; apply u8_all; decide +kernel
theorem mfa2 (x : UInt8) : (gmul 2 (gmul 13 x) ^^^ gmul 3 (gmul 11 x) ^^^ gmul 1 (gmul 14 x) ^^^ gmul 1 (gmul 9 x)) = 0 := by revert x; apply u8_all; decide +kernel
theorem mfa3 (x : UInt8) : (gmul 2 (gmul 9 x) ^^^ gmul 3 (gmul 13 x) ^^^ gmul 1 (gmul 11 x) ^^^ gmul 1 (gmul 14 x)) = 0 := by revert x; apply u8_all; decide +kernel
theorem mfb0 (x : UInt8) : (gmul 14 (gmul 2 x) ^^^ gmul 11 (gmul 1 x) ^^^ gmul 13 (gmul 1 x) ^^^ gmul 9 (gmul 3 x)) = x := by revert x; apply u8_all; decide +kernel
theorem mfb1 (x : UInt8) : (gmul 14 (gmul 3 x) ^^^ gmul 11 (gmul 2 x) ^^^ gmul 13 (gmul 1 x) ^^^ gmul 9 (gmul 1 x)) = 0 := by revert x; apply u8_all; decide +kernel
theorem mfb2 (x : UInt8) : (gmul 14 (gmul 1 x) ^^^ gmul 11 (gmul 3 x) ^^^ gmul 13 (gmul 2 x) ^^^ gmul 9 (gmul 1 x)) = 0 := by revert x; apply u8_all; decide +kernel
theorem mfb3 (x : UInt8) : (gmul 14 (gmul 1 x) ^^^ gmul 11 (gmul 1 x) ^^^ gmul 13 (gmul 3 x) ^^^ gmul 9 (gmul 2 x)) = 0 := by revert x; apply u8_all; decide +kernel

theorem col4 {p : Nat → Prop} (h : ∀ c, c < 4 → p (4*c) ∧ p (4*c + 1) ∧ p (4*c + 2) ∧ p (4*c + 3)) : ∀ i, i < 16 → p i := by
  intro i hi
  have hc := h (i / 4) (by omega)
  have : i = 4*(i / 4) ∨ i = 4*(i / 4) + 1 ∨ i = 4*(i / 4) + 2 ∨ i = 4*(i / 4) + 3 := by omega
  rcases this with e | e | e | e <;> rw [e]
  · exact hc.1
  · exact hc.2.1
  · exact hc.2.2.1
  · exact hc.2.2.2
theorem mixAt0 (b m : List UInt8) (c : Nat) : mixAt b m (4*c) = ((gmul (g8 m 0) (g8 b (4*c)) ^^^ gmul (g8 m 1) (g8 b (4*c + 1))) ^^^ gmul (g8 m 2) (g8 b (4*c + 2))) ^^^ gmul (g8 m 3) (g8 b (4*c + 3)) := by
  unfold mixAt
  rw [show (0 + 4*c % 4) % 4 + 4*(4*c / 4) = 4*c from by omega, show (1 + 4*c % 4) % 4 + 4*(4*c / 4) = 4*c + 1 from by omega, show (2 + 4*c % 4) % 4 + 4*(4*c / 4) = 4*c + 2 from by omega, show (3 + 4*c % 4) % 4 + 4*(4*c / 4) = 4*c + 3 from by omega]
theorem mixAt1 (b m : List UInt8) (c : Nat) : mixAt b m (4*c + 1) = ((gmul (g8 m 0) (g8 b (4*c + 1)) ^^^ gmul (g8 m 1) (g8 b (4*c + 2))) ^^^ gmul (g8 m 2) (g8 b (4*c + 3))) ^^^ gmul (g8 m 3) (g8 b (4*c)) := by
  unfold mixAt
  rw [show (0 + (4*c + 1) % 4) % 4 + 4*((4*c + 1) / 4) = 4*c + 1 from by omega, show (1 + (4*c + 1) % 4) % 4 + 4*((4*c + 1) / 4) = 4*c + 2 from by omega, show (2 + (4*c + 1) % 4) % 4 + 4*((4*c + 1) / 4) = 4*c + 3 from by omega, show (3 + (4*c + 1) % 4) % 4 + 4*((4*c + 1) / 4) = 4*c from by omega]
theorem mixAt2 (b m : List UInt8) (c : Nat) : mixAt b m (4*c + 2) = ((gmul (g8 m 0) (g8 b (4*c + 2)) ^^^ gmul (g8 m 1) (g8 b (4*c + 3))) ^^^ gmul (g8 m 2) (g8 b (4*c))) ^^^ gmul (g8 m 3) (g8 b (4*c + 1)) := by
  unfold mixAt
  rw [show (0 + (4*c + 2) % 4) % 4 + 4*((4*c + 2) / 4) = 4*c + 2 from by omega, show (1 + (4*c + 2) % 4) % 4 + 4*((4*c + 2) / 4) = 4*c + 3 from by omega, show (2 + (4*c + 2) % 4) % 4 + 4*((4*c + 2) / 4) = 4*c from by omega, show (3 + (4*c + 2) % 4) % 4 + 4*((4*c + 2) / 4) = 4*c + 1 from by omega]
theorem mixAt3 (b m : List UInt8) (c : Nat) : mixAt b m (4*c + 3) = ((gmul (g8 m 0) (g8 b (4*c + 3)) ^^^ gmul (g8 m 1) (g8 b (4*c))) ^^^ gmul (g8 m 2) (g8 b (4*c + 1))) ^^^ gmul (g8 m 3) (g8 b (4*c + 2)) := by
  unfold mixAt
  rw [show (0 + (4*c + 3) % 4) % 4 + 4*((4*c + 3) / 4) = 4*c + 3 from by omega, show (1 + (4*c + 3) % 4) % 4 + 4*((4*c + 3) / 4) = 4*c from by omega, show (2 + (4*c + 3) % 4) % 4 + 4*((4*c + 3) / 4) = 4*c + 1 from by omega, show (3 + (4*c + 3) % 4) % 4 + 4*((4*c + 3) / 4) = 4*c + 2 from by omega]
theorem mix_mixA (s : List UInt8) (hs : s.length = 16) : mixL (mixL s [(14:UInt8), (11:UInt8), (13:UInt8), (9:UInt8)]) [(2:UInt8), (3:UInt8), (1:UInt8), (1:UInt8)] = s := by
  refine ext8 (by rw [mixL_len, hs]) fun j hj => ?_
  rw [mixL_len] at hj
  rw [mixL_get _ _ hj]
  revert j
  refine fun j hj => col4 (p := fun j => mixAt (mixL s [(14:UInt8), (11:UInt8), (13:UInt8), (9:UInt8)]) [(2:UInt8), (3:UInt8), (1:UInt8), (1:UInt8)] j = g8 s j) (fun c hc => ?_) j hj
  have G : ∀ p, p < 16 → g8 (mixL s [(14:UInt8), (11:UInt8), (13:UInt8), (9:UInt8)]) p = mixAt s [(14:UInt8), (11:UInt8), (13:UInt8), (9:UInt8)] p := fun p hp => mixL_get _ _ hp
  generalize e0 : g8 s (4*c) = x0
  generalize e1 : g8 s (4*c + 1) = x1
  generalize e2 : g8 s (4*c + 2) = x2
  generalize e3 : g8 s (4*c + 3) = x3
  refine ⟨?_, ?_, ?_, ?_⟩
  · show mixAt _ _ (4*c) = _
    rw [mixAt0, G _ (by omega), G _ (by omega), G _ (by omega), G _ (by omega), mixAt0, mixAt1, mixAt2, mixAt3, e0, e1, e2, e3]
    simp only [g8, List.getD_cons_zero, List.getD_cons_succ, gmul_xor]
    have h0 := mfa0 x0; have h1 := mfa1 x1; have h2 := mfa2 x2; have h3 := mfa3 x3
    have key : x0 = (gmul 2 (gmul 14 x0) ^^^ gmul 3 (gmul 9 x0) ^^^ gmul 1 (gmul 13 x0) ^^^ gmul 1 (gmul 11 x0)) ^^^ (gmul 2 (gmul 11 x1) ^^^ gmul 3 (gmul 14 x1) ^^^ gmul 1 (gmul 9 x1) ^^^ gmul 1 (gmul 13 x1)) ^^^ (gmul 2 (gmul 13 x2) ^^^ gmul 3 (gmul 11 x2) ^^^ gmul 1 (gmul 14 x2) ^^^ gmul 1 (gmul 9 x2)) ^^^ (gmul 2 (gmul 9 x3) ^^^ gmul 3 (gmul 13 x3) ^^^ gmul 1 (gmul 11 x3) ^^^ gmul 1 (gmul 14 x3)) := by rw [h0, h1, h2, h3]; simp
    refine Eq.trans ?_ key.symm
    ac_rfl
  · show mixAt _ _ (4*c + 1) = _
    rw [mixAt1, G _ (by omega), G _ (by omega), G _ (by omega), G _ (by omega), mixAt0, mixAt1, mixAt2, mixAt3, e0, e1, e2, e3]
    simp only [g8, List.getD_cons_zero, List.getD_cons_succ, gmul_xor]
    have h0 := mfa0 x1; have h1 := mfa1 x2; have h2 := mfa2 x3; have h3 := mfa3 x0
    have key : x1 = (gmul 2 (gmul 14 x1) ^^^ gmul 3 (gmul 9 x1) ^^^ gmul 1 (gmul 13 x1) ^^^ gmul 1 (gmul 11 x1)) ^^^ (gmul 2 (gmul 11 x2) ^^^ gmul 3 (gmul 14 x2) ^^^ gmul 1 (gmul 9 x2) ^^^ gmul 1 (gmul 13 x2)) ^^^ (gmul 2 (gmul 13 x3) ^^^ gmul 3 (gmul 11 x3) ^^^ gmul 1 (gmul 14 x3) ^^^ gmul 1 (gmul 9 x3)) ^^^ (gmul 2 (gmul 9 x0) ^^^ gmul 3 (gmul 13 x0) ^^^ gmul 1 (gmul 11 x0) ^^^ gmul 1 (gmul 14 x0)) := by rw [h0, h1, h2, h3]; simp
    refine Eq.trans ?_ key.symm
    ac_rfl
  · show mixAt _ _ (4*c + 2) = _
    rw [mixAt2, G _ (by omega), G _ (by omega), G _ (by omega), G _ (by omega), mixAt0, mixAt1, mixAt2, mixAt3, e0, e1, e2, e3]
    simp only [g8, List.getD_cons_zero, List.getD_cons_succ, gmul_xor]
    have h0 := mfa0 x2; have h1 := mfa1 x3; have h2 := mfa2 x0; have h3 := mfa3 x1
    have key : x2 = (gmul 2 (gmul 14 x2) ^^^ gmul 3 (gmul 9 x2) ^^^ gmul 1 (gmul 13 x2) ^^^ gmul 1 (gmul 11 x2)) ^^^ (gmul 2 (gmul 11 x3) ^^^ gmul 3 (gmul 14 x3) ^^^ gmul 1 (gmul 9 x3) ^^^ gmul 1 (gmul 13 x3)) ^^^ (gmul 2 (gmul 13 x0) ^^^ gmul 3 (gmul 11 x0) ^^^ gmul 1 (gmul 14 x0) ^^^ gmul 1 (gmul 9 x0)) ^^^ (gmul 2 (gmul 9 x1) ^^^ gmul 3 (gmul 13 x1) ^^^ gmul 1 (gmul 11 x1) ^^^ gmul 1 (gmul 14 x1)) := by rw [h0, h1, h2, h3]; simp
    refine Eq.trans ?_ key.symm
    ac_rfl
  · show mixAt _ _ (4*c + 3) = _
    rw [mixAt3, G _ (by omega), G _ (by omega), G _ (by omega), G _ (by omega), mixAt0, mixAt1, mixAt2, mixAt3, e0, e1, e2, e3]
    simp only [g8, List.getD_cons_zero, List.getD_cons_succ, gmul_xor]
    have h0 := mfa0 x3; have h1 := mfa1 x0; have h2 := mfa2 x1; have h3 := mfa3 x2
    have key : x3 = (gmul 2 (gmul 14 x3) ^^^ gmul 3 (gmul 9 x3) ^^^ gmul 1 (gmul 13 x3) ^^^ gmul 1 (gmul 11 x3)) ^^^ (gmul 2 (gmul 11 x0) ^^^ gmul 3 (gmul 14 x0) ^^^ gmul 1 (gmul 9 x0) ^^^ gmul 1 (gmul 13 x0)) ^^^ (gmul 2 (gmul 13 x1) ^^^ gmul 3 (gmul 11 x1) ^^^ gmul 1 (gmul 14 x1) ^^^ gmul 1 (gmul 9 x1)) ^^^ (gmul 2 (gmul 9 x2) ^^^ gmul 3 (gmul 13 x2) ^^^ gmul 1 (gmul 11 x2) ^^^ gmul 1 (gmul 14 x2)) := by rw [h0, h1, h2, h3]; simp
    refine Eq.trans ?_ key.symm
    ac_rfl
theorem mix_mixB (s : List UInt8) (hs : s.length = 16) : mixL (mixL s [(2:UInt8), (3:UInt8), (1:UInt8), (1:UInt8)]) [(14:UInt8), (11:UInt8), (13:UInt8), (9:UInt8)] = s := by
  refine ext8 (by rw [mixL_len, hs]) fun j hj => ?_
  rw [mixL_len] at hj
  rw [mixL_get _ _ hj]
  revert j
  refine fun j hj => col4 (p := fun j => mixAt (mixL s [(2:UInt8), (3:UInt8), (1:UInt8), (1:UInt8)]) [(14:UInt8), (11:UInt8), (13:UInt8), (9:UInt8)] j = g8 s j) (fun c hc => ?_) j hj
  have G : ∀ p, p < 16 → g8 (mixL s [(2:UInt8), (3:UInt8), (1:UInt8), (1:UInt8)]) p = mixAt s [(2:UInt8), (3:UInt8), (1:UInt8), (1:UInt8)] p := fun p hp => mixL_get _ _ hp
  generalize e0 : g8 s (4*c) = x0
  generalize e1 : g8 s (4*c + 1) = x1
  generalize e2 : g8 s (4*c + 2) = x2
  generalize e3 : g8 s (4*c + 3) = x3
  refine ⟨?_, ?_, ?_, ?_⟩
  · show mixAt _ _ (4*c) = _
    rw [mixAt0, G _ (by omega), G _ (by omega), G _ (by omega), G _ (by omega), mixAt0, mixAt1, mixAt2, mixAt3, e0, e1, e2, e3]
    simp only [g8, List.getD_cons_zero, List.getD_cons_succ, gmul_xor]
    have h0 := mfb0 x0; have h1 := mfb1 x1; have h2 := mfb2 x2; have h3 := mfb3 x3
    have key : x0 = (gmul 14 (gmul 2 x0) ^^^ gmul 11 (gmul 1 x0) ^^^ gmul 13 (gmul 1 x0) ^^^ gmul 9 (gmul 3 x0)) ^^^ (gmul 14 (gmul 3 x1) ^^^ gmul 11 (gmul 2 x1) ^^^ gmul 13 (gmul 1 x1) ^^^ gmul 9 (gmul 1 x1)) ^^^ (gmul 14 (gmul 1 x2) ^^^ gmul 11 (gmul 3 x2) ^^^ gmul 13 (gmul 2 x2) ^^^ gmul 9 (gmul 1 x2)) ^^^ (gmul 14 (gmul 1 x3) ^^^ gmul 11 (gmul 1 x3) ^^^ gmul 13 (gmul 3 x3) ^^^ gmul 9 (gmul 2 x3)) := by rw [h0, h1, h2, h3]; simp
    refine Eq.trans ?_ key.symm
    ac_rfl
  · show mixAt _ _ (4*c + 1) = _
    rw [mixAt1, G _ (by omega), G _ (by omega), G _ (by omega), G _ (by omega), mixAt0, mixAt1, mixAt2, mixAt3, e0, e1, e2, e3]
    simp only [g8, List.getD_cons_zero, List.getD_cons_succ, gmul_xor]
    have h0 := mfb0 x1; have h1 := mfb1 x2; have h2 := mfb2 x3; have h3 := mfb3 x0
    have key : x1 = (gmul 14 (gmul 2 x1) ^^^ gmul 11 (gmul 1 x1) ^^^ gmul 13 (gmul 1 x1) ^^^ gmul 9 (gmul 3 x1)) ^^^ (gmul 14 (gmul 3 x2) ^^^ gmul 11 (gmul 2 x2) ^^^ gmul 13 (gmul 1 x2) ^^^ gmul 9 (gmul 1 x2)) ^^^ (gmul 14 (gmul 1 x3) ^^^ gmul 11 (gmul 3 x3) ^^^ gmul 13 (gmul 2 x3) ^^^ gmul 9 (gmul 1 x3)) ^^^ (gmul 14 (gmul 1 x0) ^^^ gmul 11 (gmul 1 x0) ^^^ gmul 13 (gmul 3 x0) ^^^ gmul 9 (gmul 2 x0)) := by rw [h0, h1, h2, h3]; simp
    refine Eq.trans ?_ key.symm
    ac_rfl
  · show mixAt _ _ (4*c + 2) = _
    rw [mixAt2, G _ (by omega), G _ (by omega), G _ (by omega), G _ (by omega), mixAt0, mixAt1, mixAt2, mixAt3, e0, e1, e2, e3]
    simp only [g8, List.getD_cons_zero, List.getD_cons_succ, gmul_xor]
    have h0 := mfb0 x2; have h1 := mfb1 x3; have h2 := mfb2 x0; have h3 := mfb3 x1
    have key : x2 = (gmul 14 (gmul 2 x2) ^^^ gmul 11 (gmul 1 x2) ^^^ gmul 13 (gmul 1 x2) ^^^ gmul 9 (gmul 3 x2)) ^^^ (gmul 14 (gmul 3 x3) ^^^ gmul 11 (gmul 2 x3) ^^^ gmul 13 (gmul 1 x3) ^^^ gmul 9 (gmul 1 x3)) ^^^ (gmul 14 (gmul 1 x0) ^^^ gmul 11 (gmul 3 x0) ^^^ gmul 13 (gmul 2 x0) ^^^ gmul 9 (gmul 1 x0)) ^^^ (gmul 14 (gmul 1 x1) ^^^ gmul 11 (gmul 1 x1) ^^^ gmul 13 (gmul 3 x1) ^^^ gmul 9 (gmul 2 x1)) := by rw [h0, h1, h2, h3]; simp
    refine Eq.trans ?_ key.symm
    ac_rfl
  · show mixAt _ _ (4*c + 3) = _
    rw [mixAt3, G _ (by omega), G _ (by omega), G _ (by omega), G _ (by omega), mixAt0, mixAt1, mixAt2, mixAt3, e0, e1, e2, e3]
    simp only [g8, List.getD_cons_zero, List.getD_cons_succ, gmul_xor]
    have h0 := mfb0 x3; have h1 := mfb1 x0; have h2 := mfb2 x1; have h3 := mfb3 x2
    have key : x3 = (gmul 14 (gmul 2 x3) ^^^ gmul 11 (gmul 1 x3) ^^^ gmul 13 (gmul 1 x3) ^^^ gmul 9 (gmul 3 x3)) ^^^ (gmul 14 (gmul 3 x0) ^^^ gmul 11 (gmul 2 x0) ^^^ gmul 13 (gmul 1 x0) ^^^ gmul 9 (gmul 1 x0)) ^^^ (gmul 14 (gmul 1 x1) ^^^ gmul 11 (gmul 3 x1) ^^^ gmul 13 (gmul 2 x1) ^^^ gmul 9 (gmul 1 x1)) ^^^ (gmul 14 (gmul 1 x2) ^^^ gmul 11 (gmul 1 x2) ^^^ gmul 13 (gmul 3 x2) ^^^ gmul 9 (gmul 2 x2)) := by rw [h0, h1, h2, h3]; simp
    refine Eq.trans ?_ key.symm
    ac_rfl

end Go.Proofs.Ytncoifiafklkjaa
