import Derived.Test.YtncoifiafklkjaaDoorSxQ
namespace Go.Sx
/-! SHA-256: what the program's and the reference's functions compute. -/
def rotr (x : UInt32) (k : Nat) : UInt32 := (x <<< UInt32.ofNat (32 - k)) ||| (x >>> UInt32.ofNat k)
def wordL (z : List UInt8) : UInt32 := ((((g8 z 0).toUInt32 <<< (24:UInt32)) ||| ((g8 z 1).toUInt32 <<< (16:UInt32))) ||| ((g8 z 2).toUInt32 <<< (8:UInt32))) ||| (g8 z 3).toUInt32
def wrdN (z : List UInt8) (t : Nat) : Nat → UInt32
  | 0 => 0
  | i + 1 => wrdN z t i * 256 + (g8 z (i + 4*t)).toUInt32
def spS (blk : List UInt8) (t : Nat) (w : List UInt32) : List UInt32 :=
  if t < 16 then w.set t (wordL (mid blk (4*t) 4))
  else w.set t (((g32 w (t - 16) + ((rotr (g32 w (t - 15)) 7 ^^^ rotr (g32 w (t - 15)) 18) ^^^ (g32 w (t - 15) >>> (3:UInt32)))) + g32 w (t - 7)) + ((rotr (g32 w (t - 2)) 17 ^^^ rotr (g32 w (t - 2)) 19) ^^^ (g32 w (t - 2) >>> (10:UInt32))))
def spN (blk : List UInt8) : Nat → List UInt32
  | 0 => zr32 64
  | t + 1 => spS blk t (spN blk t)
theorem spN_len (blk : List UInt8) : ∀ t, (spN blk t).length = 64
  | 0 => zr32_len 64
  | t + 1 => by rw [spN, spS]; split <;> simp [spN_len blk t]
def spreadL (blk : List UInt8) : List UInt32 := spN blk 64
theorem spreadL_len (blk : List UInt8) : (spreadL blk).length = 64 := spN_len blk 64
def shaP (e f g h k w : UInt32) : UInt32 := (((h + ((rotr e 6 ^^^ rotr e 11) ^^^ rotr e 25)) + ((e &&& f) ^^^ ((~~~e) &&& g))) + k) + w
def shaQ (a b c : UInt32) : UInt32 := ((rotr a 2 ^^^ rotr a 13) ^^^ rotr a 22) + (((a &&& b) ^^^ (a &&& c)) ^^^ (b &&& c))
def rdS (s : List UInt32) (k w : UInt32) : List UInt32 :=
  let p := shaP (g32 s 4) (g32 s 5) (g32 s 6) (g32 s 7) k w
  let q := shaQ (g32 s 0) (g32 s 1) (g32 s 2)
  [p + q, g32 s 0, g32 s 1, g32 s 2, g32 s 3 + p, g32 s 4, g32 s 5, g32 s 6]
def cpN (kk : List UInt32) (s : List UInt32) (w : List UInt32) : Nat → List UInt32
  | 0 => s
  | t + 1 => rdS (cpN kk s w t) (g32 kk t) (g32 w t)
theorem cpN_len {kk s w : List UInt32} (h : s.length = 8) : ∀ t, (cpN kk s w t).length = 8
  | 0 => h
  | _ + 1 => rfl
def adN (st s : List UInt32) : Nat → List UInt32
  | 0 => s
  | i + 1 => (adN st s i).set i (g32 (adN st s i) i + g32 st i)
theorem adN_len (st s : List UInt32) : ∀ i, (adN st s i).length = s.length
  | 0 => rfl
  | i + 1 => by simp [adN, adN_len st s i]
def comprL (kk st : List UInt32) (blk : List UInt8) : List UInt32 := adN st (cpN kk st (spreadL blk) 64) 8
theorem comprL_len {kk st : List UInt32} {blk : List UInt8} (h : st.length = 8) : (comprL kk st blk).length = 8 := by rw [comprL, adN_len, cpN_len h]
theorem adN_get (st s : List UInt32) : ∀ i, i ≤ s.length → ∀ j, g32 (adN st s i) j = if j < i then g32 s j + g32 st j else g32 s j
  | 0, _, j => by simp [adN]
  | i + 1, hi, j => by
    rw [adN, g32_set _ _ _ _ (by rw [adN_len]; omega)]
    by_cases h : i = j
    · subst h; rw [if_pos rfl, if_pos (by omega), adN_get st s i (by omega), if_neg (by omega)]
    · rw [if_neg h, adN_get st s i (by omega)]
      by_cases h2 : j < i
      · rw [if_pos h2, if_pos (by omega)]
      · rw [if_neg h2, if_neg (by omega)]
/-- the state's sum, written out as the reference writes it -/
theorem comprL_eq {kk st : List UInt32} {blk : List UInt8} (h : st.length = 8) (a b c d e f g h' : UInt32) (hs : cpN kk st (spreadL blk) 64 = [a, b, c, d, e, f, g, h']) :
    comprL kk st blk = [g32 st 0 + a, g32 st 1 + b, g32 st 2 + c, g32 st 3 + d, g32 st 4 + e, g32 st 5 + f, g32 st 6 + g, g32 st 7 + h'] := by
  refine ext32 (by rw [comprL_len h]; rfl) fun j hj => ?_
  rw [comprL_len h] at hj
  rw [comprL, adN_get _ _ _ (by rw [hs]; exact Nat.le_refl _), if_pos hj, hs]
  have : j = 0 ∨ j = 1 ∨ j = 2 ∨ j = 3 ∨ j = 4 ∨ j = 5 ∨ j = 6 ∨ j = 7 := by omega
  rcases this with rfl | rfl | rfl | rfl | rfl | rfl | rfl | rfl <;> simp [g32, UInt32.add_comm]
theorem ofN (k : Nat) (h : k < 4294967296) : (UInt64.ofNat k).toNat = k := by rw [UInt64.toNat_ofNat']; exact Nat.mod_eq_of_lt (by omega)
theorem u64i_nat {x : Int} {m : Nat} (h : x = m) (hm : m < 4294967296) : (u64i x).toNat = m := by
  subst h
  rw [u64i, UInt64.toNat_ofNat']; omega
theorem or_shl {a : UInt32} {b : UInt8} (h : a.toNat % 256 = 0) : a ||| b.toUInt32 = a + b.toUInt32 := by
  apply UInt32.toNat_inj.1
  have hb := b.toNat_lt
  have ha := a.toNat_lt
  rw [UInt32.toNat_or, UInt32.toNat_add, UInt8.toNat_toUInt32]
  obtain ⟨q, hq⟩ : ∃ q, a.toNat = q * 256 := ⟨a.toNat / 256, by omega⟩
  have := Nat.shiftLeft_add_eq_or_of_lt (i := 8) (b := b.toNat) (by omega) q
  rw [Nat.shiftLeft_eq, show 2 ^ 8 = 256 from rfl] at this
  rw [hq, ← this, Nat.mod_eq_of_lt (by omega)]
theorem shl8 (a : UInt32) (h : a.toNat < 16777216) : (a * 256).toNat = a.toNat * 256 := by
  rw [UInt32.toNat_mul, show (256 : UInt32).toNat = 256 from rfl]; omega
theorem shl_lit (a : UInt8) (k : UInt32) (hk : k.toNat ≤ 24) : (a.toUInt32 <<< k).toNat = a.toNat * 2 ^ k.toNat := by
  have ha := a.toNat_lt
  rw [UInt32.toNat_shiftLeft, UInt8.toNat_toUInt32, Nat.shiftLeft_eq, Nat.mod_eq_of_lt (a := k.toNat) (by omega)]
  refine Nat.mod_eq_of_lt ?_
  have h2 : 2 ^ k.toNat ≤ 2 ^ 24 := Nat.pow_le_pow_right (by omega) hk
  have h3 : a.toNat * 2 ^ k.toNat ≤ a.toNat * 2 ^ 24 := Nat.mul_le_mul_left _ h2
  omega
theorem or_add (x y : UInt32) (k : Nat) (hx : x.toNat % 2 ^ k = 0) (hy : y.toNat < 2 ^ k) : (x ||| y).toNat = x.toNat + y.toNat := by
  rw [UInt32.toNat_or]
  have := Nat.shiftLeft_add_eq_or_of_lt (i := k) (b := y.toNat) hy (x.toNat / 2 ^ k)
  rw [Nat.shiftLeft_eq, Nat.div_mul_cancel (Nat.dvd_of_mod_eq_zero hx)] at this
  exact this.symm
theorem wordL_val (z : List UInt8) : (wordL z).toNat = (g8 z 0).toNat * 16777216 + (g8 z 1).toNat * 65536 + (g8 z 2).toNat * 256 + (g8 z 3).toNat := by
  have h0 := (g8 z 0).toNat_lt; have h1 := (g8 z 1).toNat_lt; have h2 := (g8 z 2).toNat_lt; have h3 := (g8 z 3).toNat_lt
  have e0 := shl_lit (g8 z 0) 24 (by decide)
  have e1 := shl_lit (g8 z 1) 16 (by decide)
  have e2 := shl_lit (g8 z 2) 8 (by decide)
  simp only [show (24 : UInt32).toNat = 24 from rfl, show (16 : UInt32).toNat = 16 from rfl, show (8 : UInt32).toNat = 8 from rfl] at e0 e1 e2
  have s1 := or_add ((g8 z 0).toUInt32 <<< (24:UInt32)) ((g8 z 1).toUInt32 <<< (16:UInt32)) 24 (by rw [e0]; omega) (by rw [e1]; omega)
  have s2 := or_add _ ((g8 z 2).toUInt32 <<< (8:UInt32)) 16 (by rw [s1, e0, e1]; omega) (by rw [e2]; omega)
  have s3 := or_add _ ((g8 z 3).toUInt32) 8 (by rw [s2, s1, e0, e1, e2]; omega) (by rw [UInt8.toNat_toUInt32]; omega)
  rw [wordL, s3, s2, s1, e0, e1, e2, UInt8.toNat_toUInt32]
theorem wrd_word (blk : List UInt8) (t : Nat) : wrdN blk t 4 = wordL (mid blk (4*t) 4) := by
  apply UInt32.toNat_inj.1
  have g : ∀ i, i < 4 → g8 (mid blk (4*t) 4) i = g8 blk (i + 4*t) := fun i hi => by rw [g8_mid hi, Nat.add_comm]
  rw [wordL_val, g 0 (by omega), g 1 (by omega), g 2 (by omega), g 3 (by omega)]
  have h0 := (g8 blk (0 + 4*t)).toNat_lt; have h1 := (g8 blk (1 + 4*t)).toNat_lt; have h2 := (g8 blk (2 + 4*t)).toNat_lt; have h3 := (g8 blk (3 + 4*t)).toNat_lt
  have e : ∀ (a : UInt32) (b : UInt8), (a * 256 + b.toUInt32).toNat = (a.toNat * 256 + b.toNat) % 4294967296 := fun a b => by
    rw [UInt32.toNat_add, UInt32.toNat_mul, UInt8.toNat_toUInt32, show (256 : UInt32).toNat = 256 from rfl]; omega
  have z0 : (wrdN blk t 0).toNat = 0 := rfl
  have e1 : (wrdN blk t 1).toNat = _ := e (wrdN blk t 0) (g8 blk (0 + 4*t))
  have e2 : (wrdN blk t 2).toNat = _ := e (wrdN blk t 1) (g8 blk (1 + 4*t))
  have e3 : (wrdN blk t 3).toNat = _ := e (wrdN blk t 2) (g8 blk (2 + 4*t))
  have e4 : (wrdN blk t 4).toNat = _ := e (wrdN blk t 3) (g8 blk (3 + 4*t))
  omega
/-! the padded text -/
def nzP (n : Nat) : Nat := (119 - n % 64) % 64
def lenN (n : Nat) : Nat → List UInt8
  | 0 => []
  | i + 1 => lenN n i ++ [((8 * UInt64.ofNat n) >>> UInt64.ofNat (56 - 8*i)).toUInt8]
theorem lenN_len (n : Nat) : ∀ i, (lenN n i).length = i
  | 0 => rfl
  | i + 1 => by simp [lenN, lenN_len n i]
def padL (b : List UInt8) : List UInt8 := ((b ++ [128]) ++ zr8 (nzP b.length)) ++ lenN b.length 8
theorem padL_len (b : List UInt8) : (padL b).length = b.length + 9 + nzP b.length := by simp [padL, lenN_len, zr8_len]; omega
theorem pad_mod (b : List UInt8) : (padL b).length % 64 = 0 := by rw [padL_len, nzP]; omega
def stN (kk init : List UInt32) (p : List UInt8) : Nat → List UInt32
  | 0 => init
  | k + 1 => comprL kk (stN kk init p k) (mid p (64*k) 64)
theorem stN_len {kk init : List UInt32} {p : List UInt8} (h : init.length = 8) : ∀ k, (stN kk init p k).length = 8
  | 0 => h
  | k + 1 => comprL_len (stN_len h k)
def byteAt (s : List UInt32) (i : Nat) : UInt8 := (g32 s (i / 4) >>> UInt32.ofNat (24 - 8*(i % 4))).toUInt8
def hashL (s : List UInt32) : List UInt8 := (List.range 32).map (byteAt s)
theorem hashL_len (s : List UInt32) : (hashL s).length = 32 := by simp [hashL]
def outN (s : List UInt32) : Nat → List UInt8
  | 0 => zr8 32
  | i + 1 => spl (outN s i) (4*i) [(g32 s i >>> (24:UInt32)).toUInt8, (g32 s i >>> (16:UInt32)).toUInt8, (g32 s i >>> (8:UInt32)).toUInt8, (g32 s i).toUInt8]
def routN (s : List UInt32) : Nat → List UInt8
  | 0 => zr8 32
  | i + 1 => (routN s i).set i (byteAt s i)
theorem outN_len (s : List UInt32) : ∀ i, i ≤ 8 → (outN s i).length = 32
  | 0, _ => zr8_len 32
  | i + 1, h => by rw [outN, spl_len (by rw [outN_len s i (by omega)]; simp; omega), outN_len s i (by omega)]
theorem routN_len (s : List UInt32) : ∀ i, (routN s i).length = 32
  | 0 => zr8_len 32
  | i + 1 => by rw [routN, List.length_set, routN_len s i]
theorem byteAt4 (s : List UInt32) (i : Nat) : ∀ d, d < 4 → g8 [(g32 s i >>> (24:UInt32)).toUInt8, (g32 s i >>> (16:UInt32)).toUInt8, (g32 s i >>> (8:UInt32)).toUInt8, (g32 s i).toUInt8] d = byteAt s (4*i + d)
  | 0, _ => by rw [byteAt, show (4*i + 0) / 4 = i from by omega, show (4*i + 0) % 4 = 0 from by omega]; rfl
  | 1, _ => by rw [byteAt, show (4*i + 1) / 4 = i from by omega, show (4*i + 1) % 4 = 1 from by omega]; rfl
  | 2, _ => by rw [byteAt, show (4*i + 2) / 4 = i from by omega, show (4*i + 2) % 4 = 2 from by omega]; rfl
  | 3, _ => by
    rw [byteAt, show (4*i + 3) / 4 = i from by omega, show (4*i + 3) % 4 = 3 from by omega]
    have : g32 s i >>> UInt32.ofNat (24 - 8 * 3) = g32 s i := by
      apply UInt32.toNat_inj.1
      rw [UInt32.toNat_shiftRight]; rfl
    rw [this]; rfl
  | _ + 4, h => absurd h (by omega)
theorem outN_get (s : List UInt32) : ∀ i, i ≤ 8 → ∀ j, j < 4*i → g8 (outN s i) j = byteAt s j
  | 0, _, j, hj => by omega
  | i + 1, hi, j, hj => by
    rw [outN, g8_spl (by rw [outN_len s i (by omega)]; simp; omega)]
    by_cases h : 4*i ≤ j ∧ j < 4*i + ([(g32 s i >>> (24:UInt32)).toUInt8, (g32 s i >>> (16:UInt32)).toUInt8, (g32 s i >>> (8:UInt32)).toUInt8, (g32 s i).toUInt8] : List UInt8).length
    · rw [if_pos h, byteAt4 s i (j - 4*i) (by simp at h; omega), show 4*i + (j - 4*i) = j from by omega]
    · rw [if_neg h]; exact outN_get s i (by omega) j (by simp at h; omega)
theorem outN_hash (s : List UInt32) : outN s 8 = hashL s :=
  ext8 (by rw [outN_len s 8 (by omega), hashL_len]) fun j hj => by
    rw [outN_len s 8 (by omega)] at hj
    rw [outN_get s 8 (by omega) j (by omega), hashL, g8_map_range hj]
theorem routN_get (s : List UInt32) : ∀ i, i ≤ 32 → ∀ j, j < i → g8 (routN s i) j = byteAt s j
  | 0, _, j, hj => by omega
  | i + 1, hi, j, hj => by
    rw [routN, g8_set _ _ _ _ (by rw [routN_len]; omega)]
    by_cases h : i = j
    · subst h; rw [if_pos rfl]
    · rw [if_neg h]; exact routN_get s i (by omega) j (by omega)
theorem routN_hash (s : List UInt32) : routN s 32 = hashL s :=
  ext8 (by rw [routN_len, hashL_len]) fun j hj => by
    rw [routN_len] at hj
    rw [routN_get s 32 (by omega) j hj, hashL, g8_map_range hj]
def sumG (kk init : List UInt32) (b : List UInt8) : List UInt8 := hashL (stN kk init (padL b) ((padL b).length / 64))
theorem sumG_len (kk init : List UInt32) (b : List UInt8) : (sumG kk init b).length = 32 := hashL_len _
end Go.Sx
