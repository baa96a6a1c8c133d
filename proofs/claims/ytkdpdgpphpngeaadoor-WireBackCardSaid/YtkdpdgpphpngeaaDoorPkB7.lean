import Derived.ChangeArms
import Derived.JoinedOf
import Derived.SevenTiedAt
import Derived.Test.YtkdpdgpphpngeaaDoorPkB6
set_option linter.unusedVariables false
set_option linter.unusedSimpArgs false
namespace Go.Proofs.YtkdpdgpphpngeaaDoor
open Go Go.Sx Go.RowKit
open Go.ChangeShapes Go.WideShapes
section
variable {H : Type} {enc : TypeId × Value → H} {P : Program} {w : World} {base : Nat} {spare : Nat → Bool} {held : Bool} {sz : Bool} {t : TypeId} {cs : List Value}
theorem flat32 (al2 : List {l : List UInt8 // l.length = 32}) : al2.flatMap (fun a => cu8 a.1) = cu8 (al2.flatMap (fun a => a.1)) := by
 induction al2 with
 | nil => rfl
 | cons a al2 ih => rw [List.flatMap_cons, List.flatMap_cons, cu8_app, ih]
theorem flat32_len (al2 : List {l : List UInt8 // l.length = 32}) : (al2.flatMap (fun a => a.1)).length = 32 * al2.length := by
 induction al2 with
 | nil => rfl
 | cons a al2 ih => rw [List.flatMap_cons, List.length_append, ih, a.2, List.length_cons]; omega
theorem TD.sl32 {e u8 : TypeId} (ht : P.underlying t = some (.slice e)) (he : P.underlying e = some (.array 32 u8)) (uu : P.underlying u8 = some (.int .u8)) (hs : P.cellsOf e = 32) (hb : P.bytesOf e ≠ 0) (cu : P.cellsOf u8 = 1)
    (h : TD enc P w base spare held sz t cs) :
    ∃ (ao : Option Addr) (n c : Nat) (x : List UInt8), cs = [.slice ao n c] ∧ x.length = 32 * n ∧ (ao = none → c = 0) ∧ (n ≤ c ∧ c ≤ maxLen) ∧ RdB w [] ao x := by
  obtain ⟨ao, n, c, al, h1, h2, h3, h4, h5, h6, h7⟩ := TD.rows (f := fun a : {l : List UInt8 // l.length = 32} => cu8 a.1) (G := fun _ => True) (b := P.bytesOf e) ht hs (by decide) rfl (Nat.pos_of_ne_zero hb) (fun a => by rw [cu8_length]; exact a.2) (fun cs' hcs => by
    obtain ⟨l, e1, k1⟩ := TD.arr8 he uu cu hs hcs
    exact ⟨⟨l, k1⟩, e1, trivial⟩) h
  rw [flat32] at h6
  refine ⟨ao, n, c, al.flatMap (fun a => a.1), h1, by rw [flat32_len, h2], h4, h5, ?_⟩
  rcases h6 with h | ⟨b, off, h8, h9, h10⟩
  · left
    have := congrArg List.length h
    rw [cu8_length] at this
    exact List.eq_nil_of_length_eq_zero this
  · exact .inr ⟨b, off, h8, h9, by simp, h10⟩
end
end Go.Proofs.YtkdpdgpphpngeaaDoor
namespace Go.Sx
open Go Go.RowKit
open Go.ChangeShapes Go.WideShapes
theorem strs_cells {H : Type} {enc : TypeId × Value → H} {P : Program} {w : World} {base : Nat} {sp : Nat → Bool} {held : Bool} {t e : TypeId} {n : Nat} {l : List (List UInt8)} {p : List MemPlace}
    (ht : P.underlying t = some (.array n e)) (he : P.underlying e = some .string) (hce : P.cellsOf e = 1) (hct : P.cellsOf t = n) :
    ∀ {fuel : Nat} {cs : List Value}, DataW.trod enc P w base sp held fuel t cs = some (.agg (l.map fun s => .lit (.string s)), p) → cs = l.map fun s => Value.string ⟨s.toArray⟩
  | 0, cs, h => by simp [DataW.trod] at h
  | fuel + 1, cs, h => by
    simp only [DataW.trod, ht, hce, hct, Nat.mul_one] at h
    split at h
    case isFalse => cases h
    case isTrue hl =>
      obtain ⟨xs, hm, hx⟩ := Option.map_eq_some_iff.1 h
      have e1 : xs.map Prod.fst = l.map fun s => (DataW.lit (.string s) : DataW H) := by simpa using congrArg Prod.fst hx
      have e2 : xs.length = n := by simpa using Lib.mapM_length hm
      have e3 : l.length = n := by rw [← e2]; simpa using (congrArg List.length e1).symm
      refine List.ext_getElem? fun i => ?_
      by_cases hi : i < n
      · obtain ⟨b, hb, hf⟩ := Lib.mapM_at hm i i (by simp [hi])
        obtain ⟨s, hc, rfl, _⟩ := DataW.trod_string he hf
        have c0 : (List.take 1 (List.drop i cs))[0]? = some (Value.string s) := by rw [hc]; rfl
        have c1 : cs[i]? = some (.string s) := by simpa [List.getElem?_take, List.getElem?_drop] using c0
        have c2 := congrArg (·[i]?) e1
        simp only [List.getElem?_map, hb, Option.map_some] at c2
        obtain ⟨s', hs', he'⟩ := Option.map_eq_some_iff.1 c2.symm
        have he2 : s' = s.data.toList := by simpa using he'
        subst he2
        rw [c1, List.getElem?_map, hs']
        simp
      · rw [List.getElem?_eq_none (by omega), List.getElem?_eq_none (by simp; omega)]
theorem laid_rdS {P : Program} {W : World} {laid : List (String × DataW Unit)} (h : laidMetH P laid W) (hp : (laid.all fun x => x.2.handleName?.isNone) = true) {name : String} {d : DataW Unit} (hm : (name, d) ∈ laid) (l : List (List UInt8))
  (hd : d = .agg (l.map fun s => .lit (.string s))) {g t e n : Nat}
  (hg : P.globalNamed name = some g) (hty : (P.globals[g]?).map (·.type) = some t) (ht : P.underlying t = some (.array n e)) (he : P.underlying e = some .string) (hce : P.cellsOf e = 1) (hct : P.cellsOf t = n) (hl : 0 < l.length) : RdA W g 0 (l.map fun s => Value.string ⟨s.toArray⟩) := by
 rw [MakeChecks.laidMetH_plain _ _ _ hp] at h
 obtain ⟨ps, hv, _, _⟩ := h
 obtain ⟨g', t', cs, fuel, p, hg', ht', hvar, htr⟩ := laidVars_mem hv hm
 obtain rfl := Option.some.inj (hg.symm.trans hg')
 obtain rfl := Option.some.inj (hty.symm.trans ht')
 subst hd
 have hcs := strs_cells ht he hce hct htr
 have key : ∀ j v, (l.map fun s => Value.string ⟨s.toArray⟩)[j]? = some v → W.cell? ⟨g, 0 + j, none⟩ = some v := fun j v hj => by
  have := World.var?_cell hg hvar j
  rw [Nat.zero_add, this, ← Array.getElem?_toList, hcs]
  exact hj
 have h0 : (l.map fun s => Value.string ⟨s.toArray⟩)[0]? = some (Value.string ⟨(l[0]'hl).toArray⟩) := by simp [hl]
 exact ⟨lt_of_cell (key 0 _ h0), key⟩
end Go.Sx
namespace Go.Proofs.YtkdpdgpphpngeaaDoor
open Go
def headSigns : List Char := ([104, 97, 114, 110, 101, 115, 115, 32, 50, 100, 55, 48, 102, 53, 99, 56, 51, 51, 98, 102, 98, 55, 98, 99, 56, 100, 101, 50, 52, 51, 50, 51, 48, 101, 101, 48, 52, 55, 57, 55, 51, 101, 57, 54, 57, 51, 101, 100, 101, 55, 53, 51, 52, 48, 54, 50, 55, 99, 57, 57, 52, 50, 54, 50, 100, 102, 102, 56, 48, 54, 100, 50, 32, 99, 117, 116, 32, 97, 116, 32, 101, 110, 116, 114, 117, 115, 116, 47, 101, 110, 116, 114, 117, 115, 116, 108, 97, 119, 49, 52, 46, 87, 105, 114, 101, 82, 101, 113, 117, 101, 115, 116, 115, 32, 101, 110, 116, 114, 117, 115, 116, 47, 101, 110, 116, 114, 117, 115, 116, 108, 97, 119, 49, 53, 46, 76, 105, 110, 107, 83, 101, 97, 108, 115, 32, 101, 110, 116, 114, 117, 115, 116, 47, 101, 110, 116, 114, 117, 115, 116, 108, 97, 119, 49, 53, 46, 76, 105, 110, 107, 83, 105, 122, 101, 115, 32, 101, 110, 116, 114, 117, 115, 116, 47, 101, 110, 116, 114, 117, 115, 116, 108, 97, 119, 49, 52, 46, 87, 105, 114, 101, 82, 101, 112, 108, 105, 101, 115, 32, 101, 110, 116, 114, 117, 115, 116, 47, 101, 110, 116, 114, 117, 115, 116, 108, 97, 119, 49, 53, 46, 76, 105, 110, 107, 79, 112, 101, 110, 115, 32, 101, 110, 116, 114, 117, 115, 116, 47, 101, 110, 116, 114, 117, 115, 116, 108, 97, 119, 49, 53, 46, 76, 105, 110, 107, 66, 97, 99, 107, 32, 101, 110, 116, 114, 117, 115, 116, 47, 101, 110, 116, 114, 117, 115, 116, 108, 97, 119, 49, 51, 46, 84, 105, 99, 107, 101, 116, 83, 105, 103, 110, 115, 32, 101, 110, 116, 114, 117, 115, 116, 47, 101, 110, 116, 114, 117, 115, 116, 108, 97, 119, 49, 52, 46, 87, 105, 114, 101, 80, 97, 114, 115, 101, 115, 32, 101, 110, 116, 114, 117, 115, 116, 47, 101, 110, 116, 114, 117, 115, 116, 108, 97, 119, 49, 51, 46, 84, 105, 99, 107, 101, 116, 80, 97, 114, 115, 101, 115, 32, 101, 110, 116, 114, 117, 115, 116, 47, 101, 110, 116, 114, 117, 115, 116, 108, 97, 119, 49, 51, 46, 84, 105, 99, 107, 101, 116, 66, 97, 99, 107, 32, 101, 110, 116, 114, 117, 115, 116, 47, 101, 110, 116, 114, 117, 115, 116, 108, 97, 119, 49, 51, 46, 84, 105, 99, 107, 101, 116, 79, 114, 100, 101, 114, 115, 32, 101, 110, 116, 114, 117, 115, 116, 47, 101, 110, 116, 114, 117, 115, 116, 108, 97, 119, 49, 52, 46, 87, 105, 114, 101, 87, 111, 114, 100, 115, 32, 101, 110, 116, 114, 117, 115, 116, 47, 101, 110, 116, 114, 117, 115, 116, 108, 97, 119, 49, 52, 46, 87, 105, 114, 101, 66, 97, 99, 107, 32, 101, 110, 116, 114, 117, 115, 116, 47, 101, 110, 116, 114, 117, 115, 116, 108, 97, 119, 49, 51, 46, 84, 105, 99, 107, 101, 116, 83, 101, 97, 108, 115] : List Nat).map Char.ofNat
theorem headStr : Tryd.prog.initOrder = String.ofList headSigns := by kernel_rfl
theorem headIs : Tryd.prog.initOrder.toList = headSigns := by
 rw [headStr]
 exact String.toList_ofList
def sumSigns : List Char := ([50, 100, 55, 48, 102, 53, 99, 56, 51, 51, 98, 102, 98, 55, 98, 99, 56, 100, 101, 50, 52, 51, 50, 51, 48, 101, 101, 48, 52, 55, 57, 55, 51, 101, 57, 54, 57, 51, 101, 100, 101, 55, 53, 51, 52, 48, 54, 50, 55, 99, 57, 57, 52, 50, 54, 50, 100, 102, 102, 56, 48, 54, 100, 50] : List Nat).map Char.ofNat
theorem sumIs : "2d70f5c833bfb7bc8de243230ee047973e9693ede75340627c994262dff806d2".toList = sumSigns := by
 have h : "2d70f5c833bfb7bc8de243230ee047973e9693ede75340627c994262dff806d2" = String.ofList sumSigns := by kernel_rfl
 rw [h]
 exact String.toList_ofList
theorem head_cons {α : Type} {l : List α} {x : α} (h : l.head? = some x) : ∃ r, l = x :: r := by cases l <;> simp_all
theorem make_cut {P : Program} {r : List (List Char)} (h : behindMainWord (wordsSigns P.initOrder.toList) = "cut".toList :: r) : P.make = some .cut := by
 unfold Program.make
 rw [h]
 rfl
theorem headLifts_cut {P : Program} (h : (stripLifts liftWords (behindMainWord (wordsSigns P.initOrder.toList))).1 = []) : P.headLifts = [] := by
 unfold Program.headLifts
 simp only [h]
 split <;> rfl
theorem lifts_cut {P : Program} {r : List (List Char)} (h : behindMainWord (wordsSigns P.initOrder.toList) = "cut".toList :: r) (h1 : P.headLifts = []) : P.liftsFinal = false := by
 unfold Program.liftsFinal
 rw [h, h1]
 rfl
theorem mayEnter_cut {P : Program} {r : List (List Char)} (h : behindMainWord (wordsSigns P.initOrder.toList) = "cut".toList :: r) (h1 : P.laysLater = false) (h2 : P.bearsReflect = false)
  (h3 : (stripLifts liftWords (behindMainWord (wordsSigns P.initOrder.toList))).1 = []) (h4 : (stripLifts liftWords (behindMainWord (wordsSigns P.initOrder.toList))).2.head? = some "cut".toList) (h5 : P.doorFits [] = true) : P.mayEnter = true := by
 unfold Program.mayEnter
 rw [h] at h3 h4 ⊢
 simp only [h1, h2, h3, h4, h5]
 simp
theorem main_cut {P : Program} {s : List Char} {r : List (List Char)} (h : wordsSigns P.initOrder.toList = "harness".toList :: s :: r) (hs : isSumSigns s = true) : P.mainIs = some (true, s) := by
 unfold Program.mainIs
 rw [h]
 simp [hs]
theorem hHead : (behindMainWord (wordsSigns Tryd.prog.initOrder.toList)).head? = some "cut".toList := by
 rw [headIs]
 kernel_rfl
theorem hStrip : (stripLifts liftWords (behindMainWord (wordsSigns Tryd.prog.initOrder.toList))).1 = [] := by
 rw [headIs]
 kernel_rfl
theorem hStrip2 : (stripLifts liftWords (behindMainWord (wordsSigns Tryd.prog.initOrder.toList))).2.head? = some "cut".toList := by
 rw [headIs]
 kernel_rfl
theorem hMain : wordsSigns Tryd.prog.initOrder.toList = "harness".toList :: sumSigns :: (wordsSigns headSigns).drop 2 := by
 rw [headIs]
 kernel_rfl
theorem hSum : isSumSigns sumSigns = true := by kernel_rfl
theorem hLater : Tryd.prog.laysLater = false := by kernel_rfl
theorem hReflect : Tryd.prog.bearsReflect = false := by kernel_rfl
theorem hDoor : Tryd.prog.doorFits [] = true := by kernel_rfl
theorem kMayEnter : Tryd.prog.mayEnter = true := by
 obtain ⟨r, h⟩ := head_cons hHead
 exact mayEnter_cut h hLater hReflect hStrip hStrip2 hDoor
theorem kLifts : Tryd.prog.liftsFinal = false := by
 obtain ⟨r, h⟩ := head_cons hHead
 exact lifts_cut h (headLifts_cut hStrip)
theorem kMake : Tryd.prog.make = some .cut := by
 obtain ⟨r, h⟩ := head_cons hHead
 exact make_cut h
theorem kMainIs : Tryd.prog.mainIs = some (true, "2d70f5c833bfb7bc8de243230ee047973e9693ede75340627c994262dff806d2".toList) := by
 rw [sumIs]
 exact main_cut hMain hSum
theorem kLaidOut : (laidOutB Tryd.prog) = true := by kernel_rfl
theorem kRowed : mapsRowed Tryd.prog = true := by kernel_rfl
theorem kStops : (Tryd.prog.stops == []) = true := by kernel_rfl
theorem kKnobs : (Tryd.prog.stopKnobs == []) = true := by kernel_rfl
theorem kHeard : Tryd.prog.stopsHeard = true := by kernel_rfl
theorem kLooks : true = Tryd.prog.looks [] := by kernel_rfl
end Go.Proofs.YtkdpdgpphpngeaaDoor
