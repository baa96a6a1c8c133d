import Derived.ChangeArms
import Derived.JoinedOf
import Derived.SevenTiedAt
import Derived.Test.YtkdpdgpphpngeaaDoorPkWP6
set_option linter.unusedVariables false
set_option linter.unusedSimpArgs false
set_option maxRecDepth 100000
namespace Go.Proofs.YtkdpdgpphpngeaaDoor
open Go Go.Sx
open Go.Value renaming slice → SL
attribute [local irreducible] mid zr8 numK rnK valK constL initL putL RightB tktT mayN idxT selT blankB plainV itB chB bB aB c1B c2B c3B c4B repR repT LargeQ
theorem putRep_w (rq : UInt64) (rk er : Int) (aj : Option Addr) (nj cj : Nat) (lj : List ItemR) (th : Bool) (pv ep : UInt64) (kd : Int) (ai : Option Addr) (ni ci : Nat) (l : List UInt64) (sa : Option Addr) (ns sc : Nat) (ls : List SealR) (bl : UInt64) (tg : List UInt8) (aha : Option Addr) (nha cha : Nat) (xha : List UInt8) (ahb : Option Addr) (nhb chb : Nat) (xhb : List UInt8) (n : Nat) (w : World) (hlj : lj.length = nj) (hnj : nj ≤ 2000000) (hdj : nj ≤ cj) (hcj : cj ≤ maxLen) (hj : RdV w aj (lj.flatMap itemC)) (hl : l.length = ni) (hnm : ni ≤ 2000000) (hnc : ni ≤ ci) (hcm : ci ≤ maxLen) (hv : RdV w ai (cu64 l)) (hls : ls.length = ns) (hnn : ns ≤ 2000000) (hnd : ns ≤ sc) (hcn : sc ≤ maxLen) (hs : RdV w sa (ls.flatMap sealC)) (htg : tg.length = 16) (hlha : xha.length = nha * 32) (hnha : nha ≤ 9000) (hdha : nha ≤ cha) (hcha : cha ≤ maxLen) (hrha : RdB w [] aha xha) (hlhb : xhb.length = nhb * 32) (hnhb : nhb ≤ 9000) (hdhb : nhb ≤ chb) (hchb : chb ≤ maxLen) (hrhb : RdB w [] ahb xhb) (hbi : ni ≤ 300) (hbs : ns ≤ 300) (hA : nha ≤ 300) (hB : nhb ≤ 300) (hR : repR rk er th lj (blankB pv ep kd l ls bl tg) (decide (mayN pv ep kd l ls bl = 0)) nha nhb = true) (hn : (repT rq rk er nj lj th pv ep kd l ls bl tg nha xha nhb xhb).length = n) : Calls Tryd.prog 34 #[.agg ([U64 rq, I64 (rk), I64 (er), SL aj nj cj, .bool th, U64 pv, U64 ep, I64 (kd), SL ai ni ci, SL sa ns sc, U64 bl] ++ cu8 tg ++ [SL aha nha cha, SL ahb nhb chb]).toArray] w (Post w [] (fun v L => ∃ g sp cap, v = .tuple #[Slc g 0 n cap, .nilIface] ∧ L = [⟨g, cu8 (repT rq rk er nj lj th pv ep kd l ls bl tg nha xha nhb xhb) ++ sp, 5, (0, 0)⟩] ∧ sp.length = cap - n ∧ n ≤ cap ∧ cap ≤ maxLen)) := by
  obtain ⟨h1, h2, h3, h4⟩ := repR_f hlj hR
  by_cases hE : er = 0
  · subst hE
    obtain rfl | rfl | rfl | rfl | rfl : rk = 1 ∨ rk = 2 ∨ rk = 3 ∨ rk = 4 ∨ rk = 5 := by omega
    · have e : repT rq 1 0 nj lj th pv ep kd l ls bl tg nha xha nhb xhb = (((((numK 8 rq 8 ++ numK 1 (1:UInt64) 1) ++ numK 1 (0:UInt64) 1) ++ numK 1 (UInt64.ofNat (nj - 1)) 1) ++ itmsT lj) ++ numK 2 (UInt64.ofNat nhb) 2) ++ xhb := by unfold repT; rw [if_neg (by decide), if_pos rfl]
      have hn2 : n = (32*nhb + (itmsT lj).length + 13) := by rw [← hn, e]; simp [A4, hlha, hlhb]; try omega
      subst hn2
      rw [e]
      exact putRep1_c rq aj nj cj lj th pv ep kd ai ni ci l sa ns sc ls bl tg aha nha cha xha ahb nhb chb xhb (itmsT lj).length w hlj hnj hdj hcj hj hl hnm hnc hcm hv hls hnn hnd hcn hs htg hlha hnha hdha hcha hrha hlhb hnhb hdhb hchb hrhb hbi hbs hA hB hR rfl
    · have e : repT rq 2 0 nj lj th pv ep kd l ls bl tg nha xha nhb xhb = (((((((numK 8 rq 8 ++ numK 1 (2:UInt64) 1) ++ numK 1 (0:UInt64) 1) ++ numK 1 (UInt64.ofNat (nj - 1)) 1) ++ itmsT lj) ++ numK 2 (UInt64.ofNat nha) 2) ++ xha) ++ numK 2 (UInt64.ofNat nhb) 2) ++ xhb := by unfold repT; rw [if_neg (by decide), if_neg (by decide), if_pos rfl]
      have hn2 : n = (32*nha + 32*nhb + (itmsT lj).length + 15) := by rw [← hn, e]; simp [A4, hlha, hlhb]; try omega
      subst hn2
      rw [e]
      exact putRep2_c rq aj nj cj lj th pv ep kd ai ni ci l sa ns sc ls bl tg aha nha cha xha ahb nhb chb xhb (itmsT lj).length w hlj hnj hdj hcj hj hl hnm hnc hcm hv hls hnn hnd hcn hs htg hlha hnha hdha hcha hrha hlhb hnhb hdhb hchb hrhb hbi hbs hA hB hR rfl
    · have e : repT rq 3 0 nj lj th pv ep kd l ls bl tg nha xha nhb xhb = (((((numK 8 rq 8 ++ numK 1 (3:UInt64) 1) ++ numK 1 (0:UInt64) 1) ++ numK 2 (UInt64.ofNat nha) 2) ++ xha) ++ numK 2 (UInt64.ofNat nhb) 2) ++ xhb := by unfold repT; rw [if_neg (by decide), if_neg (by decide), if_neg (by decide), if_pos rfl]
      have hn2 : n = (32*nha + 32*nhb + 14) := by rw [← hn, e]; simp [A4, hlha, hlhb]; try omega
      subst hn2
      rw [e]
      exact putRep3_c rq aj nj cj lj th pv ep kd ai ni ci l sa ns sc ls bl tg aha nha cha xha ahb nhb chb xhb w hlj hnj hdj hcj hj hl hnm hnc hcm hv hls hnn hnd hcn hs htg hlha hnha hdha hcha hrha hlhb hnhb hdhb hchb hrhb hbi hbs hA hB hR
    · cases th with
      | true =>
        have hmay := of_decide_eq_true (repR_my hR)
        rcases RightO_cases (mayN_right hmay) with ⟨rfl, _⟩ | ⟨rfl, _⟩ | ⟨rfl, _⟩
        · have e : repT rq 4 0 nj lj true pv ep 1 l ls bl tg nha xha nhb xhb = (((((((numK 8 rq 8 ++ numK 1 (4:UInt64) 1) ++ numK 1 (0:UInt64) 1) ++ numK 1 (bitU true) 1) ++ ((tktT pv ep 1 l ls bl) ++ tg)) ++ numK 2 (UInt64.ofNat nha) 2) ++ xha) ++ numK 2 (UInt64.ofNat nhb) 2) ++ xhb := by unfold repT; rw [if_neg (by decide), if_neg (by decide), if_neg (by decide), if_neg (by decide), if_pos rfl, if_pos rfl]; rfl
          have hn2 : n = (32*nha + 32*nhb + (tktN 1 ni ns) + 31) := by rw [← hn, e]; simp [A4, hlha, hlhb, htg, FG hl hls]; try omega
          subst hn2
          rw [e]
          exact putRep4t_c rq aj nj cj lj pv ep 1 ai ni ci l sa ns sc ls bl tg aha nha cha xha ahb nhb chb xhb (tktN 1 ni ns) w hlj hnj hdj hcj hj hl hnm hnc hcm hv hls hnn hnd hcn hs htg hlha hnha hdha hcha hrha hlhb hnhb hdhb hchb hrhb hbi hbs hA hB hR hmay (.inl rfl) hbs rfl (tktN_le hbi hbs)
        · have e : repT rq 4 0 nj lj true pv ep 2 l ls bl tg nha xha nhb xhb = (((((((numK 8 rq 8 ++ numK 1 (4:UInt64) 1) ++ numK 1 (0:UInt64) 1) ++ numK 1 (bitU true) 1) ++ ((tktT pv ep 2 l ls bl) ++ tg)) ++ numK 2 (UInt64.ofNat nha) 2) ++ xha) ++ numK 2 (UInt64.ofNat nhb) 2) ++ xhb := by unfold repT; rw [if_neg (by decide), if_neg (by decide), if_neg (by decide), if_neg (by decide), if_pos rfl, if_pos rfl]; rfl
          have hn2 : n = (32*nha + 32*nhb + (tktN 2 ni ns) + 31) := by rw [← hn, e]; simp [A4, hlha, hlhb, htg, FG hl hls]; try omega
          subst hn2
          rw [e]
          exact putRep4t_c rq aj nj cj lj pv ep 2 ai ni ci l sa ns sc ls bl tg aha nha cha xha ahb nhb chb xhb (tktN 2 ni ns) w hlj hnj hdj hcj hj hl hnm hnc hcm hv hls hnn hnd hcn hs htg hlha hnha hdha hcha hrha hlhb hnhb hdhb hchb hrhb hbi hbs hA hB hR hmay (.inr (.inl rfl)) hbs rfl (tktN_le hbi hbs)
        · have e : repT rq 4 0 nj lj true pv ep 3 l ls bl tg nha xha nhb xhb = (((((((numK 8 rq 8 ++ numK 1 (4:UInt64) 1) ++ numK 1 (0:UInt64) 1) ++ numK 1 (bitU true) 1) ++ ((tktT pv ep 3 l ls bl) ++ tg)) ++ numK 2 (UInt64.ofNat nha) 2) ++ xha) ++ numK 2 (UInt64.ofNat nhb) 2) ++ xhb := by unfold repT; rw [if_neg (by decide), if_neg (by decide), if_neg (by decide), if_neg (by decide), if_pos rfl, if_pos rfl]; rfl
          have hn2 : n = (32*nha + 32*nhb + (tktN 3 ni ns) + 31) := by rw [← hn, e]; simp [A4, hlha, hlhb, htg, FG hl hls]; try omega
          subst hn2
          rw [e]
          exact putRep4t_c rq aj nj cj lj pv ep 3 ai ni ci l sa ns sc ls bl tg aha nha cha xha ahb nhb chb xhb (tktN 3 ni ns) w hlj hnj hdj hcj hj hl hnm hnc hcm hv hls hnn hnd hcn hs htg hlha hnha hdha hcha hrha hlhb hnhb hdhb hchb hrhb hbi hbs hA hB hR hmay (.inr (.inr rfl)) hbs rfl (tktN_le hbi hbs)
      | false =>
        have e : repT rq 4 0 nj lj false pv ep kd l ls bl tg nha xha nhb xhb = ((numK 8 rq 8 ++ numK 1 (4:UInt64) 1) ++ numK 1 (0:UInt64) 1) ++ numK 1 (bitU false) 1 := by unfold repT; rw [if_neg (by decide), if_neg (by decide), if_neg (by decide), if_neg (by decide), if_pos rfl, if_neg (by decide)]
        have hn2 : n = 11 := by rw [← hn, e]; simp [A4, hlha, hlhb]; try omega
        subst hn2
        rw [e]
        exact putRep4f_c rq aj nj cj lj pv ep kd ai ni ci l sa ns sc ls bl tg aha nha cha xha ahb nhb chb xhb w hlj hnj hdj hcj hj hl hnm hnc hcm hv hls hnn hnd hcn hs htg hlha hnha hdha hcha hrha hlhb hnhb hdhb hchb hrhb hbi hbs hA hB hR
    · have e : repT rq 5 0 nj lj th pv ep kd l ls bl tg nha xha nhb xhb = (numK 8 rq 8 ++ numK 1 (5:UInt64) 1) ++ numK 1 (0:UInt64) 1 := by unfold repT; rw [if_neg (by decide), if_neg (by decide), if_neg (by decide), if_neg (by decide), if_neg (by decide)]
      have hn2 : n = 10 := by rw [← hn, e]; simp [A4, hlha, hlhb]; try omega
      subst hn2
      rw [e]
      exact putRep5_c rq aj nj cj lj th pv ep kd ai ni ci l sa ns sc ls bl tg aha nha cha xha ahb nhb chb xhb w hlj hnj hdj hcj hj hl hnm hnc hcm hv hls hnn hnd hcn hs htg hlha hnha hdha hcha hrha hlhb hnhb hdhb hchb hrhb hbi hbs hA hB hR
  · obtain ⟨rk, rfl⟩ : ∃ m : Nat, rk = m := ⟨rk.toNat, by omega⟩
    obtain ⟨er, rfl⟩ : ∃ m : Nat, er = m := ⟨er.toNat, by omega⟩
    have e : repT rq (rk:Int) (er:Int) nj lj th pv ep kd l ls bl tg nha xha nhb xhb = (numK 8 rq 8 ++ numK 1 (UInt64.ofNat rk) 1) ++ numK 1 (UInt64.ofNat er) 1 := by unfold repT; rw [if_pos hE]; rfl
    have hn2 : n = 10 := by rw [← hn, e]; simp [A4, hlha, hlhb]; try omega
    subst hn2
    rw [e]
    exact putRepE_c rq rk er aj nj cj lj th pv ep kd ai ni ci l sa ns sc ls bl tg aha nha cha xha ahb nhb chb xhb w hlj hnj hdj hcj hj hl hnm hnc hcm hv hls hnn hnd hcn hs htg hlha hnha hdha hcha hrha hlhb hnhb hdhb hchb hrhb hbi hbs hA hB hR hE
theorem rputRep_w (rq : UInt64) (rk er : Int) (aj : Option Addr) (nj cj : Nat) (lj : List ItemR) (th : Bool) (pv ep : UInt64) (kd : Int) (ai : Option Addr) (ni ci : Nat) (l : List UInt64) (sa : Option Addr) (ns sc : Nat) (ls : List SealR) (bl : UInt64) (tg : List UInt8) (aha : Option Addr) (nha cha : Nat) (xha : List UInt8) (ahb : Option Addr) (nhb chb : Nat) (xhb : List UInt8) (n : Nat) (w : World) (hlj : lj.length = nj) (hnj : nj ≤ 2000000) (hdj : nj ≤ cj) (hcj : cj ≤ maxLen) (hj : RdV w aj (lj.flatMap itemC)) (hl : l.length = ni) (hnm : ni ≤ 2000000) (hnc : ni ≤ ci) (hcm : ci ≤ maxLen) (hv : RdV w ai (cu64 l)) (hls : ls.length = ns) (hnn : ns ≤ 2000000) (hnd : ns ≤ sc) (hcn : sc ≤ maxLen) (hs : RdV w sa (ls.flatMap sealC)) (htg : tg.length = 16) (hlha : xha.length = nha * 32) (hnha : nha ≤ 9000) (hdha : nha ≤ cha) (hcha : cha ≤ maxLen) (hrha : RdB w [] aha xha) (hlhb : xhb.length = nhb * 32) (hnhb : nhb ≤ 9000) (hdhb : nhb ≤ chb) (hchb : chb ≤ maxLen) (hrhb : RdB w [] ahb xhb) (hbi : ni ≤ 300) (hbs : ns ≤ 300) (hA : nha ≤ 300) (hB : nhb ≤ 300) (hR : repR rk er th lj (blankB pv ep kd l ls bl tg) (decide (mayN pv ep kd l ls bl = 0)) nha nhb = true) (hn : (repT rq rk er nj lj th pv ep kd l ls bl tg nha xha nhb xhb).length = n) : Calls Tryd.prog 38 #[.agg ([U64 rq, I64 (rk), I64 (er), SL aj nj cj, .bool th, U64 pv, U64 ep, I64 (kd), SL ai ni ci, SL sa ns sc, U64 bl] ++ cu8 tg ++ [SL aha nha cha, SL ahb nhb chb]).toArray] w (Post w [] (fun v L => ∃ g sp cap, v = Slc g 0 n cap ∧ L = [⟨g, cu8 (repT rq rk er nj lj th pv ep kd l ls bl tg nha xha nhb xhb) ++ sp, 5, (0, 0)⟩] ∧ sp.length = cap - n ∧ n ≤ cap ∧ cap ≤ maxLen)) := by
  obtain ⟨h1, h2, h3, h4⟩ := repR_f hlj hR
  by_cases hE : er = 0
  · subst hE
    obtain rfl | rfl | rfl | rfl | rfl : rk = 1 ∨ rk = 2 ∨ rk = 3 ∨ rk = 4 ∨ rk = 5 := by omega
    · have e : repT rq 1 0 nj lj th pv ep kd l ls bl tg nha xha nhb xhb = (((((numK 8 rq 8 ++ numK 1 (1:UInt64) 1) ++ numK 1 (0:UInt64) 1) ++ numK 1 (UInt64.ofNat (nj - 1)) 1) ++ itmsT lj) ++ numK 2 (UInt64.ofNat nhb) 2) ++ xhb := by unfold repT; rw [if_neg (by decide), if_pos rfl]
      have hn2 : n = (32*nhb + (itmsT lj).length + 13) := by rw [← hn, e]; simp [A4, hlha, hlhb]; try omega
      subst hn2
      rw [e]
      exact rputRep1_c rq aj nj cj lj th pv ep kd ai ni ci l sa ns sc ls bl tg aha nha cha xha ahb nhb chb xhb (itmsT lj).length w hlj hnj hdj hcj hj hl hnm hnc hcm hv hls hnn hnd hcn hs htg hlha hnha hdha hcha hrha hlhb hnhb hdhb hchb hrhb hbi hbs hA hB hR rfl
    · have e : repT rq 2 0 nj lj th pv ep kd l ls bl tg nha xha nhb xhb = (((((((numK 8 rq 8 ++ numK 1 (2:UInt64) 1) ++ numK 1 (0:UInt64) 1) ++ numK 1 (UInt64.ofNat (nj - 1)) 1) ++ itmsT lj) ++ numK 2 (UInt64.ofNat nha) 2) ++ xha) ++ numK 2 (UInt64.ofNat nhb) 2) ++ xhb := by unfold repT; rw [if_neg (by decide), if_neg (by decide), if_pos rfl]
      have hn2 : n = (32*nha + 32*nhb + (itmsT lj).length + 15) := by rw [← hn, e]; simp [A4, hlha, hlhb]; try omega
      subst hn2
      rw [e]
      exact rputRep2_c rq aj nj cj lj th pv ep kd ai ni ci l sa ns sc ls bl tg aha nha cha xha ahb nhb chb xhb (itmsT lj).length w hlj hnj hdj hcj hj hl hnm hnc hcm hv hls hnn hnd hcn hs htg hlha hnha hdha hcha hrha hlhb hnhb hdhb hchb hrhb hbi hbs hA hB hR rfl
    · have e : repT rq 3 0 nj lj th pv ep kd l ls bl tg nha xha nhb xhb = (((((numK 8 rq 8 ++ numK 1 (3:UInt64) 1) ++ numK 1 (0:UInt64) 1) ++ numK 2 (UInt64.ofNat nha) 2) ++ xha) ++ numK 2 (UInt64.ofNat nhb) 2) ++ xhb := by unfold repT; rw [if_neg (by decide), if_neg (by decide), if_neg (by decide), if_pos rfl]
      have hn2 : n = (32*nha + 32*nhb + 14) := by rw [← hn, e]; simp [A4, hlha, hlhb]; try omega
      subst hn2
      rw [e]
      exact rputRep3_c rq aj nj cj lj th pv ep kd ai ni ci l sa ns sc ls bl tg aha nha cha xha ahb nhb chb xhb w hlj hnj hdj hcj hj hl hnm hnc hcm hv hls hnn hnd hcn hs htg hlha hnha hdha hcha hrha hlhb hnhb hdhb hchb hrhb hbi hbs hA hB hR
    · cases th with
      | true =>
        have hmay := of_decide_eq_true (repR_my hR)
        rcases RightO_cases (mayN_right hmay) with ⟨rfl, _⟩ | ⟨rfl, _⟩ | ⟨rfl, _⟩
        · have e : repT rq 4 0 nj lj true pv ep 1 l ls bl tg nha xha nhb xhb = (((((((numK 8 rq 8 ++ numK 1 (4:UInt64) 1) ++ numK 1 (0:UInt64) 1) ++ numK 1 (bitU true) 1) ++ ((tktT pv ep 1 l ls bl) ++ tg)) ++ numK 2 (UInt64.ofNat nha) 2) ++ xha) ++ numK 2 (UInt64.ofNat nhb) 2) ++ xhb := by unfold repT; rw [if_neg (by decide), if_neg (by decide), if_neg (by decide), if_neg (by decide), if_pos rfl, if_pos rfl]; rfl
          have hn2 : n = (32*nha + 32*nhb + (tktN 1 ni ns) + 31) := by rw [← hn, e]; simp [A4, hlha, hlhb, htg, FG hl hls]; try omega
          subst hn2
          rw [e]
          exact rputRep4t_c rq aj nj cj lj pv ep 1 ai ni ci l sa ns sc ls bl tg aha nha cha xha ahb nhb chb xhb (tktN 1 ni ns) w hlj hnj hdj hcj hj hl hnm hnc hcm hv hls hnn hnd hcn hs htg hlha hnha hdha hcha hrha hlhb hnhb hdhb hchb hrhb hbi hbs hA hB hR hmay (.inl rfl) hbs rfl (tktN_le hbi hbs)
        · have e : repT rq 4 0 nj lj true pv ep 2 l ls bl tg nha xha nhb xhb = (((((((numK 8 rq 8 ++ numK 1 (4:UInt64) 1) ++ numK 1 (0:UInt64) 1) ++ numK 1 (bitU true) 1) ++ ((tktT pv ep 2 l ls bl) ++ tg)) ++ numK 2 (UInt64.ofNat nha) 2) ++ xha) ++ numK 2 (UInt64.ofNat nhb) 2) ++ xhb := by unfold repT; rw [if_neg (by decide), if_neg (by decide), if_neg (by decide), if_neg (by decide), if_pos rfl, if_pos rfl]; rfl
          have hn2 : n = (32*nha + 32*nhb + (tktN 2 ni ns) + 31) := by rw [← hn, e]; simp [A4, hlha, hlhb, htg, FG hl hls]; try omega
          subst hn2
          rw [e]
          exact rputRep4t_c rq aj nj cj lj pv ep 2 ai ni ci l sa ns sc ls bl tg aha nha cha xha ahb nhb chb xhb (tktN 2 ni ns) w hlj hnj hdj hcj hj hl hnm hnc hcm hv hls hnn hnd hcn hs htg hlha hnha hdha hcha hrha hlhb hnhb hdhb hchb hrhb hbi hbs hA hB hR hmay (.inr (.inl rfl)) hbs rfl (tktN_le hbi hbs)
        · have e : repT rq 4 0 nj lj true pv ep 3 l ls bl tg nha xha nhb xhb = (((((((numK 8 rq 8 ++ numK 1 (4:UInt64) 1) ++ numK 1 (0:UInt64) 1) ++ numK 1 (bitU true) 1) ++ ((tktT pv ep 3 l ls bl) ++ tg)) ++ numK 2 (UInt64.ofNat nha) 2) ++ xha) ++ numK 2 (UInt64.ofNat nhb) 2) ++ xhb := by unfold repT; rw [if_neg (by decide), if_neg (by decide), if_neg (by decide), if_neg (by decide), if_pos rfl, if_pos rfl]; rfl
          have hn2 : n = (32*nha + 32*nhb + (tktN 3 ni ns) + 31) := by rw [← hn, e]; simp [A4, hlha, hlhb, htg, FG hl hls]; try omega
          subst hn2
          rw [e]
          exact rputRep4t_c rq aj nj cj lj pv ep 3 ai ni ci l sa ns sc ls bl tg aha nha cha xha ahb nhb chb xhb (tktN 3 ni ns) w hlj hnj hdj hcj hj hl hnm hnc hcm hv hls hnn hnd hcn hs htg hlha hnha hdha hcha hrha hlhb hnhb hdhb hchb hrhb hbi hbs hA hB hR hmay (.inr (.inr rfl)) hbs rfl (tktN_le hbi hbs)
      | false =>
        have e : repT rq 4 0 nj lj false pv ep kd l ls bl tg nha xha nhb xhb = ((numK 8 rq 8 ++ numK 1 (4:UInt64) 1) ++ numK 1 (0:UInt64) 1) ++ numK 1 (bitU false) 1 := by unfold repT; rw [if_neg (by decide), if_neg (by decide), if_neg (by decide), if_neg (by decide), if_pos rfl, if_neg (by decide)]
        have hn2 : n = 11 := by rw [← hn, e]; simp [A4, hlha, hlhb]; try omega
        subst hn2
        rw [e]
        exact rputRep4f_c rq aj nj cj lj pv ep kd ai ni ci l sa ns sc ls bl tg aha nha cha xha ahb nhb chb xhb w hlj hnj hdj hcj hj hl hnm hnc hcm hv hls hnn hnd hcn hs htg hlha hnha hdha hcha hrha hlhb hnhb hdhb hchb hrhb hbi hbs hA hB hR
    · have e : repT rq 5 0 nj lj th pv ep kd l ls bl tg nha xha nhb xhb = (numK 8 rq 8 ++ numK 1 (5:UInt64) 1) ++ numK 1 (0:UInt64) 1 := by unfold repT; rw [if_neg (by decide), if_neg (by decide), if_neg (by decide), if_neg (by decide), if_neg (by decide)]
      have hn2 : n = 10 := by rw [← hn, e]; simp [A4, hlha, hlhb]; try omega
      subst hn2
      rw [e]
      exact rputRep5_c rq aj nj cj lj th pv ep kd ai ni ci l sa ns sc ls bl tg aha nha cha xha ahb nhb chb xhb w hlj hnj hdj hcj hj hl hnm hnc hcm hv hls hnn hnd hcn hs htg hlha hnha hdha hcha hrha hlhb hnhb hdhb hchb hrhb hbi hbs hA hB hR
  · obtain ⟨rk, rfl⟩ : ∃ m : Nat, rk = m := ⟨rk.toNat, by omega⟩
    obtain ⟨er, rfl⟩ : ∃ m : Nat, er = m := ⟨er.toNat, by omega⟩
    have e : repT rq (rk:Int) (er:Int) nj lj th pv ep kd l ls bl tg nha xha nhb xhb = (numK 8 rq 8 ++ numK 1 (UInt64.ofNat rk) 1) ++ numK 1 (UInt64.ofNat er) 1 := by unfold repT; rw [if_pos hE]; rfl
    have hn2 : n = 10 := by rw [← hn, e]; simp [A4, hlha, hlhb]; try omega
    subst hn2
    rw [e]
    exact rputRepE_c rq rk er aj nj cj lj th pv ep kd ai ni ci l sa ns sc ls bl tg aha nha cha xha ahb nhb chb xhb w hlj hnj hdj hcj hj hl hnm hnc hcm hv hls hnn hnd hcn hs htg hlha hnha hdha hcha hrha hlhb hnhb hdhb hchb hrhb hbi hbs hA hB hR hE
theorem large14_c (rq : UInt64) (rk er : Int) (aj : Option Addr) (nj cj : Nat) (lj : List ItemR) (th : Bool) (pv ep : UInt64) (kd : Int) (ai : Option Addr) (ni ci : Nat) (l : List UInt64) (sa : Option Addr) (ns sc : Nat) (ls : List SealR) (bl : UInt64) (tg : List UInt8) (aha : Option Addr) (nha cha : Nat) (xha : List UInt8) (ahb : Option Addr) (nhb chb : Nat) (xhb : List UInt8)  (w : World) (htg : tg.length = 16)  : Calls Tryd.prog 31 #[.agg ([U64 rq, I64 (rk), I64 (er), SL aj nj cj, .bool th, U64 pv, U64 ep, I64 (kd), SL ai ni ci, SL sa ns sc, U64 bl] ++ cu8 tg ++ [SL aha nha cha, SL ahb nhb chb]).toArray] w (Post w [] (fun v L => v = .bool (decide (LargeQ nj nha nhb ni ns)) ∧ L = [])) := by
 have hmx : maxLen = 9223372036854775807 := rfl
 refine enter (P := Tryd.prog) (f := 31) (fn := Tryd.f31) w [] 37 [] [.agg ([U64 rq, I64 (rk), I64 (er), SL aj nj cj, .bool th, U64 pv, U64 ep, I64 (kd), SL ai ni ci, SL sa ns sc, U64 bl] ++ cu8 tg ++ [SL aha nha cha, SL ahb nhb chb]).toArray] Tryd.func31 rfl rfl (by simp) (CC (by simp) (by simp) (by simp)) ?_
 show JC _ _ _ [(0, .agg ([U64 rq, I64 (rk), I64 (er), SL aj nj cj, .bool th, U64 pv, U64 ep, I64 (kd), SL ai ni ci, SL sa ns sc, U64 bl] ++ cu8 tg ++ [SL aha nha cha, SL ahb nhb chb]).toArray)] _
 refine AK (AD (A9 (CL (.agg ([U64 rq, I64 (rk), I64 (er), SL aj nj cj, .bool th, U64 pv, U64 ep, I64 (kd), SL ai ni ci, SL sa ns sc, U64 bl] ++ cu8 tg ++ [SL aha nha cha, SL ahb nhb chb]).toArray) ([U64 rq, I64 (rk), I64 (er), SL aj nj cj, .bool th, U64 pv, U64 ep, I64 (kd), SL ai ni ci, SL sa ns sc, U64 bl] ++ cu8 tg ++ [SL aha nha cha, SL ahb nhb chb]) rfl (by first | rfl | simp)) rfl ?_))
 rintro v1 L1 ⟨nb1, hnb1, rfl, rfl⟩
 show JL _ _ _ _ ((1, Ptr nb1 0) :: _) [⟨nb1, [U64 rq, I64 (rk), I64 (er), SL aj nj cj, .bool th, U64 pv, U64 ep, I64 (kd), SL ai ni ci, SL sa ns sc, U64 bl] ++ cu8 tg ++ [SL aha nha cha, SL ahb nhb chb], 67, (0, 0)⟩]
 refine AA _ (AH rfl) rfl ?_
 refine AN (AF (AK (AD (AA (Ptr nb1 3) (AB 3 64 1 AM rfl D5 rfl rfl) rfl ?_))))
 refine AA (SL aj nj cj) (AI rfl (AQ EE (AS 0 rfl (AG (AG (AE (AE (AE (Seg.head))))))))) rfl ?_
 refine AA (I64 nj) (CY CF rfl) rfl ?_
 refine AA (.bool (decide ((300:Int) < ((nj:Int))))) (AU rfl rfl fun _ => D1 _ _) rfl ?_
 refine AA _ (AL rfl) rfl ?_
 rcases Bool.eq_false_or_eq_true (decide ((300:Int) < ((nj:Int)))) with hb1 | hb1
 ·
  have hp1 : (300:Int) < ((nj:Int)) := of_decide_eq_true hb1
  refine AC 4 7 false _ rfl rfl hb1 rfl ?_
  refine AC 4 7 false _ rfl rfl hb1 rfl ?_
  refine AC 4 7 false _ rfl rfl hb1 rfl ?_
  refine AC 4 7 false _ rfl rfl hb1 rfl ?_
  refine AA _ (A2 _ rfl hb1 rfl) rfl ?_
  refine AA _ (AL rfl) rfl ?_
  refine AC 10 13 false _ rfl rfl rfl rfl ?_
  refine AC 10 13 false _ rfl rfl rfl rfl ?_
  refine AC 10 13 false _ rfl rfl rfl rfl ?_
  refine AC 10 13 false _ rfl rfl rfl rfl ?_
  refine AC 10 13 false _ rfl rfl rfl rfl ?_
  refine BX 15 18 true rfl rfl rfl ?_
  refine BX 15 18 true rfl rfl rfl ?_
  refine BX 15 18 true rfl rfl rfl ?_
  refine BX 15 18 true rfl rfl rfl ?_
  refine AC 10 13 false _ rfl rfl rfl rfl ?_
  refine AA _ (A2 _ rfl rfl rfl) rfl ?_
  refine AA _ (AL rfl) rfl ?_
  refine AC 22 25 false _ rfl rfl rfl rfl ?_
  refine AC 22 25 false _ rfl rfl rfl rfl ?_
  refine AC 22 25 false _ rfl rfl rfl rfl ?_
  refine AC 22 25 false _ rfl rfl rfl rfl ?_
  refine AA _ (A2 _ rfl rfl rfl) rfl ?_
  refine AA _ (AL rfl) rfl ?_
  refine AC 28 31 false _ rfl rfl rfl rfl ?_
  refine AC 28 31 false _ rfl rfl rfl rfl ?_
  refine AC 28 31 false _ rfl rfl rfl rfl ?_
  refine AC 28 31 false _ rfl rfl rfl rfl ?_
  refine AA _ (A2 _ rfl rfl rfl) rfl ?_
  refine AA _ (AH rfl) rfl ?_
  refine AN (AF (BK (BP [false] ?_)))
  show JQ _ _ _ _ []
  refine BJ (.bool true) (res1 Tryd.results31 (BH rfl)) fun w1 hw1 => ?_
  refine ⟨_, [], rfl, ⟨congrArg Value.bool ?_, rfl⟩, hw1.sub (by simp) (by simp)⟩
  first | exact (decide_eq_true (by unfold LargeQ LargeP; omega)).symm | exact (decide_eq_false (by unfold LargeQ LargeP; omega)).symm | exact decide_eq_decide.2 (by unfold LargeQ LargeP; omega)
 ·
  have hp1 : ¬ ((300:Int) < ((nj:Int))) := of_decide_eq_false hb1
  refine AP 4 7 false _ (Ptr nb1 27) rfl rfl hb1 (AB 27 65 1 AM rfl BR rfl rfl) rfl ?_
  refine AP 4 7 false _ (SL aha nha cha) rfl rfl hb1 (AI rfl (AQ BU (AS 0 rfl (Seg.right 27 0 (by simp [htg]) rfl (Seg.head))))) rfl ?_
  refine AP 4 7 false _ (I64 nha) rfl rfl hb1 (CY BS rfl) rfl ?_
  refine AP 4 7 false _ (.bool (decide ((300:Int) < ((nha:Int))))) rfl rfl hb1 (AU rfl rfl fun _ => D1 _ _) rfl ?_
  refine AA _ (A0 _ rfl hb1 rfl) rfl ?_
  refine AA _ (AL rfl) rfl ?_
  rcases Bool.eq_false_or_eq_true (decide ((300:Int) < ((nha:Int)))) with hb2 | hb2
  ·
   have hp2 : (300:Int) < ((nha:Int)) := of_decide_eq_true hb2
   refine AC 10 13 false _ rfl rfl hb2 rfl ?_
   refine AC 10 13 false _ rfl rfl hb2 rfl ?_
   refine AC 10 13 false _ rfl rfl hb2 rfl ?_
   refine AC 10 13 false _ rfl rfl hb2 rfl ?_
   refine AC 10 13 false _ rfl rfl hb2 rfl ?_
   refine BX 15 18 true rfl rfl rfl ?_
   refine BX 15 18 true rfl rfl rfl ?_
   refine BX 15 18 true rfl rfl rfl ?_
   refine BX 15 18 true rfl rfl rfl ?_
   refine AC 10 13 false _ rfl rfl hb2 rfl ?_
   refine AA _ (A2 _ rfl hb2 rfl) rfl ?_
   refine AA _ (AL rfl) rfl ?_
   refine AC 22 25 false _ rfl rfl rfl rfl ?_
   refine AC 22 25 false _ rfl rfl rfl rfl ?_
   refine AC 22 25 false _ rfl rfl rfl rfl ?_
   refine AC 22 25 false _ rfl rfl rfl rfl ?_
   refine AA _ (A2 _ rfl rfl rfl) rfl ?_
   refine AA _ (AL rfl) rfl ?_
   refine AC 28 31 false _ rfl rfl rfl rfl ?_
   refine AC 28 31 false _ rfl rfl rfl rfl ?_
   refine AC 28 31 false _ rfl rfl rfl rfl ?_
   refine AC 28 31 false _ rfl rfl rfl rfl ?_
   refine AA _ (A2 _ rfl rfl rfl) rfl ?_
   refine AA _ (AH rfl) rfl ?_
   refine AN (AF (BK (BP [false] ?_)))
   show JQ _ _ _ _ []
   refine BJ (.bool true) (res1 Tryd.results31 (BH rfl)) fun w1 hw1 => ?_
   refine ⟨_, [], rfl, ⟨congrArg Value.bool ?_, rfl⟩, hw1.sub (by simp) (by simp)⟩
   first | exact (decide_eq_true (by unfold LargeQ LargeP; omega)).symm | exact (decide_eq_false (by unfold LargeQ LargeP; omega)).symm | exact decide_eq_decide.2 (by unfold LargeQ LargeP; omega)
  ·
   have hp2 : ¬ ((300:Int) < ((nha:Int))) := of_decide_eq_false hb2
   refine AP 10 13 false _ (Ptr nb1 28) rfl rfl hb2 (AB 28 65 1 AM rfl BR rfl rfl) rfl ?_
   refine AP 10 13 false _ (SL ahb nhb chb) rfl rfl hb2 (AI rfl (AQ BU (AS 0 rfl (Seg.right 27 1 (by simp [htg]) rfl (AE (Seg.head)))))) rfl ?_
   refine AP 10 13 false _ (I64 nhb) rfl rfl hb2 (CY BS rfl) rfl ?_
   refine AP 10 13 false _ (.bool (decide ((300:Int) < ((nhb:Int))))) rfl rfl hb2 (AU rfl rfl fun _ => D1 _ _) rfl ?_
   refine AP 10 13 false _ _ rfl rfl hb2 (AL rfl) rfl ?_
   rcases Bool.eq_false_or_eq_true (decide ((300:Int) < ((nhb:Int)))) with hb3 | hb3
   ·
    have hp3 : (300:Int) < ((nhb:Int)) := of_decide_eq_true hb3
    refine AP 15 18 true _ (Ptr nb1 28) rfl rfl hb3 (AB 28 65 1 AM rfl BR rfl rfl) rfl ?_
    refine AP 15 18 true _ (SL ahb nhb chb) rfl rfl hb3 (AI rfl (AQ BU (AS 0 rfl (Seg.right 27 1 (by simp [htg]) rfl (AE (Seg.head)))))) rfl ?_
    refine AP 15 18 true _ (I64 nhb) rfl rfl hb3 (CY BS rfl) rfl ?_
    refine AP 15 18 true _ (.bool (decide (((nhb:Int)) ≤ (8192:Int)))) rfl rfl hb3 (AU rfl rfl fun _ => bin_leq_i _ _) rfl ?_
    refine AP 10 13 false _ _ rfl rfl hb2 (A2 _ rfl hb3 rfl) rfl ?_
    refine AA _ (A0 _ rfl hb2 rfl) rfl ?_
    refine AA _ (AL rfl) rfl ?_
    rcases Bool.eq_false_or_eq_true (decide (((nhb:Int)) ≤ (8192:Int))) with hb4 | hb4
    ·
     have hp4 : ((nhb:Int)) ≤ (8192:Int) := of_decide_eq_true hb4
     refine AC 22 25 false _ rfl rfl hb4 rfl ?_
     refine AC 22 25 false _ rfl rfl hb4 rfl ?_
     refine AC 22 25 false _ rfl rfl hb4 rfl ?_
     refine AC 22 25 false _ rfl rfl hb4 rfl ?_
     refine AA _ (A2 _ rfl hb4 rfl) rfl ?_
     refine AA _ (AL rfl) rfl ?_
     refine AC 28 31 false _ rfl rfl rfl rfl ?_
     refine AC 28 31 false _ rfl rfl rfl rfl ?_
     refine AC 28 31 false _ rfl rfl rfl rfl ?_
     refine AC 28 31 false _ rfl rfl rfl rfl ?_
     refine AA _ (A2 _ rfl rfl rfl) rfl ?_
     refine AA _ (AH rfl) rfl ?_
     refine AN (AF (BK (BP [false] ?_)))
     show JQ _ _ _ _ []
     refine BJ (.bool true) (res1 Tryd.results31 (BH rfl)) fun w1 hw1 => ?_
     refine ⟨_, [], rfl, ⟨congrArg Value.bool ?_, rfl⟩, hw1.sub (by simp) (by simp)⟩
     first | exact (decide_eq_true (by unfold LargeQ LargeP; omega)).symm | exact (decide_eq_false (by unfold LargeQ LargeP; omega)).symm | exact decide_eq_decide.2 (by unfold LargeQ LargeP; omega)
    ·
     have hp4 : ¬ (((nhb:Int)) ≤ (8192:Int)) := of_decide_eq_false hb4
     refine AP 22 25 false _ (Ptr nb1 28) rfl rfl hb4 (AB 28 65 1 AM rfl BR rfl rfl) rfl ?_
     refine AP 22 25 false _ (SL ahb nhb chb) rfl rfl hb4 (AI rfl (AQ BU (AS 0 rfl (Seg.right 27 1 (by simp [htg]) rfl (AE (Seg.head)))))) rfl ?_
     refine AP 22 25 false _ (I64 nhb) rfl rfl hb4 (CY BS rfl) rfl ?_
     refine AP 22 25 false _ (.bool (decide ((9000:Int) < ((nhb:Int))))) rfl rfl hb4 (AU rfl rfl fun _ => D1 _ _) rfl ?_
     refine AA _ (A0 _ rfl hb4 rfl) rfl ?_
     refine AA _ (AL rfl) rfl ?_
     rcases Bool.eq_false_or_eq_true (decide ((9000:Int) < ((nhb:Int)))) with hb5 | hb5
     ·
      have hp5 : (9000:Int) < ((nhb:Int)) := of_decide_eq_true hb5
      refine AC 28 31 false _ rfl rfl hb5 rfl ?_
      refine AC 28 31 false _ rfl rfl hb5 rfl ?_
      refine AC 28 31 false _ rfl rfl hb5 rfl ?_
      refine AC 28 31 false _ rfl rfl hb5 rfl ?_
      refine AA _ (A2 _ rfl hb5 rfl) rfl ?_
      refine AA _ (AH rfl) rfl ?_
      refine AN (AF (BK (BP [false] ?_)))
      show JQ _ _ _ _ []
      refine BJ (.bool true) (res1 Tryd.results31 (BH rfl)) fun w1 hw1 => ?_
      refine ⟨_, [], rfl, ⟨congrArg Value.bool ?_, rfl⟩, hw1.sub (by simp) (by simp)⟩
      first | exact (decide_eq_true (by unfold LargeQ LargeP; omega)).symm | exact (decide_eq_false (by unfold LargeQ LargeP; omega)).symm | exact decide_eq_decide.2 (by unfold LargeQ LargeP; omega)
     ·
      have hp5 : ¬ ((9000:Int) < ((nhb:Int))) := of_decide_eq_false hb5
      refine AP 28 31 false _ (Ptr nb1 5) rfl rfl hb5 (AB 5 29 22 AM rfl DJ rfl rfl) rfl ?_
      refine AP 28 31 false _ (Ptr nb1 7) rfl rfl hb5 (AB 2 26 4 A7 rfl B7 rfl rfl) rfl ?_
      refine AP 28 31 false _ (.agg #[I64 (kd), SL ai ni ci, SL sa ns sc, U64 bl]) rfl rfl hb5 (AI rfl (BV D9 B7 rfl (AS 0 rfl (C6 (p := [U64 rq, I64 (rk), I64 (er), SL aj nj cj, .bool th, U64 pv, U64 ep]) (q := cu8 tg ++ [SL aha nha cha, SL ahb nhb chb]) (vs := [I64 (kd), SL ai ni ci, SL sa ns sc, U64 bl]) (by first | rfl | (simp only [List.append_assoc, List.nil_append, List.append_nil, List.cons_append]; done)) rfl)))) rfl ?_
      refine ET 28 31 false _ rfl rfl hb5 (BG 18 [.agg #[I64 (kd), SL ai ni ci, SL sa ns sc, U64 bl]] (.bool (decide (LargeP ni ns))) (A6 _ Tryd.call18 rfl) (fun w1 hw1 => large_c (kd) ai ni ci l sa ns sc ls bl w1 )) rfl ?_
      rintro v1 L1 ⟨rfl, rfl⟩
      show JL _ _ _ _ ((35, .bool (decide (LargeP ni ns))) :: _) [_]
      refine AA _ (A0 _ rfl hb5 rfl) rfl ?_
      refine AA _ (AH rfl) rfl ?_
      refine AN (AF (BK (BP [false] ?_)))
      show JQ _ _ _ _ []
      refine BJ (.bool (decide (LargeP ni ns))) (res1 Tryd.results31 (BH rfl)) fun w1 hw1 => ?_
      refine ⟨_, [], rfl, ⟨congrArg Value.bool ?_, rfl⟩, hw1.sub (by simp) (by simp)⟩
      first | exact (decide_eq_true (by unfold LargeQ LargeP; omega)).symm | exact (decide_eq_false (by unfold LargeQ LargeP; omega)).symm | exact decide_eq_decide.2 (by unfold LargeQ LargeP; omega)
   ·
    have hp3 : ¬ ((300:Int) < ((nhb:Int))) := of_decide_eq_false hb3
    refine AC 15 18 true _ rfl rfl hb3 rfl ?_
    refine AC 15 18 true _ rfl rfl hb3 rfl ?_
    refine AC 15 18 true _ rfl rfl hb3 rfl ?_
    refine AC 15 18 true _ rfl rfl hb3 rfl ?_
    refine AP 10 13 false _ _ rfl rfl hb2 (A0 _ rfl hb3 rfl) rfl ?_
    refine AA _ (A0 _ rfl hb2 rfl) rfl ?_
    refine AA _ (AL rfl) rfl ?_
    refine AP 22 25 false _ (Ptr nb1 28) rfl rfl rfl (AB 28 65 1 AM rfl BR rfl rfl) rfl ?_
    refine AP 22 25 false _ (SL ahb nhb chb) rfl rfl rfl (AI rfl (AQ BU (AS 0 rfl (Seg.right 27 1 (by simp [htg]) rfl (AE (Seg.head)))))) rfl ?_
    refine AP 22 25 false _ (I64 nhb) rfl rfl rfl (CY BS rfl) rfl ?_
    refine AP 22 25 false _ (.bool (decide ((9000:Int) < ((nhb:Int))))) rfl rfl rfl (AU rfl rfl fun _ => D1 _ _) rfl ?_
    refine AA _ (A0 _ rfl rfl rfl) rfl ?_
    refine AA _ (AL rfl) rfl ?_
    rcases Bool.eq_false_or_eq_true (decide ((9000:Int) < ((nhb:Int)))) with hb6 | hb6
    ·
     have hp6 : (9000:Int) < ((nhb:Int)) := of_decide_eq_true hb6
     refine AC 28 31 false _ rfl rfl hb6 rfl ?_
     refine AC 28 31 false _ rfl rfl hb6 rfl ?_
     refine AC 28 31 false _ rfl rfl hb6 rfl ?_
     refine AC 28 31 false _ rfl rfl hb6 rfl ?_
     refine AA _ (A2 _ rfl hb6 rfl) rfl ?_
     refine AA _ (AH rfl) rfl ?_
     refine AN (AF (BK (BP [false] ?_)))
     show JQ _ _ _ _ []
     refine BJ (.bool true) (res1 Tryd.results31 (BH rfl)) fun w1 hw1 => ?_
     refine ⟨_, [], rfl, ⟨congrArg Value.bool ?_, rfl⟩, hw1.sub (by simp) (by simp)⟩
     first | exact (decide_eq_true (by unfold LargeQ LargeP; omega)).symm | exact (decide_eq_false (by unfold LargeQ LargeP; omega)).symm | exact decide_eq_decide.2 (by unfold LargeQ LargeP; omega)
    ·
     have hp6 : ¬ ((9000:Int) < ((nhb:Int))) := of_decide_eq_false hb6
     refine AP 28 31 false _ (Ptr nb1 5) rfl rfl hb6 (AB 5 29 22 AM rfl DJ rfl rfl) rfl ?_
     refine AP 28 31 false _ (Ptr nb1 7) rfl rfl hb6 (AB 2 26 4 A7 rfl B7 rfl rfl) rfl ?_
     refine AP 28 31 false _ (.agg #[I64 (kd), SL ai ni ci, SL sa ns sc, U64 bl]) rfl rfl hb6 (AI rfl (BV D9 B7 rfl (AS 0 rfl (C6 (p := [U64 rq, I64 (rk), I64 (er), SL aj nj cj, .bool th, U64 pv, U64 ep]) (q := cu8 tg ++ [SL aha nha cha, SL ahb nhb chb]) (vs := [I64 (kd), SL ai ni ci, SL sa ns sc, U64 bl]) (by first | rfl | (simp only [List.append_assoc, List.nil_append, List.append_nil, List.cons_append]; done)) rfl)))) rfl ?_
     refine ET 28 31 false _ rfl rfl hb6 (BG 18 [.agg #[I64 (kd), SL ai ni ci, SL sa ns sc, U64 bl]] (.bool (decide (LargeP ni ns))) (A6 _ Tryd.call18 rfl) (fun w1 hw1 => large_c (kd) ai ni ci l sa ns sc ls bl w1 )) rfl ?_
     rintro v1 L1 ⟨rfl, rfl⟩
     show JL _ _ _ _ ((35, .bool (decide (LargeP ni ns))) :: _) [_]
     refine AA _ (A0 _ rfl hb6 rfl) rfl ?_
     refine AA _ (AH rfl) rfl ?_
     refine AN (AF (BK (BP [false] ?_)))
     show JQ _ _ _ _ []
     refine BJ (.bool (decide (LargeP ni ns))) (res1 Tryd.results31 (BH rfl)) fun w1 hw1 => ?_
     refine ⟨_, [], rfl, ⟨congrArg Value.bool ?_, rfl⟩, hw1.sub (by simp) (by simp)⟩
     first | exact (decide_eq_true (by unfold LargeQ LargeP; omega)).symm | exact (decide_eq_false (by unfold LargeQ LargeP; omega)).symm | exact decide_eq_decide.2 (by unfold LargeQ LargeP; omega)
theorem docGZ_c (pv ep : UInt64) (kd : Int) (ai : Option Addr) (ni ci : Nat) (l : List UInt64) (sa : Option Addr) (sc : Nat) (bl : UInt64) (tg : List UInt8)  (w : World) (hl : l.length = ni) (hnm : ni ≤ 2000000) (hnc : ni ≤ ci) (hcm : ci ≤ maxLen) (hv : RdV w ai (cu64 l)) (hcs : sc ≤ maxLen) (hnS : sa = none → sc = 0) (htg : tg.length = 16)  : Calls Tryd.prog 44 #[.agg ([U64 pv, U64 ep, I64 (kd), SL ai ni ci, SL sa 0 sc, U64 bl] ++ cu8 tg).toArray] w (Post w [] (fun v L => ∃ g cs T a c, v = .agg ([U64 pv, U64 ep, I64 kd, SL ai ni ci, SL a 0 c, U64 bl] ++ cu8 tg).toArray ∧ L = [⟨g, cs, T, (0, 0)⟩] ∧ Gh (([] : List SealR).flatMap sealC) g cs a ∧ 0 ≤ c ∧ c ≤ maxLen)) := by
 have hmx : maxLen = 9223372036854775807 := rfl
 refine enter (P := Tryd.prog) (f := 44) (fn := Tryd.f44) w [] 13 [] [.agg ([U64 pv, U64 ep, I64 (kd), SL ai ni ci, SL sa 0 sc, U64 bl] ++ cu8 tg).toArray] Tryd.func44 rfl rfl (by simp) (CC (by simp) (by simp) (by simp)) ?_
 show JC _ _ _ [(0, .agg ([U64 pv, U64 ep, I64 (kd), SL ai ni ci, SL sa 0 sc, U64 bl] ++ cu8 tg).toArray)] _
 refine AK (AD (A9 (CL (.agg ([U64 pv, U64 ep, I64 (kd), SL ai ni ci, SL sa 0 sc, U64 bl] ++ cu8 tg).toArray) ([U64 pv, U64 ep, I64 (kd), SL ai ni ci, SL sa 0 sc, U64 bl] ++ cu8 tg) rfl (by first | rfl | simp)) rfl ?_))
 rintro v1 L1 ⟨nb1, hnb1, rfl, rfl⟩
 show JL _ _ _ _ ((1, Ptr nb1 0) :: _) [⟨nb1, [U64 pv, U64 ep, I64 (kd), SL ai ni ci, SL sa 0 sc, U64 bl] ++ cu8 tg, 29, (0, 0)⟩]
 refine A9 (DI _ ([U64 0, U64 0, I64 0, SL none 0 0, SL none 0 0, U64 0] ++ cu8 (zr8 16)) Tryd.zeroValue38 (by kernel_rfl)) rfl ?_
 rintro v1 L1 ⟨nb2, hnb2, rfl, rfl⟩
 show JL _ _ _ _ ((2, Ptr nb2 0) :: _) [_, ⟨nb2, [U64 0, U64 0, I64 0, SL none 0 0, SL none 0 0, U64 0] ++ cu8 (zr8 16), 38, (0, 0)⟩]
 refine AN (AF (AK (DH 13 3 [(0, Ptr nb1 0), (1, U64 pv), (2, Ptr nb1 1), (3, U64 ep), (4, Ptr nb1 2), (5, .agg #[I64 (kd), SL ai ni ci, SL sa 0 sc, U64 bl]), (7, Ptr nb1 6), (8, .agg (cu8 tg).toArray)] B8 rfl (by decide +kernel) ?_)))
 refine CZ ⟨[], [0, 1, 2, 3, 4, 5, 7, 8], [], [0, 1, 2, 3, 4, 5, 7, 8], [6]⟩ 6 _ rfl rfl (by decide +kernel) rfl ⟨⟨_, rfl, AJ rfl (AB 0 22 1 A7 rfl AX rfl rfl)⟩, ⟨_, rfl, AJ rfl (AI rfl (AQ AY (AS 0 rfl (AG (Seg.head)))))⟩, ⟨_, rfl, AJ rfl (AB 1 22 1 A7 rfl AX rfl rfl)⟩, ⟨_, rfl, AJ rfl (AI rfl (AQ AY (AS 0 rfl (AG (AE (Seg.head))))))⟩, ⟨_, rfl, AJ rfl (AB 2 26 4 A7 rfl B7 rfl rfl)⟩, ⟨_, rfl, AJ rfl (AI rfl (BV D9 B7 rfl (AS 0 rfl (C6 (p := [U64 pv, U64 ep]) (q := cu8 tg) (vs := [I64 (kd), SL ai ni ci, SL sa 0 sc, U64 bl]) (by first | rfl | (simp only [List.append_assoc, List.nil_append, List.append_nil, List.cons_append]; done)) rfl))))⟩, ⟨_, rfl, AJ rfl (AB 6 27 16 A7 rfl CN rfl rfl)⟩, ⟨_, rfl, AJ rfl (AI rfl (BV DY CN (D7 htg) (AS 0 rfl (Seg.right 6 0 rfl rfl (AV _)))))⟩, trivial⟩ rfl (BI rfl (BG 66 [.agg #[I64 (kd), SL ai ni ci, SL sa 0 sc, U64 bl]] (.agg #[I64 (kd), SL ai ni ci, SL none 0 0, U64 bl]) (A6 _ Tryd.call66 rfl) (fun w1 hw1 => order0_c (kd) ai ni ci l sa 0 sc ([] : List SealR) bl w1 hl (by omega) (by omega) (by omega) (CA hw1 rfl hv) rfl (by omega) (by omega) (by omega) RdV.nil rfl))) ?_
 rintro v1 L1 ⟨rfl, rfl⟩
 refine ⟨[(9, .agg ([U64 pv, U64 ep, I64 (kd), SL ai ni ci, SL none 0 0, U64 bl] ++ cu8 tg).toArray)], ?_⟩
 show DP _ _ _ _ _ _ _ _ [_, _]
 refine FH ⟨[6], [0, 1, 2, 3, 4, 5, 7, 8, 9], [4, 5], [0, 1, 2, 3, 7, 8, 9], [10]⟩ 10 rfl rfl (by decide +kernel) rfl ⟨⟨_, rfl, AJ rfl (AB 0 22 1 A7 rfl AX rfl rfl)⟩, ⟨_, rfl, AJ rfl (AI rfl (AQ AY (AS 0 rfl (AG (Seg.head)))))⟩, ⟨_, rfl, AJ rfl (AB 1 22 1 A7 rfl AX rfl rfl)⟩, ⟨_, rfl, AJ rfl (AI rfl (AQ AY (AS 0 rfl (AG (AE (Seg.head))))))⟩, ⟨_, rfl, AJ rfl (AB 6 27 16 A7 rfl CN rfl rfl)⟩, ⟨_, rfl, AJ rfl (AI rfl (BV DY CN (D7 htg) (AS 0 rfl (Seg.right 6 0 rfl rfl (AV _)))))⟩, ⟨_, rfl, AJ rfl (EB [(0, U64 pv), (1, U64 ep), (2, .agg #[I64 (kd), SL ai ni ci, SL none 0 0, U64 bl]), (3, .agg (cu8 tg).toArray)] _ rfl (fun _ => bld38_0123 rfl rfl (by simp [B6]) (by simp [B6, htg])))⟩, trivial⟩ rfl (BI rfl (CW 1 nb2 22 ([U64 0, U64 0, I64 0, SL none 0 0, SL none 0 0, U64 0] ++ cu8 (zr8 16)) 38 ([U64 pv, U64 ep, I64 (kd), SL ai ni ci, SL none 0 0, U64 bl] ++ cu8 tg) rfl rfl rfl D6 (by simp [htg]) (EH (by simp [Value.oneCell']) FE) (by simp [(B6 16)]) (DC (by simp [(B6 16), htg])))) ?_
 show DP _ _ _ _ _ _ _ _ [_, ⟨nb2, [U64 pv, U64 ep, I64 (kd), SL ai ni ci, SL none 0 0, U64 bl] ++ cu8 tg, 38, (0, 0)⟩]
 refine DN ⟨[6, 10], [0, 1, 2, 3, 4, 5, 7, 8, 9], [0, 1, 2, 3, 4, 5, 7, 8, 9], [], []⟩ rfl rfl (by decide +kernel) rfl trivial ?_
 refine C7 (F' := [(2, Ptr nb2 0)]) (by kernel_rfl) ?_
 refine AF (BK (BJ (.agg ([U64 pv, U64 ep, I64 (kd), SL ai ni ci, SL none 0 0, U64 bl] ++ cu8 tg).toArray) (res1 Tryd.results44 (F6 rfl (BV Tryd.isAgg38 D6 (by simp [htg]) (AS 1 rfl (AV _))))) fun w1 hw1 => ?_))
 exact ⟨_, _, rfl, ⟨_, _, _, none, 0, rfl, rfl, .inl rfl, by first | omega | (unfold maxLen; omega), by first | omega | (unfold maxLen; omega)⟩, Hp.one hw1 0 rfl⟩
theorem docGP_c (pv ep : UInt64) (kd : Int) (ai : Option Addr) (ni ci : Nat) (l : List UInt64) (sa : Option Addr) (ns sc : Nat) (ls : List SealR) (bl : UInt64) (tg : List UInt8)  (w : World) (hl : l.length = ni) (hnm : ni ≤ 2000000) (hnc : ni ≤ ci) (hcm : ci ≤ maxLen) (hv : RdV w ai (cu64 l)) (hls : ls.length = ns) (hnn : ns ≤ 2000000) (hnd : ns ≤ sc) (hcn : sc ≤ maxLen) (hs : RdV w sa (ls.flatMap sealC)) (hp0 : 0 < ns) (htg : tg.length = 16)  : Calls Tryd.prog 44 #[.agg ([U64 pv, U64 ep, I64 (kd), SL ai ni ci, SL sa ns sc, U64 bl] ++ cu8 tg).toArray] w (Post w [] (fun v L => ∃ g cs T a c, v = .agg ([U64 pv, U64 ep, I64 kd, SL ai ni ci, SL a ns c, U64 bl] ++ cu8 tg).toArray ∧ L = [⟨g, cs, T, (0, 0)⟩] ∧ Gh (ls.flatMap sealC) g cs a ∧ ns ≤ c ∧ c ≤ maxLen)) := by
 have hmx : maxLen = 9223372036854775807 := rfl
 refine enter (P := Tryd.prog) (f := 44) (fn := Tryd.f44) w [] 13 [] [.agg ([U64 pv, U64 ep, I64 (kd), SL ai ni ci, SL sa ns sc, U64 bl] ++ cu8 tg).toArray] Tryd.func44 rfl rfl (by simp) (CC (by simp) (by simp) (by simp)) ?_
 show JC _ _ _ [(0, .agg ([U64 pv, U64 ep, I64 (kd), SL ai ni ci, SL sa ns sc, U64 bl] ++ cu8 tg).toArray)] _
 refine AK (AD (A9 (CL (.agg ([U64 pv, U64 ep, I64 (kd), SL ai ni ci, SL sa ns sc, U64 bl] ++ cu8 tg).toArray) ([U64 pv, U64 ep, I64 (kd), SL ai ni ci, SL sa ns sc, U64 bl] ++ cu8 tg) rfl (by first | rfl | simp)) rfl ?_))
 rintro v1 L1 ⟨nb1, hnb1, rfl, rfl⟩
 show JL _ _ _ _ ((1, Ptr nb1 0) :: _) [⟨nb1, [U64 pv, U64 ep, I64 (kd), SL ai ni ci, SL sa ns sc, U64 bl] ++ cu8 tg, 29, (0, 0)⟩]
 refine A9 (DI _ ([U64 0, U64 0, I64 0, SL none 0 0, SL none 0 0, U64 0] ++ cu8 (zr8 16)) Tryd.zeroValue38 (by kernel_rfl)) rfl ?_
 rintro v1 L1 ⟨nb2, hnb2, rfl, rfl⟩
 show JL _ _ _ _ ((2, Ptr nb2 0) :: _) [_, ⟨nb2, [U64 0, U64 0, I64 0, SL none 0 0, SL none 0 0, U64 0] ++ cu8 (zr8 16), 38, (0, 0)⟩]
 refine AN (AF (AK (DH 13 3 [(0, Ptr nb1 0), (1, U64 pv), (2, Ptr nb1 1), (3, U64 ep), (4, Ptr nb1 2), (5, .agg #[I64 (kd), SL ai ni ci, SL sa ns sc, U64 bl]), (7, Ptr nb1 6), (8, .agg (cu8 tg).toArray)] B8 rfl (by decide +kernel) ?_)))
 refine CZ ⟨[], [0, 1, 2, 3, 4, 5, 7, 8], [], [0, 1, 2, 3, 4, 5, 7, 8], [6]⟩ 6 _ rfl rfl (by decide +kernel) rfl ⟨⟨_, rfl, AJ rfl (AB 0 22 1 A7 rfl AX rfl rfl)⟩, ⟨_, rfl, AJ rfl (AI rfl (AQ AY (AS 0 rfl (AG (Seg.head)))))⟩, ⟨_, rfl, AJ rfl (AB 1 22 1 A7 rfl AX rfl rfl)⟩, ⟨_, rfl, AJ rfl (AI rfl (AQ AY (AS 0 rfl (AG (AE (Seg.head))))))⟩, ⟨_, rfl, AJ rfl (AB 2 26 4 A7 rfl B7 rfl rfl)⟩, ⟨_, rfl, AJ rfl (AI rfl (BV D9 B7 rfl (AS 0 rfl (C6 (p := [U64 pv, U64 ep]) (q := cu8 tg) (vs := [I64 (kd), SL ai ni ci, SL sa ns sc, U64 bl]) (by first | rfl | (simp only [List.append_assoc, List.nil_append, List.append_nil, List.cons_append]; done)) rfl))))⟩, ⟨_, rfl, AJ rfl (AB 6 27 16 A7 rfl CN rfl rfl)⟩, ⟨_, rfl, AJ rfl (AI rfl (BV DY CN (D7 htg) (AS 0 rfl (Seg.right 6 0 rfl rfl (AV _)))))⟩, trivial⟩ rfl (BI rfl (CG 66 [.agg #[I64 (kd), SL ai ni ci, SL sa ns sc, U64 bl]] _ (A6 _ Tryd.call66 rfl) (fun w1 hw1 => orderP_c (kd) ai ni ci l sa ns sc ls bl w1 hl (by omega) (by omega) (by omega) (CA hw1 rfl hv) hls (by omega) (by omega) (by omega) (CA hw1 rfl hs) (by omega)))) ?_
 rintro v1 L1 ⟨_, ⟨nb3, sp1, cp1, rfl, rfl, hc1, hc2, hc3⟩, rfl⟩
 refine ⟨[(9, .agg ([U64 pv, U64 ep, I64 (kd), SL ai ni ci, Slc nb3 0 ns cp1, U64 bl] ++ cu8 tg).toArray)], ?_⟩
 show DP _ _ _ _ _ _ _ _ [_, _, ⟨nb3, (ls).flatMap sealC ++ sp1, 164, (0, 0)⟩]
 refine FH ⟨[6], [0, 1, 2, 3, 4, 5, 7, 8, 9], [4, 5], [0, 1, 2, 3, 7, 8, 9], [10]⟩ 10 rfl rfl (by decide +kernel) rfl ⟨⟨_, rfl, AJ rfl (AB 0 22 1 A7 rfl AX rfl rfl)⟩, ⟨_, rfl, AJ rfl (AI rfl (AQ AY (AS 0 rfl (AG (Seg.head)))))⟩, ⟨_, rfl, AJ rfl (AB 1 22 1 A7 rfl AX rfl rfl)⟩, ⟨_, rfl, AJ rfl (AI rfl (AQ AY (AS 0 rfl (AG (AE (Seg.head))))))⟩, ⟨_, rfl, AJ rfl (AB 6 27 16 A7 rfl CN rfl rfl)⟩, ⟨_, rfl, AJ rfl (AI rfl (BV DY CN (D7 htg) (AS 0 rfl (Seg.right 6 0 rfl rfl (AV _)))))⟩, ⟨_, rfl, AJ rfl (EB [(0, U64 pv), (1, U64 ep), (2, .agg #[I64 (kd), SL ai ni ci, Slc nb3 0 ns cp1, U64 bl]), (3, .agg (cu8 tg).toArray)] _ rfl (fun _ => bld38_0123 rfl rfl (by simp [B6]) (by simp [B6, htg])))⟩, trivial⟩ rfl (BI rfl (CW 1 nb2 22 ([U64 0, U64 0, I64 0, SL none 0 0, SL none 0 0, U64 0] ++ cu8 (zr8 16)) 38 ([U64 pv, U64 ep, I64 (kd), SL ai ni ci, Slc nb3 0 ns cp1, U64 bl] ++ cu8 tg) rfl rfl rfl D6 (by simp [htg]) (EH (by simp [Value.oneCell']) FE) (by simp [(B6 16)]) (DC (by simp [(B6 16), htg])))) ?_
 show DP _ _ _ _ _ _ _ _ [_, ⟨nb2, [U64 pv, U64 ep, I64 (kd), SL ai ni ci, Slc nb3 0 ns cp1, U64 bl] ++ cu8 tg, 38, (0, 0)⟩, _]
 refine DN ⟨[6, 10], [0, 1, 2, 3, 4, 5, 7, 8, 9], [0, 1, 2, 3, 4, 5, 7, 8, 9], [], []⟩ rfl rfl (by decide +kernel) rfl trivial ?_
 refine C7 (F' := [(2, Ptr nb2 0)]) (by kernel_rfl) ?_
 refine AF (BK (BJ (.agg ([U64 pv, U64 ep, I64 (kd), SL ai ni ci, Slc nb3 0 ns cp1, U64 bl] ++ cu8 tg).toArray) (res1 Tryd.results44 (F6 rfl (BV Tryd.isAgg38 D6 (by simp [htg]) (AS 1 rfl (AV _))))) fun w1 hw1 => ?_))
 exact ⟨_, _, rfl, ⟨nb3, _, _, (some ⟨nb3, 0, none⟩), cp1, rfl, rfl, .inr ⟨rfl, _, rfl⟩, by first | omega | (unfold maxLen; omega), by first | omega | (unfold maxLen; omega)⟩, Hp.one hw1 2 rfl⟩
theorem docG_w (pv ep : UInt64) (kd : Int) (ai : Option Addr) (ni ci : Nat) (l : List UInt64) (sa : Option Addr) (ns sc : Nat) (ls : List SealR) (bl : UInt64) (tg : List UInt8) (w : World) (hl : l.length = ni) (hnm : ni ≤ 2000000) (hnc : ni ≤ ci) (hcm : ci ≤ maxLen) (hv : RdV w ai (cu64 l)) (hls : ls.length = ns) (hnn : ns ≤ 2000000) (hnd : ns ≤ sc) (hcn : sc ≤ maxLen) (hs : RdV w sa (ls.flatMap sealC)) (htg : tg.length = 16) (hnS : sa = none → sc = 0) : Calls Tryd.prog 44 #[.agg ([U64 pv, U64 ep, I64 (kd), SL ai ni ci, SL sa ns sc, U64 bl] ++ cu8 tg).toArray] w (Post w [] (fun v L => ∃ g cs T a c, v = .agg ([U64 pv, U64 ep, I64 kd, SL ai ni ci, SL a ns c, U64 bl] ++ cu8 tg).toArray ∧ L = [⟨g, cs, T, (0, 0)⟩] ∧ Gh (ls.flatMap sealC) g cs a ∧ ns ≤ c ∧ c ≤ maxLen)) := by
  by_cases h0 : ns = 0
  · subst h0
    obtain rfl : ls = [] := List.eq_nil_of_length_eq_zero hls
    exact docGZ_c pv ep kd ai ni ci l sa sc bl tg w hl hnm hnc hcm hv hcn hnS htg
  · exact docGP_c pv ep kd ai ni ci l sa ns sc ls bl tg w hl hnm hnc hcm hv hls hnn hnd hcn hs (by omega) htg
theorem bld71_0124567 {w : World} {v0 : Value} {v1 : Value} {v2 : Value} {v4 : Value} {c5 : List Value} {v6 : Value} {v7 : Value} (h0 : v0.cells = [v0].toArray) (h1 : v1.cells = [v1].toArray) (h2 : v2.cells = [v2].toArray) (h4 : v4.cells = [v4].toArray) (h5 : c5.length = 22) (h6 : v6.cells = [v6].toArray) (h7 : v7.cells = [v7].toArray) : (Instr.build 71 ([(0, v0), (1, v1), (2, v2), (4, v4), (5, .agg c5.toArray), (6, v6), (7, v7)] : List (Nat × Value)).toArray).run Tryd.prog w = .ok (.agg (((((((([v0] : List Value) ++ ([v1] : List Value)) ++ ([v2] : List Value)) ++ ([.slice none 0 0] : List Value)) ++ ([v4] : List Value)) ++ c5) ++ ([v6] : List Value)) ++ ([v7] : List Value)).toArray) w :=
 FS (places := #[(0, 1), (1, 1), (2, 1), (3, 1), (4, 1), (5, 22), (27, 1), (28, 1)]) (Z := (([U64 0] : List Value) ++ (([I64 0] : List Value) ++ (([I64 0] : List Value) ++ (([.slice none 0 0] : List Value) ++ (([.bool false] : List Value) ++ (([U64 0, U64 0, I64 0, .slice none 0 0, .slice none 0 0, U64 0] ++ cu8 (zr8 16) : List Value) ++ (([.slice none 0 0] : List Value) ++ (([.slice none 0 0] : List Value) ++ []))))))))) (fun _ => by kernel_rfl) AO (fun _ => by kernel_rfl) ((fill_start ([U64 0] : List Value) (([I64 0] : List Value) ++ (([I64 0] : List Value) ++ (([.slice none 0 0] : List Value) ++ (([.bool false] : List Value) ++ (([U64 0, U64 0, I64 0, .slice none 0 0, .slice none 0 0, U64 0] ++ cu8 (zr8 16) : List Value) ++ (([.slice none 0 0] : List Value) ++ (([.slice none 0 0] : List Value) ++ []))))))) ([v0] : List Value) h0 (by simp [B6]) rfl).trans ((FJ ([v0] : List Value) ([I64 0] : List Value) (([I64 0] : List Value) ++ (([.slice none 0 0] : List Value) ++ (([.bool false] : List Value) ++ (([U64 0, U64 0, I64 0, .slice none 0 0, .slice none 0 0, U64 0] ++ cu8 (zr8 16) : List Value) ++ (([.slice none 0 0] : List Value) ++ (([.slice none 0 0] : List Value) ++ [])))))) ([v1] : List Value) h1 (by simp [B6]) rfl).trans ((FJ (([v0] : List Value) ++ ([v1] : List Value)) ([I64 0] : List Value) (([.slice none 0 0] : List Value) ++ (([.bool false] : List Value) ++ (([U64 0, U64 0, I64 0, .slice none 0 0, .slice none 0 0, U64 0] ++ cu8 (zr8 16) : List Value) ++ (([.slice none 0 0] : List Value) ++ (([.slice none 0 0] : List Value) ++ []))))) ([v2] : List Value) h2 (by simp [B6]) rfl).trans ((fill_skip ((([v0] : List Value) ++ ([v1] : List Value)) ++ ([v2] : List Value)) ([.slice none 0 0] : List Value) (([.bool false] : List Value) ++ (([U64 0, U64 0, I64 0, .slice none 0 0, .slice none 0 0, U64 0] ++ cu8 (zr8 16) : List Value) ++ (([.slice none 0 0] : List Value) ++ (([.slice none 0 0] : List Value) ++ []))))).trans ((FJ (((([v0] : List Value) ++ ([v1] : List Value)) ++ ([v2] : List Value)) ++ ([.slice none 0 0] : List Value)) ([.bool false] : List Value) (([U64 0, U64 0, I64 0, .slice none 0 0, .slice none 0 0, U64 0] ++ cu8 (zr8 16) : List Value) ++ (([.slice none 0 0] : List Value) ++ (([.slice none 0 0] : List Value) ++ []))) ([v4] : List Value) h4 (by simp [B6]) rfl).trans ((FJ ((((([v0] : List Value) ++ ([v1] : List Value)) ++ ([v2] : List Value)) ++ ([.slice none 0 0] : List Value)) ++ ([v4] : List Value)) ([U64 0, U64 0, I64 0, .slice none 0 0, .slice none 0 0, U64 0] ++ cu8 (zr8 16) : List Value) (([.slice none 0 0] : List Value) ++ (([.slice none 0 0] : List Value) ++ [])) c5 rfl (by simp [B6, h5]) (by simp [h5, B6])).trans ((FJ (((((([v0] : List Value) ++ ([v1] : List Value)) ++ ([v2] : List Value)) ++ ([.slice none 0 0] : List Value)) ++ ([v4] : List Value)) ++ c5) ([.slice none 0 0] : List Value) (([.slice none 0 0] : List Value) ++ []) ([v6] : List Value) h6 (by simp [B6, h5]) rfl).trans ((FJ ((((((([v0] : List Value) ++ ([v1] : List Value)) ++ ([v2] : List Value)) ++ ([.slice none 0 0] : List Value)) ++ ([v4] : List Value)) ++ c5) ++ ([v6] : List Value)) ([.slice none 0 0] : List Value) [] ([v7] : List Value) h7 (by simp [B6, h5]) rfl).trans (by simp [Instr.fill])))))))))
theorem bld167_01 {w : World} {v0 : Value} {c1 : List Value} (h0 : v0.cells = [v0].toArray) (h1 : c1.length = 49) : (Instr.build 167 ([(0, v0), (1, .agg c1.toArray)] : List (Nat × Value)).toArray).run Tryd.prog w = .ok (.agg (([v0] : List Value) ++ c1).toArray) w :=
 FS (places := #[(0, 1), (1, 49)]) (Z := (([.bool false] : List Value) ++ (([U64 0] ++ cu8 (zr8 32) ++ cu8 (zr8 16) : List Value) ++ []))) (fun _ => by kernel_rfl) DO (fun _ => by kernel_rfl) ((fill_start ([.bool false] : List Value) (([U64 0] ++ cu8 (zr8 32) ++ cu8 (zr8 16) : List Value) ++ []) ([v0] : List Value) h0 (by simp [B6]) rfl).trans ((FJ ([v0] : List Value) ([U64 0] ++ cu8 (zr8 32) ++ cu8 (zr8 16) : List Value) [] c1 rfl (by simp [B6, h1]) (by simp [h1, B6])).trans (by simp [Instr.fill])))
theorem rep_w (rq : UInt64) (rk er : Int) (aj : Option Addr) (nj cj : Nat) (lj : List ItemR) (th : Bool) (pv ep : UInt64) (kd : Int) (ai : Option Addr) (ni ci : Nat) (l : List UInt64) (sa : Option Addr) (ns sc : Nat) (ls : List SealR) (bl : UInt64) (tg : List UInt8) (aha : Option Addr) (nha cha : Nat) (xha : List UInt8) (ahb : Option Addr) (nhb chb : Nat) (xhb : List UInt8)  (w : World) (hlj : lj.length = nj) (hnj : nj ≤ 2000000) (hdj : nj ≤ cj) (hcj : cj ≤ maxLen) (hj : RdV w aj (lj.flatMap itemC)) (hl : l.length = ni) (hnm : ni ≤ 2000000) (hnc : ni ≤ ci) (hcm : ci ≤ maxLen) (hv : RdV w ai (cu64 l)) (hls : ls.length = ns) (hnn : ns ≤ 2000000) (hnd : ns ≤ sc) (hcn : sc ≤ maxLen) (hs : RdV w sa (ls.flatMap sealC)) (htg : tg.length = 16) (hlha : xha.length = nha * 32) (hnha : nha ≤ 9000) (hdha : nha ≤ cha) (hcha : cha ≤ maxLen) (hrha : RdB w [] aha xha) (hlhb : xhb.length = nhb * 32) (hnhb : nhb ≤ 9000) (hdhb : nhb ≤ chb) (hchb : chb ≤ maxLen) (hrhb : RdB w [] ahb xhb) (hnS : sa = none → sc = 0)  : Calls Tryd.prog 32 #[.agg ([U64 rq, I64 (rk), I64 (er), SL aj nj cj, .bool th, U64 pv, U64 ep, I64 (kd), SL ai ni ci, SL sa ns sc, U64 bl] ++ cu8 tg ++ [SL aha nha cha, SL ahb nhb chb]).toArray] w (Post w [] (fun v L => ∃ g1 cs1 T1 a1 c1 g2 cs2 T2 a2 c2, v = .agg ([U64 rq, I64 rk, I64 er, SL a1 nj c1, .bool th, U64 pv, U64 ep, I64 kd, SL ai ni ci, SL a2 ns c2, U64 bl] ++ cu8 tg ++ [SL aha nha cha, SL ahb nhb chb]).toArray ∧ L = [⟨g1, cs1, T1, (0, 0)⟩, ⟨g2, cs2, T2, (0, 0)⟩] ∧ Gh (lj.flatMap itemC) g1 cs1 a1 ∧ nj ≤ c1 ∧ c1 ≤ maxLen ∧ Gh (ls.flatMap sealC) g2 cs2 a2 ∧ ns ≤ c2 ∧ c2 ≤ maxLen)) := by
 have hmx : maxLen = 9223372036854775807 := rfl
 refine enter (P := Tryd.prog) (f := 32) (fn := Tryd.f32) w [] 42 [] [.agg ([U64 rq, I64 (rk), I64 (er), SL aj nj cj, .bool th, U64 pv, U64 ep, I64 (kd), SL ai ni ci, SL sa ns sc, U64 bl] ++ cu8 tg ++ [SL aha nha cha, SL ahb nhb chb]).toArray] Tryd.func32 rfl rfl (by simp) (CC (by simp) (by simp) (by simp)) ?_
 show JC _ _ _ [(0, .agg ([U64 rq, I64 (rk), I64 (er), SL aj nj cj, .bool th, U64 pv, U64 ep, I64 (kd), SL ai ni ci, SL sa ns sc, U64 bl] ++ cu8 tg ++ [SL aha nha cha, SL ahb nhb chb]).toArray)] _
 refine AK (AD (A9 (CL (.agg ([U64 rq, I64 (rk), I64 (er), SL aj nj cj, .bool th, U64 pv, U64 ep, I64 (kd), SL ai ni ci, SL sa ns sc, U64 bl] ++ cu8 tg ++ [SL aha nha cha, SL ahb nhb chb]).toArray) ([U64 rq, I64 (rk), I64 (er), SL aj nj cj, .bool th, U64 pv, U64 ep, I64 (kd), SL ai ni ci, SL sa ns sc, U64 bl] ++ cu8 tg ++ [SL aha nha cha, SL ahb nhb chb]) rfl (by first | rfl | simp)) rfl ?_))
 rintro v1 L1 ⟨nb1, hnb1, rfl, rfl⟩
 show JL _ _ _ _ ((1, Ptr nb1 0) :: _) [⟨nb1, [U64 rq, I64 (rk), I64 (er), SL aj nj cj, .bool th, U64 pv, U64 ep, I64 (kd), SL ai ni ci, SL sa ns sc, U64 bl] ++ cu8 tg ++ [SL aha nha cha, SL ahb nhb chb], 67, (0, 0)⟩]
 refine A9 (DI _ ([U64 0, I64 0, I64 0, SL none 0 0, .bool false, U64 0, U64 0, I64 0, SL none 0 0, SL none 0 0, U64 0] ++ cu8 (zr8 16) ++ [SL none 0 0, SL none 0 0]) Tryd.zeroValue71 (by kernel_rfl)) rfl ?_
 rintro v1 L1 ⟨nb2, hnb2, rfl, rfl⟩
 show JL _ _ _ _ ((2, Ptr nb2 0) :: _) [_, ⟨nb2, [U64 0, I64 0, I64 0, SL none 0 0, .bool false, U64 0, U64 0, I64 0, SL none 0 0, SL none 0 0, U64 0] ++ cu8 (zr8 16) ++ [SL none 0 0, SL none 0 0], 71, (0, 0)⟩]
 refine AN (AF (AK (DH 42 4 [(0, Ptr nb1 0), (1, U64 rq), (2, Ptr nb1 1), (3, I64 (rk)), (4, Ptr nb1 2), (5, I64 (er)), (6, Ptr nb1 4), (7, .bool th), (8, Ptr nb1 5), (9, .agg ([U64 pv, U64 ep, I64 (kd), SL ai ni ci, SL sa ns sc, U64 bl] ++ cu8 tg).toArray), (11, Ptr nb1 27), (12, SL aha nha cha), (13, Ptr nb1 28), (14, SL ahb nhb chb)] B8 rfl (by decide +kernel) ?_)))
 refine DP_two ⟨[], [0, 1, 2, 3, 4, 5, 6, 7, 8, 9, 11, 12, 13, 14], [], [0, 1, 2, 3, 4, 5, 6, 7, 8, 9, 11, 12, 13, 14], [10, 16]⟩ 10 16 _ _ rfl rfl (by decide +kernel) rfl ⟨⟨_, rfl, AJ rfl (AB 0 22 1 AM rfl AX rfl rfl)⟩, ⟨_, rfl, AJ rfl (AI rfl (AQ AY (AS 0 rfl (AG (AG (Seg.head))))))⟩, ⟨_, rfl, AJ rfl (AB 1 3 1 AM rfl AR rfl rfl)⟩, ⟨_, rfl, AJ rfl (AI rfl (AQ AT (AS 0 rfl (AG (AG (AE (Seg.head)))))))⟩, ⟨_, rfl, AJ rfl (AB 2 3 1 AM rfl AR rfl rfl)⟩, ⟨_, rfl, AJ rfl (AI rfl (AQ AT (AS 0 rfl (AG (AG (AE (AE (Seg.head))))))))⟩, ⟨_, rfl, AJ rfl (AB 4 4 1 AM rfl BB rfl rfl)⟩, ⟨_, rfl, AJ rfl (AI rfl (AQ BD (AS 0 rfl (AG (AG (AE (AE (AE (AE (Seg.head))))))))))⟩, ⟨_, rfl, AJ rfl (AB 5 29 22 AM rfl DJ rfl rfl)⟩, ⟨_, rfl, AJ rfl (AI rfl (BV ER DJ (by simp [htg]) (AS 0 rfl (C6 (p := [U64 rq, I64 (rk), I64 (er), SL aj nj cj, .bool th]) (q := [SL aha nha cha, SL ahb nhb chb]) (vs := [U64 pv, U64 ep, I64 (kd), SL ai ni ci, SL sa ns sc, U64 bl] ++ cu8 tg) (by first | rfl | (simp only [List.append_assoc, List.nil_append, List.append_nil, List.cons_append]; done)) rfl))))⟩, ⟨_, rfl, AJ rfl (AB 27 65 1 AM rfl BR rfl rfl)⟩, ⟨_, rfl, AJ rfl (AI rfl (AQ BU (AS 0 rfl (Seg.right 27 0 (by simp [htg]) rfl (Seg.head)))))⟩, ⟨_, rfl, AJ rfl (AB 28 65 1 AM rfl BR rfl rfl)⟩, ⟨_, rfl, AJ rfl (AI rfl (AQ BU (AS 0 rfl (Seg.right 27 1 (by simp [htg]) rfl (AE (Seg.head))))))⟩, trivial⟩ rfl rfl (BI rfl (CG 44 [.agg ([U64 pv, U64 ep, I64 (kd), SL ai ni ci, SL sa ns sc, U64 bl] ++ cu8 tg).toArray] _ (A6 _ Tryd.call44 rfl) (fun w1 hw1 => docG_w pv ep (kd) ai ni ci l sa ns sc ls bl tg w1 hl (by omega) (by omega) (by omega) (CA hw1 rfl hv) hls (by omega) (by omega) (by omega) (CA hw1 rfl hs) htg hnS))) (BI rfl (DI _ ([U64 0, I64 0, I64 0, SL none 0 0, .bool false, U64 0, U64 0, I64 0, SL none 0 0, SL none 0 0, U64 0] ++ cu8 (zr8 16) ++ [SL none 0 0, SL none 0 0]) Tryd.zeroValue71 (by kernel_rfl))) ?_ ?_
 ·
  rintro v1 L1 ⟨_, ⟨ng1, cs1, nT1, na1, nc1, rfl, rfl, hc1, hc2, hc3⟩, rfl⟩
  refine ⟨[(15, .agg ([U64 rq, I64 (rk), I64 (er), SL none 0 0, .bool th, U64 pv, U64 ep, I64 (kd), SL ai ni ci, SL na1 ns nc1, U64 bl] ++ cu8 tg ++ [SL aha nha cha, SL ahb nhb chb]).toArray)], ?_⟩
  show DP _ _ _ _ _ _ _ _ [_, _, ⟨ng1, cs1, nT1, (0, 0)⟩]
  refine CZ ⟨[10], [0, 1, 2, 3, 4, 5, 6, 7, 8, 9, 11, 12, 13, 14, 15], [8, 9], [0, 1, 2, 3, 4, 5, 6, 7, 11, 12, 13, 14, 15], [16]⟩ 16 _ rfl rfl (by decide +kernel) rfl ⟨⟨_, rfl, AJ rfl (AB 0 22 1 AM rfl AX rfl rfl)⟩, ⟨_, rfl, AJ rfl (AI rfl (AQ AY (AS 0 rfl (AG (AG (Seg.head))))))⟩, ⟨_, rfl, AJ rfl (AB 1 3 1 AM rfl AR rfl rfl)⟩, ⟨_, rfl, AJ rfl (AI rfl (AQ AT (AS 0 rfl (AG (AG (AE (Seg.head)))))))⟩, ⟨_, rfl, AJ rfl (AB 2 3 1 AM rfl AR rfl rfl)⟩, ⟨_, rfl, AJ rfl (AI rfl (AQ AT (AS 0 rfl (AG (AG (AE (AE (Seg.head))))))))⟩, ⟨_, rfl, AJ rfl (AB 4 4 1 AM rfl BB rfl rfl)⟩, ⟨_, rfl, AJ rfl (AI rfl (AQ BD (AS 0 rfl (AG (AG (AE (AE (AE (AE (Seg.head))))))))))⟩, ⟨_, rfl, AJ rfl (AB 27 65 1 AM rfl BR rfl rfl)⟩, ⟨_, rfl, AJ rfl (AI rfl (AQ BU (AS 0 rfl (Seg.right 27 0 (by simp [htg]) rfl (Seg.head)))))⟩, ⟨_, rfl, AJ rfl (AB 28 65 1 AM rfl BR rfl rfl)⟩, ⟨_, rfl, AJ rfl (AI rfl (AQ BU (AS 0 rfl (Seg.right 27 1 (by simp [htg]) rfl (AE (Seg.head))))))⟩, ⟨_, rfl, AJ rfl (EB [(0, U64 rq), (1, I64 (rk)), (2, I64 (er)), (4, .bool th), (5, .agg ([U64 pv, U64 ep, I64 (kd), SL ai ni ci, SL na1 ns nc1, U64 bl] ++ cu8 tg).toArray), (6, SL aha nha cha), (7, SL ahb nhb chb)] _ rfl (fun _ => (bld71_0124567 (c5 := [U64 pv, U64 ep, I64 (kd), SL ai ni ci, SL na1 ns nc1, U64 bl] ++ cu8 tg) rfl rfl rfl rfl (by simp [B6, htg]) rfl rfl ).trans (by first | rfl | simp only [List.append_assoc, List.cons_append, List.nil_append])))⟩, trivial⟩ rfl (BI rfl (DI _ ([U64 0, I64 0, I64 0, SL none 0 0, .bool false, U64 0, U64 0, I64 0, SL none 0 0, SL none 0 0, U64 0] ++ cu8 (zr8 16) ++ [SL none 0 0, SL none 0 0]) Tryd.zeroValue71 (by kernel_rfl))) ?_
  rintro v1 L1 ⟨nb4, hnb4, rfl, rfl⟩
  refine ⟨[], ?_⟩
  show DP _ _ _ _ _ _ _ _ [_, _, _, ⟨nb4, [U64 0, I64 0, I64 0, SL none 0 0, .bool false, U64 0, U64 0, I64 0, SL none 0 0, SL none 0 0, U64 0] ++ cu8 (zr8 16) ++ [SL none 0 0, SL none 0 0], 71, (0, 0)⟩]
  refine FH ⟨[10, 16], [0, 1, 2, 3, 4, 5, 6, 7, 8, 9, 11, 12, 13, 14, 15], [8, 9], [0, 1, 2, 3, 4, 5, 6, 7, 11, 12, 13, 14, 15], [17]⟩ 17 rfl rfl (by decide +kernel) rfl ⟨⟨_, rfl, AJ rfl (AB 0 22 1 AM rfl AX rfl rfl)⟩, ⟨_, rfl, AJ rfl (AI rfl (AQ AY (AS 0 rfl (AG (AG (Seg.head))))))⟩, ⟨_, rfl, AJ rfl (AB 1 3 1 AM rfl AR rfl rfl)⟩, ⟨_, rfl, AJ rfl (AI rfl (AQ AT (AS 0 rfl (AG (AG (AE (Seg.head)))))))⟩, ⟨_, rfl, AJ rfl (AB 2 3 1 AM rfl AR rfl rfl)⟩, ⟨_, rfl, AJ rfl (AI rfl (AQ AT (AS 0 rfl (AG (AG (AE (AE (Seg.head))))))))⟩, ⟨_, rfl, AJ rfl (AB 4 4 1 AM rfl BB rfl rfl)⟩, ⟨_, rfl, AJ rfl (AI rfl (AQ BD (AS 0 rfl (AG (AG (AE (AE (AE (AE (Seg.head))))))))))⟩, ⟨_, rfl, AJ rfl (AB 27 65 1 AM rfl BR rfl rfl)⟩, ⟨_, rfl, AJ rfl (AI rfl (AQ BU (AS 0 rfl (Seg.right 27 0 (by simp [htg]) rfl (Seg.head)))))⟩, ⟨_, rfl, AJ rfl (AB 28 65 1 AM rfl BR rfl rfl)⟩, ⟨_, rfl, AJ rfl (AI rfl (AQ BU (AS 0 rfl (Seg.right 27 1 (by simp [htg]) rfl (AE (Seg.head))))))⟩, ⟨_, rfl, AJ rfl (EB [(0, U64 rq), (1, I64 (rk)), (2, I64 (er)), (4, .bool th), (5, .agg ([U64 pv, U64 ep, I64 (kd), SL ai ni ci, SL na1 ns nc1, U64 bl] ++ cu8 tg).toArray), (6, SL aha nha cha), (7, SL ahb nhb chb)] _ rfl (fun _ => (bld71_0124567 (c5 := [U64 pv, U64 ep, I64 (kd), SL ai ni ci, SL na1 ns nc1, U64 bl] ++ cu8 tg) rfl rfl rfl rfl (by simp [B6, htg]) rfl rfl ).trans (by first | rfl | simp only [List.append_assoc, List.cons_append, List.nil_append])))⟩, trivial⟩ rfl (BI rfl (CW 3 nb4 29 ([U64 0, I64 0, I64 0, SL none 0 0, .bool false, U64 0, U64 0, I64 0, SL none 0 0, SL none 0 0, U64 0] ++ cu8 (zr8 16) ++ [SL none 0 0, SL none 0 0]) 71 ([U64 rq, I64 (rk), I64 (er), SL none 0 0, .bool th, U64 pv, U64 ep, I64 (kd), SL ai ni ci, SL na1 ns nc1, U64 bl] ++ cu8 tg ++ [SL aha nha cha, SL ahb nhb chb]) rfl rfl rfl C2 (by simp [htg]) (EH (EH (by simp [Value.oneCell']) FE) (by simp [Value.oneCell'])) (by simp [(B6 16)]) (DC (by simp [(B6 16), htg])))) ?_
  show DP _ _ _ _ _ _ _ _ [_, _, _, ⟨nb4, [U64 rq, I64 (rk), I64 (er), SL none 0 0, .bool th, U64 pv, U64 ep, I64 (kd), SL ai ni ci, SL na1 ns nc1, U64 bl] ++ cu8 tg ++ [SL aha nha cha, SL ahb nhb chb], 71, (0, 0)⟩]
  refine DN ⟨[10, 16, 17], [0, 1, 2, 3, 4, 5, 6, 7, 8, 9, 11, 12, 13, 14, 15], [0, 1, 2, 3, 4, 5, 6, 7, 8, 9, 11, 12, 13, 14, 15], [], []⟩ rfl rfl (by decide +kernel) rfl trivial ?_
  refine C7 (F' := [(3, Ptr nb4 0), (1, Ptr nb1 0), (2, Ptr nb2 0)]) (by kernel_rfl) ?_
  refine AF (AK (AK (AD (AA (Ptr nb1 3) (AB 3 64 1 AM rfl D5 rfl rfl) rfl ?_))))
  refine AA (SL aj nj cj) (AI rfl (AQ EE (AS 0 rfl (AG (AG (AE (AE (AE (Seg.head))))))))) rfl ?_
  refine AA (I64 nj) (CY CF rfl) rfl ?_
  refine AA _ (AL rfl) rfl ?_
  refine AN (AF (B2 (BP [false, true, true, true] ?_)))
  show JC _ _ _ _ [_, _, _]
  refine DV (ι := (Unit) ⊕ (Nat × List ItemR × Nat × List Value × Nat)) (fun x => match x with | .inl _ => [(2, Ptr nb2 0), (3, Ptr nb4 0), (23, SL aj nj cj), (24, I64 nj), (25, I64 0)] | .inr ⟨i, rr, gb, sp, cp⟩ => [(2, Ptr nb2 0), (3, Ptr nb4 0), (23, SL aj nj cj), (24, I64 nj), (25, I64 i)]) (fun x => match x with | .inl _ => [⟨nb2, [U64 0, I64 0, I64 0, SL none 0 0, .bool false, U64 0, U64 0, I64 0, SL none 0 0, SL none 0 0, U64 0] ++ cu8 (zr8 16) ++ [SL none 0 0, SL none 0 0], 71, (0, 0)⟩, ⟨ng1, cs1, nT1, (0, 0)⟩, ⟨nb4, [U64 rq, I64 (rk), I64 (er), SL none 0 0, .bool th, U64 pv, U64 ep, I64 (kd), SL ai ni ci, SL na1 ns nc1, U64 bl] ++ cu8 tg ++ [SL aha nha cha, SL ahb nhb chb], 71, (0, 0)⟩] | .inr ⟨i, rr, gb, sp, cp⟩ => [⟨nb2, [U64 0, I64 0, I64 0, SL none 0 0, .bool false, U64 0, U64 0, I64 0, SL none 0 0, SL none 0 0, U64 0] ++ cu8 (zr8 16) ++ [SL none 0 0, SL none 0 0], 71, (0, 0)⟩, ⟨ng1, cs1, nT1, (0, 0)⟩, ⟨nb4, [U64 rq, I64 (rk), I64 (er), Slc gb 0 i cp, .bool th, U64 pv, U64 ep, I64 (kd), SL ai ni ci, SL na1 ns nc1, U64 bl] ++ cu8 tg ++ [SL aha nha cha, SL ahb nhb chb], 71, (0, 0)⟩, ⟨gb, (rr).flatMap itemC ++ sp, 167, (0, 0)⟩]) (fun x => match x with | .inl _ => True | .inr ⟨i, rr, gb, sp, cp⟩ => 0 < i ∧ i ≤ nj ∧ rr = lj.take i ∧ rr.length = i ∧ sp.length = cp * 50 - i * 50 ∧ i ≤ cp ∧ cp ≤ maxLen) (fun x => match x with | .inl _ => nj + 2 | .inr ⟨i, rr, gb, sp, cp⟩ => nj + 1 - i) (.inl ()) trivial (Sub.all rfl) rfl ?_
  rintro (_ | ⟨i, rr, gb, sp, cp⟩) hx
  ·
   obtain _ := hx
   show JC _ _ _ [(2, Ptr nb2 0), (3, Ptr nb4 0), (23, SL aj nj cj), (24, I64 nj), (25, I64 0)] [⟨nb2, [U64 0, I64 0, I64 0, SL none 0 0, .bool false, U64 0, U64 0, I64 0, SL none 0 0, SL none 0 0, U64 0] ++ cu8 (zr8 16) ++ [SL none 0 0, SL none 0 0], 71, (0, 0)⟩, ⟨ng1, cs1, nT1, (0, 0)⟩, ⟨nb4, [U64 rq, I64 (rk), I64 (er), SL none 0 0, .bool th, U64 pv, U64 ep, I64 (kd), SL ai ni ci, SL na1 ns nc1, U64 bl] ++ cu8 tg ++ [SL aha nha cha, SL ahb nhb chb], 71, (0, 0)⟩]
   refine AK (AD (AA (.bool (decide ((0:Int) < ((nj:Int))))) (AU rfl rfl fun _ => CR _ _) rfl ?_))
   refine AN (AF (AK (CI (decide ((0:Int) < ((nj:Int)))) rfl (fun hb1 => ?_) (fun hb1 => ?_))))
   ·
    have hp1 : (0:Int) < ((nj:Int)) := of_decide_eq_true hb1
    refine BE (AF (AK (B2 (AK (AD ?_)))))
    obtain ⟨x1, hx1⟩ : ∃ x, lj[0]? = some x := ⟨_, List.getElem?_eq_getElem (by rw [hlj]; omega)⟩
    obtain ⟨bz1, oz1, hz1, hm1⟩ := E4 E6 (by decide) hj hx1
    rw [FO] at hm1
    refine AA (Ptr bz1 oz1) (B4 163 50 oz1 CF DD rfl hz1 rfl (by omega) (by omega) (by omega)) rfl ?_
    refine AA (.agg (List.toArray (α := Value) ([.bool x1.b, U64 x1.s.e] ++ cu8 x1.s.d ++ cu8 x1.s.t))) (AI rfl (BV Tryd.isAgg163 DD (by simp [x1.s.hd, x1.s.ht]) (CK (hm1.mem (by simp)) (AV _) (by first | omega | (simp; done) | (simp; omega))))) rfl ?_
    refine A9 (DI _ ([.bool false, U64 0] ++ cu8 (zr8 32) ++ cu8 (zr8 16)) Tryd.zeroValue163 (by kernel_rfl)) rfl ?_
    rintro v1 L1 ⟨nb5, hnb5, rfl, rfl⟩
    show JL _ _ _ _ ((5, Ptr nb5 0) :: _) [_, _, _, ⟨nb5, [.bool false, U64 0] ++ cu8 (zr8 32) ++ cu8 (zr8 16), 163, (0, 0)⟩]
    refine B1 (CW 3 nb5 50 ([.bool false, U64 0] ++ cu8 (zr8 32) ++ cu8 (zr8 16)) 163 ([.bool x1.b, U64 x1.s.e] ++ cu8 x1.s.d ++ cu8 x1.s.t) rfl rfl rfl DD (by simp [x1.s.hd, x1.s.ht]) (EH (EH (by simp [Value.oneCell']) FE) FE) (by simp [(B6 32), (B6 16)]) (DC (by simp [(B6 32), (B6 16), x1.s.hd, x1.s.ht]))) rfl ?_
    show JL _ _ _ _ _ [_, _, _, ⟨nb5, [.bool x1.b, U64 x1.s.e] ++ cu8 x1.s.d ++ cu8 x1.s.t, 163, (0, 0)⟩]
    refine AN (AF (DH 42 5 [(0, Ptr nb4 3), (1, SL none 0 0), (2, Ptr nb5 0), (3, .bool x1.b), (4, Ptr nb5 1), (5, .agg ([U64 x1.s.e] ++ cu8 x1.s.d ++ cu8 x1.s.t).toArray)] B8 rfl (by decide +kernel) ?_))
    refine CZ ⟨[], [0, 1, 2, 3, 4, 5], [], [0, 1, 2, 3, 4, 5], [6]⟩ 6 _ rfl rfl (by decide +kernel) rfl ⟨⟨_, rfl, AJ rfl (AB 3 69 1 AO rfl BQ rfl rfl)⟩, ⟨_, rfl, AJ rfl (AI rfl (AQ B9 (AS 2 rfl (AG (AG (AE (AE (AE (Seg.head)))))))))⟩, ⟨_, rfl, AJ rfl (AB 0 4 1 C0 rfl BB rfl rfl)⟩, ⟨_, rfl, AJ rfl (AI rfl (AQ BD (AS 3 rfl (AG (AG (Seg.head))))))⟩, ⟨_, rfl, AJ rfl (AB 1 161 49 C0 rfl CJ rfl rfl)⟩, ⟨_, rfl, AJ rfl (AI rfl (BV D2 CJ (by simp [x1.s.hd, x1.s.ht]) (AS 3 rfl (C6 (p := [.bool x1.b]) (q := []) (vs := [U64 x1.s.e] ++ cu8 x1.s.d ++ cu8 x1.s.t) (by first | rfl | (simp only [List.append_assoc, List.nil_append, List.append_nil, List.cons_append]; done)) rfl))))⟩, trivial⟩ rfl (BI rfl (BG 93 [.agg ([U64 x1.s.e] ++ cu8 x1.s.d ++ cu8 x1.s.t).toArray] (.agg ([U64 x1.s.e] ++ cu8 x1.s.d ++ cu8 x1.s.t).toArray) (A6 _ Tryd.call93 rfl) (fun w1 hw1 => doc7_c x1.s.e x1.s.d x1.s.t w1 x1.s.hd x1.s.ht))) ?_
    rintro v1 L1 ⟨rfl, rfl⟩
    refine ⟨[(7, .agg (List.toArray (α := Value) ([.bool x1.b, U64 x1.s.e] ++ cu8 x1.s.d ++ cu8 x1.s.t)))], ?_⟩
    show DP _ _ _ _ _ _ _ _ [_, _, _, _]
    refine CZ ⟨[6], [0, 1, 2, 3, 4, 5, 7], [4, 5], [0, 1, 2, 3, 7], [8]⟩ 8 _ rfl rfl (by decide +kernel) rfl ⟨⟨_, rfl, AJ rfl (AB 3 69 1 AO rfl BQ rfl rfl)⟩, ⟨_, rfl, AJ rfl (AI rfl (AQ B9 (AS 2 rfl (AG (AG (AE (AE (AE (Seg.head)))))))))⟩, ⟨_, rfl, AJ rfl (AB 0 4 1 C0 rfl BB rfl rfl)⟩, ⟨_, rfl, AJ rfl (AI rfl (AQ BD (AS 3 rfl (AG (AG (Seg.head))))))⟩, ⟨_, rfl, AJ rfl (EB [(0, .bool x1.b), (1, .agg ([U64 x1.s.e] ++ cu8 x1.s.d ++ cu8 x1.s.t).toArray)] _ rfl (fun _ => bld167_01 rfl (by simp [B6, x1.s.hd, x1.s.ht])))⟩, trivial⟩ rfl (BI rfl (B3 167 50 _ [(0, .agg (List.toArray (α := Value) ([.bool x1.b, U64 x1.s.e] ++ cu8 x1.s.d ++ cu8 x1.s.t)))] ([.bool x1.b, U64 x1.s.e] ++ cu8 x1.s.d ++ cu8 x1.s.t) BM DM Tryd.zeroValue167 rfl rfl rfl (fill_one (Z := [.bool false, U64 0] ++ cu8 (zr8 32) ++ cu8 (zr8 16)) (by simp [x1.s.hd, x1.s.ht]) (by kernel_rfl) (by simp [zr8])))) ?_
    rintro v1 L1 ⟨nb6, hnb6, rfl, rfl⟩
    refine ⟨[], ?_⟩
    show DP _ _ _ _ _ _ _ _ [_, _, _, _, ⟨nb6, [.bool x1.b, U64 x1.s.e] ++ cu8 x1.s.d ++ cu8 x1.s.t, 167, (0, 0)⟩]
    refine CZ ⟨[6, 8], [0, 1, 2, 3, 4, 5, 7], [2, 3, 4, 5, 7], [0, 1], [9]⟩ 9 _ rfl rfl (by decide +kernel) rfl ⟨⟨_, rfl, AJ rfl (AB 3 69 1 AO rfl BQ rfl rfl)⟩, ⟨_, rfl, AJ rfl (AI rfl (AQ B9 (AS 2 rfl (AG (AG (AE (AE (AE (Seg.head)))))))))⟩, trivial⟩ rfl (BI rfl (Step_appI 69 167 64 (.agg (List.toArray (α := Value) ([.bool false, U64 0] ++ cu8 (zr8 32) ++ cu8 (zr8 16)))) [false, false, false, false, false] (SL none 0 0) 0 ([] : List ItemR) x1 (some ⟨nb6, 0, none⟩) 1 1 BM (by kernel_rfl) (by kernel_rfl) rfl (.inl ⟨rfl, rfl, rfl, rfl⟩) rfl (SrcAt.mem (AS 4 rfl (AV _))) (by omega) (by omega) (by omega))) ?_
    rintro v1 L1 ⟨nb7, sp1, cp1, hg1, rfl, rfl, ha1, ha2, ha3, ha4⟩
    refine ⟨[(10, Ptr nb4 3)], ?_⟩
    show DP _ _ _ _ _ _ _ _ [_, _, _, _, _, ⟨nb7, (([] : List ItemR) ++ [x1]).flatMap itemC ++ sp1, 167, (0, 0)⟩]
    refine FH ⟨[6, 8, 9], [0, 1, 2, 3, 4, 5, 7, 10], [0, 1, 2, 3, 4, 5, 7], [10], [11]⟩ 11 rfl rfl (by decide +kernel) rfl ⟨⟨_, rfl, AJ rfl (AB 3 69 1 AO rfl BQ rfl rfl)⟩, trivial⟩ rfl (BI rfl (FD 2 nb4 3 1 ([U64 rq, I64 (rk), I64 (er), SL none 0 0, .bool th, U64 pv, U64 ep, I64 (kd), SL ai ni ci, SL na1 ns nc1, U64 bl] ++ cu8 tg ++ [SL aha nha cha, SL ahb nhb chb]) 71 (Slc nb7 0 1 cp1) ([Slc nb7 0 1 cp1]) ([U64 rq, I64 (rk), I64 (er), Slc nb7 0 1 cp1, .bool th, U64 pv, U64 ep, I64 (kd), SL ai ni ci, SL na1 ns nc1, U64 bl] ++ cu8 tg ++ [SL aha nha cha, SL ahb nhb chb]) rfl rfl rfl rfl BQ rfl (by simp [Value.oneCell']) (by simp [htg]) (lay_left (p := [U64 rq, I64 (rk), I64 (er), SL none 0 0, .bool th, U64 pv, U64 ep, I64 (kd), SL ai ni ci, SL na1 ns nc1, U64 bl] ++ cu8 tg) (vs := [Slc nb7 0 1 cp1]) (o := 3) (by simp [htg]) (lay_left (p := [U64 rq, I64 (rk), I64 (er), SL none 0 0, .bool th, U64 pv, U64 ep, I64 (kd), SL ai ni ci, SL na1 ns nc1, U64 bl]) (vs := [Slc nb7 0 1 cp1]) (o := 3) (by simp []) (rfl))))) ?_
    show DP _ _ _ _ _ _ _ _ [_, _, ⟨nb4, [U64 rq, I64 (rk), I64 (er), Slc nb7 0 1 cp1, .bool th, U64 pv, U64 ep, I64 (kd), SL ai ni ci, SL na1 ns nc1, U64 bl] ++ cu8 tg ++ [SL aha nha cha, SL ahb nhb chb], 71, (0, 0)⟩, _, _, _]
    refine DN ⟨[6, 8, 9, 11], [0, 1, 2, 3, 4, 5, 7, 10], [0, 1, 2, 3, 4, 5, 7, 10], [], []⟩ rfl rfl (by decide +kernel) rfl trivial ?_
    refine C7 (F' := [(29, Ptr nb4 3), (30, SL none 0 0), (31, Ptr nb5 0), (32, .bool x1.b), (33, Ptr nb5 1), (34, .agg ([U64 x1.s.e] ++ cu8 x1.s.d ++ cu8 x1.s.t).toArray), (35, .agg ([U64 x1.s.e] ++ cu8 x1.s.d ++ cu8 x1.s.t).toArray), (36, .agg (List.toArray (α := Value) ([.bool x1.b, U64 x1.s.e] ++ cu8 x1.s.d ++ cu8 x1.s.t))), (37, Slc nb6 0 1 1), (38, Slc nb7 0 1 cp1), (39, Ptr nb4 3), (2, Ptr nb2 0), (3, Ptr nb4 0), (23, SL aj nj cj), (24, I64 nj), (25, I64 0), (26, .bool (decide ((0:Int) < ((nj:Int))))), (27, Ptr bz1 oz1), (28, .agg (List.toArray (α := Value) ([.bool x1.b, U64 x1.s.e] ++ cu8 x1.s.d ++ cu8 x1.s.t))), (5, Ptr nb5 0)]) (by kernel_rfl) ?_
    refine BY (AF (AD (AA (I64 1) (AU rfl rfl fun _ => DE _ _ (1:Int) (by omega) (by omega)) rfl ?_)))
    refine AA _ (AL rfl) rfl ?_
    refine AN (DK (BP [true, true, true, false, false, true] ?_))
    show K _ _ [_, _, _, _] _
    refine EM (.inr (1, ([] : List ItemR) ++ [x1], nb7, sp1, cp1)) ⟨by omega, by omega, F9 (i := 0) hx1, (ha1).trans (by first | rfl | simp +arith), (ha2).trans (by first | rfl | simp +arith), by omega, by omega⟩ (by first | (simp; omega) | simp | (dsimp only; omega) | omega) (Sub.all rfl) rfl
   ·
    have hp1 : ¬ ((0:Int) < ((nj:Int))) := of_decide_eq_false hb1
    refine DU (A5 (A5 (CQ (AF (AK (AD (AA (.agg ([U64 rq, I64 (rk), I64 (er), SL none 0 0, .bool th, U64 pv, U64 ep, I64 (kd), SL ai ni ci, SL na1 ns nc1, U64 bl] ++ cu8 tg ++ [SL aha nha cha, SL ahb nhb chb]).toArray) (AI rfl (BV DR C2 (by simp [htg]) (AS 2 rfl (AV _)))) rfl ?_)))))))
    refine B1 (CW 0 nb2 29 ([U64 0, I64 0, I64 0, SL none 0 0, .bool false, U64 0, U64 0, I64 0, SL none 0 0, SL none 0 0, U64 0] ++ cu8 (zr8 16) ++ [SL none 0 0, SL none 0 0]) 71 ([U64 rq, I64 (rk), I64 (er), SL none 0 0, .bool th, U64 pv, U64 ep, I64 (kd), SL ai ni ci, SL na1 ns nc1, U64 bl] ++ cu8 tg ++ [SL aha nha cha, SL ahb nhb chb]) rfl rfl rfl C2 (by simp [htg]) (EH (EH (by simp [Value.oneCell']) FE) (by simp [Value.oneCell'])) (by simp [(B6 16)]) (DC (by simp [(B6 16), htg]))) rfl ?_
    show JL _ _ _ _ _ [⟨nb2, [U64 rq, I64 (rk), I64 (er), SL none 0 0, .bool th, U64 pv, U64 ep, I64 (kd), SL ai ni ci, SL na1 ns nc1, U64 bl] ++ cu8 tg ++ [SL aha nha cha, SL ahb nhb chb], 71, (0, 0)⟩, _, _]
    refine AN (AF (BK (BJ (.agg ([U64 rq, I64 (rk), I64 (er), SL none 0 0, .bool th, U64 pv, U64 ep, I64 (kd), SL ai ni ci, SL na1 ns nc1, U64 bl] ++ cu8 tg ++ [SL aha nha cha, SL ahb nhb chb]).toArray) (res1 Tryd.results32 (F6 rfl (BV DR C2 (by simp [htg]) (AS 0 rfl (AV _))))) fun w1 hw1 => ?_)))
    obtain rfl : nj = 0 := by omega
    exact ⟨_, _, rfl, ⟨_, _, _, none, 0, _, _, _, _, _, rfl, rfl, Gh.itm hlj rfl, by omega, by first | omega | (unfold maxLen; omega), hc1, by omega, by omega⟩, Hp.two hw1 0 1 rfl rfl (by decide)⟩
  ·
   obtain ⟨hi1, hi2, hi3, hi4, hi5, hi6, hi7⟩ := hx
   show JC _ _ _ [(2, Ptr nb2 0), (3, Ptr nb4 0), (23, SL aj nj cj), (24, I64 nj), (25, I64 i)] [⟨nb2, [U64 0, I64 0, I64 0, SL none 0 0, .bool false, U64 0, U64 0, I64 0, SL none 0 0, SL none 0 0, U64 0] ++ cu8 (zr8 16) ++ [SL none 0 0, SL none 0 0], 71, (0, 0)⟩, ⟨ng1, cs1, nT1, (0, 0)⟩, ⟨nb4, [U64 rq, I64 (rk), I64 (er), Slc gb 0 i cp, .bool th, U64 pv, U64 ep, I64 (kd), SL ai ni ci, SL na1 ns nc1, U64 bl] ++ cu8 tg ++ [SL aha nha cha, SL ahb nhb chb], 71, (0, 0)⟩, ⟨gb, (rr).flatMap itemC ++ sp, 167, (0, 0)⟩]
   refine AK (AD (AA (.bool (decide (((i:Int)) < ((nj:Int))))) (AU rfl rfl fun _ => CR _ _) rfl ?_))
   refine AN (AF (AK (CI (decide (((i:Int)) < ((nj:Int)))) rfl (fun hb2 => ?_) (fun hb2 => ?_))))
   ·
    have hp2 : ((i:Int)) < ((nj:Int)) := of_decide_eq_true hb2
    refine BE (AF (AK (B2 (AK (AD ?_)))))
    obtain ⟨x2, hx2⟩ : ∃ x, lj[i]? = some x := ⟨_, List.getElem?_eq_getElem (by rw [hlj]; omega)⟩
    obtain ⟨bz2, oz2, hz2, hm2⟩ := E4 E6 (by decide) hj hx2
    rw [FO] at hm2
    refine AA (Ptr bz2 (50*i + oz2)) (B4 163 50 (50*i + oz2) CF DD rfl hz2 rfl (by omega) (by omega) (by omega)) rfl ?_
    refine AA (.agg (List.toArray (α := Value) ([.bool x2.b, U64 x2.s.e] ++ cu8 x2.s.d ++ cu8 x2.s.t))) (AI rfl (BV Tryd.isAgg163 DD (by simp [x2.s.hd, x2.s.ht]) (CK (hm2.mem (by simp)) (AV _) (by first | omega | (simp; done) | (simp; omega))))) rfl ?_
    refine A9 (DI _ ([.bool false, U64 0] ++ cu8 (zr8 32) ++ cu8 (zr8 16)) Tryd.zeroValue163 (by kernel_rfl)) rfl ?_
    rintro v1 L1 ⟨nb8, hnb8, rfl, rfl⟩
    show JL _ _ _ _ ((5, Ptr nb8 0) :: _) [_, _, _, _, ⟨nb8, [.bool false, U64 0] ++ cu8 (zr8 32) ++ cu8 (zr8 16), 163, (0, 0)⟩]
    refine B1 (CW 4 nb8 50 ([.bool false, U64 0] ++ cu8 (zr8 32) ++ cu8 (zr8 16)) 163 ([.bool x2.b, U64 x2.s.e] ++ cu8 x2.s.d ++ cu8 x2.s.t) rfl rfl rfl DD (by simp [x2.s.hd, x2.s.ht]) (EH (EH (by simp [Value.oneCell']) FE) FE) (by simp [(B6 32), (B6 16)]) (DC (by simp [(B6 32), (B6 16), x2.s.hd, x2.s.ht]))) rfl ?_
    show JL _ _ _ _ _ [_, _, _, _, ⟨nb8, [.bool x2.b, U64 x2.s.e] ++ cu8 x2.s.d ++ cu8 x2.s.t, 163, (0, 0)⟩]
    refine AN (AF (DH 42 5 [(0, Ptr nb4 3), (1, Slc gb 0 i cp), (2, Ptr nb8 0), (3, .bool x2.b), (4, Ptr nb8 1), (5, .agg ([U64 x2.s.e] ++ cu8 x2.s.d ++ cu8 x2.s.t).toArray)] B8 rfl (by decide +kernel) ?_))
    refine CZ ⟨[], [0, 1, 2, 3, 4, 5], [], [0, 1, 2, 3, 4, 5], [6]⟩ 6 _ rfl rfl (by decide +kernel) rfl ⟨⟨_, rfl, AJ rfl (AB 3 69 1 AO rfl BQ rfl rfl)⟩, ⟨_, rfl, AJ rfl (AI rfl (AQ B9 (AS 2 rfl (AG (AG (AE (AE (AE (Seg.head)))))))))⟩, ⟨_, rfl, AJ rfl (AB 0 4 1 C0 rfl BB rfl rfl)⟩, ⟨_, rfl, AJ rfl (AI rfl (AQ BD (AS 4 rfl (AG (AG (Seg.head))))))⟩, ⟨_, rfl, AJ rfl (AB 1 161 49 C0 rfl CJ rfl rfl)⟩, ⟨_, rfl, AJ rfl (AI rfl (BV D2 CJ (by simp [x2.s.hd, x2.s.ht]) (AS 4 rfl (C6 (p := [.bool x2.b]) (q := []) (vs := [U64 x2.s.e] ++ cu8 x2.s.d ++ cu8 x2.s.t) (by first | rfl | (simp only [List.append_assoc, List.nil_append, List.append_nil, List.cons_append]; done)) rfl))))⟩, trivial⟩ rfl (BI rfl (BG 93 [.agg ([U64 x2.s.e] ++ cu8 x2.s.d ++ cu8 x2.s.t).toArray] (.agg ([U64 x2.s.e] ++ cu8 x2.s.d ++ cu8 x2.s.t).toArray) (A6 _ Tryd.call93 rfl) (fun w1 hw1 => doc7_c x2.s.e x2.s.d x2.s.t w1 x2.s.hd x2.s.ht))) ?_
    rintro v1 L1 ⟨rfl, rfl⟩
    refine ⟨[(7, .agg (List.toArray (α := Value) ([.bool x2.b, U64 x2.s.e] ++ cu8 x2.s.d ++ cu8 x2.s.t)))], ?_⟩
    show DP _ _ _ _ _ _ _ _ [_, _, _, _, _]
    refine CZ ⟨[6], [0, 1, 2, 3, 4, 5, 7], [4, 5], [0, 1, 2, 3, 7], [8]⟩ 8 _ rfl rfl (by decide +kernel) rfl ⟨⟨_, rfl, AJ rfl (AB 3 69 1 AO rfl BQ rfl rfl)⟩, ⟨_, rfl, AJ rfl (AI rfl (AQ B9 (AS 2 rfl (AG (AG (AE (AE (AE (Seg.head)))))))))⟩, ⟨_, rfl, AJ rfl (AB 0 4 1 C0 rfl BB rfl rfl)⟩, ⟨_, rfl, AJ rfl (AI rfl (AQ BD (AS 4 rfl (AG (AG (Seg.head))))))⟩, ⟨_, rfl, AJ rfl (EB [(0, .bool x2.b), (1, .agg ([U64 x2.s.e] ++ cu8 x2.s.d ++ cu8 x2.s.t).toArray)] _ rfl (fun _ => bld167_01 rfl (by simp [B6, x2.s.hd, x2.s.ht])))⟩, trivial⟩ rfl (BI rfl (B3 167 50 _ [(0, .agg (List.toArray (α := Value) ([.bool x2.b, U64 x2.s.e] ++ cu8 x2.s.d ++ cu8 x2.s.t)))] ([.bool x2.b, U64 x2.s.e] ++ cu8 x2.s.d ++ cu8 x2.s.t) BM DM Tryd.zeroValue167 rfl rfl rfl (fill_one (Z := [.bool false, U64 0] ++ cu8 (zr8 32) ++ cu8 (zr8 16)) (by simp [x2.s.hd, x2.s.ht]) (by kernel_rfl) (by simp [zr8])))) ?_
    rintro v1 L1 ⟨nb9, hnb9, rfl, rfl⟩
    refine ⟨[], ?_⟩
    show DP _ _ _ _ _ _ _ _ [_, _, _, _, _, ⟨nb9, [.bool x2.b, U64 x2.s.e] ++ cu8 x2.s.d ++ cu8 x2.s.t, 167, (0, 0)⟩]
    refine CZ ⟨[6, 8], [0, 1, 2, 3, 4, 5, 7], [2, 3, 4, 5, 7], [0, 1], [9]⟩ 9 _ rfl rfl (by decide +kernel) rfl ⟨⟨_, rfl, AJ rfl (AB 3 69 1 AO rfl BQ rfl rfl)⟩, ⟨_, rfl, AJ rfl (AI rfl (AQ B9 (AS 2 rfl (AG (AG (AE (AE (AE (Seg.head)))))))))⟩, trivial⟩ rfl (BI rfl (Step_appI 69 167 64 (.agg (List.toArray (α := Value) ([.bool false, U64 0] ++ cu8 (zr8 32) ++ cu8 (zr8 16)))) [false, false, false, true, false, false] (Slc gb 0 i cp) i rr x2 (some ⟨nb9, 0, none⟩) 1 (i + 1) BM (by kernel_rfl) (by kernel_rfl) rfl (.inr ⟨gb, sp, cp, rfl, rfl, (by have h : (rr).length = i := hi4; omega), (by first | exact hi5 | omega), (by omega), (by omega)⟩) rfl (SrcAt.mem (AS 5 rfl (AV _))) (by omega) (by omega) (by omega))) ?_
    rintro v1 L1 ⟨nb10, sp2, cp2, hg2, rfl, rfl, ha5, ha6, ha7, ha8⟩
    refine ⟨[(10, Ptr nb4 3)], ?_⟩
    show DP _ _ _ _ _ _ _ _ [_, _, _, _, _, ⟨nb10, (rr ++ [x2]).flatMap itemC ++ sp2, 167, (0, 0)⟩]
    refine FH ⟨[6, 8, 9], [0, 1, 2, 3, 4, 5, 7, 10], [0, 1, 2, 3, 4, 5, 7], [10], [11]⟩ 11 rfl rfl (by decide +kernel) rfl ⟨⟨_, rfl, AJ rfl (AB 3 69 1 AO rfl BQ rfl rfl)⟩, trivial⟩ rfl (BI rfl (FD 2 nb4 3 1 ([U64 rq, I64 (rk), I64 (er), Slc gb 0 i cp, .bool th, U64 pv, U64 ep, I64 (kd), SL ai ni ci, SL na1 ns nc1, U64 bl] ++ cu8 tg ++ [SL aha nha cha, SL ahb nhb chb]) 71 (Slc nb10 0 (i + 1) cp2) ([Slc nb10 0 (i + 1) cp2]) ([U64 rq, I64 (rk), I64 (er), Slc nb10 0 (i + 1) cp2, .bool th, U64 pv, U64 ep, I64 (kd), SL ai ni ci, SL na1 ns nc1, U64 bl] ++ cu8 tg ++ [SL aha nha cha, SL ahb nhb chb]) rfl rfl rfl rfl BQ rfl (by simp [Value.oneCell']) (by simp [htg]) (lay_left (p := [U64 rq, I64 (rk), I64 (er), Slc gb 0 i cp, .bool th, U64 pv, U64 ep, I64 (kd), SL ai ni ci, SL na1 ns nc1, U64 bl] ++ cu8 tg) (vs := [Slc nb10 0 (i + 1) cp2]) (o := 3) (by simp [htg]) (lay_left (p := [U64 rq, I64 (rk), I64 (er), Slc gb 0 i cp, .bool th, U64 pv, U64 ep, I64 (kd), SL ai ni ci, SL na1 ns nc1, U64 bl]) (vs := [Slc nb10 0 (i + 1) cp2]) (o := 3) (by simp []) (rfl))))) ?_
    show DP _ _ _ _ _ _ _ _ [_, _, ⟨nb4, [U64 rq, I64 (rk), I64 (er), Slc nb10 0 (i + 1) cp2, .bool th, U64 pv, U64 ep, I64 (kd), SL ai ni ci, SL na1 ns nc1, U64 bl] ++ cu8 tg ++ [SL aha nha cha, SL ahb nhb chb], 71, (0, 0)⟩, _, _, _]
    refine DN ⟨[6, 8, 9, 11], [0, 1, 2, 3, 4, 5, 7, 10], [0, 1, 2, 3, 4, 5, 7, 10], [], []⟩ rfl rfl (by decide +kernel) rfl trivial ?_
    refine C7 (F' := [(29, Ptr nb4 3), (30, Slc gb 0 i cp), (31, Ptr nb8 0), (32, .bool x2.b), (33, Ptr nb8 1), (34, .agg ([U64 x2.s.e] ++ cu8 x2.s.d ++ cu8 x2.s.t).toArray), (35, .agg ([U64 x2.s.e] ++ cu8 x2.s.d ++ cu8 x2.s.t).toArray), (36, .agg (List.toArray (α := Value) ([.bool x2.b, U64 x2.s.e] ++ cu8 x2.s.d ++ cu8 x2.s.t))), (37, Slc nb9 0 1 1), (38, Slc nb10 0 (i + 1) cp2), (39, Ptr nb4 3), (2, Ptr nb2 0), (3, Ptr nb4 0), (23, SL aj nj cj), (24, I64 nj), (25, I64 i), (26, .bool (decide (((i:Int)) < ((nj:Int))))), (27, Ptr bz2 (50*i + oz2)), (28, .agg (List.toArray (α := Value) ([.bool x2.b, U64 x2.s.e] ++ cu8 x2.s.d ++ cu8 x2.s.t))), (5, Ptr nb8 0)]) (by kernel_rfl) ?_
    refine BY (AF (AD (AA (I64 ((i:Int) + 1)) (AU rfl rfl fun _ => DE _ _ ((i:Int) + 1) (by omega) (by omega)) rfl ?_)))
    refine AA _ (AL rfl) rfl ?_
    refine AN (DK (BP [true, true, true, false, false, true] ?_))
    show K _ _ [_, _, _, _] _
    refine EM (.inr (i + 1, rr ++ [x2], nb10, sp2, cp2)) ⟨by omega, by omega, (by rw [hi3]; exact F9 hx2), (ha5).trans (by first | rfl | simp +arith), (ha6).trans (by first | rfl | simp +arith), by omega, by omega⟩ (by first | (simp; omega) | simp | (dsimp only; omega) | omega) (Sub.all rfl) rfl
   ·
    have hp2 : ¬ (((i:Int)) < ((nj:Int))) := of_decide_eq_false hb2
    refine DU (A5 (A5 (CQ (AF (AK (AD (AA (.agg ([U64 rq, I64 (rk), I64 (er), Slc gb 0 i cp, .bool th, U64 pv, U64 ep, I64 (kd), SL ai ni ci, SL na1 ns nc1, U64 bl] ++ cu8 tg ++ [SL aha nha cha, SL ahb nhb chb]).toArray) (AI rfl (BV DR C2 (by simp [htg]) (AS 2 rfl (AV _)))) rfl ?_)))))))
    refine B1 (CW 0 nb2 29 ([U64 0, I64 0, I64 0, SL none 0 0, .bool false, U64 0, U64 0, I64 0, SL none 0 0, SL none 0 0, U64 0] ++ cu8 (zr8 16) ++ [SL none 0 0, SL none 0 0]) 71 ([U64 rq, I64 (rk), I64 (er), Slc gb 0 i cp, .bool th, U64 pv, U64 ep, I64 (kd), SL ai ni ci, SL na1 ns nc1, U64 bl] ++ cu8 tg ++ [SL aha nha cha, SL ahb nhb chb]) rfl rfl rfl C2 (by simp [htg]) (EH (EH (by simp [Value.oneCell']) FE) (by simp [Value.oneCell'])) (by simp [(B6 16)]) (DC (by simp [(B6 16), htg]))) rfl ?_
    show JL _ _ _ _ _ [⟨nb2, [U64 rq, I64 (rk), I64 (er), Slc gb 0 i cp, .bool th, U64 pv, U64 ep, I64 (kd), SL ai ni ci, SL na1 ns nc1, U64 bl] ++ cu8 tg ++ [SL aha nha cha, SL ahb nhb chb], 71, (0, 0)⟩, _, _, _]
    refine AN (AF (BK (BJ (.agg ([U64 rq, I64 (rk), I64 (er), Slc gb 0 i cp, .bool th, U64 pv, U64 ep, I64 (kd), SL ai ni ci, SL na1 ns nc1, U64 bl] ++ cu8 tg ++ [SL aha nha cha, SL ahb nhb chb]).toArray) (res1 Tryd.results32 (F6 rfl (BV DR C2 (by simp [htg]) (AS 0 rfl (AV _))))) fun w1 hw1 => ?_)))
    have hr : rr = lj := by rw [hi3]; exact List.take_of_length_le (by omega)
    obtain rfl : i = nj := by omega
    exact ⟨_, _, rfl, ⟨_, _, _, (some ⟨gb, 0, none⟩), cp, _, _, _, _, _, rfl, rfl, .inr ⟨rfl, _, by rw [hr]⟩, by omega, by first | omega | (unfold maxLen; omega), hc1, by omega, by omega⟩, Hp.two hw1 3 1 rfl rfl (by decide)⟩
 ·
  rintro v1 L1 ⟨nb3, hnb3, rfl, rfl⟩
  refine ⟨[], ?_⟩
  show DP _ _ _ _ _ _ _ _ [_, _, ⟨nb3, [U64 0, I64 0, I64 0, SL none 0 0, .bool false, U64 0, U64 0, I64 0, SL none 0 0, SL none 0 0, U64 0] ++ cu8 (zr8 16) ++ [SL none 0 0, SL none 0 0], 71, (0, 0)⟩]
  refine CZ ⟨[16], [0, 1, 2, 3, 4, 5, 6, 7, 8, 9, 11, 12, 13, 14], [], [0, 1, 2, 3, 4, 5, 6, 7, 8, 9, 11, 12, 13, 14], [10]⟩ 10 _ rfl rfl (by decide +kernel) rfl ⟨⟨_, rfl, AJ rfl (AB 0 22 1 AM rfl AX rfl rfl)⟩, ⟨_, rfl, AJ rfl (AI rfl (AQ AY (AS 0 rfl (AG (AG (Seg.head))))))⟩, ⟨_, rfl, AJ rfl (AB 1 3 1 AM rfl AR rfl rfl)⟩, ⟨_, rfl, AJ rfl (AI rfl (AQ AT (AS 0 rfl (AG (AG (AE (Seg.head)))))))⟩, ⟨_, rfl, AJ rfl (AB 2 3 1 AM rfl AR rfl rfl)⟩, ⟨_, rfl, AJ rfl (AI rfl (AQ AT (AS 0 rfl (AG (AG (AE (AE (Seg.head))))))))⟩, ⟨_, rfl, AJ rfl (AB 4 4 1 AM rfl BB rfl rfl)⟩, ⟨_, rfl, AJ rfl (AI rfl (AQ BD (AS 0 rfl (AG (AG (AE (AE (AE (AE (Seg.head))))))))))⟩, ⟨_, rfl, AJ rfl (AB 5 29 22 AM rfl DJ rfl rfl)⟩, ⟨_, rfl, AJ rfl (AI rfl (BV ER DJ (by simp [htg]) (AS 0 rfl (C6 (p := [U64 rq, I64 (rk), I64 (er), SL aj nj cj, .bool th]) (q := [SL aha nha cha, SL ahb nhb chb]) (vs := [U64 pv, U64 ep, I64 (kd), SL ai ni ci, SL sa ns sc, U64 bl] ++ cu8 tg) (by first | rfl | (simp only [List.append_assoc, List.nil_append, List.append_nil, List.cons_append]; done)) rfl))))⟩, ⟨_, rfl, AJ rfl (AB 27 65 1 AM rfl BR rfl rfl)⟩, ⟨_, rfl, AJ rfl (AI rfl (AQ BU (AS 0 rfl (Seg.right 27 0 (by simp [htg]) rfl (Seg.head)))))⟩, ⟨_, rfl, AJ rfl (AB 28 65 1 AM rfl BR rfl rfl)⟩, ⟨_, rfl, AJ rfl (AI rfl (AQ BU (AS 0 rfl (Seg.right 27 1 (by simp [htg]) rfl (AE (Seg.head))))))⟩, trivial⟩ rfl (BI rfl (CG 44 [.agg ([U64 pv, U64 ep, I64 (kd), SL ai ni ci, SL sa ns sc, U64 bl] ++ cu8 tg).toArray] _ (A6 _ Tryd.call44 rfl) (fun w1 hw1 => docG_w pv ep (kd) ai ni ci l sa ns sc ls bl tg w1 hl (by omega) (by omega) (by omega) (CA hw1 rfl hv) hls (by omega) (by omega) (by omega) (CA hw1 rfl hs) htg hnS))) ?_
  rintro v1 L1 ⟨_, ⟨ng2, cs2, nT2, na2, nc2, rfl, rfl, hc4, hc5, hc6⟩, rfl⟩
  refine ⟨[(15, .agg ([U64 rq, I64 (rk), I64 (er), SL none 0 0, .bool th, U64 pv, U64 ep, I64 (kd), SL ai ni ci, SL na2 ns nc2, U64 bl] ++ cu8 tg ++ [SL aha nha cha, SL ahb nhb chb]).toArray)], ?_⟩
  show DP _ _ _ _ _ _ _ _ [_, _, _, ⟨ng2, cs2, nT2, (0, 0)⟩]
  refine FH ⟨[16, 10], [0, 1, 2, 3, 4, 5, 6, 7, 8, 9, 11, 12, 13, 14, 15], [8, 9], [0, 1, 2, 3, 4, 5, 6, 7, 11, 12, 13, 14, 15], [17]⟩ 17 rfl rfl (by decide +kernel) rfl ⟨⟨_, rfl, AJ rfl (AB 0 22 1 AM rfl AX rfl rfl)⟩, ⟨_, rfl, AJ rfl (AI rfl (AQ AY (AS 0 rfl (AG (AG (Seg.head))))))⟩, ⟨_, rfl, AJ rfl (AB 1 3 1 AM rfl AR rfl rfl)⟩, ⟨_, rfl, AJ rfl (AI rfl (AQ AT (AS 0 rfl (AG (AG (AE (Seg.head)))))))⟩, ⟨_, rfl, AJ rfl (AB 2 3 1 AM rfl AR rfl rfl)⟩, ⟨_, rfl, AJ rfl (AI rfl (AQ AT (AS 0 rfl (AG (AG (AE (AE (Seg.head))))))))⟩, ⟨_, rfl, AJ rfl (AB 4 4 1 AM rfl BB rfl rfl)⟩, ⟨_, rfl, AJ rfl (AI rfl (AQ BD (AS 0 rfl (AG (AG (AE (AE (AE (AE (Seg.head))))))))))⟩, ⟨_, rfl, AJ rfl (AB 27 65 1 AM rfl BR rfl rfl)⟩, ⟨_, rfl, AJ rfl (AI rfl (AQ BU (AS 0 rfl (Seg.right 27 0 (by simp [htg]) rfl (Seg.head)))))⟩, ⟨_, rfl, AJ rfl (AB 28 65 1 AM rfl BR rfl rfl)⟩, ⟨_, rfl, AJ rfl (AI rfl (AQ BU (AS 0 rfl (Seg.right 27 1 (by simp [htg]) rfl (AE (Seg.head))))))⟩, ⟨_, rfl, AJ rfl (EB [(0, U64 rq), (1, I64 (rk)), (2, I64 (er)), (4, .bool th), (5, .agg ([U64 pv, U64 ep, I64 (kd), SL ai ni ci, SL na2 ns nc2, U64 bl] ++ cu8 tg).toArray), (6, SL aha nha cha), (7, SL ahb nhb chb)] _ rfl (fun _ => (bld71_0124567 (c5 := [U64 pv, U64 ep, I64 (kd), SL ai ni ci, SL na2 ns nc2, U64 bl] ++ cu8 tg) rfl rfl rfl rfl (by simp [B6, htg]) rfl rfl ).trans (by first | rfl | simp only [List.append_assoc, List.cons_append, List.nil_append])))⟩, trivial⟩ rfl (BI rfl (CW 2 nb3 29 ([U64 0, I64 0, I64 0, SL none 0 0, .bool false, U64 0, U64 0, I64 0, SL none 0 0, SL none 0 0, U64 0] ++ cu8 (zr8 16) ++ [SL none 0 0, SL none 0 0]) 71 ([U64 rq, I64 (rk), I64 (er), SL none 0 0, .bool th, U64 pv, U64 ep, I64 (kd), SL ai ni ci, SL na2 ns nc2, U64 bl] ++ cu8 tg ++ [SL aha nha cha, SL ahb nhb chb]) rfl rfl rfl C2 (by simp [htg]) (EH (EH (by simp [Value.oneCell']) FE) (by simp [Value.oneCell'])) (by simp [(B6 16)]) (DC (by simp [(B6 16), htg])))) ?_
  show DP _ _ _ _ _ _ _ _ [_, _, ⟨nb3, [U64 rq, I64 (rk), I64 (er), SL none 0 0, .bool th, U64 pv, U64 ep, I64 (kd), SL ai ni ci, SL na2 ns nc2, U64 bl] ++ cu8 tg ++ [SL aha nha cha, SL ahb nhb chb], 71, (0, 0)⟩, _]
  refine DN ⟨[16, 10, 17], [0, 1, 2, 3, 4, 5, 6, 7, 8, 9, 11, 12, 13, 14, 15], [0, 1, 2, 3, 4, 5, 6, 7, 8, 9, 11, 12, 13, 14, 15], [], []⟩ rfl rfl (by decide +kernel) rfl trivial ?_
  refine C7 (F' := [(3, Ptr nb3 0), (1, Ptr nb1 0), (2, Ptr nb2 0)]) (by kernel_rfl) ?_
  refine AF (AK (AK (AD (AA (Ptr nb1 3) (AB 3 64 1 AM rfl D5 rfl rfl) rfl ?_))))
  refine AA (SL aj nj cj) (AI rfl (AQ EE (AS 0 rfl (AG (AG (AE (AE (AE (Seg.head))))))))) rfl ?_
  refine AA (I64 nj) (CY CF rfl) rfl ?_
  refine AA _ (AL rfl) rfl ?_
  refine AN (AF (B2 (BP [false, true, true, true] ?_)))
  show JC _ _ _ _ [_, _, _]
  refine DV (ι := (Unit) ⊕ (Nat × List ItemR × Nat × List Value × Nat)) (fun x => match x with | .inl _ => [(2, Ptr nb2 0), (3, Ptr nb3 0), (23, SL aj nj cj), (24, I64 nj), (25, I64 0)] | .inr ⟨i, rr, gb, sp, cp⟩ => [(2, Ptr nb2 0), (3, Ptr nb3 0), (23, SL aj nj cj), (24, I64 nj), (25, I64 i)]) (fun x => match x with | .inl _ => [⟨nb2, [U64 0, I64 0, I64 0, SL none 0 0, .bool false, U64 0, U64 0, I64 0, SL none 0 0, SL none 0 0, U64 0] ++ cu8 (zr8 16) ++ [SL none 0 0, SL none 0 0], 71, (0, 0)⟩, ⟨nb3, [U64 rq, I64 (rk), I64 (er), SL none 0 0, .bool th, U64 pv, U64 ep, I64 (kd), SL ai ni ci, SL na2 ns nc2, U64 bl] ++ cu8 tg ++ [SL aha nha cha, SL ahb nhb chb], 71, (0, 0)⟩, ⟨ng2, cs2, nT2, (0, 0)⟩] | .inr ⟨i, rr, gb, sp, cp⟩ => [⟨nb2, [U64 0, I64 0, I64 0, SL none 0 0, .bool false, U64 0, U64 0, I64 0, SL none 0 0, SL none 0 0, U64 0] ++ cu8 (zr8 16) ++ [SL none 0 0, SL none 0 0], 71, (0, 0)⟩, ⟨nb3, [U64 rq, I64 (rk), I64 (er), Slc gb 0 i cp, .bool th, U64 pv, U64 ep, I64 (kd), SL ai ni ci, SL na2 ns nc2, U64 bl] ++ cu8 tg ++ [SL aha nha cha, SL ahb nhb chb], 71, (0, 0)⟩, ⟨ng2, cs2, nT2, (0, 0)⟩, ⟨gb, (rr).flatMap itemC ++ sp, 167, (0, 0)⟩]) (fun x => match x with | .inl _ => True | .inr ⟨i, rr, gb, sp, cp⟩ => 0 < i ∧ i ≤ nj ∧ rr = lj.take i ∧ rr.length = i ∧ sp.length = cp * 50 - i * 50 ∧ i ≤ cp ∧ cp ≤ maxLen) (fun x => match x with | .inl _ => nj + 2 | .inr ⟨i, rr, gb, sp, cp⟩ => nj + 1 - i) (.inl ()) trivial (Sub.all rfl) rfl ?_
  rintro (_ | ⟨i, rr, gb, sp, cp⟩) hx
  ·
   obtain _ := hx
   show JC _ _ _ [(2, Ptr nb2 0), (3, Ptr nb3 0), (23, SL aj nj cj), (24, I64 nj), (25, I64 0)] [⟨nb2, [U64 0, I64 0, I64 0, SL none 0 0, .bool false, U64 0, U64 0, I64 0, SL none 0 0, SL none 0 0, U64 0] ++ cu8 (zr8 16) ++ [SL none 0 0, SL none 0 0], 71, (0, 0)⟩, ⟨nb3, [U64 rq, I64 (rk), I64 (er), SL none 0 0, .bool th, U64 pv, U64 ep, I64 (kd), SL ai ni ci, SL na2 ns nc2, U64 bl] ++ cu8 tg ++ [SL aha nha cha, SL ahb nhb chb], 71, (0, 0)⟩, ⟨ng2, cs2, nT2, (0, 0)⟩]
   refine AK (AD (AA (.bool (decide ((0:Int) < ((nj:Int))))) (AU rfl rfl fun _ => CR _ _) rfl ?_))
   refine AN (AF (AK (CI (decide ((0:Int) < ((nj:Int)))) rfl (fun hb3 => ?_) (fun hb3 => ?_))))
   ·
    have hp3 : (0:Int) < ((nj:Int)) := of_decide_eq_true hb3
    refine BE (AF (AK (B2 (AK (AD ?_)))))
    obtain ⟨x3, hx3⟩ : ∃ x, lj[0]? = some x := ⟨_, List.getElem?_eq_getElem (by rw [hlj]; omega)⟩
    obtain ⟨bz3, oz3, hz3, hm3⟩ := E4 E6 (by decide) hj hx3
    rw [FO] at hm3
    refine AA (Ptr bz3 oz3) (B4 163 50 oz3 CF DD rfl hz3 rfl (by omega) (by omega) (by omega)) rfl ?_
    refine AA (.agg (List.toArray (α := Value) ([.bool x3.b, U64 x3.s.e] ++ cu8 x3.s.d ++ cu8 x3.s.t))) (AI rfl (BV Tryd.isAgg163 DD (by simp [x3.s.hd, x3.s.ht]) (CK (hm3.mem (by simp)) (AV _) (by first | omega | (simp; done) | (simp; omega))))) rfl ?_
    refine A9 (DI _ ([.bool false, U64 0] ++ cu8 (zr8 32) ++ cu8 (zr8 16)) Tryd.zeroValue163 (by kernel_rfl)) rfl ?_
    rintro v1 L1 ⟨nb11, hnb11, rfl, rfl⟩
    show JL _ _ _ _ ((5, Ptr nb11 0) :: _) [_, _, _, ⟨nb11, [.bool false, U64 0] ++ cu8 (zr8 32) ++ cu8 (zr8 16), 163, (0, 0)⟩]
    refine B1 (CW 3 nb11 50 ([.bool false, U64 0] ++ cu8 (zr8 32) ++ cu8 (zr8 16)) 163 ([.bool x3.b, U64 x3.s.e] ++ cu8 x3.s.d ++ cu8 x3.s.t) rfl rfl rfl DD (by simp [x3.s.hd, x3.s.ht]) (EH (EH (by simp [Value.oneCell']) FE) FE) (by simp [(B6 32), (B6 16)]) (DC (by simp [(B6 32), (B6 16), x3.s.hd, x3.s.ht]))) rfl ?_
    show JL _ _ _ _ _ [_, _, _, ⟨nb11, [.bool x3.b, U64 x3.s.e] ++ cu8 x3.s.d ++ cu8 x3.s.t, 163, (0, 0)⟩]
    refine AN (AF (DH 42 5 [(0, Ptr nb3 3), (1, SL none 0 0), (2, Ptr nb11 0), (3, .bool x3.b), (4, Ptr nb11 1), (5, .agg ([U64 x3.s.e] ++ cu8 x3.s.d ++ cu8 x3.s.t).toArray)] B8 rfl (by decide +kernel) ?_))
    refine CZ ⟨[], [0, 1, 2, 3, 4, 5], [], [0, 1, 2, 3, 4, 5], [6]⟩ 6 _ rfl rfl (by decide +kernel) rfl ⟨⟨_, rfl, AJ rfl (AB 3 69 1 AO rfl BQ rfl rfl)⟩, ⟨_, rfl, AJ rfl (AI rfl (AQ B9 (AS 1 rfl (AG (AG (AE (AE (AE (Seg.head)))))))))⟩, ⟨_, rfl, AJ rfl (AB 0 4 1 C0 rfl BB rfl rfl)⟩, ⟨_, rfl, AJ rfl (AI rfl (AQ BD (AS 3 rfl (AG (AG (Seg.head))))))⟩, ⟨_, rfl, AJ rfl (AB 1 161 49 C0 rfl CJ rfl rfl)⟩, ⟨_, rfl, AJ rfl (AI rfl (BV D2 CJ (by simp [x3.s.hd, x3.s.ht]) (AS 3 rfl (C6 (p := [.bool x3.b]) (q := []) (vs := [U64 x3.s.e] ++ cu8 x3.s.d ++ cu8 x3.s.t) (by first | rfl | (simp only [List.append_assoc, List.nil_append, List.append_nil, List.cons_append]; done)) rfl))))⟩, trivial⟩ rfl (BI rfl (BG 93 [.agg ([U64 x3.s.e] ++ cu8 x3.s.d ++ cu8 x3.s.t).toArray] (.agg ([U64 x3.s.e] ++ cu8 x3.s.d ++ cu8 x3.s.t).toArray) (A6 _ Tryd.call93 rfl) (fun w1 hw1 => doc7_c x3.s.e x3.s.d x3.s.t w1 x3.s.hd x3.s.ht))) ?_
    rintro v1 L1 ⟨rfl, rfl⟩
    refine ⟨[(7, .agg (List.toArray (α := Value) ([.bool x3.b, U64 x3.s.e] ++ cu8 x3.s.d ++ cu8 x3.s.t)))], ?_⟩
    show DP _ _ _ _ _ _ _ _ [_, _, _, _]
    refine CZ ⟨[6], [0, 1, 2, 3, 4, 5, 7], [4, 5], [0, 1, 2, 3, 7], [8]⟩ 8 _ rfl rfl (by decide +kernel) rfl ⟨⟨_, rfl, AJ rfl (AB 3 69 1 AO rfl BQ rfl rfl)⟩, ⟨_, rfl, AJ rfl (AI rfl (AQ B9 (AS 1 rfl (AG (AG (AE (AE (AE (Seg.head)))))))))⟩, ⟨_, rfl, AJ rfl (AB 0 4 1 C0 rfl BB rfl rfl)⟩, ⟨_, rfl, AJ rfl (AI rfl (AQ BD (AS 3 rfl (AG (AG (Seg.head))))))⟩, ⟨_, rfl, AJ rfl (EB [(0, .bool x3.b), (1, .agg ([U64 x3.s.e] ++ cu8 x3.s.d ++ cu8 x3.s.t).toArray)] _ rfl (fun _ => bld167_01 rfl (by simp [B6, x3.s.hd, x3.s.ht])))⟩, trivial⟩ rfl (BI rfl (B3 167 50 _ [(0, .agg (List.toArray (α := Value) ([.bool x3.b, U64 x3.s.e] ++ cu8 x3.s.d ++ cu8 x3.s.t)))] ([.bool x3.b, U64 x3.s.e] ++ cu8 x3.s.d ++ cu8 x3.s.t) BM DM Tryd.zeroValue167 rfl rfl rfl (fill_one (Z := [.bool false, U64 0] ++ cu8 (zr8 32) ++ cu8 (zr8 16)) (by simp [x3.s.hd, x3.s.ht]) (by kernel_rfl) (by simp [zr8])))) ?_
    rintro v1 L1 ⟨nb12, hnb12, rfl, rfl⟩
    refine ⟨[], ?_⟩
    show DP _ _ _ _ _ _ _ _ [_, _, _, _, ⟨nb12, [.bool x3.b, U64 x3.s.e] ++ cu8 x3.s.d ++ cu8 x3.s.t, 167, (0, 0)⟩]
    refine CZ ⟨[6, 8], [0, 1, 2, 3, 4, 5, 7], [2, 3, 4, 5, 7], [0, 1], [9]⟩ 9 _ rfl rfl (by decide +kernel) rfl ⟨⟨_, rfl, AJ rfl (AB 3 69 1 AO rfl BQ rfl rfl)⟩, ⟨_, rfl, AJ rfl (AI rfl (AQ B9 (AS 1 rfl (AG (AG (AE (AE (AE (Seg.head)))))))))⟩, trivial⟩ rfl (BI rfl (Step_appI 69 167 64 (.agg (List.toArray (α := Value) ([.bool false, U64 0] ++ cu8 (zr8 32) ++ cu8 (zr8 16)))) [false, false, false, false, false] (SL none 0 0) 0 ([] : List ItemR) x3 (some ⟨nb12, 0, none⟩) 1 1 BM (by kernel_rfl) (by kernel_rfl) rfl (.inl ⟨rfl, rfl, rfl, rfl⟩) rfl (SrcAt.mem (AS 4 rfl (AV _))) (by omega) (by omega) (by omega))) ?_
    rintro v1 L1 ⟨nb13, sp3, cp3, hg3, rfl, rfl, ha9, ha10, ha11, ha12⟩
    refine ⟨[(10, Ptr nb3 3)], ?_⟩
    show DP _ _ _ _ _ _ _ _ [_, _, _, _, _, ⟨nb13, (([] : List ItemR) ++ [x3]).flatMap itemC ++ sp3, 167, (0, 0)⟩]
    refine FH ⟨[6, 8, 9], [0, 1, 2, 3, 4, 5, 7, 10], [0, 1, 2, 3, 4, 5, 7], [10], [11]⟩ 11 rfl rfl (by decide +kernel) rfl ⟨⟨_, rfl, AJ rfl (AB 3 69 1 AO rfl BQ rfl rfl)⟩, trivial⟩ rfl (BI rfl (FD 1 nb3 3 1 ([U64 rq, I64 (rk), I64 (er), SL none 0 0, .bool th, U64 pv, U64 ep, I64 (kd), SL ai ni ci, SL na2 ns nc2, U64 bl] ++ cu8 tg ++ [SL aha nha cha, SL ahb nhb chb]) 71 (Slc nb13 0 1 cp3) ([Slc nb13 0 1 cp3]) ([U64 rq, I64 (rk), I64 (er), Slc nb13 0 1 cp3, .bool th, U64 pv, U64 ep, I64 (kd), SL ai ni ci, SL na2 ns nc2, U64 bl] ++ cu8 tg ++ [SL aha nha cha, SL ahb nhb chb]) rfl rfl rfl rfl BQ rfl (by simp [Value.oneCell']) (by simp [htg]) (lay_left (p := [U64 rq, I64 (rk), I64 (er), SL none 0 0, .bool th, U64 pv, U64 ep, I64 (kd), SL ai ni ci, SL na2 ns nc2, U64 bl] ++ cu8 tg) (vs := [Slc nb13 0 1 cp3]) (o := 3) (by simp [htg]) (lay_left (p := [U64 rq, I64 (rk), I64 (er), SL none 0 0, .bool th, U64 pv, U64 ep, I64 (kd), SL ai ni ci, SL na2 ns nc2, U64 bl]) (vs := [Slc nb13 0 1 cp3]) (o := 3) (by simp []) (rfl))))) ?_
    show DP _ _ _ _ _ _ _ _ [_, ⟨nb3, [U64 rq, I64 (rk), I64 (er), Slc nb13 0 1 cp3, .bool th, U64 pv, U64 ep, I64 (kd), SL ai ni ci, SL na2 ns nc2, U64 bl] ++ cu8 tg ++ [SL aha nha cha, SL ahb nhb chb], 71, (0, 0)⟩, _, _, _, _]
    refine DN ⟨[6, 8, 9, 11], [0, 1, 2, 3, 4, 5, 7, 10], [0, 1, 2, 3, 4, 5, 7, 10], [], []⟩ rfl rfl (by decide +kernel) rfl trivial ?_
    refine C7 (F' := [(29, Ptr nb3 3), (30, SL none 0 0), (31, Ptr nb11 0), (32, .bool x3.b), (33, Ptr nb11 1), (34, .agg ([U64 x3.s.e] ++ cu8 x3.s.d ++ cu8 x3.s.t).toArray), (35, .agg ([U64 x3.s.e] ++ cu8 x3.s.d ++ cu8 x3.s.t).toArray), (36, .agg (List.toArray (α := Value) ([.bool x3.b, U64 x3.s.e] ++ cu8 x3.s.d ++ cu8 x3.s.t))), (37, Slc nb12 0 1 1), (38, Slc nb13 0 1 cp3), (39, Ptr nb3 3), (2, Ptr nb2 0), (3, Ptr nb3 0), (23, SL aj nj cj), (24, I64 nj), (25, I64 0), (26, .bool (decide ((0:Int) < ((nj:Int))))), (27, Ptr bz3 oz3), (28, .agg (List.toArray (α := Value) ([.bool x3.b, U64 x3.s.e] ++ cu8 x3.s.d ++ cu8 x3.s.t))), (5, Ptr nb11 0)]) (by kernel_rfl) ?_
    refine BY (AF (AD (AA (I64 1) (AU rfl rfl fun _ => DE _ _ (1:Int) (by omega) (by omega)) rfl ?_)))
    refine AA _ (AL rfl) rfl ?_
    refine AN (DK (BP [true, true, true, false, false, true] ?_))
    show K _ _ [_, _, _, _] _
    refine EM (.inr (1, ([] : List ItemR) ++ [x3], nb13, sp3, cp3)) ⟨by omega, by omega, F9 (i := 0) hx3, (ha9).trans (by first | rfl | simp +arith), (ha10).trans (by first | rfl | simp +arith), by omega, by omega⟩ (by first | (simp; omega) | simp | (dsimp only; omega) | omega) (Sub.all rfl) rfl
   ·
    have hp3 : ¬ ((0:Int) < ((nj:Int))) := of_decide_eq_false hb3
    refine DU (A5 (A5 (CQ (AF (AK (AD (AA (.agg ([U64 rq, I64 (rk), I64 (er), SL none 0 0, .bool th, U64 pv, U64 ep, I64 (kd), SL ai ni ci, SL na2 ns nc2, U64 bl] ++ cu8 tg ++ [SL aha nha cha, SL ahb nhb chb]).toArray) (AI rfl (BV DR C2 (by simp [htg]) (AS 1 rfl (AV _)))) rfl ?_)))))))
    refine B1 (CW 0 nb2 29 ([U64 0, I64 0, I64 0, SL none 0 0, .bool false, U64 0, U64 0, I64 0, SL none 0 0, SL none 0 0, U64 0] ++ cu8 (zr8 16) ++ [SL none 0 0, SL none 0 0]) 71 ([U64 rq, I64 (rk), I64 (er), SL none 0 0, .bool th, U64 pv, U64 ep, I64 (kd), SL ai ni ci, SL na2 ns nc2, U64 bl] ++ cu8 tg ++ [SL aha nha cha, SL ahb nhb chb]) rfl rfl rfl C2 (by simp [htg]) (EH (EH (by simp [Value.oneCell']) FE) (by simp [Value.oneCell'])) (by simp [(B6 16)]) (DC (by simp [(B6 16), htg]))) rfl ?_
    show JL _ _ _ _ _ [⟨nb2, [U64 rq, I64 (rk), I64 (er), SL none 0 0, .bool th, U64 pv, U64 ep, I64 (kd), SL ai ni ci, SL na2 ns nc2, U64 bl] ++ cu8 tg ++ [SL aha nha cha, SL ahb nhb chb], 71, (0, 0)⟩, _, _]
    refine AN (AF (BK (BJ (.agg ([U64 rq, I64 (rk), I64 (er), SL none 0 0, .bool th, U64 pv, U64 ep, I64 (kd), SL ai ni ci, SL na2 ns nc2, U64 bl] ++ cu8 tg ++ [SL aha nha cha, SL ahb nhb chb]).toArray) (res1 Tryd.results32 (F6 rfl (BV DR C2 (by simp [htg]) (AS 0 rfl (AV _))))) fun w1 hw1 => ?_)))
    obtain rfl : nj = 0 := by omega
    exact ⟨_, _, rfl, ⟨_, _, _, none, 0, _, _, _, _, _, rfl, rfl, Gh.itm hlj rfl, by omega, by first | omega | (unfold maxLen; omega), hc4, by omega, by omega⟩, Hp.two hw1 0 2 rfl rfl (by decide)⟩
  ·
   obtain ⟨hi1, hi2, hi3, hi4, hi5, hi6, hi7⟩ := hx
   show JC _ _ _ [(2, Ptr nb2 0), (3, Ptr nb3 0), (23, SL aj nj cj), (24, I64 nj), (25, I64 i)] [⟨nb2, [U64 0, I64 0, I64 0, SL none 0 0, .bool false, U64 0, U64 0, I64 0, SL none 0 0, SL none 0 0, U64 0] ++ cu8 (zr8 16) ++ [SL none 0 0, SL none 0 0], 71, (0, 0)⟩, ⟨nb3, [U64 rq, I64 (rk), I64 (er), Slc gb 0 i cp, .bool th, U64 pv, U64 ep, I64 (kd), SL ai ni ci, SL na2 ns nc2, U64 bl] ++ cu8 tg ++ [SL aha nha cha, SL ahb nhb chb], 71, (0, 0)⟩, ⟨ng2, cs2, nT2, (0, 0)⟩, ⟨gb, (rr).flatMap itemC ++ sp, 167, (0, 0)⟩]
   refine AK (AD (AA (.bool (decide (((i:Int)) < ((nj:Int))))) (AU rfl rfl fun _ => CR _ _) rfl ?_))
   refine AN (AF (AK (CI (decide (((i:Int)) < ((nj:Int)))) rfl (fun hb4 => ?_) (fun hb4 => ?_))))
   ·
    have hp4 : ((i:Int)) < ((nj:Int)) := of_decide_eq_true hb4
    refine BE (AF (AK (B2 (AK (AD ?_)))))
    obtain ⟨x4, hx4⟩ : ∃ x, lj[i]? = some x := ⟨_, List.getElem?_eq_getElem (by rw [hlj]; omega)⟩
    obtain ⟨bz4, oz4, hz4, hm4⟩ := E4 E6 (by decide) hj hx4
    rw [FO] at hm4
    refine AA (Ptr bz4 (50*i + oz4)) (B4 163 50 (50*i + oz4) CF DD rfl hz4 rfl (by omega) (by omega) (by omega)) rfl ?_
    refine AA (.agg (List.toArray (α := Value) ([.bool x4.b, U64 x4.s.e] ++ cu8 x4.s.d ++ cu8 x4.s.t))) (AI rfl (BV Tryd.isAgg163 DD (by simp [x4.s.hd, x4.s.ht]) (CK (hm4.mem (by simp)) (AV _) (by first | omega | (simp; done) | (simp; omega))))) rfl ?_
    refine A9 (DI _ ([.bool false, U64 0] ++ cu8 (zr8 32) ++ cu8 (zr8 16)) Tryd.zeroValue163 (by kernel_rfl)) rfl ?_
    rintro v1 L1 ⟨nb14, hnb14, rfl, rfl⟩
    show JL _ _ _ _ ((5, Ptr nb14 0) :: _) [_, _, _, _, ⟨nb14, [.bool false, U64 0] ++ cu8 (zr8 32) ++ cu8 (zr8 16), 163, (0, 0)⟩]
    refine B1 (CW 4 nb14 50 ([.bool false, U64 0] ++ cu8 (zr8 32) ++ cu8 (zr8 16)) 163 ([.bool x4.b, U64 x4.s.e] ++ cu8 x4.s.d ++ cu8 x4.s.t) rfl rfl rfl DD (by simp [x4.s.hd, x4.s.ht]) (EH (EH (by simp [Value.oneCell']) FE) FE) (by simp [(B6 32), (B6 16)]) (DC (by simp [(B6 32), (B6 16), x4.s.hd, x4.s.ht]))) rfl ?_
    show JL _ _ _ _ _ [_, _, _, _, ⟨nb14, [.bool x4.b, U64 x4.s.e] ++ cu8 x4.s.d ++ cu8 x4.s.t, 163, (0, 0)⟩]
    refine AN (AF (DH 42 5 [(0, Ptr nb3 3), (1, Slc gb 0 i cp), (2, Ptr nb14 0), (3, .bool x4.b), (4, Ptr nb14 1), (5, .agg ([U64 x4.s.e] ++ cu8 x4.s.d ++ cu8 x4.s.t).toArray)] B8 rfl (by decide +kernel) ?_))
    refine CZ ⟨[], [0, 1, 2, 3, 4, 5], [], [0, 1, 2, 3, 4, 5], [6]⟩ 6 _ rfl rfl (by decide +kernel) rfl ⟨⟨_, rfl, AJ rfl (AB 3 69 1 AO rfl BQ rfl rfl)⟩, ⟨_, rfl, AJ rfl (AI rfl (AQ B9 (AS 1 rfl (AG (AG (AE (AE (AE (Seg.head)))))))))⟩, ⟨_, rfl, AJ rfl (AB 0 4 1 C0 rfl BB rfl rfl)⟩, ⟨_, rfl, AJ rfl (AI rfl (AQ BD (AS 4 rfl (AG (AG (Seg.head))))))⟩, ⟨_, rfl, AJ rfl (AB 1 161 49 C0 rfl CJ rfl rfl)⟩, ⟨_, rfl, AJ rfl (AI rfl (BV D2 CJ (by simp [x4.s.hd, x4.s.ht]) (AS 4 rfl (C6 (p := [.bool x4.b]) (q := []) (vs := [U64 x4.s.e] ++ cu8 x4.s.d ++ cu8 x4.s.t) (by first | rfl | (simp only [List.append_assoc, List.nil_append, List.append_nil, List.cons_append]; done)) rfl))))⟩, trivial⟩ rfl (BI rfl (BG 93 [.agg ([U64 x4.s.e] ++ cu8 x4.s.d ++ cu8 x4.s.t).toArray] (.agg ([U64 x4.s.e] ++ cu8 x4.s.d ++ cu8 x4.s.t).toArray) (A6 _ Tryd.call93 rfl) (fun w1 hw1 => doc7_c x4.s.e x4.s.d x4.s.t w1 x4.s.hd x4.s.ht))) ?_
    rintro v1 L1 ⟨rfl, rfl⟩
    refine ⟨[(7, .agg (List.toArray (α := Value) ([.bool x4.b, U64 x4.s.e] ++ cu8 x4.s.d ++ cu8 x4.s.t)))], ?_⟩
    show DP _ _ _ _ _ _ _ _ [_, _, _, _, _]
    refine CZ ⟨[6], [0, 1, 2, 3, 4, 5, 7], [4, 5], [0, 1, 2, 3, 7], [8]⟩ 8 _ rfl rfl (by decide +kernel) rfl ⟨⟨_, rfl, AJ rfl (AB 3 69 1 AO rfl BQ rfl rfl)⟩, ⟨_, rfl, AJ rfl (AI rfl (AQ B9 (AS 1 rfl (AG (AG (AE (AE (AE (Seg.head)))))))))⟩, ⟨_, rfl, AJ rfl (AB 0 4 1 C0 rfl BB rfl rfl)⟩, ⟨_, rfl, AJ rfl (AI rfl (AQ BD (AS 4 rfl (AG (AG (Seg.head))))))⟩, ⟨_, rfl, AJ rfl (EB [(0, .bool x4.b), (1, .agg ([U64 x4.s.e] ++ cu8 x4.s.d ++ cu8 x4.s.t).toArray)] _ rfl (fun _ => bld167_01 rfl (by simp [B6, x4.s.hd, x4.s.ht])))⟩, trivial⟩ rfl (BI rfl (B3 167 50 _ [(0, .agg (List.toArray (α := Value) ([.bool x4.b, U64 x4.s.e] ++ cu8 x4.s.d ++ cu8 x4.s.t)))] ([.bool x4.b, U64 x4.s.e] ++ cu8 x4.s.d ++ cu8 x4.s.t) BM DM Tryd.zeroValue167 rfl rfl rfl (fill_one (Z := [.bool false, U64 0] ++ cu8 (zr8 32) ++ cu8 (zr8 16)) (by simp [x4.s.hd, x4.s.ht]) (by kernel_rfl) (by simp [zr8])))) ?_
    rintro v1 L1 ⟨nb15, hnb15, rfl, rfl⟩
    refine ⟨[], ?_⟩
    show DP _ _ _ _ _ _ _ _ [_, _, _, _, _, ⟨nb15, [.bool x4.b, U64 x4.s.e] ++ cu8 x4.s.d ++ cu8 x4.s.t, 167, (0, 0)⟩]
    refine CZ ⟨[6, 8], [0, 1, 2, 3, 4, 5, 7], [2, 3, 4, 5, 7], [0, 1], [9]⟩ 9 _ rfl rfl (by decide +kernel) rfl ⟨⟨_, rfl, AJ rfl (AB 3 69 1 AO rfl BQ rfl rfl)⟩, ⟨_, rfl, AJ rfl (AI rfl (AQ B9 (AS 1 rfl (AG (AG (AE (AE (AE (Seg.head)))))))))⟩, trivial⟩ rfl (BI rfl (Step_appI 69 167 64 (.agg (List.toArray (α := Value) ([.bool false, U64 0] ++ cu8 (zr8 32) ++ cu8 (zr8 16)))) [false, false, false, true, false, false] (Slc gb 0 i cp) i rr x4 (some ⟨nb15, 0, none⟩) 1 (i + 1) BM (by kernel_rfl) (by kernel_rfl) rfl (.inr ⟨gb, sp, cp, rfl, rfl, (by have h : (rr).length = i := hi4; omega), (by first | exact hi5 | omega), (by omega), (by omega)⟩) rfl (SrcAt.mem (AS 5 rfl (AV _))) (by omega) (by omega) (by omega))) ?_
    rintro v1 L1 ⟨nb16, sp4, cp4, hg4, rfl, rfl, ha13, ha14, ha15, ha16⟩
    refine ⟨[(10, Ptr nb3 3)], ?_⟩
    show DP _ _ _ _ _ _ _ _ [_, _, _, _, _, ⟨nb16, (rr ++ [x4]).flatMap itemC ++ sp4, 167, (0, 0)⟩]
    refine FH ⟨[6, 8, 9], [0, 1, 2, 3, 4, 5, 7, 10], [0, 1, 2, 3, 4, 5, 7], [10], [11]⟩ 11 rfl rfl (by decide +kernel) rfl ⟨⟨_, rfl, AJ rfl (AB 3 69 1 AO rfl BQ rfl rfl)⟩, trivial⟩ rfl (BI rfl (FD 1 nb3 3 1 ([U64 rq, I64 (rk), I64 (er), Slc gb 0 i cp, .bool th, U64 pv, U64 ep, I64 (kd), SL ai ni ci, SL na2 ns nc2, U64 bl] ++ cu8 tg ++ [SL aha nha cha, SL ahb nhb chb]) 71 (Slc nb16 0 (i + 1) cp4) ([Slc nb16 0 (i + 1) cp4]) ([U64 rq, I64 (rk), I64 (er), Slc nb16 0 (i + 1) cp4, .bool th, U64 pv, U64 ep, I64 (kd), SL ai ni ci, SL na2 ns nc2, U64 bl] ++ cu8 tg ++ [SL aha nha cha, SL ahb nhb chb]) rfl rfl rfl rfl BQ rfl (by simp [Value.oneCell']) (by simp [htg]) (lay_left (p := [U64 rq, I64 (rk), I64 (er), Slc gb 0 i cp, .bool th, U64 pv, U64 ep, I64 (kd), SL ai ni ci, SL na2 ns nc2, U64 bl] ++ cu8 tg) (vs := [Slc nb16 0 (i + 1) cp4]) (o := 3) (by simp [htg]) (lay_left (p := [U64 rq, I64 (rk), I64 (er), Slc gb 0 i cp, .bool th, U64 pv, U64 ep, I64 (kd), SL ai ni ci, SL na2 ns nc2, U64 bl]) (vs := [Slc nb16 0 (i + 1) cp4]) (o := 3) (by simp []) (rfl))))) ?_
    show DP _ _ _ _ _ _ _ _ [_, ⟨nb3, [U64 rq, I64 (rk), I64 (er), Slc nb16 0 (i + 1) cp4, .bool th, U64 pv, U64 ep, I64 (kd), SL ai ni ci, SL na2 ns nc2, U64 bl] ++ cu8 tg ++ [SL aha nha cha, SL ahb nhb chb], 71, (0, 0)⟩, _, _, _, _]
    refine DN ⟨[6, 8, 9, 11], [0, 1, 2, 3, 4, 5, 7, 10], [0, 1, 2, 3, 4, 5, 7, 10], [], []⟩ rfl rfl (by decide +kernel) rfl trivial ?_
    refine C7 (F' := [(29, Ptr nb3 3), (30, Slc gb 0 i cp), (31, Ptr nb14 0), (32, .bool x4.b), (33, Ptr nb14 1), (34, .agg ([U64 x4.s.e] ++ cu8 x4.s.d ++ cu8 x4.s.t).toArray), (35, .agg ([U64 x4.s.e] ++ cu8 x4.s.d ++ cu8 x4.s.t).toArray), (36, .agg (List.toArray (α := Value) ([.bool x4.b, U64 x4.s.e] ++ cu8 x4.s.d ++ cu8 x4.s.t))), (37, Slc nb15 0 1 1), (38, Slc nb16 0 (i + 1) cp4), (39, Ptr nb3 3), (2, Ptr nb2 0), (3, Ptr nb3 0), (23, SL aj nj cj), (24, I64 nj), (25, I64 i), (26, .bool (decide (((i:Int)) < ((nj:Int))))), (27, Ptr bz4 (50*i + oz4)), (28, .agg (List.toArray (α := Value) ([.bool x4.b, U64 x4.s.e] ++ cu8 x4.s.d ++ cu8 x4.s.t))), (5, Ptr nb14 0)]) (by kernel_rfl) ?_
    refine BY (AF (AD (AA (I64 ((i:Int) + 1)) (AU rfl rfl fun _ => DE _ _ ((i:Int) + 1) (by omega) (by omega)) rfl ?_)))
    refine AA _ (AL rfl) rfl ?_
    refine AN (DK (BP [true, true, true, false, false, true] ?_))
    show K _ _ [_, _, _, _] _
    refine EM (.inr (i + 1, rr ++ [x4], nb16, sp4, cp4)) ⟨by omega, by omega, (by rw [hi3]; exact F9 hx4), (ha13).trans (by first | rfl | simp +arith), (ha14).trans (by first | rfl | simp +arith), by omega, by omega⟩ (by first | (simp; omega) | simp | (dsimp only; omega) | omega) (Sub.all rfl) rfl
   ·
    have hp4 : ¬ (((i:Int)) < ((nj:Int))) := of_decide_eq_false hb4
    refine DU (A5 (A5 (CQ (AF (AK (AD (AA (.agg ([U64 rq, I64 (rk), I64 (er), Slc gb 0 i cp, .bool th, U64 pv, U64 ep, I64 (kd), SL ai ni ci, SL na2 ns nc2, U64 bl] ++ cu8 tg ++ [SL aha nha cha, SL ahb nhb chb]).toArray) (AI rfl (BV DR C2 (by simp [htg]) (AS 1 rfl (AV _)))) rfl ?_)))))))
    refine B1 (CW 0 nb2 29 ([U64 0, I64 0, I64 0, SL none 0 0, .bool false, U64 0, U64 0, I64 0, SL none 0 0, SL none 0 0, U64 0] ++ cu8 (zr8 16) ++ [SL none 0 0, SL none 0 0]) 71 ([U64 rq, I64 (rk), I64 (er), Slc gb 0 i cp, .bool th, U64 pv, U64 ep, I64 (kd), SL ai ni ci, SL na2 ns nc2, U64 bl] ++ cu8 tg ++ [SL aha nha cha, SL ahb nhb chb]) rfl rfl rfl C2 (by simp [htg]) (EH (EH (by simp [Value.oneCell']) FE) (by simp [Value.oneCell'])) (by simp [(B6 16)]) (DC (by simp [(B6 16), htg]))) rfl ?_
    show JL _ _ _ _ _ [⟨nb2, [U64 rq, I64 (rk), I64 (er), Slc gb 0 i cp, .bool th, U64 pv, U64 ep, I64 (kd), SL ai ni ci, SL na2 ns nc2, U64 bl] ++ cu8 tg ++ [SL aha nha cha, SL ahb nhb chb], 71, (0, 0)⟩, _, _, _]
    refine AN (AF (BK (BJ (.agg ([U64 rq, I64 (rk), I64 (er), Slc gb 0 i cp, .bool th, U64 pv, U64 ep, I64 (kd), SL ai ni ci, SL na2 ns nc2, U64 bl] ++ cu8 tg ++ [SL aha nha cha, SL ahb nhb chb]).toArray) (res1 Tryd.results32 (F6 rfl (BV DR C2 (by simp [htg]) (AS 0 rfl (AV _))))) fun w1 hw1 => ?_)))
    have hr : rr = lj := by rw [hi3]; exact List.take_of_length_le (by omega)
    obtain rfl : i = nj := by omega
    exact ⟨_, _, rfl, ⟨_, _, _, (some ⟨gb, 0, none⟩), cp, _, _, _, _, _, rfl, rfl, .inr ⟨rfl, _, by rw [hr]⟩, by omega, by first | omega | (unfold maxLen; omega), hc4, by omega, by omega⟩, Hp.two hw1 3 2 rfl rfl (by decide)⟩
end Go.Proofs.YtkdpdgpphpngeaaDoor
namespace Go.Proofs.YtkdpdgpphpngeaaDoor
open Go Go.Sx
open Go.Value renaming slice → SL
attribute [local irreducible] mid zr8 numK rnK valK constL initL putL RightB tktT mayN idxT selT blankB
theorem rightReqA_c  (w : World) : Calls Tryd.prog 22 #[.agg ([U64 1, I64 5, SL none 0 0, U64 0, I64 0, U64 0, U64 0, I64 0, SL none 0 0, SL none 0 0, U64 0] ++ cu8 (zr8 16) ++ [U64 3]).toArray] w (Post w [] (fun v L => v = .bool true ∧ L = [])) := by
 have hmx : maxLen = 9223372036854775807 := rfl
 refine enter (P := Tryd.prog) (f := 22) (fn := Tryd.f22) w [] 86 [] [.agg ([U64 1, I64 5, SL none 0 0, U64 0, I64 0, U64 0, U64 0, I64 0, SL none 0 0, SL none 0 0, U64 0] ++ cu8 (zr8 16) ++ [U64 3]).toArray] Tryd.func22 rfl rfl (by simp) (CC (by simp) (by simp) (by simp)) ?_
 show JC _ _ _ [(0, .agg ([U64 1, I64 5, SL none 0 0, U64 0, I64 0, U64 0, U64 0, I64 0, SL none 0 0, SL none 0 0, U64 0] ++ cu8 (zr8 16) ++ [U64 3]).toArray)] _
 refine AK (AD (A9 (CL (.agg ([U64 1, I64 5, SL none 0 0, U64 0, I64 0, U64 0, U64 0, I64 0, SL none 0 0, SL none 0 0, U64 0] ++ cu8 (zr8 16) ++ [U64 3]).toArray) ([U64 1, I64 5, SL none 0 0, U64 0, I64 0, U64 0, U64 0, I64 0, SL none 0 0, SL none 0 0, U64 0] ++ cu8 (zr8 16) ++ [U64 3]) rfl (by first | rfl | simp)) rfl ?_))
 rintro v1 L1 ⟨nb1, hnb1, rfl, rfl⟩
 show JL _ _ _ _ ((1, Ptr nb1 0) :: _) [⟨nb1, [U64 1, I64 5, SL none 0 0, U64 0, I64 0, U64 0, U64 0, I64 0, SL none 0 0, SL none 0 0, U64 0] ++ cu8 (zr8 16) ++ [U64 3], 31, (0, 0)⟩]
 refine AA _ (AH rfl) rfl ?_
 refine AN (AF (AK (DH 86 2 [(0, Ptr nb1 2), (1, SL none 0 0), (2, I64 0), (3, .bool (decide ((0:Int) < (0:Int)))), (4, Ptr nb1 3), (5, U64 0), (6, .bool (decide ((0:UInt64) < (0:UInt64)))), (7, .bool (decide ((0:UInt64) < (0:UInt64)))), (8, Ptr nb1 4), (9, I64 0), (10, .bool (decide ((0:Int) ≠ (0:Int)))), (11, .bool (decide ((0:Int) ≠ (0:Int)))), (12, Ptr nb1 5), (13, .agg ([U64 0, U64 0, I64 0, SL none 0 0, SL none 0 0, U64 0] ++ cu8 (zr8 16)).toArray), (16, Ptr nb1 27), (17, U64 3), (18, .bool (decide ((0:UInt64) < (3:UInt64))))] B8 rfl (by decide +kernel) ?_)))
 refine CZ ⟨[], [0, 1, 2, 3, 4, 5, 6, 7, 8, 9, 10, 11, 12, 13, 16, 17, 18], [], [0, 1, 2, 3, 4, 5, 6, 7, 8, 9, 10, 11, 12, 13, 16, 17, 18], [14]⟩ 14 _ rfl rfl (by decide +kernel) rfl ⟨⟨_, rfl, AJ rfl (AB 2 23 1 DS rfl DG rfl rfl)⟩, ⟨_, rfl, AJ rfl (AI rfl (AQ DL (AS 0 rfl (AG (AG (AE (AE (Seg.head))))))))⟩, ⟨_, rfl, AJ rfl (CY BW rfl)⟩, ⟨_, rfl, AJ rfl (AU rfl rfl fun _ => D1 _ _)⟩, ⟨_, rfl, AJ rfl (AB 3 22 1 DS rfl AX rfl rfl)⟩, ⟨_, rfl, AJ rfl (AI rfl (AQ AY (AS 0 rfl (AG (AG (AE (AE (AE (Seg.head)))))))))⟩, ⟨_, rfl, AJ rfl (AU rfl rfl fun _ => bin_gtr_u64 (0:UInt64) (0:UInt64))⟩, CD rfl rfl rfl, ⟨_, rfl, BT 7 14 false _ rfl rfl rfl (by decide) (AB 4 3 1 DS rfl AR rfl rfl)⟩, ⟨_, rfl, BT 7 14 false _ rfl rfl rfl (by decide) (AI rfl (AQ AT (AS 0 rfl (AG (AG (AE (AE (AE (AE (Seg.head))))))))))⟩, ⟨_, rfl, BT 7 14 false _ rfl rfl rfl (by decide) (AU rfl rfl fun _ => EO _ _)⟩, ⟨_, rfl, AJ rfl (A0 _ rfl (by decide) rfl)⟩, ⟨_, rfl, AJ rfl (AB 5 29 22 DS rfl DJ rfl rfl)⟩, ⟨_, rfl, AJ rfl (AI rfl (BV ER DJ (by simp [(B6 16)]) (AS 0 rfl (C6 (p := [U64 1, I64 5, SL none 0 0, U64 0, I64 0]) (q := [U64 3]) (vs := [U64 0, U64 0, I64 0, SL none 0 0, SL none 0 0, U64 0] ++ cu8 (zr8 16)) (by first | rfl | (simp only [List.append_assoc, List.nil_append, List.append_nil, List.cons_append]; done)) rfl))))⟩, ⟨_, rfl, AJ rfl (AB 27 22 1 DS rfl AX rfl rfl)⟩, ⟨_, rfl, AJ rfl (AI rfl (AQ AY (AS 0 rfl (Seg.right 27 0 (by simp [(B6 16)]) rfl (Seg.head)))))⟩, ⟨_, rfl, AJ rfl (AU rfl rfl fun _ => bin_gtr_u64 (3:UInt64) (0:UInt64))⟩, trivial⟩ rfl (BI rfl (BG 84 [.agg ([U64 0, U64 0, I64 0, SL none 0 0, SL none 0 0, U64 0] ++ cu8 (zr8 16)).toArray] (.bool (blankB (0:UInt64) (0:UInt64) (0:Int) ([] : List UInt64) ([] : List SealR) (0:UInt64) (zr8 16))) (A6 _ Tryd.call84 rfl) (fun w1 hw1 => blank_c (0:UInt64) (0:UInt64) (0:Int) none 0 0 ([] : List UInt64) none 0 0 ([] : List SealR) (0:UInt64) (zr8 16) w1 rfl (by omega) (by omega) (by omega) RdV.nil rfl (by omega) (by omega) (by omega) RdV.nil (B6 16)))) ?_
 rintro v1 L1 ⟨rfl, rfl⟩
 refine ⟨[(15, .bool (!(blankB (0:UInt64) (0:UInt64) (0:Int) ([] : List UInt64) ([] : List SealR) (0:UInt64) (zr8 16)))), (19, .bool (decide ((0:Int) < (0:Int)))), (20, .bool (decide ((0:Int) ≠ (0:Int)))), (21, .bool (!(blankB (0:UInt64) (0:UInt64) (0:Int) ([] : List UInt64) ([] : List SealR) (0:UInt64) (zr8 16)))), (22, .bool (decide ((0:UInt64) < (3:UInt64))))], ?_⟩
 show DP _ _ _ _ _ _ _ _ [_]
 refine DN ⟨[14], [0, 1, 2, 3, 4, 5, 6, 7, 8, 9, 10, 11, 12, 13, 15, 16, 17, 18, 19, 20, 21, 22], [4, 5, 6, 7, 12, 13], [0, 1, 2, 3, 8, 9, 10, 11, 15, 16, 17, 18, 19, 20, 21, 22], []⟩ rfl rfl (by decide +kernel) rfl ⟨⟨_, rfl, AJ rfl (AB 2 23 1 DS rfl DG rfl rfl)⟩, ⟨_, rfl, AJ rfl (AI rfl (AQ DL (AS 0 rfl (AG (AG (AE (AE (Seg.head))))))))⟩, ⟨_, rfl, AJ rfl (CY BW rfl)⟩, ⟨_, rfl, AJ rfl (AU rfl rfl fun _ => D1 _ _)⟩, ⟨_, rfl, BT 7 14 false _ rfl rfl rfl (by decide) (AB 4 3 1 DS rfl AR rfl rfl)⟩, ⟨_, rfl, BT 7 14 false _ rfl rfl rfl (by decide) (AI rfl (AQ AT (AS 0 rfl (AG (AG (AE (AE (AE (AE (Seg.head))))))))))⟩, ⟨_, rfl, BT 7 14 false _ rfl rfl rfl (by decide) (AU rfl rfl fun _ => EO _ _)⟩, ⟨_, rfl, AJ rfl (A0 _ rfl (by decide) rfl)⟩, ⟨_, rfl, AJ rfl (EP rfl)⟩, ⟨_, rfl, AJ rfl (AB 27 22 1 DS rfl AX rfl rfl)⟩, ⟨_, rfl, AJ rfl (AI rfl (AQ AY (AS 0 rfl (Seg.right 27 0 (by simp [(B6 16)]) rfl (Seg.head)))))⟩, ⟨_, rfl, AJ rfl (AU rfl rfl fun _ => bin_gtr_u64 (3:UInt64) (0:UInt64))⟩, ⟨_, rfl, AJ rfl (AH rfl)⟩, ⟨_, rfl, AJ rfl (AH rfl)⟩, ⟨_, rfl, AJ rfl (AH rfl)⟩, ⟨_, rfl, AJ rfl (AH rfl)⟩, trivial⟩ ?_
 refine C7 (F' := [(3, .bool (decide ((0:Int) < (0:Int)))), (4, .bool (decide ((0:Int) ≠ (0:Int)))), (5, .bool (!(blankB (0:UInt64) (0:UInt64) (0:Int) ([] : List UInt64) ([] : List SealR) (0:UInt64) (zr8 16)))), (6, .bool (decide ((0:UInt64) < (3:UInt64)))), (1, Ptr nb1 0), (2, .bool false)]) (by kernel_rfl) ?_
 refine AF (AK (AK (AD (AA (Ptr nb1 1) (AB 1 3 1 DS rfl AR rfl rfl) rfl ?_))))
 refine AA (I64 5) (AI rfl (AQ AT (AS 0 rfl (AG (AG (AE (Seg.head))))))) rfl ?_
 refine AN (AF (B2 (AK (AD (AA (.bool (decide ((5:Int) = (1:Int)))) (AU rfl rfl fun _ => BO _ _) rfl ?_)))))
 refine AA _ (AH rfl) rfl ?_
 refine AN (AF (BN _ rfl (by decide) ?_))
 refine AK (AD (AA (.bool (decide ((5:Int) = (2:Int)))) (AU rfl rfl fun _ => BO _ _) rfl ?_))
 refine AA _ (AH rfl) rfl ?_
 refine AN (AF (BN _ rfl (by decide) ?_))
 refine AK (AD (AA (.bool (decide ((5:Int) = (3:Int)))) (AU rfl rfl fun _ => BO _ _) rfl ?_))
 refine AA _ (AH rfl) rfl ?_
 refine AN (AF (BN _ rfl (by decide) ?_))
 refine AK (AK (AD (AA (.bool (decide ((5:Int) = (4:Int)))) (AU rfl rfl fun _ => BO _ _) rfl ?_)))
 refine AA _ (AH rfl) rfl ?_
 refine AN (AF (BN _ rfl (by decide) ?_))
 refine AD (AA (.bool (decide ((5:Int) = (5:Int)))) (AU rfl rfl fun _ => BO _ _) rfl ?_)
 refine AA _ (AH rfl) rfl ?_
 refine AN (AF (CO _ rfl (by decide) ?_))
 refine AK (AD (AA _ (AL rfl) rfl ?_))
 refine AA (.bool (!(decide ((0:Int) < (0:Int))))) (EP rfl) rfl ?_
 refine AA _ (AL rfl) rfl ?_
 refine AP 2 78 true _ _ rfl rfl (bnotF (by decide)) (AL rfl) rfl ?_
 refine AP 2 78 true _ (.bool (!(decide ((0:Int) ≠ (0:Int))))) rfl rfl (bnotF (by decide)) (EP rfl) rfl ?_
 refine AA _ (A2 _ rfl (bnotF (by decide)) rfl) rfl ?_
 refine AA _ (AL rfl) rfl ?_
 refine AP 6 82 true _ _ rfl rfl (bnotF (by decide)) (AL rfl) rfl ?_
 refine AP 6 82 true _ (.bool (!(!(blankB (0:UInt64) (0:UInt64) (0:Int) ([] : List UInt64) ([] : List SealR) (0:UInt64) (zr8 16))))) rfl rfl (bnotF (by decide)) (EP rfl) rfl ?_
 refine AA _ (A2 _ rfl (bnotF (by decide)) rfl) rfl ?_
 refine AA _ (AH rfl) rfl ?_
 refine AN (AF (BK (CT (A1 (BP [false] ?_)))))
 show JQ _ _ _ _ []
 refine BJ (.bool (!(!(blankB (0:UInt64) (0:UInt64) (0:Int) ([] : List UInt64) ([] : List SealR) (0:UInt64) (zr8 16))))) (res1 Tryd.results22 (BH rfl)) fun w1 hw1 => ?_
 exact ⟨_, [], rfl, ⟨congrArg Value.bool (bnotF (bnotT (by decide +kernel))), rfl⟩, hw1.sub (by simp) (by simp)⟩
theorem putReqA_c  (w : World) : Calls Tryd.prog 21 #[.agg ([U64 1, I64 5, SL none 0 0, U64 0, I64 0, U64 0, U64 0, I64 0, SL none 0 0, SL none 0 0, U64 0] ++ cu8 (zr8 16) ++ [U64 3]).toArray] w (Post w [] (fun v L => ∃ g sp cap, v = .tuple #[Slc g 0 17 cap, .nilIface] ∧ L = [⟨g, cu8 ((numK 8 (1:UInt64) 8 ++ numK 1 (5:UInt64) 1) ++ numK 8 (3:UInt64) 8) ++ sp, 5, (0, 0)⟩] ∧ sp.length = cap - 17 ∧ 17 ≤ cap ∧ cap ≤ maxLen)) := by
 have hmx : maxLen = 9223372036854775807 := rfl
 refine enter (P := Tryd.prog) (f := 21) (fn := Tryd.f21) w [] 82 [] [.agg ([U64 1, I64 5, SL none 0 0, U64 0, I64 0, U64 0, U64 0, I64 0, SL none 0 0, SL none 0 0, U64 0] ++ cu8 (zr8 16) ++ [U64 3]).toArray] Tryd.func21 rfl rfl (by simp) (CC (by simp) (by simp) (by simp)) ?_
 show JC _ _ _ [(0, .agg ([U64 1, I64 5, SL none 0 0, U64 0, I64 0, U64 0, U64 0, I64 0, SL none 0 0, SL none 0 0, U64 0] ++ cu8 (zr8 16) ++ [U64 3]).toArray)] _
 refine AK (AD (A9 (CL (.agg ([U64 1, I64 5, SL none 0 0, U64 0, I64 0, U64 0, U64 0, I64 0, SL none 0 0, SL none 0 0, U64 0] ++ cu8 (zr8 16) ++ [U64 3]).toArray) ([U64 1, I64 5, SL none 0 0, U64 0, I64 0, U64 0, U64 0, I64 0, SL none 0 0, SL none 0 0, U64 0] ++ cu8 (zr8 16) ++ [U64 3]) rfl (by first | rfl | simp)) rfl ?_))
 rintro v1 L1 ⟨nb1, hnb1, rfl, rfl⟩
 show JL _ _ _ _ ((1, Ptr nb1 0) :: _) [⟨nb1, [U64 1, I64 5, SL none 0 0, U64 0, I64 0, U64 0, U64 0, I64 0, SL none 0 0, SL none 0 0, U64 0] ++ cu8 (zr8 16) ++ [U64 3], 31, (0, 0)⟩]
 refine AA _ (AH rfl) rfl ?_
 refine AA _ (AH rfl) rfl ?_
 refine AN (AF (AK (AK (AD (AA (.agg ([U64 1, I64 5, SL none 0 0, U64 0, I64 0, U64 0, U64 0, I64 0, SL none 0 0, SL none 0 0, U64 0] ++ cu8 (zr8 16) ++ [U64 3]).toArray) (AI rfl (BV Tryd.isAgg31 Tryd.sizeOf31 (by simp [(B6 16)]) (AS 0 rfl (AV _)))) rfl ?_)))))
 refine B1 (BG 22 [.agg ([U64 1, I64 5, SL none 0 0, U64 0, I64 0, U64 0, U64 0, I64 0, SL none 0 0, SL none 0 0, U64 0] ++ cu8 (zr8 16) ++ [U64 3]).toArray] (.bool true) (A6 _ Tryd.call22 rfl) (fun w1 hw1 => rightReqA_c  w1 )) rfl ?_
 show JL _ _ _ _ ((10, .bool true) :: _) [_]
 refine AA (.bool (!true)) (EP rfl) rfl ?_
 refine AN (AF (BN _ rfl rfl ?_))
 refine BE (AF (AK (AD (AA (.agg #[.nilIface, SL none 0 0]) (EB [] _ rfl (fun _ => by kernel_rfl)) rfl ?_))))
 refine A9 (CL (.agg #[.nilIface, SL none 0 0]) ([.nilIface, SL none 0 0]) rfl (by first | rfl | simp)) rfl ?_
 rintro v1 L1 ⟨nb2, hnb2, rfl, rfl⟩
 show JL _ _ _ _ ((14, Ptr nb2 0) :: _) [_, ⟨nb2, [.nilIface, SL none 0 0], 149, (0, 0)⟩]
 refine AA _ (AH rfl) rfl ?_
 refine AN (AF (AK (DH 82 3 [(0, Ptr nb2 0), (1, Ptr nb1 0), (2, U64 1), (4, Ptr nb1 1), (5, I64 5), (6, U64 5)] B8 rfl (by decide +kernel) ?_)))
 refine CZ ⟨[], [0, 1, 2, 4, 5, 6], [], [0, 1, 2, 4, 5, 6], [3]⟩ 3 _ rfl rfl (by decide +kernel) rfl ⟨CD rfl rfl rfl, ⟨_, rfl, AJ rfl (AB 0 22 1 DS rfl AX rfl rfl)⟩, ⟨_, rfl, AJ rfl (AI rfl (AQ AY (AS 0 rfl (AG (AG (Seg.head))))))⟩, ⟨_, rfl, AJ rfl (AB 1 3 1 DS rfl AR rfl rfl)⟩, ⟨_, rfl, AJ rfl (AI rfl (AQ AT (AS 0 rfl (AG (AG (AE (Seg.head)))))))⟩, ⟨_, rfl, AJ rfl (CX _ _ rfl fun _ => DA (by rw [AZ]; rfl) A3 rfl)⟩, trivial⟩ rfl (BI rfl (CB 81 _ [false, true] [nb2] _ (A6 [Ptr nb2 0, U64 1, I64 8] C4 rfl) rfl (fun w1 hw1 => numN_c nb2 8 .nilIface (1:UInt64) 8 w1 (hw1.ent _ (List.mem_of_getElem? (i := 1) rfl)) (by unfold Szd; omega) (fun h => absurd h (by omega)) (by omega)))) ?_
 rintro v1 L1 ⟨_, ⟨rfl, nb3, sp1, cp1, rfl, hc1, hc2, hc3⟩, rfl⟩
 refine ⟨[], ?_⟩
 show DP _ _ _ _ _ _ _ _ [_, ⟨nb2, [.nilIface, Slc nb3 0 8 cp1], 149, (0, 0)⟩, ⟨nb3, cu8 (numK 8 (1:UInt64) 8) ++ sp1, 5, (0, 0)⟩]
 refine CZ ⟨[3], [0, 1, 2, 4, 5, 6], [0, 1, 2], [4, 5, 6], [7]⟩ 7 _ rfl rfl (by decide +kernel) rfl ⟨⟨_, rfl, AJ rfl (AB 1 3 1 DS rfl AR rfl rfl)⟩, ⟨_, rfl, AJ rfl (AI rfl (AQ AT (AS 0 rfl (AG (AG (AE (Seg.head)))))))⟩, ⟨_, rfl, AJ rfl (CX _ _ rfl fun _ => DA (by rw [AZ]; rfl) A3 rfl)⟩, trivial⟩ rfl (BI rfl (CB 81 _ [false, true, true] [nb2, nb3] _ (A6 [Ptr nb2 0, U64 5, I64 1] C4 rfl) rfl (fun w1 hw1 => FR nb2 nb3 8 cp1 9 .nilIface (numK 8 (1:UInt64) 8) sp1 (5:UInt64) 1 w1 (hw1.ent _ (List.mem_of_getElem? (i := 1) rfl)) (hw1.ent _ (List.mem_of_getElem? (i := 2) rfl)) (hw1.ne (i := 1) (j := 2) rfl rfl (by decide)) (show (numK 8 (1:UInt64) 8).length = 8 from (A4 _ _ _)) hc1 hc2 hc3 (by omega) (by unfold Szd; omega) (fun _ => by decide) (by omega)))) ?_
 rintro v1 L1 ⟨_, ⟨rfl, nb4, sp2, cp2, rfl, hc4, hc5, hc6⟩, rfl⟩
 refine ⟨[], ?_⟩
 show DP _ _ _ _ _ _ _ _ [_, ⟨nb2, [.nilIface, Slc nb4 0 9 cp2], 149, (0, 0)⟩, ⟨nb4, cu8 ((numK 8 (1:UInt64) 8) ++ numK 1 (5:UInt64) 1) ++ sp2, 5, (0, 0)⟩]
 refine DN ⟨[3, 7], [0, 1, 2, 4, 5, 6], [0, 1, 2, 4, 5, 6], [], []⟩ rfl rfl (by decide +kernel) rfl trivial ?_
 refine C7 (F' := [(1, Ptr nb1 0), (2, SL none 0 0), (3, .nilIface), (4, Ptr nb2 0)]) (by kernel_rfl) ?_
 refine AF (AK (AK (AD (AA (Ptr nb1 1) (AB 1 3 1 DS rfl AR rfl rfl) rfl ?_))))
 refine AA (I64 5) (AI rfl (AQ AT (AS 0 rfl (AG (AG (AE (Seg.head))))))) rfl ?_
 refine AA (.bool (decide ((5:Int) = (3:Int)))) (AU rfl rfl fun _ => BO _ _) rfl ?_
 refine AN (AF (BN _ rfl (by decide) ?_))
 refine BE (AF (AK (AD (AA _ (AL rfl) rfl ?_))))
 refine AA (Ptr nb1 27) (AB 27 22 1 DS rfl AX rfl rfl) rfl ?_
 refine AA (U64 3) (AI rfl (AQ AY (AS 0 rfl (Seg.right 27 0 (by simp [(B6 16)]) rfl (Seg.head))))) rfl ?_
 refine A9 (CB 81 _ [false, true, true] [nb2, nb4] _ (A6 [Ptr nb2 0, U64 3, I64 8] C4 rfl) rfl (fun w1 hw1 => FR nb2 nb4 9 cp2 17 .nilIface ((numK 8 (1:UInt64) 8) ++ numK 1 (5:UInt64) 1) sp2 (3:UInt64) 8 w1 (hw1.ent _ (List.mem_of_getElem? (i := 1) rfl)) (hw1.ent _ (List.mem_of_getElem? (i := 2) rfl)) (hw1.ne (i := 1) (j := 2) rfl rfl (by decide)) (show ((numK 8 (1:UInt64) 8) ++ numK 1 (5:UInt64) 1).length = 9 from (by rw [List.length_append, (show (numK 8 (1:UInt64) 8).length = 8 from (A4 _ _ _)), A4] <;> omega)) hc4 hc5 hc6 (by omega) (by unfold Szd; omega) (fun h => absurd h (by omega)) (by omega))) rfl ?_
 rintro v1 L1 ⟨_, ⟨rfl, nb5, sp3, cp3, rfl, hc7, hc8, hc9⟩, rfl⟩
 show JL _ _ _ _ ((44, Ptr nb2 0) :: _) [_, ⟨nb2, [.nilIface, Slc nb5 0 17 cp3], 149, (0, 0)⟩, ⟨nb5, cu8 (((numK 8 (1:UInt64) 8) ++ numK 1 (5:UInt64) 1) ++ numK 8 (3:UInt64) 8) ++ sp3, 5, (0, 0)⟩]
 refine AN (AF (AK (AK (AD (AA (Ptr nb1 1) (AB 1 3 1 DS rfl AR rfl rfl) rfl ?_)))))
 refine AA (I64 5) (AI rfl (AQ AT (AS 0 rfl (AG (AG (AE (Seg.head))))))) rfl ?_
 refine AN (AF (B2 (AK (AD (AA (.bool (decide ((5:Int) = (1:Int)))) (AU rfl rfl fun _ => BO _ _) rfl ?_)))))
 refine AA _ (AH rfl) rfl ?_
 refine AN (AF (BN _ rfl (by decide) ?_))
 refine AK (AD (AA (.bool (decide ((5:Int) = (2:Int)))) (AU rfl rfl fun _ => BO _ _) rfl ?_))
 refine AA _ (AH rfl) rfl ?_
 refine AN (AF (BN _ rfl (by decide) ?_))
 refine BE (BY (AF (AK (AD (AA _ (AL rfl) rfl ?_)))))
 refine A9 (CG 83 [Ptr nb2 0] _ (A6 _ Tryd.call83 rfl) (fun w1 hw1 => doneO_c nb2 0 nb5 17 cp3 (((numK 8 (1:UInt64) 8) ++ numK 1 (5:UInt64) 1) ++ numK 8 (3:UInt64) 8) w1 (RdA.of hw1 (AS 1 rfl (AV _)) (by simp)) rfl (show (((numK 8 (1:UInt64) 8) ++ numK 1 (5:UInt64) 1) ++ numK 8 (3:UInt64) 8).length = 17 from (by rw [List.length_append, (show ((numK 8 (1:UInt64) 8) ++ numK 1 (5:UInt64) 1).length = 9 from (by rw [List.length_append, (show (numK 8 (1:UInt64) 8).length = 8 from (A4 _ _ _)), A4] <;> omega)), A4] <;> omega)) (by omega) (RdB.of hw1 (AS 2 rfl (AG (AV _))) (by simp)))) rfl ?_
 rintro v1 L1 ⟨_, ⟨nb6, sp4, cp4, rfl, rfl, hc10, hc11, hc12⟩, rfl⟩
 show JL _ _ _ _ ((79, .tuple #[Slc nb6 0 17 cp4, .nilIface]) :: _) [_, _, _, ⟨nb6, cu8 (((numK 8 (1:UInt64) 8) ++ numK 1 (5:UInt64) 1) ++ numK 8 (3:UInt64) 8) ++ sp4, 5, (0, 0)⟩]
 refine AA _ (B0 rfl rfl) rfl ?_
 refine AA _ (B0 rfl rfl) rfl ?_
 refine AA _ (AH rfl) rfl ?_
 refine AA _ (AH rfl) rfl ?_
 refine AN (AF (BK (BP [false, false, false, true] ?_)))
 show JQ _ _ _ _ [_]
 refine BJ (.tuple #[Slc nb6 0 17 cp4, .nilIface]) (res2 Tryd.results21 (BH rfl) (BH rfl)) fun w1 hw1 => ?_
 skip
 exact ⟨_, _, rfl, ⟨nb6, sp4, cp4, rfl, rfl, hc10, hc11, hc12⟩, hw1.sub (by simp) (by simp)⟩
theorem aliveA_c  (w : World) (hW : GLw w)  : Calls Tryd.prog 17 #[] w (Post w [] (fun v L => v = .bool true ∧ L = [])) := by
 have hmx : maxLen = 9223372036854775807 := rfl
 refine enter w [] 37 [] [] Tryd.func17 rfl rfl (by simp) (CC (by simp) (by simp) (by simp)) ?_
 show JC _ _ _ [] _
 refine AK (AD (AA _ (AH rfl) rfl ?_))
 refine AN (AF (AK (AD (AA (.agg ([U64 1, I64 5, SL none 0 0, U64 0, I64 0, U64 0, U64 0, I64 0, SL none 0 0, SL none 0 0, U64 0] ++ cu8 (zr8 16) ++ [U64 3]).toArray) (EB [(0, U64 1), (1, I64 5), (6, U64 3)] _ rfl (fun _ => bld31_016 rfl rfl rfl)) rfl ?_))))
 refine A9 (CG 21 [.agg ([U64 1, I64 5, SL none 0 0, U64 0, I64 0, U64 0, U64 0, I64 0, SL none 0 0, SL none 0 0, U64 0] ++ cu8 (zr8 16) ++ [U64 3]).toArray] _ (A6 _ Tryd.call21 rfl) (fun w1 hw1 => putReqA_c w1)) rfl ?_
 rintro v1 L1 ⟨_, ⟨nb1, sp1, cp1, rfl, rfl, hc1, hc2, hc3⟩, rfl⟩
 show JL _ _ _ _ ((5, .tuple #[Slc nb1 0 17 cp1, .nilIface]) :: _) [⟨nb1, cu8 ((numK 8 (1:UInt64) 8 ++ numK 1 (5:UInt64) 1) ++ numK 8 (3:UInt64) 8) ++ sp1, 5, (0, 0)⟩]
 refine AA _ (AL rfl) rfl ?_
 refine AA _ (B0 rfl rfl) rfl ?_
 refine AA _ (B0 rfl rfl) rfl ?_
 refine AA _ (AH rfl) rfl ?_
 refine AA _ (AH rfl) rfl ?_
 refine AN (AF (AK (AD (AA _ (AL rfl) rfl ?_))))
 refine AA (.bool true) (E3 _ _ _ rfl rfl (fun _ => eqGuard_nn ..) fun _ => F4 DZ) rfl ?_
 refine AA _ (AL rfl) rfl ?_
 refine AP 2 10 true _ _ rfl rfl rfl (AL rfl) rfl ?_
 refine AP 2 10 true _ (I64 17) rfl rfl rfl (CY AW rfl) rfl ?_
 refine AP 2 10 true _ (.bool (decide ((17:Int) = (17:Int)))) rfl rfl rfl (AU rfl rfl fun _ => BO _ _) rfl ?_
 refine AA _ (A2 _ rfl rfl rfl) rfl ?_
 refine AA _ (AL rfl) rfl ?_
 refine AP 7 15 true _ _ rfl rfl (by decide) (AL rfl) rfl ?_
 refine AP 7 15 true _ (Ptr nb1 7) rfl rfl (by decide) (Ev_indexSl 5 1 7 AW B5 rfl rfl (by omega) (by omega) (by omega)) rfl ?_
 refine AP 7 15 true _ (U8 (g8 ((numK 8 (1:UInt64) 8 ++ numK 1 (5:UInt64) 1) ++ numK 8 (3:UInt64) 8) 7)) rfl rfl (by decide) (AI rfl (AQ EC (AS 0 rfl (AG (Seg.get (g8_get (i := 7) (by rw [(show ((numK 8 (1:UInt64) 8 ++ numK 1 (5:UInt64) 1) ++ numK 8 (3:UInt64) 8).length = 17 from (show ((numK 8 (1:UInt64) 8 ++ numK 1 (5:UInt64) 1) ++ numK 8 (3:UInt64) 8).length = 17 from by simp [A4]))]; omega))))))) rfl ?_
 refine AP 7 15 true _ (.bool (decide ((g8 ((numK 8 (1:UInt64) 8 ++ numK 1 (5:UInt64) 1) ++ numK 8 (3:UInt64) 8) 7) = (1:UInt8)))) rfl rfl (by decide) (AU rfl rfl fun _ => bin_eql_u8 (g8 ((numK 8 (1:UInt64) 8 ++ numK 1 (5:UInt64) 1) ++ numK 8 (3:UInt64) 8) 7) (1:UInt8)) rfl ?_
 refine AA _ (A2 _ rfl (by decide) rfl) rfl ?_
 refine AA _ (AL rfl) rfl ?_
 refine AP 13 21 true _ _ rfl rfl (by decide +kernel) (AL rfl) rfl ?_
 refine AP 13 21 true _ (Ptr nb1 8) rfl rfl (by decide +kernel) (Ev_indexSl 5 1 8 AW B5 rfl rfl (by omega) (by omega) (by omega)) rfl ?_
 refine AP 13 21 true _ (U8 (g8 ((numK 8 (1:UInt64) 8 ++ numK 1 (5:UInt64) 1) ++ numK 8 (3:UInt64) 8) 8)) rfl rfl (by decide +kernel) (AI rfl (AQ EC (AS 0 rfl (AG (Seg.get (g8_get (i := 8) (by rw [(show ((numK 8 (1:UInt64) 8 ++ numK 1 (5:UInt64) 1) ++ numK 8 (3:UInt64) 8).length = 17 from (show ((numK 8 (1:UInt64) 8 ++ numK 1 (5:UInt64) 1) ++ numK 8 (3:UInt64) 8).length = 17 from by simp [A4]))]; omega))))))) rfl ?_
 refine AP 13 21 true _ (.bool (decide ((g8 ((numK 8 (1:UInt64) 8 ++ numK 1 (5:UInt64) 1) ++ numK 8 (3:UInt64) 8) 8) = (5:UInt8)))) rfl rfl (by decide +kernel) (AU rfl rfl fun _ => bin_eql_u8 (g8 ((numK 8 (1:UInt64) 8 ++ numK 1 (5:UInt64) 1) ++ numK 8 (3:UInt64) 8) 8) (5:UInt8)) rfl ?_
 refine AA _ (A2 _ rfl (by decide +kernel) rfl) rfl ?_
 refine AA _ (AL rfl) rfl ?_
 refine AP 19 27 true _ _ rfl rfl (by decide +kernel) (AL rfl) rfl ?_
 refine AP 19 27 true _ (Ptr nb1 16) rfl rfl (by decide +kernel) (Ev_indexSl 5 1 16 AW B5 rfl rfl (by omega) (by omega) (by omega)) rfl ?_
 refine AP 19 27 true _ (U8 (g8 ((numK 8 (1:UInt64) 8 ++ numK 1 (5:UInt64) 1) ++ numK 8 (3:UInt64) 8) 16)) rfl rfl (by decide +kernel) (AI rfl (AQ EC (AS 0 rfl (AG (Seg.get (g8_get (i := 16) (by rw [(show ((numK 8 (1:UInt64) 8 ++ numK 1 (5:UInt64) 1) ++ numK 8 (3:UInt64) 8).length = 17 from (show ((numK 8 (1:UInt64) 8 ++ numK 1 (5:UInt64) 1) ++ numK 8 (3:UInt64) 8).length = 17 from by simp [A4]))]; omega))))))) rfl ?_
 refine AP 19 27 true _ (.bool (decide ((g8 ((numK 8 (1:UInt64) 8 ++ numK 1 (5:UInt64) 1) ++ numK 8 (3:UInt64) 8) 16) = (3:UInt8)))) rfl rfl (by decide +kernel) (AU rfl rfl fun _ => bin_eql_u8 (g8 ((numK 8 (1:UInt64) 8 ++ numK 1 (5:UInt64) 1) ++ numK 8 (3:UInt64) 8) 16) (3:UInt8)) rfl ?_
 refine AA _ (A2 _ rfl (by decide +kernel) rfl) rfl ?_
 refine AA _ (AL rfl) rfl ?_
 refine ET 25 33 true _ rfl rfl (by decide +kernel) (BG 74 [I64 1] (.string (⟨⟨[114, 101, 97, 100]⟩⟩)) (A6 _ Tryd.call74 rfl) (fun w1 hw1 => word1_c w1 (GLw.at hw1 hW))) rfl ?_
 rintro v1 L1 ⟨rfl, rfl⟩
 show JL _ _ _ _ ((34, .string (⟨⟨[114, 101, 97, 100]⟩⟩)) :: _) [_]
 refine AP 25 33 true _ (.bool (decide (([114, 101, 97, 100] : List UInt8) = ([114, 101, 97, 100] : List UInt8)))) rfl rfl (by decide +kernel) (E3 _ _ _ rfl rfl (fun _ => eqGuard_str ..) fun _ => eql_str) rfl ?_
 refine AA _ (A2 _ rfl (by decide +kernel) rfl) rfl ?_
 refine AA _ (AH rfl) rfl ?_
 refine AN (AF (BK (BP [false] ?_)))
 show JQ _ _ _ _ []
 refine BJ (.bool (decide (([114, 101, 97, 100] : List UInt8) = ([114, 101, 97, 100] : List UInt8)))) (res1 Tryd.results17 (BH rfl)) fun w1 hw1 => ?_
 exact ⟨_, [], rfl, ⟨congrArg Value.bool (decide_eq_true rfl), rfl⟩, hw1.sub (by simp) (by simp)⟩
attribute [local irreducible] plainV itB chB bB aB c1B c2B c3B c4B repR repT LargeQ
theorem wrepL_c (rq : UInt64) (rk er : Int) (aj : Option Addr) (nj cj : Nat) (lj : List ItemR) (th : Bool) (pv ep : UInt64) (kd : Int) (ai : Option Addr) (ni ci : Nat) (l : List UInt64) (sa : Option Addr) (ns sc : Nat) (ls : List SealR) (bl : UInt64) (tg : List UInt8) (aha : Option Addr) (nha cha : Nat) (xha : List UInt8) (ahb : Option Addr) (nhb chb : Nat) (xhb : List UInt8) (rq2 : UInt64) (rk2 er2 : Int) (aj2 : Option Addr) (nj2 cj2 : Nat) (lj2 : List ItemR) (th2 : Bool) (pv2 ep2 : UInt64) (kd2 : Int) (ai2 : Option Addr) (ni2 ci2 : Nat) (l2 : List UInt64) (sa2 : Option Addr) (ns2 sc2 : Nat) (ls2 : List SealR) (bl2 : UInt64) (tg2 : List UInt8) (aha2 : Option Addr) (nha2 cha2 : Nat) (xha2 : List UInt8) (ahb2 : Option Addr) (nhb2 chb2 : Nat) (xhb2 : List UInt8)  (w : World) (htg : tg.length = 16) (htg2 : tg2.length = 16) (hlp : LargeQ nj nha nhb ni ns) (hW : GLw w)  : Calls Tryd.prog 6 #[.agg ([U64 rq, I64 (rk), I64 (er), SL aj nj cj, .bool th, U64 pv, U64 ep, I64 (kd), SL ai ni ci, SL sa ns sc, U64 bl] ++ cu8 tg ++ [SL aha nha cha, SL ahb nhb chb]).toArray, .agg ([U64 rq2, I64 (rk2), I64 (er2), SL aj2 nj2 cj2, .bool th2, U64 pv2, U64 ep2, I64 (kd2), SL ai2 ni2 ci2, SL sa2 ns2 sc2, U64 bl2] ++ cu8 tg2 ++ [SL aha2 nha2 cha2, SL ahb2 nhb2 chb2]).toArray] w (Post w [] (fun v L => v = .bool true ∧ L = [])) := by
 have hmx : maxLen = 9223372036854775807 := rfl
 refine enter (P := Tryd.prog) (f := 6) (fn := Tryd.f6) w [] 63 [] [.agg ([U64 rq, I64 (rk), I64 (er), SL aj nj cj, .bool th, U64 pv, U64 ep, I64 (kd), SL ai ni ci, SL sa ns sc, U64 bl] ++ cu8 tg ++ [SL aha nha cha, SL ahb nhb chb]).toArray, .agg ([U64 rq2, I64 (rk2), I64 (er2), SL aj2 nj2 cj2, .bool th2, U64 pv2, U64 ep2, I64 (kd2), SL ai2 ni2 ci2, SL sa2 ns2 sc2, U64 bl2] ++ cu8 tg2 ++ [SL aha2 nha2 cha2, SL ahb2 nhb2 chb2]).toArray] Tryd.func6 rfl rfl (by simp) (CC (by simp) (by simp) (by simp)) ?_
 show JC _ _ _ [(0, .agg ([U64 rq, I64 (rk), I64 (er), SL aj nj cj, .bool th, U64 pv, U64 ep, I64 (kd), SL ai ni ci, SL sa ns sc, U64 bl] ++ cu8 tg ++ [SL aha nha cha, SL ahb nhb chb]).toArray), (1, .agg ([U64 rq2, I64 (rk2), I64 (er2), SL aj2 nj2 cj2, .bool th2, U64 pv2, U64 ep2, I64 (kd2), SL ai2 ni2 ci2, SL sa2 ns2 sc2, U64 bl2] ++ cu8 tg2 ++ [SL aha2 nha2 cha2, SL ahb2 nhb2 chb2]).toArray)] _
 refine AK (AD (A9 (CL (.agg ([U64 rq, I64 (rk), I64 (er), SL aj nj cj, .bool th, U64 pv, U64 ep, I64 (kd), SL ai ni ci, SL sa ns sc, U64 bl] ++ cu8 tg ++ [SL aha nha cha, SL ahb nhb chb]).toArray) ([U64 rq, I64 (rk), I64 (er), SL aj nj cj, .bool th, U64 pv, U64 ep, I64 (kd), SL ai ni ci, SL sa ns sc, U64 bl] ++ cu8 tg ++ [SL aha nha cha, SL ahb nhb chb]) rfl (by first | rfl | simp)) rfl ?_))
 rintro v1 L1 ⟨nb1, hnb1, rfl, rfl⟩
 show JL _ _ _ _ ((2, Ptr nb1 0) :: _) [⟨nb1, [U64 rq, I64 (rk), I64 (er), SL aj nj cj, .bool th, U64 pv, U64 ep, I64 (kd), SL ai ni ci, SL sa ns sc, U64 bl] ++ cu8 tg ++ [SL aha nha cha, SL ahb nhb chb], 67, (0, 0)⟩]
 refine A9 (CL (.agg ([U64 rq2, I64 (rk2), I64 (er2), SL aj2 nj2 cj2, .bool th2, U64 pv2, U64 ep2, I64 (kd2), SL ai2 ni2 ci2, SL sa2 ns2 sc2, U64 bl2] ++ cu8 tg2 ++ [SL aha2 nha2 cha2, SL ahb2 nhb2 chb2]).toArray) ([U64 rq2, I64 (rk2), I64 (er2), SL aj2 nj2 cj2, .bool th2, U64 pv2, U64 ep2, I64 (kd2), SL ai2 ni2 ci2, SL sa2 ns2 sc2, U64 bl2] ++ cu8 tg2 ++ [SL aha2 nha2 cha2, SL ahb2 nhb2 chb2]) rfl (by first | rfl | simp)) rfl ?_
 rintro v1 L1 ⟨nb2, hnb2, rfl, rfl⟩
 show JL _ _ _ _ ((3, Ptr nb2 0) :: _) [_, ⟨nb2, [U64 rq2, I64 (rk2), I64 (er2), SL aj2 nj2 cj2, .bool th2, U64 pv2, U64 ep2, I64 (kd2), SL ai2 ni2 ci2, SL sa2 ns2 sc2, U64 bl2] ++ cu8 tg2 ++ [SL aha2 nha2 cha2, SL ahb2 nhb2 chb2], 67, (0, 0)⟩]
 refine AA _ (AH rfl) rfl ?_
 refine AN (AF (AK (AK (AD (A9 (BG 17 [] (.bool true) (A6 _ Tryd.call17 rfl) (fun w1 hw1 => aliveA_c  w1 (GLw.at hw1 hW))) rfl ?_)))))
 rintro v1 L1 ⟨rfl, rfl⟩
 show JL _ _ _ _ ((9, .bool true) :: _) [_, _]
 refine AA (.bool (!true)) (EP rfl) rfl ?_
 refine AN (AF (BN _ rfl rfl ?_))
 refine BE (AF (AK (AK (AD (AA (.agg ([U64 rq, I64 (rk), I64 (er), SL aj nj cj, .bool th, U64 pv, U64 ep, I64 (kd), SL ai ni ci, SL sa ns sc, U64 bl] ++ cu8 tg ++ [SL aha nha cha, SL ahb nhb chb]).toArray) (AI rfl (BV CV CH (by simp [htg]) (AS 0 rfl (AV _)))) rfl ?_)))))
 refine B1 (BG 31 [.agg ([U64 rq, I64 (rk), I64 (er), SL aj nj cj, .bool th, U64 pv, U64 ep, I64 (kd), SL ai ni ci, SL sa ns sc, U64 bl] ++ cu8 tg ++ [SL aha nha cha, SL ahb nhb chb]).toArray] (.bool (decide (LargeQ nj nha nhb ni ns))) (A6 _ Tryd.call31 rfl) (fun w1 hw1 => large14_c rq (rk) (er) aj nj cj lj th pv ep (kd) ai ni ci l sa ns sc ls bl tg aha nha cha xha ahb nhb chb xhb w1 htg)) rfl ?_
 show JL _ _ _ _ ((12, .bool (decide (LargeQ nj nha nhb ni ns))) :: _) [_, _]
 refine AA _ (AL rfl) rfl ?_
 refine AC 2 13 false _ rfl rfl (decide_eq_true hlp) rfl ?_
 refine AC 2 13 false _ rfl rfl (decide_eq_true hlp) rfl ?_
 refine AA _ (A2 _ rfl (decide_eq_true hlp) rfl) rfl ?_
 refine AN (AF (CO _ rfl rfl ?_))
 refine AK (AD (AA _ (AH rfl) rfl ?_))
 refine AN (AF (BK (A1 (BP [false, false] ?_))))
 show JQ _ _ _ _ []
 refine BJ (.bool true) (res1 Tryd.results6 (BH rfl)) fun w1 hw1 => ?_
 exact ⟨_, [], rfl, ⟨congrArg Value.bool rfl, rfl⟩, hw1.sub (by simp) (by simp)⟩
theorem wrepO_c (rq : UInt64) (rk er : Int) (aj : Option Addr) (nj cj : Nat) (lj : List ItemR) (th : Bool) (pv ep : UInt64) (kd : Int) (ai : Option Addr) (ni ci : Nat) (l : List UInt64) (sa : Option Addr) (ns sc : Nat) (ls : List SealR) (bl : UInt64) (tg : List UInt8) (aha : Option Addr) (nha cha : Nat) (xha : List UInt8) (ahb : Option Addr) (nhb chb : Nat) (xhb : List UInt8) (rq2 : UInt64) (rk2 er2 : Int) (aj2 : Option Addr) (nj2 cj2 : Nat) (lj2 : List ItemR) (th2 : Bool) (pv2 ep2 : UInt64) (kd2 : Int) (ai2 : Option Addr) (ni2 ci2 : Nat) (l2 : List UInt64) (sa2 : Option Addr) (ns2 sc2 : Nat) (ls2 : List SealR) (bl2 : UInt64) (tg2 : List UInt8) (aha2 : Option Addr) (nha2 cha2 : Nat) (xha2 : List UInt8) (ahb2 : Option Addr) (nhb2 chb2 : Nat) (xhb2 : List UInt8)  (w : World) (htg : tg.length = 16) (htg2 : tg2.length = 16) (hlp : ¬ LargeQ nj nha nhb ni ns) (hlo : LargeQ nj2 nha2 nhb2 ni2 ns2) (hW : GLw w)  : Calls Tryd.prog 6 #[.agg ([U64 rq, I64 (rk), I64 (er), SL aj nj cj, .bool th, U64 pv, U64 ep, I64 (kd), SL ai ni ci, SL sa ns sc, U64 bl] ++ cu8 tg ++ [SL aha nha cha, SL ahb nhb chb]).toArray, .agg ([U64 rq2, I64 (rk2), I64 (er2), SL aj2 nj2 cj2, .bool th2, U64 pv2, U64 ep2, I64 (kd2), SL ai2 ni2 ci2, SL sa2 ns2 sc2, U64 bl2] ++ cu8 tg2 ++ [SL aha2 nha2 cha2, SL ahb2 nhb2 chb2]).toArray] w (Post w [] (fun v L => v = .bool true ∧ L = [])) := by
 have hmx : maxLen = 9223372036854775807 := rfl
 refine enter (P := Tryd.prog) (f := 6) (fn := Tryd.f6) w [] 63 [] [.agg ([U64 rq, I64 (rk), I64 (er), SL aj nj cj, .bool th, U64 pv, U64 ep, I64 (kd), SL ai ni ci, SL sa ns sc, U64 bl] ++ cu8 tg ++ [SL aha nha cha, SL ahb nhb chb]).toArray, .agg ([U64 rq2, I64 (rk2), I64 (er2), SL aj2 nj2 cj2, .bool th2, U64 pv2, U64 ep2, I64 (kd2), SL ai2 ni2 ci2, SL sa2 ns2 sc2, U64 bl2] ++ cu8 tg2 ++ [SL aha2 nha2 cha2, SL ahb2 nhb2 chb2]).toArray] Tryd.func6 rfl rfl (by simp) (CC (by simp) (by simp) (by simp)) ?_
 show JC _ _ _ [(0, .agg ([U64 rq, I64 (rk), I64 (er), SL aj nj cj, .bool th, U64 pv, U64 ep, I64 (kd), SL ai ni ci, SL sa ns sc, U64 bl] ++ cu8 tg ++ [SL aha nha cha, SL ahb nhb chb]).toArray), (1, .agg ([U64 rq2, I64 (rk2), I64 (er2), SL aj2 nj2 cj2, .bool th2, U64 pv2, U64 ep2, I64 (kd2), SL ai2 ni2 ci2, SL sa2 ns2 sc2, U64 bl2] ++ cu8 tg2 ++ [SL aha2 nha2 cha2, SL ahb2 nhb2 chb2]).toArray)] _
 refine AK (AD (A9 (CL (.agg ([U64 rq, I64 (rk), I64 (er), SL aj nj cj, .bool th, U64 pv, U64 ep, I64 (kd), SL ai ni ci, SL sa ns sc, U64 bl] ++ cu8 tg ++ [SL aha nha cha, SL ahb nhb chb]).toArray) ([U64 rq, I64 (rk), I64 (er), SL aj nj cj, .bool th, U64 pv, U64 ep, I64 (kd), SL ai ni ci, SL sa ns sc, U64 bl] ++ cu8 tg ++ [SL aha nha cha, SL ahb nhb chb]) rfl (by first | rfl | simp)) rfl ?_))
 rintro v1 L1 ⟨nb1, hnb1, rfl, rfl⟩
 show JL _ _ _ _ ((2, Ptr nb1 0) :: _) [⟨nb1, [U64 rq, I64 (rk), I64 (er), SL aj nj cj, .bool th, U64 pv, U64 ep, I64 (kd), SL ai ni ci, SL sa ns sc, U64 bl] ++ cu8 tg ++ [SL aha nha cha, SL ahb nhb chb], 67, (0, 0)⟩]
 refine A9 (CL (.agg ([U64 rq2, I64 (rk2), I64 (er2), SL aj2 nj2 cj2, .bool th2, U64 pv2, U64 ep2, I64 (kd2), SL ai2 ni2 ci2, SL sa2 ns2 sc2, U64 bl2] ++ cu8 tg2 ++ [SL aha2 nha2 cha2, SL ahb2 nhb2 chb2]).toArray) ([U64 rq2, I64 (rk2), I64 (er2), SL aj2 nj2 cj2, .bool th2, U64 pv2, U64 ep2, I64 (kd2), SL ai2 ni2 ci2, SL sa2 ns2 sc2, U64 bl2] ++ cu8 tg2 ++ [SL aha2 nha2 cha2, SL ahb2 nhb2 chb2]) rfl (by first | rfl | simp)) rfl ?_
 rintro v1 L1 ⟨nb2, hnb2, rfl, rfl⟩
 show JL _ _ _ _ ((3, Ptr nb2 0) :: _) [_, ⟨nb2, [U64 rq2, I64 (rk2), I64 (er2), SL aj2 nj2 cj2, .bool th2, U64 pv2, U64 ep2, I64 (kd2), SL ai2 ni2 ci2, SL sa2 ns2 sc2, U64 bl2] ++ cu8 tg2 ++ [SL aha2 nha2 cha2, SL ahb2 nhb2 chb2], 67, (0, 0)⟩]
 refine AA _ (AH rfl) rfl ?_
 refine AN (AF (AK (AK (AD (A9 (BG 17 [] (.bool true) (A6 _ Tryd.call17 rfl) (fun w1 hw1 => aliveA_c  w1 (GLw.at hw1 hW))) rfl ?_)))))
 rintro v1 L1 ⟨rfl, rfl⟩
 show JL _ _ _ _ ((9, .bool true) :: _) [_, _]
 refine AA (.bool (!true)) (EP rfl) rfl ?_
 refine AN (AF (BN _ rfl rfl ?_))
 refine BE (AF (AK (AK (AD (AA (.agg ([U64 rq, I64 (rk), I64 (er), SL aj nj cj, .bool th, U64 pv, U64 ep, I64 (kd), SL ai ni ci, SL sa ns sc, U64 bl] ++ cu8 tg ++ [SL aha nha cha, SL ahb nhb chb]).toArray) (AI rfl (BV CV CH (by simp [htg]) (AS 0 rfl (AV _)))) rfl ?_)))))
 refine B1 (BG 31 [.agg ([U64 rq, I64 (rk), I64 (er), SL aj nj cj, .bool th, U64 pv, U64 ep, I64 (kd), SL ai ni ci, SL sa ns sc, U64 bl] ++ cu8 tg ++ [SL aha nha cha, SL ahb nhb chb]).toArray] (.bool (decide (LargeQ nj nha nhb ni ns))) (A6 _ Tryd.call31 rfl) (fun w1 hw1 => large14_c rq (rk) (er) aj nj cj lj th pv ep (kd) ai ni ci l sa ns sc ls bl tg aha nha cha xha ahb nhb chb xhb w1 htg)) rfl ?_
 show JL _ _ _ _ ((12, .bool (decide (LargeQ nj nha nhb ni ns))) :: _) [_, _]
 refine AA _ (AL rfl) rfl ?_
 refine AP 2 13 false _ (.agg ([U64 rq2, I64 (rk2), I64 (er2), SL aj2 nj2 cj2, .bool th2, U64 pv2, U64 ep2, I64 (kd2), SL ai2 ni2 ci2, SL sa2 ns2 sc2, U64 bl2] ++ cu8 tg2 ++ [SL aha2 nha2 cha2, SL ahb2 nhb2 chb2]).toArray) rfl rfl (decide_eq_false hlp) (AI rfl (BV CV CH (by simp [htg2]) (AS 1 rfl (AV _)))) rfl ?_
 refine ET 2 13 false _ rfl rfl (decide_eq_false hlp) (BG 31 [.agg ([U64 rq2, I64 (rk2), I64 (er2), SL aj2 nj2 cj2, .bool th2, U64 pv2, U64 ep2, I64 (kd2), SL ai2 ni2 ci2, SL sa2 ns2 sc2, U64 bl2] ++ cu8 tg2 ++ [SL aha2 nha2 cha2, SL ahb2 nhb2 chb2]).toArray] (.bool (decide (LargeQ nj2 nha2 nhb2 ni2 ns2))) (A6 _ Tryd.call31 rfl) (fun w1 hw1 => large14_c rq2 (rk2) (er2) aj2 nj2 cj2 lj2 th2 pv2 ep2 (kd2) ai2 ni2 ci2 l2 sa2 ns2 sc2 ls2 bl2 tg2 aha2 nha2 cha2 xha2 ahb2 nhb2 chb2 xhb2 w1 htg2)) rfl ?_
 rintro v1 L1 ⟨rfl, rfl⟩
 show JL _ _ _ _ ((15, .bool (decide (LargeQ nj2 nha2 nhb2 ni2 ns2))) :: _) [_, _]
 refine AA _ (A0 _ rfl (decide_eq_false hlp) rfl) rfl ?_
 refine AN (AF (CO _ rfl (decide_eq_true hlo) ?_))
 refine AK (AD (AA _ (AH rfl) rfl ?_))
 refine AN (AF (BK (A1 (BP [false, false] ?_))))
 show JQ _ _ _ _ []
 refine BJ (.bool true) (res1 Tryd.results6 (BH rfl)) fun w1 hw1 => ?_
 exact ⟨_, [], rfl, ⟨congrArg Value.bool rfl, rfl⟩, hw1.sub (by simp) (by simp)⟩
set_option maxHeartbeats 2000000 in
theorem wrepR_c (rq : UInt64) (rk er : Int) (aj : Option Addr) (nj cj : Nat) (lj : List ItemR) (th : Bool) (pv ep : UInt64) (kd : Int) (ai : Option Addr) (ni ci : Nat) (l : List UInt64) (sa : Option Addr) (ns sc : Nat) (ls : List SealR) (bl : UInt64) (tg : List UInt8) (aha : Option Addr) (nha cha : Nat) (xha : List UInt8) (ahb : Option Addr) (nhb chb : Nat) (xhb : List UInt8) (rq2 : UInt64) (rk2 er2 : Int) (aj2 : Option Addr) (nj2 cj2 : Nat) (lj2 : List ItemR) (th2 : Bool) (pv2 ep2 : UInt64) (kd2 : Int) (ai2 : Option Addr) (ni2 ci2 : Nat) (l2 : List UInt64) (sa2 : Option Addr) (ns2 sc2 : Nat) (ls2 : List SealR) (bl2 : UInt64) (tg2 : List UInt8) (aha2 : Option Addr) (nha2 cha2 : Nat) (xha2 : List UInt8) (ahb2 : Option Addr) (nhb2 chb2 : Nat) (xhb2 : List UInt8) (n : Nat)  (w : World) (hlj : lj.length = nj) (hnj : nj ≤ 2000000) (hdj : nj ≤ cj) (hcj : cj ≤ maxLen) (hj : RdV w aj (lj.flatMap itemC)) (hl : l.length = ni) (hnm : ni ≤ 2000000) (hnc : ni ≤ ci) (hcm : ci ≤ maxLen) (hv : RdV w ai (cu64 l)) (hls : ls.length = ns) (hnn : ns ≤ 2000000) (hnd : ns ≤ sc) (hcn : sc ≤ maxLen) (hs : RdV w sa (ls.flatMap sealC)) (htg : tg.length = 16) (hlha : xha.length = nha * 32) (hnha : nha ≤ 9000) (hdha : nha ≤ cha) (hcha : cha ≤ maxLen) (hrha : RdB w [] aha xha) (hlhb : xhb.length = nhb * 32) (hnhb : nhb ≤ 9000) (hdhb : nhb ≤ chb) (hchb : chb ≤ maxLen) (hrhb : RdB w [] ahb xhb) (hlj2 : lj2.length = nj2) (hnj2 : nj2 ≤ 2000000) (hdj2 : nj2 ≤ cj2) (hcj2 : cj2 ≤ maxLen) (hj2 : RdV w aj2 (lj2.flatMap itemC)) (hl2 : l2.length = ni2) (hnm2 : ni2 ≤ 2000000) (hnc2 : ni2 ≤ ci2) (hcm2 : ci2 ≤ maxLen) (hv2 : RdV w ai2 (cu64 l2)) (hls2 : ls2.length = ns2) (hnn2 : ns2 ≤ 2000000) (hnd2 : ns2 ≤ sc2) (hcn2 : sc2 ≤ maxLen) (hs2 : RdV w sa2 (ls2.flatMap sealC)) (htg2 : tg2.length = 16) (hlha2 : xha2.length = nha2 * 32) (hnha2 : nha2 ≤ 9000) (hdha2 : nha2 ≤ cha2) (hcha2 : cha2 ≤ maxLen) (hrha2 : RdB w [] aha2 xha2) (hlhb2 : xhb2.length = nhb2 * 32) (hnhb2 : nhb2 ≤ 9000) (hdhb2 : nhb2 ≤ chb2) (hchb2 : chb2 ≤ maxLen) (hrhb2 : RdB w [] ahb2 xhb2) (hnS : sa = none → sc = 0) (hnS2 : sa2 = none → sc2 = 0) (hlp : ¬ LargeQ nj nha nhb ni ns) (hlo : ¬ LargeQ nj2 nha2 nhb2 ni2 ns2) (hbi : ni ≤ 300) (hbs : ns ≤ 300) (hA : nha ≤ 300) (hB : nhb ≤ 300) (hn : (repT rq rk er nj lj th pv ep kd l ls bl tg nha xha nhb xhb).length = n) (hnb : n ≤ 1000000) (hR : repR rk er th lj (blankB pv ep kd l ls bl tg) (decide (mayN pv ep kd l ls bl = 0)) nha nhb = true) (hW : GLw w)  : Calls Tryd.prog 6 #[.agg ([U64 rq, I64 (rk), I64 (er), SL aj nj cj, .bool th, U64 pv, U64 ep, I64 (kd), SL ai ni ci, SL sa ns sc, U64 bl] ++ cu8 tg ++ [SL aha nha cha, SL ahb nhb chb]).toArray, .agg ([U64 rq2, I64 (rk2), I64 (er2), SL aj2 nj2 cj2, .bool th2, U64 pv2, U64 ep2, I64 (kd2), SL ai2 ni2 ci2, SL sa2 ns2 sc2, U64 bl2] ++ cu8 tg2 ++ [SL aha2 nha2 cha2, SL ahb2 nhb2 chb2]).toArray] w (Post w [] (fun v L => v = .bool true ∧ L = [])) := by
 have hmx : maxLen = 9223372036854775807 := rfl
 refine enter (P := Tryd.prog) (f := 6) (fn := Tryd.f6) w [] 63 [] [.agg ([U64 rq, I64 (rk), I64 (er), SL aj nj cj, .bool th, U64 pv, U64 ep, I64 (kd), SL ai ni ci, SL sa ns sc, U64 bl] ++ cu8 tg ++ [SL aha nha cha, SL ahb nhb chb]).toArray, .agg ([U64 rq2, I64 (rk2), I64 (er2), SL aj2 nj2 cj2, .bool th2, U64 pv2, U64 ep2, I64 (kd2), SL ai2 ni2 ci2, SL sa2 ns2 sc2, U64 bl2] ++ cu8 tg2 ++ [SL aha2 nha2 cha2, SL ahb2 nhb2 chb2]).toArray] Tryd.func6 rfl rfl (by simp) (CC (by simp) (by simp) (by simp)) ?_
 show JC _ _ _ [(0, .agg ([U64 rq, I64 (rk), I64 (er), SL aj nj cj, .bool th, U64 pv, U64 ep, I64 (kd), SL ai ni ci, SL sa ns sc, U64 bl] ++ cu8 tg ++ [SL aha nha cha, SL ahb nhb chb]).toArray), (1, .agg ([U64 rq2, I64 (rk2), I64 (er2), SL aj2 nj2 cj2, .bool th2, U64 pv2, U64 ep2, I64 (kd2), SL ai2 ni2 ci2, SL sa2 ns2 sc2, U64 bl2] ++ cu8 tg2 ++ [SL aha2 nha2 cha2, SL ahb2 nhb2 chb2]).toArray)] _
 refine AK (AD (A9 (CL (.agg ([U64 rq, I64 (rk), I64 (er), SL aj nj cj, .bool th, U64 pv, U64 ep, I64 (kd), SL ai ni ci, SL sa ns sc, U64 bl] ++ cu8 tg ++ [SL aha nha cha, SL ahb nhb chb]).toArray) ([U64 rq, I64 (rk), I64 (er), SL aj nj cj, .bool th, U64 pv, U64 ep, I64 (kd), SL ai ni ci, SL sa ns sc, U64 bl] ++ cu8 tg ++ [SL aha nha cha, SL ahb nhb chb]) rfl (by first | rfl | simp)) rfl ?_))
 rintro v1 L1 ⟨nb1, hnb1, rfl, rfl⟩
 show JL _ _ _ _ ((2, Ptr nb1 0) :: _) [⟨nb1, [U64 rq, I64 (rk), I64 (er), SL aj nj cj, .bool th, U64 pv, U64 ep, I64 (kd), SL ai ni ci, SL sa ns sc, U64 bl] ++ cu8 tg ++ [SL aha nha cha, SL ahb nhb chb], 67, (0, 0)⟩]
 refine A9 (CL (.agg ([U64 rq2, I64 (rk2), I64 (er2), SL aj2 nj2 cj2, .bool th2, U64 pv2, U64 ep2, I64 (kd2), SL ai2 ni2 ci2, SL sa2 ns2 sc2, U64 bl2] ++ cu8 tg2 ++ [SL aha2 nha2 cha2, SL ahb2 nhb2 chb2]).toArray) ([U64 rq2, I64 (rk2), I64 (er2), SL aj2 nj2 cj2, .bool th2, U64 pv2, U64 ep2, I64 (kd2), SL ai2 ni2 ci2, SL sa2 ns2 sc2, U64 bl2] ++ cu8 tg2 ++ [SL aha2 nha2 cha2, SL ahb2 nhb2 chb2]) rfl (by first | rfl | simp)) rfl ?_
 rintro v1 L1 ⟨nb2, hnb2, rfl, rfl⟩
 show JL _ _ _ _ ((3, Ptr nb2 0) :: _) [_, ⟨nb2, [U64 rq2, I64 (rk2), I64 (er2), SL aj2 nj2 cj2, .bool th2, U64 pv2, U64 ep2, I64 (kd2), SL ai2 ni2 ci2, SL sa2 ns2 sc2, U64 bl2] ++ cu8 tg2 ++ [SL aha2 nha2 cha2, SL ahb2 nhb2 chb2], 67, (0, 0)⟩]
 refine AA _ (AH rfl) rfl ?_
 refine AN (AF (AK (AK (AD (A9 (BG 17 [] (.bool true) (A6 _ Tryd.call17 rfl) (fun w1 hw1 => aliveA_c  w1 (GLw.at hw1 hW))) rfl ?_)))))
 rintro v1 L1 ⟨rfl, rfl⟩
 show JL _ _ _ _ ((9, .bool true) :: _) [_, _]
 refine AA (.bool (!true)) (EP rfl) rfl ?_
 refine AN (AF (BN _ rfl rfl ?_))
 refine BE (AF (AK (AK (AD (AA (.agg ([U64 rq, I64 (rk), I64 (er), SL aj nj cj, .bool th, U64 pv, U64 ep, I64 (kd), SL ai ni ci, SL sa ns sc, U64 bl] ++ cu8 tg ++ [SL aha nha cha, SL ahb nhb chb]).toArray) (AI rfl (BV CV CH (by simp [htg]) (AS 0 rfl (AV _)))) rfl ?_)))))
 refine B1 (BG 31 [.agg ([U64 rq, I64 (rk), I64 (er), SL aj nj cj, .bool th, U64 pv, U64 ep, I64 (kd), SL ai ni ci, SL sa ns sc, U64 bl] ++ cu8 tg ++ [SL aha nha cha, SL ahb nhb chb]).toArray] (.bool (decide (LargeQ nj nha nhb ni ns))) (A6 _ Tryd.call31 rfl) (fun w1 hw1 => large14_c rq (rk) (er) aj nj cj lj th pv ep (kd) ai ni ci l sa ns sc ls bl tg aha nha cha xha ahb nhb chb xhb w1 htg)) rfl ?_
 show JL _ _ _ _ ((12, .bool (decide (LargeQ nj nha nhb ni ns))) :: _) [_, _]
 refine AA _ (AL rfl) rfl ?_
 refine AP 2 13 false _ (.agg ([U64 rq2, I64 (rk2), I64 (er2), SL aj2 nj2 cj2, .bool th2, U64 pv2, U64 ep2, I64 (kd2), SL ai2 ni2 ci2, SL sa2 ns2 sc2, U64 bl2] ++ cu8 tg2 ++ [SL aha2 nha2 cha2, SL ahb2 nhb2 chb2]).toArray) rfl rfl (decide_eq_false hlp) (AI rfl (BV CV CH (by simp [htg2]) (AS 1 rfl (AV _)))) rfl ?_
 refine ET 2 13 false _ rfl rfl (decide_eq_false hlp) (BG 31 [.agg ([U64 rq2, I64 (rk2), I64 (er2), SL aj2 nj2 cj2, .bool th2, U64 pv2, U64 ep2, I64 (kd2), SL ai2 ni2 ci2, SL sa2 ns2 sc2, U64 bl2] ++ cu8 tg2 ++ [SL aha2 nha2 cha2, SL ahb2 nhb2 chb2]).toArray] (.bool (decide (LargeQ nj2 nha2 nhb2 ni2 ns2))) (A6 _ Tryd.call31 rfl) (fun w1 hw1 => large14_c rq2 (rk2) (er2) aj2 nj2 cj2 lj2 th2 pv2 ep2 (kd2) ai2 ni2 ci2 l2 sa2 ns2 sc2 ls2 bl2 tg2 aha2 nha2 cha2 xha2 ahb2 nhb2 chb2 xhb2 w1 htg2)) rfl ?_
 rintro v1 L1 ⟨rfl, rfl⟩
 show JL _ _ _ _ ((15, .bool (decide (LargeQ nj2 nha2 nhb2 ni2 ns2))) :: _) [_, _]
 refine AA _ (A0 _ rfl (decide_eq_false hlp) rfl) rfl ?_
 refine AN (AF (BN _ rfl (decide_eq_false hlo) ?_))
 refine BE (AF (AK (AD (AA (.agg ([U64 rq, I64 (rk), I64 (er), SL aj nj cj, .bool th, U64 pv, U64 ep, I64 (kd), SL ai ni ci, SL sa ns sc, U64 bl] ++ cu8 tg ++ [SL aha nha cha, SL ahb nhb chb]).toArray) (AI rfl (BV CV CH (by simp [htg]) (AS 0 rfl (AV _)))) rfl ?_))))
 refine A9 (CG 32 [.agg ([U64 rq, I64 (rk), I64 (er), SL aj nj cj, .bool th, U64 pv, U64 ep, I64 (kd), SL ai ni ci, SL sa ns sc, U64 bl] ++ cu8 tg ++ [SL aha nha cha, SL ahb nhb chb]).toArray] _ (A6 _ Tryd.call32 rfl) (fun w1 hw1 => rep_w rq (rk) (er) aj nj cj lj th pv ep (kd) ai ni ci l sa ns sc ls bl tg aha nha cha xha ahb nhb chb xhb w1 hlj (by omega) (by omega) (by omega) (CA hw1 rfl hj) hl (by omega) (by omega) (by omega) (CA hw1 rfl hv) hls (by omega) (by omega) (by omega) (CA hw1 rfl hs) htg hlha (by omega) (by omega) (by omega) (hrha.at (M' := []) hw1 (by simp)) hlhb (by omega) (by omega) (by omega) (hrhb.at (M' := []) hw1 (by simp)) hnS)) rfl ?_
 rintro v1 L1 ⟨_, ⟨ng1, cs1, nT1, na1, nc1, ng2, cs2, nT2, na2, nc2, rfl, rfl, hc1, hc2, hc3, hc4, hc5, hc6⟩, rfl⟩
 show JL _ _ _ _ ((18, .agg ([U64 rq, I64 (rk), I64 (er), SL na1 nj nc1, .bool th, U64 pv, U64 ep, I64 (kd), SL ai ni ci, SL na2 ns nc2, U64 bl] ++ cu8 tg ++ [SL aha nha cha, SL ahb nhb chb]).toArray) :: _) [_, _, ⟨ng1, cs1, nT1, (0, 0)⟩, ⟨ng2, cs2, nT2, (0, 0)⟩]
 refine A9 (DI _ ([U64 0, I64 0, I64 0, SL none 0 0, .bool false, U64 0, U64 0, I64 0, SL none 0 0, SL none 0 0, U64 0] ++ cu8 (zr8 16) ++ [SL none 0 0, SL none 0 0]) Tryd.zeroValue71 (by kernel_rfl)) rfl ?_
 rintro v1 L1 ⟨nb3, hnb3, rfl, rfl⟩
 show JL _ _ _ _ ((5, Ptr nb3 0) :: _) [_, _, _, _, ⟨nb3, [U64 0, I64 0, I64 0, SL none 0 0, .bool false, U64 0, U64 0, I64 0, SL none 0 0, SL none 0 0, U64 0] ++ cu8 (zr8 16) ++ [SL none 0 0, SL none 0 0], 71, (0, 0)⟩]
 refine B1 (CW 4 nb3 29 ([U64 0, I64 0, I64 0, SL none 0 0, .bool false, U64 0, U64 0, I64 0, SL none 0 0, SL none 0 0, U64 0] ++ cu8 (zr8 16) ++ [SL none 0 0, SL none 0 0]) 71 ([U64 rq, I64 (rk), I64 (er), SL na1 nj nc1, .bool th, U64 pv, U64 ep, I64 (kd), SL ai ni ci, SL na2 ns nc2, U64 bl] ++ cu8 tg ++ [SL aha nha cha, SL ahb nhb chb]) rfl rfl rfl C2 (by simp [htg]) (EH (EH (by simp [Value.oneCell']) FE) (by simp [Value.oneCell'])) (by simp [(B6 16)]) (DC (by simp [(B6 16), htg]))) rfl ?_
 show JL _ _ _ _ _ [_, _, _, _, ⟨nb3, [U64 rq, I64 (rk), I64 (er), SL na1 nj nc1, .bool th, U64 pv, U64 ep, I64 (kd), SL ai ni ci, SL na2 ns nc2, U64 bl] ++ cu8 tg ++ [SL aha nha cha, SL ahb nhb chb], 71, (0, 0)⟩]
 refine AN (AF (AK (AD (AA (.agg ([U64 rq, I64 (rk), I64 (er), SL na1 nj nc1, .bool th, U64 pv, U64 ep, I64 (kd), SL ai ni ci, SL na2 ns nc2, U64 bl] ++ cu8 tg ++ [SL aha nha cha, SL ahb nhb chb]).toArray) (AI rfl (BV DR C2 (by simp [htg]) (AS 4 rfl (AV _)))) rfl ?_))))
 refine B1 (BG 33 [.agg ([U64 rq, I64 (rk), I64 (er), SL na1 nj nc1, .bool th, U64 pv, U64 ep, I64 (kd), SL ai ni ci, SL na2 ns nc2, U64 bl] ++ cu8 tg ++ [SL aha nha cha, SL ahb nhb chb]).toArray] (.bool (repR (rk) (er) th lj (blankB pv ep (kd) l ls bl tg) (decide (mayN pv ep (kd) l ls bl = 0)) nha nhb)) (A6 _ Tryd.call33 rfl) (fun w1 hw1 => rrightRep_c rq (rk) (er) na1 nj nc1 lj th pv ep (kd) ai ni ci l na2 ns nc2 ls bl tg aha nha cha xha ahb nhb chb xhb w1 hlj (by omega) (by omega) (by omega) (Gh.at hw1 2 rfl hc1) hl (by omega) (by omega) (by omega) (CA hw1 rfl hv) hls (by omega) (by omega) (by omega) (Gh.at hw1 3 rfl hc4) htg hlha (by omega) (by omega) (by omega) (hrha.at (M' := []) hw1 (by simp)) hlhb (by omega) (by omega) (by omega) (hrhb.at (M' := []) hw1 (by simp)) (by omega) (by omega))) rfl ?_
 show JL _ _ _ _ ((20, .bool (repR (rk) (er) th lj (blankB pv ep (kd) l ls bl tg) (decide (mayN pv ep (kd) l ls bl = 0)) nha nhb)) :: _) [_, _, _, _, _]
 refine AA _ (AH rfl) rfl ?_
 refine AN (AF (AK (AD (AA (.agg ([U64 rq, I64 (rk), I64 (er), SL aj nj cj, .bool th, U64 pv, U64 ep, I64 (kd), SL ai ni ci, SL sa ns sc, U64 bl] ++ cu8 tg ++ [SL aha nha cha, SL ahb nhb chb]).toArray) (AI rfl (BV CV CH (by simp [htg]) (AS 0 rfl (AV _)))) rfl ?_))))
 refine A9 (CG 34 [.agg ([U64 rq, I64 (rk), I64 (er), SL aj nj cj, .bool th, U64 pv, U64 ep, I64 (kd), SL ai ni ci, SL sa ns sc, U64 bl] ++ cu8 tg ++ [SL aha nha cha, SL ahb nhb chb]).toArray] _ (A6 _ Tryd.call34 rfl) (fun w1 hw1 => putRep_w rq (rk) (er) aj nj cj lj th pv ep (kd) ai ni ci l sa ns sc ls bl tg aha nha cha xha ahb nhb chb xhb n w1 hlj (by omega) (by omega) (by omega) (CA hw1 rfl hj) hl (by omega) (by omega) (by omega) (CA hw1 rfl hv) hls (by omega) (by omega) (by omega) (CA hw1 rfl hs) htg hlha (by omega) (by omega) (by omega) (hrha.at (M' := []) hw1 (by simp)) hlhb (by omega) (by omega) (by omega) (hrhb.at (M' := []) hw1 (by simp)) (by omega) (by omega) (by omega) (by omega) hR hn)) rfl ?_
 rintro v1 L1 ⟨_, ⟨nb4, sp1, cp1, rfl, rfl, hc7, hc8, hc9⟩, rfl⟩
 show JL _ _ _ _ ((23, .tuple #[Slc nb4 0 n cp1, .nilIface]) :: _) [_, _, _, _, _, ⟨nb4, cu8 (repT rq (rk) (er) nj lj th pv ep (kd) l ls bl tg nha xha nhb xhb) ++ sp1, 5, (0, 0)⟩]
 refine AA _ (AL rfl) rfl ?_
 refine AA _ (B0 rfl rfl) rfl ?_
 refine AA _ (B0 rfl rfl) rfl ?_
 refine AA _ (AH rfl) rfl ?_
 refine AA _ (AH rfl) rfl ?_
 refine AN (AF (AK (AK (DH 63 6 [(0, .agg ([U64 rq, I64 (rk), I64 (er), SL aj nj cj, .bool th, U64 pv, U64 ep, I64 (kd), SL ai ni ci, SL sa ns sc, U64 bl] ++ cu8 tg ++ [SL aha nha cha, SL ahb nhb chb]).toArray), (2, .bool (repR (rk) (er) th lj (blankB pv ep (kd) l ls bl tg) (decide (mayN pv ep (kd) l ls bl = 0)) nha nhb))] B8 rfl (by decide +kernel) ?_))))
 refine CZ ⟨[], [0, 2], [], [0, 2], [1]⟩ 1 _ rfl rfl (by decide +kernel) rfl ⟨⟨_, rfl, AJ rfl (AI rfl (BV CV CH (by simp [htg]) (AS 0 rfl (AV _))))⟩, CD rfl rfl rfl, trivial⟩ rfl (BI rfl (BG 35 [.agg ([U64 rq, I64 (rk), I64 (er), SL aj nj cj, .bool th, U64 pv, U64 ep, I64 (kd), SL ai ni ci, SL sa ns sc, U64 bl] ++ cu8 tg ++ [SL aha nha cha, SL ahb nhb chb]).toArray] (.bool (repR (rk) (er) th lj (blankB pv ep (kd) l ls bl tg) (decide (mayN pv ep (kd) l ls bl = 0)) nha nhb)) (A6 _ Tryd.call35 rfl) (fun w1 hw1 => FX rq (rk) (er) aj nj cj lj th pv ep (kd) ai ni ci l sa ns sc ls bl tg aha nha cha xha ahb nhb chb xhb w1 hlj (by omega) (by omega) (by omega) (CA hw1 rfl hj) hl (by omega) (by omega) (by omega) (CA hw1 rfl hv) hls (by omega) (by omega) (by omega) (CA hw1 rfl hs) htg hlha (by omega) (by omega) (by omega) (hrha.at (M' := []) hw1 (by simp)) hlhb (by omega) (by omega) (by omega) (hrhb.at (M' := []) hw1 (by simp)) (by omega) (by omega)))) ?_
 rintro v1 L1 ⟨rfl, rfl⟩
 refine ⟨[(3, .bool (!((repR (rk) (er) th lj (blankB pv ep (kd) l ls bl tg) (decide (mayN pv ep (kd) l ls bl = 0)) nha nhb) == (repR (rk) (er) th lj (blankB pv ep (kd) l ls bl tg) (decide (mayN pv ep (kd) l ls bl = 0)) nha nhb)))), (4, .bool (!((repR (rk) (er) th lj (blankB pv ep (kd) l ls bl tg) (decide (mayN pv ep (kd) l ls bl = 0)) nha nhb) == (repR (rk) (er) th lj (blankB pv ep (kd) l ls bl tg) (decide (mayN pv ep (kd) l ls bl = 0)) nha nhb)))), (5, .agg ([U64 rq, I64 (rk), I64 (er), SL aj nj cj, .bool th, U64 pv, U64 ep, I64 (kd), SL ai ni ci, SL sa ns sc, U64 bl] ++ cu8 tg ++ [SL aha nha cha, SL ahb nhb chb]).toArray), (6, .agg ([U64 rq2, I64 (rk2), I64 (er2), SL aj2 nj2 cj2, .bool th2, U64 pv2, U64 ep2, I64 (kd2), SL ai2 ni2 ci2, SL sa2 ns2 sc2, U64 bl2] ++ cu8 tg2 ++ [SL aha2 nha2 cha2, SL ahb2 nhb2 chb2]).toArray), (8, .agg ([U64 rq, I64 (rk), I64 (er), SL na1 nj nc1, .bool th, U64 pv, U64 ep, I64 (kd), SL ai ni ci, SL na2 ns nc2, U64 bl] ++ cu8 tg ++ [SL aha nha cha, SL ahb nhb chb]).toArray), (9, .agg ([U64 rq2, I64 (rk2), I64 (er2), SL aj2 nj2 cj2, .bool th2, U64 pv2, U64 ep2, I64 (kd2), SL ai2 ni2 ci2, SL sa2 ns2 sc2, U64 bl2] ++ cu8 tg2 ++ [SL aha2 nha2 cha2, SL ahb2 nhb2 chb2]).toArray)], ?_⟩
 show DP _ _ _ _ _ _ _ _ [_, _, _, _, _, _]
 refine FH ⟨[1], [0, 2, 3, 4, 5, 6, 8, 9], [0], [2, 3, 4, 5, 6, 8, 9], [7]⟩ 7 rfl rfl (by decide +kernel) rfl ⟨CD rfl rfl rfl, ⟨_, rfl, AJ rfl (E3 _ _ _ rfl rfl (fun _ => F1 ..) fun _ => neq_bool D4)⟩, CD rfl rfl rfl, ⟨_, rfl, BT 4 30 false _ rfl rfl rfl (bnotT (beq_self_eq_true _)) (AI rfl (BV CV CH (by simp [htg]) (AS 0 rfl (AV _))))⟩, ⟨_, rfl, BT 4 30 false _ rfl rfl rfl (bnotT (beq_self_eq_true _)) (AI rfl (BV CV CH (by simp [htg2]) (AS 1 rfl (AV _))))⟩, ⟨_, rfl, BT 4 30 false _ rfl rfl rfl (bnotT (beq_self_eq_true _)) (AI rfl (BV DR C2 (by simp [htg]) (AS 4 rfl (AV _))))⟩, ⟨_, rfl, BT 4 30 false _ rfl rfl rfl (bnotT (beq_self_eq_true _)) (AI rfl (BV CV CH (by simp [htg2]) (AS 1 rfl (AV _))))⟩, trivial⟩ rfl (Cok_gstep 4 30 false _ rfl rfl rfl (bnotT (beq_self_eq_true _)) (BG 36 [.agg ([U64 rq, I64 (rk), I64 (er), SL aj nj cj, .bool th, U64 pv, U64 ep, I64 (kd), SL ai ni ci, SL sa ns sc, U64 bl] ++ cu8 tg ++ [SL aha nha cha, SL ahb nhb chb]).toArray, .agg ([U64 rq2, I64 (rk2), I64 (er2), SL aj2 nj2 cj2, .bool th2, U64 pv2, U64 ep2, I64 (kd2), SL ai2 ni2 ci2, SL sa2 ns2 sc2, U64 bl2] ++ cu8 tg2 ++ [SL aha2 nha2 cha2, SL ahb2 nhb2 chb2]).toArray] (.bool (decide (rq = rq2 ∧ (rk) = (rk2) ∧ (er) = (er2) ∧ th = th2 ∧ (pv = pv2 ∧ ep = ep2 ∧ tg = tg2 ∧ (kd) = (kd2) ∧ bl = bl2 ∧ l = l2 ∧ ls = ls2) ∧ lj = lj2 ∧ xha = xha2 ∧ xhb = xhb2))) (A6 _ Tryd.call36 rfl) (fun w1 hw1 => sameRep_c rq (rk) (er) aj nj cj lj th pv ep (kd) ai ni ci l sa ns sc ls bl tg aha nha cha xha ahb nhb chb xhb rq2 (rk2) (er2) aj2 nj2 cj2 lj2 th2 pv2 ep2 (kd2) ai2 ni2 ci2 l2 sa2 ns2 sc2 ls2 bl2 tg2 aha2 nha2 cha2 xha2 ahb2 nhb2 chb2 xhb2 w1 hlj (by omega) (by omega) (by omega) (CA hw1 rfl hj) hl (by omega) (by omega) (by omega) (CA hw1 rfl hv) hls (by omega) (by omega) (by omega) (CA hw1 rfl hs) htg hlha (by omega) (by omega) (by omega) (hrha.at (M' := []) hw1 (by simp)) hlhb (by omega) (by omega) (by omega) (hrhb.at (M' := []) hw1 (by simp)) hlj2 (by omega) (by omega) (by omega) (CA hw1 rfl hj2) hl2 (by omega) (by omega) (by omega) (CA hw1 rfl hv2) hls2 (by omega) (by omega) (by omega) (CA hw1 rfl hs2) htg2 hlha2 (by omega) (by omega) (by omega) (hrha2.at (M' := []) hw1 (by simp)) hlhb2 (by omega) (by omega) (by omega) (hrhb2.at (M' := []) hw1 (by simp))))) ?_
 show DP _ _ _ _ _ _ _ _ [_, _, _, _, _, _]
 refine CZ ⟨[1, 7], [0, 2, 3, 4, 5, 6, 8, 9], [0, 2, 3, 4, 5, 6], [8, 9], [10]⟩ 10 _ rfl rfl (by decide +kernel) rfl ⟨⟨_, rfl, BT 4 30 false _ rfl rfl rfl (bnotT (beq_self_eq_true _)) (AI rfl (BV DR C2 (by simp [htg]) (AS 4 rfl (AV _))))⟩, ⟨_, rfl, BT 4 30 false _ rfl rfl rfl (bnotT (beq_self_eq_true _)) (AI rfl (BV CV CH (by simp [htg2]) (AS 1 rfl (AV _))))⟩, trivial⟩ rfl (Cok_gstep 4 30 false _ rfl rfl rfl (bnotT (beq_self_eq_true _)) (CG 32 [.agg ([U64 rq2, I64 (rk2), I64 (er2), SL aj2 nj2 cj2, .bool th2, U64 pv2, U64 ep2, I64 (kd2), SL ai2 ni2 ci2, SL sa2 ns2 sc2, U64 bl2] ++ cu8 tg2 ++ [SL aha2 nha2 cha2, SL ahb2 nhb2 chb2]).toArray] _ (A6 _ Tryd.call32 rfl) (fun w1 hw1 => rep_w rq2 (rk2) (er2) aj2 nj2 cj2 lj2 th2 pv2 ep2 (kd2) ai2 ni2 ci2 l2 sa2 ns2 sc2 ls2 bl2 tg2 aha2 nha2 cha2 xha2 ahb2 nhb2 chb2 xhb2 w1 hlj2 (by omega) (by omega) (by omega) (CA hw1 rfl hj2) hl2 (by omega) (by omega) (by omega) (CA hw1 rfl hv2) hls2 (by omega) (by omega) (by omega) (CA hw1 rfl hs2) htg2 hlha2 (by omega) (by omega) (by omega) (hrha2.at (M' := []) hw1 (by simp)) hlhb2 (by omega) (by omega) (by omega) (hrhb2.at (M' := []) hw1 (by simp)) hnS2))) ?_
 rintro v1 L1 ⟨_, ⟨ng3, cs3, nT3, na3, nc3, ng4, cs4, nT4, na4, nc4, rfl, rfl, hc10, hc11, hc12, hc13, hc14, hc15⟩, rfl⟩
 refine ⟨[], ?_⟩
 show DP _ _ _ _ _ _ _ _ [_, _, _, _, _, _, ⟨ng3, cs3, nT3, (0, 0)⟩, ⟨ng4, cs4, nT4, (0, 0)⟩]
 refine CZ ⟨[1, 7, 10], [0, 2, 3, 4, 5, 6, 8, 9], [0, 2, 3, 4, 5, 6, 9], [8], [11]⟩ 11 _ rfl rfl (by decide +kernel) rfl ⟨⟨_, rfl, BT 4 30 false _ rfl rfl rfl (bnotT (beq_self_eq_true _)) (AI rfl (BV DR C2 (by simp [htg]) (AS 4 rfl (AV _))))⟩, trivial⟩ rfl (Cok_gstep 4 30 false _ rfl rfl rfl (bnotT (beq_self_eq_true _)) (BG 37 [.agg ([U64 rq, I64 (rk), I64 (er), SL na1 nj nc1, .bool th, U64 pv, U64 ep, I64 (kd), SL ai ni ci, SL na2 ns nc2, U64 bl] ++ cu8 tg ++ [SL aha nha cha, SL ahb nhb chb]).toArray, .agg ([U64 rq2, I64 (rk2), I64 (er2), SL na3 nj2 nc3, .bool th2, U64 pv2, U64 ep2, I64 (kd2), SL ai2 ni2 ci2, SL na4 ns2 nc4, U64 bl2] ++ cu8 tg2 ++ [SL aha2 nha2 cha2, SL ahb2 nhb2 chb2]).toArray] (.bool (decide (rq = rq2 ∧ (rk) = (rk2) ∧ (er) = (er2) ∧ th = th2 ∧ (pv = pv2 ∧ ep = ep2 ∧ tg = tg2 ∧ (kd) = (kd2) ∧ bl = bl2 ∧ l = l2 ∧ ls = ls2) ∧ lj = lj2 ∧ xha = xha2 ∧ xhb = xhb2))) (A6 _ Tryd.call37 rfl) (fun w1 hw1 => rsameRep_c rq (rk) (er) na1 nj nc1 lj th pv ep (kd) ai ni ci l na2 ns nc2 ls bl tg aha nha cha xha ahb nhb chb xhb rq2 (rk2) (er2) na3 nj2 nc3 lj2 th2 pv2 ep2 (kd2) ai2 ni2 ci2 l2 na4 ns2 nc4 ls2 bl2 tg2 aha2 nha2 cha2 xha2 ahb2 nhb2 chb2 xhb2 w1 hlj (by omega) (by omega) (by omega) (Gh.at hw1 2 rfl hc1) hl (by omega) (by omega) (by omega) (CA hw1 rfl hv) hls (by omega) (by omega) (by omega) (Gh.at hw1 3 rfl hc4) htg hlha (by omega) (by omega) (by omega) (hrha.at (M' := []) hw1 (by simp)) hlhb (by omega) (by omega) (by omega) (hrhb.at (M' := []) hw1 (by simp)) hlj2 (by omega) (by omega) (by omega) (Gh.at hw1 6 rfl hc10) hl2 (by omega) (by omega) (by omega) (CA hw1 rfl hv2) hls2 (by omega) (by omega) (by omega) (Gh.at hw1 7 rfl hc13) htg2 hlha2 (by omega) (by omega) (by omega) (hrha2.at (M' := []) hw1 (by simp)) hlhb2 (by omega) (by omega) (by omega) (hrhb2.at (M' := []) hw1 (by simp))))) ?_
 rintro v1 L1 ⟨rfl, rfl⟩
 refine ⟨[(12, .bool (!((decide (rq = rq2 ∧ (rk) = (rk2) ∧ (er) = (er2) ∧ th = th2 ∧ (pv = pv2 ∧ ep = ep2 ∧ tg = tg2 ∧ (kd) = (kd2) ∧ bl = bl2 ∧ l = l2 ∧ ls = ls2) ∧ lj = lj2 ∧ xha = xha2 ∧ xhb = xhb2)) == (decide (rq = rq2 ∧ (rk) = (rk2) ∧ (er) = (er2) ∧ th = th2 ∧ (pv = pv2 ∧ ep = ep2 ∧ tg = tg2 ∧ (kd) = (kd2) ∧ bl = bl2 ∧ l = l2 ∧ ls = ls2) ∧ lj = lj2 ∧ xha = xha2 ∧ xhb = xhb2))))), (13, .bool (!((decide (rq = rq2 ∧ (rk) = (rk2) ∧ (er) = (er2) ∧ th = th2 ∧ (pv = pv2 ∧ ep = ep2 ∧ tg = tg2 ∧ (kd) = (kd2) ∧ bl = bl2 ∧ l = l2 ∧ ls = ls2) ∧ lj = lj2 ∧ xha = xha2 ∧ xhb = xhb2)) == (decide (rq = rq2 ∧ (rk) = (rk2) ∧ (er) = (er2) ∧ th = th2 ∧ (pv = pv2 ∧ ep = ep2 ∧ tg = tg2 ∧ (kd) = (kd2) ∧ bl = bl2 ∧ l = l2 ∧ ls = ls2) ∧ lj = lj2 ∧ xha = xha2 ∧ xhb = xhb2))))), (14, .bool (!((decide (rq = rq2 ∧ (rk) = (rk2) ∧ (er) = (er2) ∧ th = th2 ∧ (pv = pv2 ∧ ep = ep2 ∧ tg = tg2 ∧ (kd) = (kd2) ∧ bl = bl2 ∧ l = l2 ∧ ls = ls2) ∧ lj = lj2 ∧ xha = xha2 ∧ xhb = xhb2)) == (decide (rq = rq2 ∧ (rk) = (rk2) ∧ (er) = (er2) ∧ th = th2 ∧ (pv = pv2 ∧ ep = ep2 ∧ tg = tg2 ∧ (kd) = (kd2) ∧ bl = bl2 ∧ l = l2 ∧ ls = ls2) ∧ lj = lj2 ∧ xha = xha2 ∧ xhb = xhb2))))), (15, .agg ([U64 rq, I64 (rk), I64 (er), SL aj nj cj, .bool th, U64 pv, U64 ep, I64 (kd), SL ai ni ci, SL sa ns sc, U64 bl] ++ cu8 tg ++ [SL aha nha cha, SL ahb nhb chb]).toArray), (16, .agg ([U64 rq, I64 (rk), I64 (er), SL aj nj cj, .bool th, U64 pv, U64 ep, I64 (kd), SL ai ni ci, SL sa ns sc, U64 bl] ++ cu8 tg ++ [SL aha nha cha, SL ahb nhb chb]).toArray)], ?_⟩
 show DP _ _ _ _ _ _ _ _ [_, _, _, _, _, _, _, _]
 refine CZ ⟨[1, 7, 10, 11], [0, 2, 3, 4, 5, 6, 8, 9, 12, 13, 14, 15, 16], [0, 2, 3, 4, 5, 6, 8, 9], [12, 13, 14, 15, 16], [17]⟩ 17 _ rfl rfl (by decide +kernel) rfl ⟨⟨_, rfl, BT 4 30 false _ rfl rfl rfl (bnotT (beq_self_eq_true _)) (E3 _ _ _ rfl rfl (fun _ => F1 ..) fun _ => neq_bool D4)⟩, ⟨_, rfl, AJ rfl (A0 _ rfl (bnotT (beq_self_eq_true _)) rfl)⟩, CD rfl rfl rfl, ⟨_, rfl, BT 14 40 false _ rfl rfl rfl (bnotT (beq_self_eq_true _)) (AI rfl (BV CV CH (by simp [htg]) (AS 0 rfl (AV _))))⟩, ⟨_, rfl, BT 14 40 false _ rfl rfl rfl (bnotT (beq_self_eq_true _)) (AI rfl (BV CV CH (by simp [htg]) (AS 0 rfl (AV _))))⟩, trivial⟩ rfl (Cok_gstep 14 40 false _ rfl rfl rfl (bnotT (beq_self_eq_true _)) (BG 36 [.agg ([U64 rq, I64 (rk), I64 (er), SL aj nj cj, .bool th, U64 pv, U64 ep, I64 (kd), SL ai ni ci, SL sa ns sc, U64 bl] ++ cu8 tg ++ [SL aha nha cha, SL ahb nhb chb]).toArray, .agg ([U64 rq, I64 (rk), I64 (er), SL aj nj cj, .bool th, U64 pv, U64 ep, I64 (kd), SL ai ni ci, SL sa ns sc, U64 bl] ++ cu8 tg ++ [SL aha nha cha, SL ahb nhb chb]).toArray] (.bool (decide (rq = rq ∧ (rk) = (rk) ∧ (er) = (er) ∧ th = th ∧ (pv = pv ∧ ep = ep ∧ tg = tg ∧ (kd) = (kd) ∧ bl = bl ∧ l = l ∧ ls = ls) ∧ lj = lj ∧ xha = xha ∧ xhb = xhb))) (A6 _ Tryd.call36 rfl) (fun w1 hw1 => sameRep_c rq (rk) (er) aj nj cj lj th pv ep (kd) ai ni ci l sa ns sc ls bl tg aha nha cha xha ahb nhb chb xhb rq (rk) (er) aj nj cj lj th pv ep (kd) ai ni ci l sa ns sc ls bl tg aha nha cha xha ahb nhb chb xhb w1 hlj (by omega) (by omega) (by omega) (CA hw1 rfl hj) hl (by omega) (by omega) (by omega) (CA hw1 rfl hv) hls (by omega) (by omega) (by omega) (CA hw1 rfl hs) htg hlha (by omega) (by omega) (by omega) (hrha.at (M' := []) hw1 (by simp)) hlhb (by omega) (by omega) (by omega) (hrhb.at (M' := []) hw1 (by simp)) hlj (by omega) (by omega) (by omega) (CA hw1 rfl hj) hl (by omega) (by omega) (by omega) (CA hw1 rfl hv) hls (by omega) (by omega) (by omega) (CA hw1 rfl hs) htg hlha (by omega) (by omega) (by omega) (hrha.at (M' := []) hw1 (by simp)) hlhb (by omega) (by omega) (by omega) (hrhb.at (M' := []) hw1 (by simp))))) ?_
 rintro v1 L1 ⟨rfl, rfl⟩
 refine ⟨[(18, .bool (!(decide (rq = rq ∧ (rk) = (rk) ∧ (er) = (er) ∧ th = th ∧ (pv = pv ∧ ep = ep ∧ tg = tg ∧ (kd) = (kd) ∧ bl = bl ∧ l = l ∧ ls = ls) ∧ lj = lj ∧ xha = xha ∧ xhb = xhb)))), (19, .bool (!(decide (rq = rq ∧ (rk) = (rk) ∧ (er) = (er) ∧ th = th ∧ (pv = pv ∧ ep = ep ∧ tg = tg ∧ (kd) = (kd) ∧ bl = bl ∧ l = l ∧ ls = ls) ∧ lj = lj ∧ xha = xha ∧ xhb = xhb))))], ?_⟩
 show DP _ _ _ _ _ _ _ _ [_, _, _, _, _, _, _, _]
 refine DN ⟨[1, 7, 10, 11, 17], [0, 2, 3, 4, 5, 6, 8, 9, 12, 13, 14, 15, 16, 18, 19], [0, 2, 3, 4, 5, 6, 8, 9, 12, 13, 14, 15, 16], [18, 19], []⟩ rfl rfl (by decide +kernel) rfl ⟨⟨_, rfl, BT 14 40 false _ rfl rfl rfl (bnotT (beq_self_eq_true _)) (EP rfl)⟩, ⟨_, rfl, AJ rfl (A0 _ rfl (bnotT (beq_self_eq_true _)) rfl)⟩, trivial⟩ ?_
 refine C7 (F' := [(45, .bool (!(decide (rq = rq ∧ (rk) = (rk) ∧ (er) = (er) ∧ th = th ∧ (pv = pv ∧ ep = ep ∧ tg = tg ∧ (kd) = (kd) ∧ bl = bl ∧ l = l ∧ ls = ls) ∧ lj = lj ∧ xha = xha ∧ xhb = xhb)))), (4, .bool false), (5, Ptr nb3 0), (6, .bool (repR (rk) (er) th lj (blankB pv ep (kd) l ls bl tg) (decide (mayN pv ep (kd) l ls bl = 0)) nha nhb)), (7, Slc nb4 0 n cp1), (8, .nilIface)]) (by kernel_rfl) ?_
 refine AF (BN _ rfl (bnotT (decide_eq_true (by simp))) ?_)
 refine BE (AF (AK (AK (AD (AA _ (AL rfl) rfl ?_)))))
 refine AA (.bool (!(repR (rk) (er) th lj (blankB pv ep (kd) l ls bl tg) (decide (mayN pv ep (kd) l ls bl = 0)) nha nhb))) (EP rfl) rfl ?_
 refine AN (AF (BN _ rfl (bnotT hR) ?_))
 refine BE (AF (AK (AD (AA _ (AL rfl) rfl ?_))))
 refine AA (.bool true) (E3 _ _ _ rfl rfl (fun _ => eqGuard_nn ..) fun _ => F4 DZ) rfl ?_
 refine AA _ (AL rfl) rfl ?_
 refine AP 2 57 true _ _ rfl rfl rfl (AL rfl) rfl ?_
 refine AP 2 57 true _ (.agg ([U64 rq, I64 (rk), I64 (er), SL na1 nj nc1, .bool th, U64 pv, U64 ep, I64 (kd), SL ai ni ci, SL na2 ns nc2, U64 bl] ++ cu8 tg ++ [SL aha nha cha, SL ahb nhb chb]).toArray) rfl rfl rfl (AI rfl (BV DR C2 (by simp [htg]) (AS 4 rfl (AV _)))) rfl ?_
 refine ET 2 57 true _ rfl rfl rfl (CG 38 [.agg ([U64 rq, I64 (rk), I64 (er), SL na1 nj nc1, .bool th, U64 pv, U64 ep, I64 (kd), SL ai ni ci, SL na2 ns nc2, U64 bl] ++ cu8 tg ++ [SL aha nha cha, SL ahb nhb chb]).toArray] _ (A6 _ Tryd.call38 rfl) (fun w1 hw1 => rputRep_w rq (rk) (er) na1 nj nc1 lj th pv ep (kd) ai ni ci l na2 ns nc2 ls bl tg aha nha cha xha ahb nhb chb xhb n w1 hlj (by omega) (by omega) (by omega) (Gh.at hw1 2 rfl hc1) hl (by omega) (by omega) (by omega) (CA hw1 rfl hv) hls (by omega) (by omega) (by omega) (Gh.at hw1 3 rfl hc4) htg hlha (by omega) (by omega) (by omega) (hrha.at (M' := []) hw1 (by simp)) hlhb (by omega) (by omega) (by omega) (hrhb.at (M' := []) hw1 (by simp)) (by omega) (by omega) (by omega) (by omega) hR hn)) rfl ?_
 rintro v1 L1 ⟨_, ⟨nb5, sp2, cp2, rfl, rfl, hc16, hc17, hc18⟩, rfl⟩
 show JL _ _ _ _ ((60, Slc nb5 0 n cp2) :: _) [_, _, _, _, _, _, _, _, ⟨nb5, cu8 (repT rq (rk) (er) nj lj th pv ep (kd) l ls bl tg nha xha nhb xhb) ++ sp2, 5, (0, 0)⟩]
 refine ET 2 57 true _ rfl rfl rfl (BG 24 [Slc nb4 0 n cp1, Slc nb5 0 n cp2] (.bool (decide ((repT rq (rk) (er) nj lj th pv ep (kd) l ls bl tg nha xha nhb xhb) = (repT rq (rk) (er) nj lj th pv ep (kd) l ls bl tg nha xha nhb xhb)))) (A6 _ Tryd.call24 rfl) (fun w1 hw1 => bytes_c (some ⟨nb4, 0, none⟩) (some ⟨nb5, 0, none⟩) n n cp1 cp2 (repT rq (rk) (er) nj lj th pv ep (kd) l ls bl tg nha xha nhb xhb) (repT rq (rk) (er) nj lj th pv ep (kd) l ls bl tg nha xha nhb xhb) w1 (show (repT rq (rk) (er) nj lj th pv ep (kd) l ls bl tg nha xha nhb xhb).length = n from (show (repT rq (rk) (er) nj lj th pv ep (kd) l ls bl tg nha xha nhb xhb).length = n from hn)) (show (repT rq (rk) (er) nj lj th pv ep (kd) l ls bl tg nha xha nhb xhb).length = n from (show (repT rq (rk) (er) nj lj th pv ep (kd) l ls bl tg nha xha nhb xhb).length = n from hn)) (RdB.of hw1 (AS 5 rfl (AG (AV _))) (by simp)) (RdB.of hw1 (AS 8 rfl (AG (AV _))) (by simp)))) rfl ?_
 rintro v1 L1 ⟨rfl, rfl⟩
 show JL _ _ _ _ ((61, .bool (decide ((repT rq (rk) (er) nj lj th pv ep (kd) l ls bl tg nha xha nhb xhb) = (repT rq (rk) (er) nj lj th pv ep (kd) l ls bl tg nha xha nhb xhb)))) :: _) [_, _, _, _, _, _, _, _, _]
 refine AA _ (A2 _ rfl rfl rfl) rfl ?_
 refine AA _ (AH rfl) rfl ?_
 refine AN (AF (BK (BP [false, false, false, false, false, false, false, false, false] ?_)))
 show JQ _ _ _ _ []
 refine BJ (.bool (decide ((repT rq (rk) (er) nj lj th pv ep (kd) l ls bl tg nha xha nhb xhb) = (repT rq (rk) (er) nj lj th pv ep (kd) l ls bl tg nha xha nhb xhb)))) (res1 Tryd.results6 (BH rfl)) fun w1 hw1 => ?_
 exact ⟨_, [], rfl, ⟨congrArg Value.bool (decide_eq_true rfl), rfl⟩, hw1.sub (by simp) (by simp)⟩
set_option maxHeartbeats 2000000 in
theorem wrepB_c (rq : UInt64) (rk er : Int) (aj : Option Addr) (nj cj : Nat) (lj : List ItemR) (th : Bool) (pv ep : UInt64) (kd : Int) (ai : Option Addr) (ni ci : Nat) (l : List UInt64) (sa : Option Addr) (ns sc : Nat) (ls : List SealR) (bl : UInt64) (tg : List UInt8) (aha : Option Addr) (nha cha : Nat) (xha : List UInt8) (ahb : Option Addr) (nhb chb : Nat) (xhb : List UInt8) (rq2 : UInt64) (rk2 er2 : Int) (aj2 : Option Addr) (nj2 cj2 : Nat) (lj2 : List ItemR) (th2 : Bool) (pv2 ep2 : UInt64) (kd2 : Int) (ai2 : Option Addr) (ni2 ci2 : Nat) (l2 : List UInt64) (sa2 : Option Addr) (ns2 sc2 : Nat) (ls2 : List SealR) (bl2 : UInt64) (tg2 : List UInt8) (aha2 : Option Addr) (nha2 cha2 : Nat) (xha2 : List UInt8) (ahb2 : Option Addr) (nhb2 chb2 : Nat) (xhb2 : List UInt8)  (w : World) (hlj : lj.length = nj) (hnj : nj ≤ 2000000) (hdj : nj ≤ cj) (hcj : cj ≤ maxLen) (hj : RdV w aj (lj.flatMap itemC)) (hl : l.length = ni) (hnm : ni ≤ 2000000) (hnc : ni ≤ ci) (hcm : ci ≤ maxLen) (hv : RdV w ai (cu64 l)) (hls : ls.length = ns) (hnn : ns ≤ 2000000) (hnd : ns ≤ sc) (hcn : sc ≤ maxLen) (hs : RdV w sa (ls.flatMap sealC)) (htg : tg.length = 16) (hlha : xha.length = nha * 32) (hnha : nha ≤ 9000) (hdha : nha ≤ cha) (hcha : cha ≤ maxLen) (hrha : RdB w [] aha xha) (hlhb : xhb.length = nhb * 32) (hnhb : nhb ≤ 9000) (hdhb : nhb ≤ chb) (hchb : chb ≤ maxLen) (hrhb : RdB w [] ahb xhb) (hlj2 : lj2.length = nj2) (hnj2 : nj2 ≤ 2000000) (hdj2 : nj2 ≤ cj2) (hcj2 : cj2 ≤ maxLen) (hj2 : RdV w aj2 (lj2.flatMap itemC)) (hl2 : l2.length = ni2) (hnm2 : ni2 ≤ 2000000) (hnc2 : ni2 ≤ ci2) (hcm2 : ci2 ≤ maxLen) (hv2 : RdV w ai2 (cu64 l2)) (hls2 : ls2.length = ns2) (hnn2 : ns2 ≤ 2000000) (hnd2 : ns2 ≤ sc2) (hcn2 : sc2 ≤ maxLen) (hs2 : RdV w sa2 (ls2.flatMap sealC)) (htg2 : tg2.length = 16) (hlha2 : xha2.length = nha2 * 32) (hnha2 : nha2 ≤ 9000) (hdha2 : nha2 ≤ cha2) (hcha2 : cha2 ≤ maxLen) (hrha2 : RdB w [] aha2 xha2) (hlhb2 : xhb2.length = nhb2 * 32) (hnhb2 : nhb2 ≤ 9000) (hdhb2 : nhb2 ≤ chb2) (hchb2 : chb2 ≤ maxLen) (hrhb2 : RdB w [] ahb2 xhb2) (hnS : sa = none → sc = 0) (hnS2 : sa2 = none → sc2 = 0) (hlp : ¬ LargeQ nj nha nhb ni ns) (hlo : ¬ LargeQ nj2 nha2 nhb2 ni2 ns2) (hbi : ni ≤ 300) (hbs : ns ≤ 300) (hR : repR rk er th lj (blankB pv ep kd l ls bl tg) (decide (mayN pv ep kd l ls bl = 0)) nha nhb = false) (hW : GLw w)  : Calls Tryd.prog 6 #[.agg ([U64 rq, I64 (rk), I64 (er), SL aj nj cj, .bool th, U64 pv, U64 ep, I64 (kd), SL ai ni ci, SL sa ns sc, U64 bl] ++ cu8 tg ++ [SL aha nha cha, SL ahb nhb chb]).toArray, .agg ([U64 rq2, I64 (rk2), I64 (er2), SL aj2 nj2 cj2, .bool th2, U64 pv2, U64 ep2, I64 (kd2), SL ai2 ni2 ci2, SL sa2 ns2 sc2, U64 bl2] ++ cu8 tg2 ++ [SL aha2 nha2 cha2, SL ahb2 nhb2 chb2]).toArray] w (Post w [] (fun v L => v = .bool true ∧ L = [])) := by
 have hmx : maxLen = 9223372036854775807 := rfl
 refine enter (P := Tryd.prog) (f := 6) (fn := Tryd.f6) w [] 63 [] [.agg ([U64 rq, I64 (rk), I64 (er), SL aj nj cj, .bool th, U64 pv, U64 ep, I64 (kd), SL ai ni ci, SL sa ns sc, U64 bl] ++ cu8 tg ++ [SL aha nha cha, SL ahb nhb chb]).toArray, .agg ([U64 rq2, I64 (rk2), I64 (er2), SL aj2 nj2 cj2, .bool th2, U64 pv2, U64 ep2, I64 (kd2), SL ai2 ni2 ci2, SL sa2 ns2 sc2, U64 bl2] ++ cu8 tg2 ++ [SL aha2 nha2 cha2, SL ahb2 nhb2 chb2]).toArray] Tryd.func6 rfl rfl (by simp) (CC (by simp) (by simp) (by simp)) ?_
 show JC _ _ _ [(0, .agg ([U64 rq, I64 (rk), I64 (er), SL aj nj cj, .bool th, U64 pv, U64 ep, I64 (kd), SL ai ni ci, SL sa ns sc, U64 bl] ++ cu8 tg ++ [SL aha nha cha, SL ahb nhb chb]).toArray), (1, .agg ([U64 rq2, I64 (rk2), I64 (er2), SL aj2 nj2 cj2, .bool th2, U64 pv2, U64 ep2, I64 (kd2), SL ai2 ni2 ci2, SL sa2 ns2 sc2, U64 bl2] ++ cu8 tg2 ++ [SL aha2 nha2 cha2, SL ahb2 nhb2 chb2]).toArray)] _
 refine AK (AD (A9 (CL (.agg ([U64 rq, I64 (rk), I64 (er), SL aj nj cj, .bool th, U64 pv, U64 ep, I64 (kd), SL ai ni ci, SL sa ns sc, U64 bl] ++ cu8 tg ++ [SL aha nha cha, SL ahb nhb chb]).toArray) ([U64 rq, I64 (rk), I64 (er), SL aj nj cj, .bool th, U64 pv, U64 ep, I64 (kd), SL ai ni ci, SL sa ns sc, U64 bl] ++ cu8 tg ++ [SL aha nha cha, SL ahb nhb chb]) rfl (by first | rfl | simp)) rfl ?_))
 rintro v1 L1 ⟨nb1, hnb1, rfl, rfl⟩
 show JL _ _ _ _ ((2, Ptr nb1 0) :: _) [⟨nb1, [U64 rq, I64 (rk), I64 (er), SL aj nj cj, .bool th, U64 pv, U64 ep, I64 (kd), SL ai ni ci, SL sa ns sc, U64 bl] ++ cu8 tg ++ [SL aha nha cha, SL ahb nhb chb], 67, (0, 0)⟩]
 refine A9 (CL (.agg ([U64 rq2, I64 (rk2), I64 (er2), SL aj2 nj2 cj2, .bool th2, U64 pv2, U64 ep2, I64 (kd2), SL ai2 ni2 ci2, SL sa2 ns2 sc2, U64 bl2] ++ cu8 tg2 ++ [SL aha2 nha2 cha2, SL ahb2 nhb2 chb2]).toArray) ([U64 rq2, I64 (rk2), I64 (er2), SL aj2 nj2 cj2, .bool th2, U64 pv2, U64 ep2, I64 (kd2), SL ai2 ni2 ci2, SL sa2 ns2 sc2, U64 bl2] ++ cu8 tg2 ++ [SL aha2 nha2 cha2, SL ahb2 nhb2 chb2]) rfl (by first | rfl | simp)) rfl ?_
 rintro v1 L1 ⟨nb2, hnb2, rfl, rfl⟩
 show JL _ _ _ _ ((3, Ptr nb2 0) :: _) [_, ⟨nb2, [U64 rq2, I64 (rk2), I64 (er2), SL aj2 nj2 cj2, .bool th2, U64 pv2, U64 ep2, I64 (kd2), SL ai2 ni2 ci2, SL sa2 ns2 sc2, U64 bl2] ++ cu8 tg2 ++ [SL aha2 nha2 cha2, SL ahb2 nhb2 chb2], 67, (0, 0)⟩]
 refine AA _ (AH rfl) rfl ?_
 refine AN (AF (AK (AK (AD (A9 (BG 17 [] (.bool true) (A6 _ Tryd.call17 rfl) (fun w1 hw1 => aliveA_c  w1 (GLw.at hw1 hW))) rfl ?_)))))
 rintro v1 L1 ⟨rfl, rfl⟩
 show JL _ _ _ _ ((9, .bool true) :: _) [_, _]
 refine AA (.bool (!true)) (EP rfl) rfl ?_
 refine AN (AF (BN _ rfl rfl ?_))
 refine BE (AF (AK (AK (AD (AA (.agg ([U64 rq, I64 (rk), I64 (er), SL aj nj cj, .bool th, U64 pv, U64 ep, I64 (kd), SL ai ni ci, SL sa ns sc, U64 bl] ++ cu8 tg ++ [SL aha nha cha, SL ahb nhb chb]).toArray) (AI rfl (BV CV CH (by simp [htg]) (AS 0 rfl (AV _)))) rfl ?_)))))
 refine B1 (BG 31 [.agg ([U64 rq, I64 (rk), I64 (er), SL aj nj cj, .bool th, U64 pv, U64 ep, I64 (kd), SL ai ni ci, SL sa ns sc, U64 bl] ++ cu8 tg ++ [SL aha nha cha, SL ahb nhb chb]).toArray] (.bool (decide (LargeQ nj nha nhb ni ns))) (A6 _ Tryd.call31 rfl) (fun w1 hw1 => large14_c rq (rk) (er) aj nj cj lj th pv ep (kd) ai ni ci l sa ns sc ls bl tg aha nha cha xha ahb nhb chb xhb w1 htg)) rfl ?_
 show JL _ _ _ _ ((12, .bool (decide (LargeQ nj nha nhb ni ns))) :: _) [_, _]
 refine AA _ (AL rfl) rfl ?_
 refine AP 2 13 false _ (.agg ([U64 rq2, I64 (rk2), I64 (er2), SL aj2 nj2 cj2, .bool th2, U64 pv2, U64 ep2, I64 (kd2), SL ai2 ni2 ci2, SL sa2 ns2 sc2, U64 bl2] ++ cu8 tg2 ++ [SL aha2 nha2 cha2, SL ahb2 nhb2 chb2]).toArray) rfl rfl (decide_eq_false hlp) (AI rfl (BV CV CH (by simp [htg2]) (AS 1 rfl (AV _)))) rfl ?_
 refine ET 2 13 false _ rfl rfl (decide_eq_false hlp) (BG 31 [.agg ([U64 rq2, I64 (rk2), I64 (er2), SL aj2 nj2 cj2, .bool th2, U64 pv2, U64 ep2, I64 (kd2), SL ai2 ni2 ci2, SL sa2 ns2 sc2, U64 bl2] ++ cu8 tg2 ++ [SL aha2 nha2 cha2, SL ahb2 nhb2 chb2]).toArray] (.bool (decide (LargeQ nj2 nha2 nhb2 ni2 ns2))) (A6 _ Tryd.call31 rfl) (fun w1 hw1 => large14_c rq2 (rk2) (er2) aj2 nj2 cj2 lj2 th2 pv2 ep2 (kd2) ai2 ni2 ci2 l2 sa2 ns2 sc2 ls2 bl2 tg2 aha2 nha2 cha2 xha2 ahb2 nhb2 chb2 xhb2 w1 htg2)) rfl ?_
 rintro v1 L1 ⟨rfl, rfl⟩
 show JL _ _ _ _ ((15, .bool (decide (LargeQ nj2 nha2 nhb2 ni2 ns2))) :: _) [_, _]
 refine AA _ (A0 _ rfl (decide_eq_false hlp) rfl) rfl ?_
 refine AN (AF (BN _ rfl (decide_eq_false hlo) ?_))
 refine BE (AF (AK (AD (AA (.agg ([U64 rq, I64 (rk), I64 (er), SL aj nj cj, .bool th, U64 pv, U64 ep, I64 (kd), SL ai ni ci, SL sa ns sc, U64 bl] ++ cu8 tg ++ [SL aha nha cha, SL ahb nhb chb]).toArray) (AI rfl (BV CV CH (by simp [htg]) (AS 0 rfl (AV _)))) rfl ?_))))
 refine A9 (CG 32 [.agg ([U64 rq, I64 (rk), I64 (er), SL aj nj cj, .bool th, U64 pv, U64 ep, I64 (kd), SL ai ni ci, SL sa ns sc, U64 bl] ++ cu8 tg ++ [SL aha nha cha, SL ahb nhb chb]).toArray] _ (A6 _ Tryd.call32 rfl) (fun w1 hw1 => rep_w rq (rk) (er) aj nj cj lj th pv ep (kd) ai ni ci l sa ns sc ls bl tg aha nha cha xha ahb nhb chb xhb w1 hlj (by omega) (by omega) (by omega) (CA hw1 rfl hj) hl (by omega) (by omega) (by omega) (CA hw1 rfl hv) hls (by omega) (by omega) (by omega) (CA hw1 rfl hs) htg hlha (by omega) (by omega) (by omega) (hrha.at (M' := []) hw1 (by simp)) hlhb (by omega) (by omega) (by omega) (hrhb.at (M' := []) hw1 (by simp)) hnS)) rfl ?_
 rintro v1 L1 ⟨_, ⟨ng1, cs1, nT1, na1, nc1, ng2, cs2, nT2, na2, nc2, rfl, rfl, hc1, hc2, hc3, hc4, hc5, hc6⟩, rfl⟩
 show JL _ _ _ _ ((18, .agg ([U64 rq, I64 (rk), I64 (er), SL na1 nj nc1, .bool th, U64 pv, U64 ep, I64 (kd), SL ai ni ci, SL na2 ns nc2, U64 bl] ++ cu8 tg ++ [SL aha nha cha, SL ahb nhb chb]).toArray) :: _) [_, _, ⟨ng1, cs1, nT1, (0, 0)⟩, ⟨ng2, cs2, nT2, (0, 0)⟩]
 refine A9 (DI _ ([U64 0, I64 0, I64 0, SL none 0 0, .bool false, U64 0, U64 0, I64 0, SL none 0 0, SL none 0 0, U64 0] ++ cu8 (zr8 16) ++ [SL none 0 0, SL none 0 0]) Tryd.zeroValue71 (by kernel_rfl)) rfl ?_
 rintro v1 L1 ⟨nb3, hnb3, rfl, rfl⟩
 show JL _ _ _ _ ((5, Ptr nb3 0) :: _) [_, _, _, _, ⟨nb3, [U64 0, I64 0, I64 0, SL none 0 0, .bool false, U64 0, U64 0, I64 0, SL none 0 0, SL none 0 0, U64 0] ++ cu8 (zr8 16) ++ [SL none 0 0, SL none 0 0], 71, (0, 0)⟩]
 refine B1 (CW 4 nb3 29 ([U64 0, I64 0, I64 0, SL none 0 0, .bool false, U64 0, U64 0, I64 0, SL none 0 0, SL none 0 0, U64 0] ++ cu8 (zr8 16) ++ [SL none 0 0, SL none 0 0]) 71 ([U64 rq, I64 (rk), I64 (er), SL na1 nj nc1, .bool th, U64 pv, U64 ep, I64 (kd), SL ai ni ci, SL na2 ns nc2, U64 bl] ++ cu8 tg ++ [SL aha nha cha, SL ahb nhb chb]) rfl rfl rfl C2 (by simp [htg]) (EH (EH (by simp [Value.oneCell']) FE) (by simp [Value.oneCell'])) (by simp [(B6 16)]) (DC (by simp [(B6 16), htg]))) rfl ?_
 show JL _ _ _ _ _ [_, _, _, _, ⟨nb3, [U64 rq, I64 (rk), I64 (er), SL na1 nj nc1, .bool th, U64 pv, U64 ep, I64 (kd), SL ai ni ci, SL na2 ns nc2, U64 bl] ++ cu8 tg ++ [SL aha nha cha, SL ahb nhb chb], 71, (0, 0)⟩]
 refine AN (AF (AK (AD (AA (.agg ([U64 rq, I64 (rk), I64 (er), SL na1 nj nc1, .bool th, U64 pv, U64 ep, I64 (kd), SL ai ni ci, SL na2 ns nc2, U64 bl] ++ cu8 tg ++ [SL aha nha cha, SL ahb nhb chb]).toArray) (AI rfl (BV DR C2 (by simp [htg]) (AS 4 rfl (AV _)))) rfl ?_))))
 refine B1 (BG 33 [.agg ([U64 rq, I64 (rk), I64 (er), SL na1 nj nc1, .bool th, U64 pv, U64 ep, I64 (kd), SL ai ni ci, SL na2 ns nc2, U64 bl] ++ cu8 tg ++ [SL aha nha cha, SL ahb nhb chb]).toArray] (.bool (repR (rk) (er) th lj (blankB pv ep (kd) l ls bl tg) (decide (mayN pv ep (kd) l ls bl = 0)) nha nhb)) (A6 _ Tryd.call33 rfl) (fun w1 hw1 => rrightRep_c rq (rk) (er) na1 nj nc1 lj th pv ep (kd) ai ni ci l na2 ns nc2 ls bl tg aha nha cha xha ahb nhb chb xhb w1 hlj (by omega) (by omega) (by omega) (Gh.at hw1 2 rfl hc1) hl (by omega) (by omega) (by omega) (CA hw1 rfl hv) hls (by omega) (by omega) (by omega) (Gh.at hw1 3 rfl hc4) htg hlha (by omega) (by omega) (by omega) (hrha.at (M' := []) hw1 (by simp)) hlhb (by omega) (by omega) (by omega) (hrhb.at (M' := []) hw1 (by simp)) (by omega) (by omega))) rfl ?_
 show JL _ _ _ _ ((20, .bool (repR (rk) (er) th lj (blankB pv ep (kd) l ls bl tg) (decide (mayN pv ep (kd) l ls bl = 0)) nha nhb)) :: _) [_, _, _, _, _]
 refine AA _ (AH rfl) rfl ?_
 refine AN (AF (AK (AD (AA (.agg ([U64 rq, I64 (rk), I64 (er), SL aj nj cj, .bool th, U64 pv, U64 ep, I64 (kd), SL ai ni ci, SL sa ns sc, U64 bl] ++ cu8 tg ++ [SL aha nha cha, SL ahb nhb chb]).toArray) (AI rfl (BV CV CH (by simp [htg]) (AS 0 rfl (AV _)))) rfl ?_))))
 refine B1 (BG 34 [.agg ([U64 rq, I64 (rk), I64 (er), SL aj nj cj, .bool th, U64 pv, U64 ep, I64 (kd), SL ai ni ci, SL sa ns sc, U64 bl] ++ cu8 tg ++ [SL aha nha cha, SL ahb nhb chb]).toArray] (.tuple #[SL none 0 0, .iface 50 (I64 2)]) (A6 _ Tryd.call34 rfl) (fun w1 hw1 => putRepB_c rq (rk) (er) aj nj cj lj th pv ep (kd) ai ni ci l sa ns sc ls bl tg aha nha cha xha ahb nhb chb xhb w1 hlj (by omega) (by omega) (by omega) (CA hw1 rfl hj) hl (by omega) (by omega) (by omega) (CA hw1 rfl hv) hls (by omega) (by omega) (by omega) (CA hw1 rfl hs) htg hlha (by omega) (by omega) (by omega) (hrha.at (M' := []) hw1 (by simp)) hlhb (by omega) (by omega) (by omega) (hrhb.at (M' := []) hw1 (by simp)) (by omega) (by omega) hR)) rfl ?_
 show JL _ _ _ _ ((23, .tuple #[SL none 0 0, .iface 50 (I64 2)]) :: _) [_, _, _, _, _]
 refine AA _ (AL rfl) rfl ?_
 refine AA _ (B0 rfl rfl) rfl ?_
 refine AA _ (B0 rfl rfl) rfl ?_
 refine AA _ (AH rfl) rfl ?_
 refine AA _ (AH rfl) rfl ?_
 refine AN (AF (AK (AK (DH 63 6 [(0, .agg ([U64 rq, I64 (rk), I64 (er), SL aj nj cj, .bool th, U64 pv, U64 ep, I64 (kd), SL ai ni ci, SL sa ns sc, U64 bl] ++ cu8 tg ++ [SL aha nha cha, SL ahb nhb chb]).toArray), (2, .bool (repR (rk) (er) th lj (blankB pv ep (kd) l ls bl tg) (decide (mayN pv ep (kd) l ls bl = 0)) nha nhb))] B8 rfl (by decide +kernel) ?_))))
 refine CZ ⟨[], [0, 2], [], [0, 2], [1]⟩ 1 _ rfl rfl (by decide +kernel) rfl ⟨⟨_, rfl, AJ rfl (AI rfl (BV CV CH (by simp [htg]) (AS 0 rfl (AV _))))⟩, CD rfl rfl rfl, trivial⟩ rfl (BI rfl (BG 35 [.agg ([U64 rq, I64 (rk), I64 (er), SL aj nj cj, .bool th, U64 pv, U64 ep, I64 (kd), SL ai ni ci, SL sa ns sc, U64 bl] ++ cu8 tg ++ [SL aha nha cha, SL ahb nhb chb]).toArray] (.bool (repR (rk) (er) th lj (blankB pv ep (kd) l ls bl tg) (decide (mayN pv ep (kd) l ls bl = 0)) nha nhb)) (A6 _ Tryd.call35 rfl) (fun w1 hw1 => FX rq (rk) (er) aj nj cj lj th pv ep (kd) ai ni ci l sa ns sc ls bl tg aha nha cha xha ahb nhb chb xhb w1 hlj (by omega) (by omega) (by omega) (CA hw1 rfl hj) hl (by omega) (by omega) (by omega) (CA hw1 rfl hv) hls (by omega) (by omega) (by omega) (CA hw1 rfl hs) htg hlha (by omega) (by omega) (by omega) (hrha.at (M' := []) hw1 (by simp)) hlhb (by omega) (by omega) (by omega) (hrhb.at (M' := []) hw1 (by simp)) (by omega) (by omega)))) ?_
 rintro v1 L1 ⟨rfl, rfl⟩
 refine ⟨[(3, .bool (!((repR (rk) (er) th lj (blankB pv ep (kd) l ls bl tg) (decide (mayN pv ep (kd) l ls bl = 0)) nha nhb) == (repR (rk) (er) th lj (blankB pv ep (kd) l ls bl tg) (decide (mayN pv ep (kd) l ls bl = 0)) nha nhb)))), (4, .bool (!((repR (rk) (er) th lj (blankB pv ep (kd) l ls bl tg) (decide (mayN pv ep (kd) l ls bl = 0)) nha nhb) == (repR (rk) (er) th lj (blankB pv ep (kd) l ls bl tg) (decide (mayN pv ep (kd) l ls bl = 0)) nha nhb)))), (5, .agg ([U64 rq, I64 (rk), I64 (er), SL aj nj cj, .bool th, U64 pv, U64 ep, I64 (kd), SL ai ni ci, SL sa ns sc, U64 bl] ++ cu8 tg ++ [SL aha nha cha, SL ahb nhb chb]).toArray), (6, .agg ([U64 rq2, I64 (rk2), I64 (er2), SL aj2 nj2 cj2, .bool th2, U64 pv2, U64 ep2, I64 (kd2), SL ai2 ni2 ci2, SL sa2 ns2 sc2, U64 bl2] ++ cu8 tg2 ++ [SL aha2 nha2 cha2, SL ahb2 nhb2 chb2]).toArray), (8, .agg ([U64 rq, I64 (rk), I64 (er), SL na1 nj nc1, .bool th, U64 pv, U64 ep, I64 (kd), SL ai ni ci, SL na2 ns nc2, U64 bl] ++ cu8 tg ++ [SL aha nha cha, SL ahb nhb chb]).toArray), (9, .agg ([U64 rq2, I64 (rk2), I64 (er2), SL aj2 nj2 cj2, .bool th2, U64 pv2, U64 ep2, I64 (kd2), SL ai2 ni2 ci2, SL sa2 ns2 sc2, U64 bl2] ++ cu8 tg2 ++ [SL aha2 nha2 cha2, SL ahb2 nhb2 chb2]).toArray)], ?_⟩
 show DP _ _ _ _ _ _ _ _ [_, _, _, _, _]
 refine FH ⟨[1], [0, 2, 3, 4, 5, 6, 8, 9], [0], [2, 3, 4, 5, 6, 8, 9], [7]⟩ 7 rfl rfl (by decide +kernel) rfl ⟨CD rfl rfl rfl, ⟨_, rfl, AJ rfl (E3 _ _ _ rfl rfl (fun _ => F1 ..) fun _ => neq_bool D4)⟩, CD rfl rfl rfl, ⟨_, rfl, BT 4 30 false _ rfl rfl rfl (bnotT (beq_self_eq_true _)) (AI rfl (BV CV CH (by simp [htg]) (AS 0 rfl (AV _))))⟩, ⟨_, rfl, BT 4 30 false _ rfl rfl rfl (bnotT (beq_self_eq_true _)) (AI rfl (BV CV CH (by simp [htg2]) (AS 1 rfl (AV _))))⟩, ⟨_, rfl, BT 4 30 false _ rfl rfl rfl (bnotT (beq_self_eq_true _)) (AI rfl (BV DR C2 (by simp [htg]) (AS 4 rfl (AV _))))⟩, ⟨_, rfl, BT 4 30 false _ rfl rfl rfl (bnotT (beq_self_eq_true _)) (AI rfl (BV CV CH (by simp [htg2]) (AS 1 rfl (AV _))))⟩, trivial⟩ rfl (Cok_gstep 4 30 false _ rfl rfl rfl (bnotT (beq_self_eq_true _)) (BG 36 [.agg ([U64 rq, I64 (rk), I64 (er), SL aj nj cj, .bool th, U64 pv, U64 ep, I64 (kd), SL ai ni ci, SL sa ns sc, U64 bl] ++ cu8 tg ++ [SL aha nha cha, SL ahb nhb chb]).toArray, .agg ([U64 rq2, I64 (rk2), I64 (er2), SL aj2 nj2 cj2, .bool th2, U64 pv2, U64 ep2, I64 (kd2), SL ai2 ni2 ci2, SL sa2 ns2 sc2, U64 bl2] ++ cu8 tg2 ++ [SL aha2 nha2 cha2, SL ahb2 nhb2 chb2]).toArray] (.bool (decide (rq = rq2 ∧ (rk) = (rk2) ∧ (er) = (er2) ∧ th = th2 ∧ (pv = pv2 ∧ ep = ep2 ∧ tg = tg2 ∧ (kd) = (kd2) ∧ bl = bl2 ∧ l = l2 ∧ ls = ls2) ∧ lj = lj2 ∧ xha = xha2 ∧ xhb = xhb2))) (A6 _ Tryd.call36 rfl) (fun w1 hw1 => sameRep_c rq (rk) (er) aj nj cj lj th pv ep (kd) ai ni ci l sa ns sc ls bl tg aha nha cha xha ahb nhb chb xhb rq2 (rk2) (er2) aj2 nj2 cj2 lj2 th2 pv2 ep2 (kd2) ai2 ni2 ci2 l2 sa2 ns2 sc2 ls2 bl2 tg2 aha2 nha2 cha2 xha2 ahb2 nhb2 chb2 xhb2 w1 hlj (by omega) (by omega) (by omega) (CA hw1 rfl hj) hl (by omega) (by omega) (by omega) (CA hw1 rfl hv) hls (by omega) (by omega) (by omega) (CA hw1 rfl hs) htg hlha (by omega) (by omega) (by omega) (hrha.at (M' := []) hw1 (by simp)) hlhb (by omega) (by omega) (by omega) (hrhb.at (M' := []) hw1 (by simp)) hlj2 (by omega) (by omega) (by omega) (CA hw1 rfl hj2) hl2 (by omega) (by omega) (by omega) (CA hw1 rfl hv2) hls2 (by omega) (by omega) (by omega) (CA hw1 rfl hs2) htg2 hlha2 (by omega) (by omega) (by omega) (hrha2.at (M' := []) hw1 (by simp)) hlhb2 (by omega) (by omega) (by omega) (hrhb2.at (M' := []) hw1 (by simp))))) ?_
 show DP _ _ _ _ _ _ _ _ [_, _, _, _, _]
 refine CZ ⟨[1, 7], [0, 2, 3, 4, 5, 6, 8, 9], [0, 2, 3, 4, 5, 6], [8, 9], [10]⟩ 10 _ rfl rfl (by decide +kernel) rfl ⟨⟨_, rfl, BT 4 30 false _ rfl rfl rfl (bnotT (beq_self_eq_true _)) (AI rfl (BV DR C2 (by simp [htg]) (AS 4 rfl (AV _))))⟩, ⟨_, rfl, BT 4 30 false _ rfl rfl rfl (bnotT (beq_self_eq_true _)) (AI rfl (BV CV CH (by simp [htg2]) (AS 1 rfl (AV _))))⟩, trivial⟩ rfl (Cok_gstep 4 30 false _ rfl rfl rfl (bnotT (beq_self_eq_true _)) (CG 32 [.agg ([U64 rq2, I64 (rk2), I64 (er2), SL aj2 nj2 cj2, .bool th2, U64 pv2, U64 ep2, I64 (kd2), SL ai2 ni2 ci2, SL sa2 ns2 sc2, U64 bl2] ++ cu8 tg2 ++ [SL aha2 nha2 cha2, SL ahb2 nhb2 chb2]).toArray] _ (A6 _ Tryd.call32 rfl) (fun w1 hw1 => rep_w rq2 (rk2) (er2) aj2 nj2 cj2 lj2 th2 pv2 ep2 (kd2) ai2 ni2 ci2 l2 sa2 ns2 sc2 ls2 bl2 tg2 aha2 nha2 cha2 xha2 ahb2 nhb2 chb2 xhb2 w1 hlj2 (by omega) (by omega) (by omega) (CA hw1 rfl hj2) hl2 (by omega) (by omega) (by omega) (CA hw1 rfl hv2) hls2 (by omega) (by omega) (by omega) (CA hw1 rfl hs2) htg2 hlha2 (by omega) (by omega) (by omega) (hrha2.at (M' := []) hw1 (by simp)) hlhb2 (by omega) (by omega) (by omega) (hrhb2.at (M' := []) hw1 (by simp)) hnS2))) ?_
 rintro v1 L1 ⟨_, ⟨ng3, cs3, nT3, na3, nc3, ng4, cs4, nT4, na4, nc4, rfl, rfl, hc7, hc8, hc9, hc10, hc11, hc12⟩, rfl⟩
 refine ⟨[], ?_⟩
 show DP _ _ _ _ _ _ _ _ [_, _, _, _, _, ⟨ng3, cs3, nT3, (0, 0)⟩, ⟨ng4, cs4, nT4, (0, 0)⟩]
 refine CZ ⟨[1, 7, 10], [0, 2, 3, 4, 5, 6, 8, 9], [0, 2, 3, 4, 5, 6, 9], [8], [11]⟩ 11 _ rfl rfl (by decide +kernel) rfl ⟨⟨_, rfl, BT 4 30 false _ rfl rfl rfl (bnotT (beq_self_eq_true _)) (AI rfl (BV DR C2 (by simp [htg]) (AS 4 rfl (AV _))))⟩, trivial⟩ rfl (Cok_gstep 4 30 false _ rfl rfl rfl (bnotT (beq_self_eq_true _)) (BG 37 [.agg ([U64 rq, I64 (rk), I64 (er), SL na1 nj nc1, .bool th, U64 pv, U64 ep, I64 (kd), SL ai ni ci, SL na2 ns nc2, U64 bl] ++ cu8 tg ++ [SL aha nha cha, SL ahb nhb chb]).toArray, .agg ([U64 rq2, I64 (rk2), I64 (er2), SL na3 nj2 nc3, .bool th2, U64 pv2, U64 ep2, I64 (kd2), SL ai2 ni2 ci2, SL na4 ns2 nc4, U64 bl2] ++ cu8 tg2 ++ [SL aha2 nha2 cha2, SL ahb2 nhb2 chb2]).toArray] (.bool (decide (rq = rq2 ∧ (rk) = (rk2) ∧ (er) = (er2) ∧ th = th2 ∧ (pv = pv2 ∧ ep = ep2 ∧ tg = tg2 ∧ (kd) = (kd2) ∧ bl = bl2 ∧ l = l2 ∧ ls = ls2) ∧ lj = lj2 ∧ xha = xha2 ∧ xhb = xhb2))) (A6 _ Tryd.call37 rfl) (fun w1 hw1 => rsameRep_c rq (rk) (er) na1 nj nc1 lj th pv ep (kd) ai ni ci l na2 ns nc2 ls bl tg aha nha cha xha ahb nhb chb xhb rq2 (rk2) (er2) na3 nj2 nc3 lj2 th2 pv2 ep2 (kd2) ai2 ni2 ci2 l2 na4 ns2 nc4 ls2 bl2 tg2 aha2 nha2 cha2 xha2 ahb2 nhb2 chb2 xhb2 w1 hlj (by omega) (by omega) (by omega) (Gh.at hw1 2 rfl hc1) hl (by omega) (by omega) (by omega) (CA hw1 rfl hv) hls (by omega) (by omega) (by omega) (Gh.at hw1 3 rfl hc4) htg hlha (by omega) (by omega) (by omega) (hrha.at (M' := []) hw1 (by simp)) hlhb (by omega) (by omega) (by omega) (hrhb.at (M' := []) hw1 (by simp)) hlj2 (by omega) (by omega) (by omega) (Gh.at hw1 5 rfl hc7) hl2 (by omega) (by omega) (by omega) (CA hw1 rfl hv2) hls2 (by omega) (by omega) (by omega) (Gh.at hw1 6 rfl hc10) htg2 hlha2 (by omega) (by omega) (by omega) (hrha2.at (M' := []) hw1 (by simp)) hlhb2 (by omega) (by omega) (by omega) (hrhb2.at (M' := []) hw1 (by simp))))) ?_
 rintro v1 L1 ⟨rfl, rfl⟩
 refine ⟨[(12, .bool (!((decide (rq = rq2 ∧ (rk) = (rk2) ∧ (er) = (er2) ∧ th = th2 ∧ (pv = pv2 ∧ ep = ep2 ∧ tg = tg2 ∧ (kd) = (kd2) ∧ bl = bl2 ∧ l = l2 ∧ ls = ls2) ∧ lj = lj2 ∧ xha = xha2 ∧ xhb = xhb2)) == (decide (rq = rq2 ∧ (rk) = (rk2) ∧ (er) = (er2) ∧ th = th2 ∧ (pv = pv2 ∧ ep = ep2 ∧ tg = tg2 ∧ (kd) = (kd2) ∧ bl = bl2 ∧ l = l2 ∧ ls = ls2) ∧ lj = lj2 ∧ xha = xha2 ∧ xhb = xhb2))))), (13, .bool (!((decide (rq = rq2 ∧ (rk) = (rk2) ∧ (er) = (er2) ∧ th = th2 ∧ (pv = pv2 ∧ ep = ep2 ∧ tg = tg2 ∧ (kd) = (kd2) ∧ bl = bl2 ∧ l = l2 ∧ ls = ls2) ∧ lj = lj2 ∧ xha = xha2 ∧ xhb = xhb2)) == (decide (rq = rq2 ∧ (rk) = (rk2) ∧ (er) = (er2) ∧ th = th2 ∧ (pv = pv2 ∧ ep = ep2 ∧ tg = tg2 ∧ (kd) = (kd2) ∧ bl = bl2 ∧ l = l2 ∧ ls = ls2) ∧ lj = lj2 ∧ xha = xha2 ∧ xhb = xhb2))))), (14, .bool (!((decide (rq = rq2 ∧ (rk) = (rk2) ∧ (er) = (er2) ∧ th = th2 ∧ (pv = pv2 ∧ ep = ep2 ∧ tg = tg2 ∧ (kd) = (kd2) ∧ bl = bl2 ∧ l = l2 ∧ ls = ls2) ∧ lj = lj2 ∧ xha = xha2 ∧ xhb = xhb2)) == (decide (rq = rq2 ∧ (rk) = (rk2) ∧ (er) = (er2) ∧ th = th2 ∧ (pv = pv2 ∧ ep = ep2 ∧ tg = tg2 ∧ (kd) = (kd2) ∧ bl = bl2 ∧ l = l2 ∧ ls = ls2) ∧ lj = lj2 ∧ xha = xha2 ∧ xhb = xhb2))))), (15, .agg ([U64 rq, I64 (rk), I64 (er), SL aj nj cj, .bool th, U64 pv, U64 ep, I64 (kd), SL ai ni ci, SL sa ns sc, U64 bl] ++ cu8 tg ++ [SL aha nha cha, SL ahb nhb chb]).toArray), (16, .agg ([U64 rq, I64 (rk), I64 (er), SL aj nj cj, .bool th, U64 pv, U64 ep, I64 (kd), SL ai ni ci, SL sa ns sc, U64 bl] ++ cu8 tg ++ [SL aha nha cha, SL ahb nhb chb]).toArray)], ?_⟩
 show DP _ _ _ _ _ _ _ _ [_, _, _, _, _, _, _]
 refine CZ ⟨[1, 7, 10, 11], [0, 2, 3, 4, 5, 6, 8, 9, 12, 13, 14, 15, 16], [0, 2, 3, 4, 5, 6, 8, 9], [12, 13, 14, 15, 16], [17]⟩ 17 _ rfl rfl (by decide +kernel) rfl ⟨⟨_, rfl, BT 4 30 false _ rfl rfl rfl (bnotT (beq_self_eq_true _)) (E3 _ _ _ rfl rfl (fun _ => F1 ..) fun _ => neq_bool D4)⟩, ⟨_, rfl, AJ rfl (A0 _ rfl (bnotT (beq_self_eq_true _)) rfl)⟩, CD rfl rfl rfl, ⟨_, rfl, BT 14 40 false _ rfl rfl rfl (bnotT (beq_self_eq_true _)) (AI rfl (BV CV CH (by simp [htg]) (AS 0 rfl (AV _))))⟩, ⟨_, rfl, BT 14 40 false _ rfl rfl rfl (bnotT (beq_self_eq_true _)) (AI rfl (BV CV CH (by simp [htg]) (AS 0 rfl (AV _))))⟩, trivial⟩ rfl (Cok_gstep 14 40 false _ rfl rfl rfl (bnotT (beq_self_eq_true _)) (BG 36 [.agg ([U64 rq, I64 (rk), I64 (er), SL aj nj cj, .bool th, U64 pv, U64 ep, I64 (kd), SL ai ni ci, SL sa ns sc, U64 bl] ++ cu8 tg ++ [SL aha nha cha, SL ahb nhb chb]).toArray, .agg ([U64 rq, I64 (rk), I64 (er), SL aj nj cj, .bool th, U64 pv, U64 ep, I64 (kd), SL ai ni ci, SL sa ns sc, U64 bl] ++ cu8 tg ++ [SL aha nha cha, SL ahb nhb chb]).toArray] (.bool (decide (rq = rq ∧ (rk) = (rk) ∧ (er) = (er) ∧ th = th ∧ (pv = pv ∧ ep = ep ∧ tg = tg ∧ (kd) = (kd) ∧ bl = bl ∧ l = l ∧ ls = ls) ∧ lj = lj ∧ xha = xha ∧ xhb = xhb))) (A6 _ Tryd.call36 rfl) (fun w1 hw1 => sameRep_c rq (rk) (er) aj nj cj lj th pv ep (kd) ai ni ci l sa ns sc ls bl tg aha nha cha xha ahb nhb chb xhb rq (rk) (er) aj nj cj lj th pv ep (kd) ai ni ci l sa ns sc ls bl tg aha nha cha xha ahb nhb chb xhb w1 hlj (by omega) (by omega) (by omega) (CA hw1 rfl hj) hl (by omega) (by omega) (by omega) (CA hw1 rfl hv) hls (by omega) (by omega) (by omega) (CA hw1 rfl hs) htg hlha (by omega) (by omega) (by omega) (hrha.at (M' := []) hw1 (by simp)) hlhb (by omega) (by omega) (by omega) (hrhb.at (M' := []) hw1 (by simp)) hlj (by omega) (by omega) (by omega) (CA hw1 rfl hj) hl (by omega) (by omega) (by omega) (CA hw1 rfl hv) hls (by omega) (by omega) (by omega) (CA hw1 rfl hs) htg hlha (by omega) (by omega) (by omega) (hrha.at (M' := []) hw1 (by simp)) hlhb (by omega) (by omega) (by omega) (hrhb.at (M' := []) hw1 (by simp))))) ?_
 rintro v1 L1 ⟨rfl, rfl⟩
 refine ⟨[(18, .bool (!(decide (rq = rq ∧ (rk) = (rk) ∧ (er) = (er) ∧ th = th ∧ (pv = pv ∧ ep = ep ∧ tg = tg ∧ (kd) = (kd) ∧ bl = bl ∧ l = l ∧ ls = ls) ∧ lj = lj ∧ xha = xha ∧ xhb = xhb)))), (19, .bool (!(decide (rq = rq ∧ (rk) = (rk) ∧ (er) = (er) ∧ th = th ∧ (pv = pv ∧ ep = ep ∧ tg = tg ∧ (kd) = (kd) ∧ bl = bl ∧ l = l ∧ ls = ls) ∧ lj = lj ∧ xha = xha ∧ xhb = xhb))))], ?_⟩
 show DP _ _ _ _ _ _ _ _ [_, _, _, _, _, _, _]
 refine DN ⟨[1, 7, 10, 11, 17], [0, 2, 3, 4, 5, 6, 8, 9, 12, 13, 14, 15, 16, 18, 19], [0, 2, 3, 4, 5, 6, 8, 9, 12, 13, 14, 15, 16], [18, 19], []⟩ rfl rfl (by decide +kernel) rfl ⟨⟨_, rfl, BT 14 40 false _ rfl rfl rfl (bnotT (beq_self_eq_true _)) (EP rfl)⟩, ⟨_, rfl, AJ rfl (A0 _ rfl (bnotT (beq_self_eq_true _)) rfl)⟩, trivial⟩ ?_
 refine C7 (F' := [(45, .bool (!(decide (rq = rq ∧ (rk) = (rk) ∧ (er) = (er) ∧ th = th ∧ (pv = pv ∧ ep = ep ∧ tg = tg ∧ (kd) = (kd) ∧ bl = bl ∧ l = l ∧ ls = ls) ∧ lj = lj ∧ xha = xha ∧ xhb = xhb)))), (4, .bool false), (5, Ptr nb3 0), (6, .bool (repR (rk) (er) th lj (blankB pv ep (kd) l ls bl tg) (decide (mayN pv ep (kd) l ls bl = 0)) nha nhb)), (7, SL none 0 0), (8, .iface 50 (I64 2))]) (by kernel_rfl) ?_
 refine AF (BN _ rfl (bnotT (decide_eq_true (by simp))) ?_)
 refine BE (AF (AK (AK (AD (AA _ (AL rfl) rfl ?_)))))
 refine AA (.bool (!(repR (rk) (er) th lj (blankB pv ep (kd) l ls bl tg) (decide (mayN pv ep (kd) l ls bl = 0)) nha nhb))) (EP rfl) rfl ?_
 refine AN (AF (CO _ rfl (bnotF hR) ?_))
 refine AK (AD (AA _ (AL rfl) rfl ?_))
 refine B1 (BG 23 [.iface 50 (I64 2), I64 2] (.bool true) (A6 _ Tryd.call23 rfl) (fun w1 hw1 => is_c 2 2 w1)) rfl ?_
 show JL _ _ _ _ ((49, .bool true) :: _) [_, _, _, _, _, _, _]
 refine AA _ (AL rfl) rfl ?_
 refine AP 2 50 true _ _ rfl rfl rfl (AL rfl) rfl ?_
 refine AP 2 50 true _ (I64 0) rfl rfl rfl (CY AW rfl) rfl ?_
 refine AP 2 50 true _ (.bool (decide ((0:Int) = (0:Int)))) rfl rfl rfl (AU rfl rfl fun _ => BO _ _) rfl ?_
 refine AA _ (A2 _ rfl rfl rfl) rfl ?_
 refine AA _ (AH rfl) rfl ?_
 refine AN (AF (BK (A1 (BP [false, false, false, false, false, false, false] ?_))))
 show JQ _ _ _ _ []
 refine BJ (.bool (decide ((0:Int) = (0:Int)))) (res1 Tryd.results6 (BH rfl)) fun w1 hw1 => ?_
 exact ⟨_, [], rfl, ⟨congrArg Value.bool (by decide), rfl⟩, hw1.sub (by simp) (by simp)⟩
theorem repT_le (rq : UInt64) (rk er : Int) (aj : Option Addr) (nj cj : Nat) (lj : List ItemR) (th : Bool) (pv ep : UInt64) (kd : Int) (ai : Option Addr) (ni ci : Nat) (l : List UInt64) (sa : Option Addr) (ns sc : Nat) (ls : List SealR) (bl : UInt64) (tg : List UInt8) (aha : Option Addr) (nha cha : Nat) (xha : List UInt8) (ahb : Option Addr) (nhb chb : Nat) (xhb : List UInt8)  (hlj : lj.length = nj) (hl : l.length = ni) (hls : ls.length = ns) (htg : tg.length = 16) (ha : xha.length = 32*nha) (hb : xhb.length = 32*nhb) (h1 : nj ≤ 300) (h2 : ni ≤ 300) (h3 : ns ≤ 300) (h4 : nha ≤ 300) (h5 : nhb ≤ 300) : (repT rq rk er nj lj th pv ep kd l ls bl tg nha xha nhb xhb).length ≤ 1000000 := by
 have h6 := itms_le lj
 have h7 := FG (pv := pv) (ep := ep) (k := kd.toNat) (bl := bl) hl hls
 have h8 := tktN_le (k := kd.toNat) h2 h3
 unfold repT
 repeat' split
 all_goals (simp only [List.length_append, A4]; omega)
theorem wireReplies_w (rq : UInt64) (rk er : Int) (aj : Option Addr) (nj cj : Nat) (lj : List ItemR) (th : Bool) (pv ep : UInt64) (kd : Int) (ai : Option Addr) (ni ci : Nat) (l : List UInt64) (sa : Option Addr) (ns sc : Nat) (ls : List SealR) (bl : UInt64) (tg : List UInt8) (aha : Option Addr) (nha cha : Nat) (xha : List UInt8) (ahb : Option Addr) (nhb chb : Nat) (xhb : List UInt8) (rq2 : UInt64) (rk2 er2 : Int) (aj2 : Option Addr) (nj2 cj2 : Nat) (lj2 : List ItemR) (th2 : Bool) (pv2 ep2 : UInt64) (kd2 : Int) (ai2 : Option Addr) (ni2 ci2 : Nat) (l2 : List UInt64) (sa2 : Option Addr) (ns2 sc2 : Nat) (ls2 : List SealR) (bl2 : UInt64) (tg2 : List UInt8) (aha2 : Option Addr) (nha2 cha2 : Nat) (xha2 : List UInt8) (ahb2 : Option Addr) (nhb2 chb2 : Nat) (xhb2 : List UInt8) (w : World) (hrk : -9223372036854775808 ≤ rk ∧ rk ≤ 9223372036854775807) (her : -9223372036854775808 ≤ er ∧ er ≤ 9223372036854775807) (hlj : lj.length = nj) (hnJ : aj = none → cj = 0) (hij : nj ≤ cj ∧ cj ≤ maxLen) (hj : RdV w aj (lj.flatMap itemC)) (hkd : -9223372036854775808 ≤ kd ∧ kd ≤ 9223372036854775807) (hl : l.length = ni) (hnI : ai = none → ci = 0) (hic : ni ≤ ci ∧ ci ≤ maxLen) (hv : RdV w ai (cu64 l)) (hls : ls.length = ns) (hnS : sa = none → sc = 0) (hsc : ns ≤ sc ∧ sc ≤ maxLen) (hs : RdV w sa (ls.flatMap sealC)) (htg : tg.length = 16) (hlha : xha.length = 32 * nha) (hnHa : aha = none → cha = 0) (hiha : nha ≤ cha ∧ cha ≤ maxLen) (hrha : RdB w [] aha xha) (hlhb : xhb.length = 32 * nhb) (hnHb : ahb = none → chb = 0) (hihb : nhb ≤ chb ∧ chb ≤ maxLen) (hrhb : RdB w [] ahb xhb) (hrk2 : -9223372036854775808 ≤ rk2 ∧ rk2 ≤ 9223372036854775807) (her2 : -9223372036854775808 ≤ er2 ∧ er2 ≤ 9223372036854775807) (hlj2 : lj2.length = nj2) (hnJ2 : aj2 = none → cj2 = 0) (hij2 : nj2 ≤ cj2 ∧ cj2 ≤ maxLen) (hj2 : RdV w aj2 (lj2.flatMap itemC)) (hkd2 : -9223372036854775808 ≤ kd2 ∧ kd2 ≤ 9223372036854775807) (hl2 : l2.length = ni2) (hnI2 : ai2 = none → ci2 = 0) (hic2 : ni2 ≤ ci2 ∧ ci2 ≤ maxLen) (hv2 : RdV w ai2 (cu64 l2)) (hls2 : ls2.length = ns2) (hnS2 : sa2 = none → sc2 = 0) (hsc2 : ns2 ≤ sc2 ∧ sc2 ≤ maxLen) (hs2 : RdV w sa2 (ls2.flatMap sealC)) (htg2 : tg2.length = 16) (hlha2 : xha2.length = 32 * nha2) (hnHa2 : aha2 = none → cha2 = 0) (hiha2 : nha2 ≤ cha2 ∧ cha2 ≤ maxLen) (hrha2 : RdB w [] aha2 xha2) (hlhb2 : xhb2.length = 32 * nhb2) (hnHb2 : ahb2 = none → chb2 = 0) (hihb2 : nhb2 ≤ chb2 ∧ chb2 ≤ maxLen) (hrhb2 : RdB w [] ahb2 xhb2) (hW : GLw w) : Calls Tryd.prog 6 #[.agg ([U64 rq, I64 (rk), I64 (er), SL aj nj cj, .bool th, U64 pv, U64 ep, I64 (kd), SL ai ni ci, SL sa ns sc, U64 bl] ++ cu8 tg ++ [SL aha nha cha, SL ahb nhb chb]).toArray, .agg ([U64 rq2, I64 (rk2), I64 (er2), SL aj2 nj2 cj2, .bool th2, U64 pv2, U64 ep2, I64 (kd2), SL ai2 ni2 ci2, SL sa2 ns2 sc2, U64 bl2] ++ cu8 tg2 ++ [SL aha2 nha2 cha2, SL ahb2 nhb2 chb2]).toArray] w (Post w [] (fun v L => v = .bool true ∧ L = [])) := by
  by_cases hlp : LargeQ nj nha nhb ni ns
  · exact wrepL_c rq rk er aj nj cj lj th pv ep kd ai ni ci l sa ns sc ls bl tg aha nha cha xha ahb nhb chb xhb rq2 rk2 er2 aj2 nj2 cj2 lj2 th2 pv2 ep2 kd2 ai2 ni2 ci2 l2 sa2 ns2 sc2 ls2 bl2 tg2 aha2 nha2 cha2 xha2 ahb2 nhb2 chb2 xhb2 w htg htg2 hlp hW
  by_cases hlo : LargeQ nj2 nha2 nhb2 ni2 ns2
  · exact wrepO_c rq rk er aj nj cj lj th pv ep kd ai ni ci l sa ns sc ls bl tg aha nha cha xha ahb nhb chb xhb rq2 rk2 er2 aj2 nj2 cj2 lj2 th2 pv2 ep2 kd2 ai2 ni2 ci2 l2 sa2 ns2 sc2 ls2 bl2 tg2 aha2 nha2 cha2 xha2 ahb2 nhb2 chb2 xhb2 w htg htg2 hlp hlo hW
  have z1 := LargeQ.nz hlp
  have z2 := LargeQ.nz hlo
  cases hR : repR rk er th lj (blankB pv ep kd l ls bl tg) (decide (mayN pv ep kd l ls bl = 0)) nha nhb with
  | true =>
    have h4 := repR_4 hR
    exact wrepR_c rq rk er aj nj cj lj th pv ep kd ai ni ci l sa ns sc ls bl tg aha nha cha xha ahb nhb chb xhb rq2 rk2 er2 aj2 nj2 cj2 lj2 th2 pv2 ep2 kd2 ai2 ni2 ci2 l2 sa2 ns2 sc2 ls2 bl2 tg2 aha2 nha2 cha2 xha2 ahb2 nhb2 chb2 xhb2 _ w hlj (by omega) hij.1 hij.2 hj hl (by omega) hic.1 hic.2 hv hls (by omega) hsc.1 hsc.2 hs htg (by omega) (by omega) hiha.1 hiha.2 hrha (by omega) (by omega) hihb.1 hihb.2 hrhb hlj2 (by omega) hij2.1 hij2.2 hj2 hl2 (by omega) hic2.1 hic2.2 hv2 hls2 (by omega) hsc2.1 hsc2.2 hs2 htg2 (by omega) (by omega) hiha2.1 hiha2.2 hrha2 (by omega) (by omega) hihb2.1 hihb2.2 hrhb2 hnS hnS2 hlp hlo (by omega) (by omega) (by omega) (by omega) rfl (repT_le rq rk er aj nj cj lj th pv ep kd ai ni ci l sa ns sc ls bl tg aha nha cha xha ahb nhb chb xhb hlj hl hls htg hlha hlhb (by omega) (by omega) (by omega) (by omega) (by omega)) hR hW
  | false => exact wrepB_c rq rk er aj nj cj lj th pv ep kd ai ni ci l sa ns sc ls bl tg aha nha cha xha ahb nhb chb xhb rq2 rk2 er2 aj2 nj2 cj2 lj2 th2 pv2 ep2 kd2 ai2 ni2 ci2 l2 sa2 ns2 sc2 ls2 bl2 tg2 aha2 nha2 cha2 xha2 ahb2 nhb2 chb2 xhb2 w hlj (by omega) hij.1 hij.2 hj hl (by omega) hic.1 hic.2 hv hls (by omega) hsc.1 hsc.2 hs htg (by omega) (by omega) hiha.1 hiha.2 hrha (by omega) (by omega) hihb.1 hihb.2 hrhb hlj2 (by omega) hij2.1 hij2.2 hj2 hl2 (by omega) hic2.1 hic2.2 hv2 hls2 (by omega) hsc2.1 hsc2.2 hs2 htg2 (by omega) (by omega) hiha2.1 hiha2.2 hrha2 (by omega) (by omega) hihb2.1 hihb2.2 hrhb2 hnS hnS2 hlp hlo (by omega) (by omega) hR hW
end Go.Proofs.YtkdpdgpphpngeaaDoor
namespace Go.Proofs.YtkdpdgpphpngeaaDoor
open Go Go.Sx Go.RowKit
open Go.Value renaming slice → SL
open Go.ChangeShapes Go.WideShapes
section
variable {H : Type} {enc : TypeId × Value → H} {P : Program} {w : World} {base : Nat} {spare : Nat → Bool} {held : Bool} {sz : Bool} {t : TypeId} {cs : List Value}
theorem flat32 (al2 : List {l : List UInt8 // l.length = 32}) : al2.flatMap (fun a => cu8 a.1) = cu8 (al2.flatMap (fun a => a.1)) := by
 induction al2 with
 | nil => rfl
 | cons a al2 ih => rw [List.flatMap_cons, List.flatMap_cons, cu8_app, ih]
theorem flat32_len (al2 : List {l : List UInt8 // l.length = 32}) : (al2.flatMap (fun a => a.1)).length = 32 * al2.length := by
 induction al2 with
 | nil => rfl
 | cons a al2 ih => rw [List.flatMap_cons, List.length_append, ih, a.2, List.length_cons]; omega
theorem TD.sl32 {e u8 : TypeId} (ht : P.underlying t = some (.slice e)) (he : P.underlying e = some (.array 32 u8)) (uu : P.underlying u8 = some (.int .u8)) (hs : P.cellsOf e = 32) (hb : P.bytesOf e ≠ 0) (cu : P.cellsOf u8 = 1)
    (h : TD enc P w base spare held sz t cs) :
    ∃ (ao : Option Addr) (n c : Nat) (x : List UInt8), cs = [.slice ao n c] ∧ x.length = 32 * n ∧ (ao = none → c = 0) ∧ (n ≤ c ∧ c ≤ maxLen) ∧ RdB w [] ao x := by
  obtain ⟨ao, n, c, al, h1, h2, h3, h4, h5, h6, h7⟩ := TD.rows (f := fun a : {l : List UInt8 // l.length = 32} => cu8 a.1) (G := fun _ => True) (b := P.bytesOf e) ht hs (by decide) rfl (Nat.pos_of_ne_zero hb) (fun a => by rw [cu8_length]; exact a.2) (fun cs' hcs => by
    obtain ⟨l, e1, k1⟩ := TD.arr8 he uu cu hs hcs
    exact ⟨⟨l, k1⟩, e1, trivial⟩) h
  rw [flat32] at h6
  refine ⟨ao, n, c, al.flatMap (fun a => a.1), h1, by rw [flat32_len, h2], h4, h5, ?_⟩
  rcases h6 with h | ⟨b, off, h8, h9, h10⟩
  · left
    have := congrArg List.length h
    rw [cu8_length] at this
    exact List.eq_nil_of_length_eq_zero this
  · exact .inr ⟨b, off, h8, h9, by simp, h10⟩
end
end Go.Proofs.YtkdpdgpphpngeaaDoor
namespace Go.Sx
open Go Go.RowKit
open Go.ChangeShapes Go.WideShapes
theorem strs_cells {H : Type} {enc : TypeId × Value → H} {P : Program} {w : World} {base : Nat} {sp : Nat → Bool} {held : Bool} {t e : TypeId} {n : Nat} {l : List (List UInt8)} {p : List MemPlace}
    (ht : P.underlying t = some (.array n e)) (he : P.underlying e = some .string) (hce : P.cellsOf e = 1) (hct : P.cellsOf t = n) :
    ∀ {fuel : Nat} {cs : List Value}, DataW.trod enc P w base sp held fuel t cs = some (.agg (l.map fun s => .lit (.string s)), p) → cs = l.map fun s => Value.string ⟨s.toArray⟩
  | 0, cs, h => by simp [DataW.trod] at h
  | fuel + 1, cs, h => by
    simp only [DataW.trod, ht, hce, hct, Nat.mul_one] at h
    split at h
    case isFalse => cases h
    case isTrue hl =>
      obtain ⟨xs, hm, hx⟩ := Option.map_eq_some_iff.1 h
      have e1 : xs.map Prod.fst = l.map fun s => (DataW.lit (.string s) : DataW H) := by simpa using congrArg Prod.fst hx
      have e2 : xs.length = n := by simpa using Lib.mapM_length hm
      have e3 : l.length = n := by rw [← e2]; simpa using (congrArg List.length e1).symm
      refine List.ext_getElem? fun i => ?_
      by_cases hi : i < n
      · obtain ⟨b, hb, hf⟩ := Lib.mapM_at hm i i (by simp [hi])
        obtain ⟨s, hc, rfl, _⟩ := DataW.trod_string he hf
        have c0 : (List.take 1 (List.drop i cs))[0]? = some (Value.string s) := by rw [hc]; rfl
        have c1 : cs[i]? = some (.string s) := by simpa [List.getElem?_take, List.getElem?_drop] using c0
        have c2 := congrArg (·[i]?) e1
        simp only [List.getElem?_map, hb, Option.map_some] at c2
        obtain ⟨s', hs', he'⟩ := Option.map_eq_some_iff.1 c2.symm
        have he2 : s' = s.data.toList := by simpa using he'
        subst he2
        rw [c1, List.getElem?_map, hs']
        simp
      · rw [List.getElem?_eq_none (by omega), List.getElem?_eq_none (by simp; omega)]
theorem laid_rdS {P : Program} {W : World} {laid : List (String × DataW Unit)} (h : laidMetH P laid W) (hp : (laid.all fun x => x.2.handleName?.isNone) = true) {name : String} {d : DataW Unit} (hm : (name, d) ∈ laid) (l : List (List UInt8))
  (hd : d = .agg (l.map fun s => .lit (.string s))) {g t e n : Nat}
  (hg : P.globalNamed name = some g) (hty : (P.globals[g]?).map (·.type) = some t) (ht : P.underlying t = some (.array n e)) (he : P.underlying e = some .string) (hce : P.cellsOf e = 1) (hct : P.cellsOf t = n) (hl : 0 < l.length) : RdA W g 0 (l.map fun s => Value.string ⟨s.toArray⟩) := by
 rw [MakeChecks.laidMetH_plain _ _ _ hp] at h
 obtain ⟨ps, hv, _, _⟩ := h
 obtain ⟨g', t', cs, fuel, p, hg', ht', hvar, htr⟩ := laidVars_mem hv hm
 obtain rfl := Option.some.inj (hg.symm.trans hg')
 obtain rfl := Option.some.inj (hty.symm.trans ht')
 subst hd
 have hcs := strs_cells ht he hce hct htr
 have key : ∀ j v, (l.map fun s => Value.string ⟨s.toArray⟩)[j]? = some v → W.cell? ⟨g, 0 + j, none⟩ = some v := fun j v hj => by
  have := World.var?_cell hg hvar j
  rw [Nat.zero_add, this, ← Array.getElem?_toList, hcs]
  exact hj
 have h0 : (l.map fun s => Value.string ⟨s.toArray⟩)[0]? = some (Value.string ⟨(l[0]'hl).toArray⟩) := by simp [hl]
 exact ⟨lt_of_cell (key 0 _ h0), key⟩
end Go.Sx
namespace Go.Proofs.YtkdpdgpphpngeaaDoor
open Go
open Go.Value renaming slice → SL
def headSigns : List Char := [Char.ofNat 104, Char.ofNat 97, Char.ofNat 114, Char.ofNat 110, Char.ofNat 101, Char.ofNat 115, Char.ofNat 115, Char.ofNat 32, Char.ofNat 50, Char.ofNat 100, Char.ofNat 55, Char.ofNat 48, Char.ofNat 102, Char.ofNat 53, Char.ofNat 99, Char.ofNat 56, Char.ofNat 51, Char.ofNat 51, Char.ofNat 98, Char.ofNat 102, Char.ofNat 98, Char.ofNat 55, Char.ofNat 98, Char.ofNat 99, Char.ofNat 56, Char.ofNat 100, Char.ofNat 101, Char.ofNat 50, Char.ofNat 52, Char.ofNat 51, Char.ofNat 50, Char.ofNat 51, Char.ofNat 48, Char.ofNat 101, Char.ofNat 101, Char.ofNat 48, Char.ofNat 52, Char.ofNat 55, Char.ofNat 57, Char.ofNat 55, Char.ofNat 51, Char.ofNat 101, Char.ofNat 57, Char.ofNat 54, Char.ofNat 57, Char.ofNat 51, Char.ofNat 101, Char.ofNat 100, Char.ofNat 101, Char.ofNat 55, Char.ofNat 53, Char.ofNat 51, Char.ofNat 52, Char.ofNat 48, Char.ofNat 54, Char.ofNat 50, Char.ofNat 55, Char.ofNat 99, Char.ofNat 57, Char.ofNat 57, Char.ofNat 52, Char.ofNat 50, Char.ofNat 54, Char.ofNat 50, Char.ofNat 100, Char.ofNat 102, Char.ofNat 102, Char.ofNat 56, Char.ofNat 48, Char.ofNat 54, Char.ofNat 100, Char.ofNat 50, Char.ofNat 32, Char.ofNat 99, Char.ofNat 117, Char.ofNat 116, Char.ofNat 32, Char.ofNat 97, Char.ofNat 116, Char.ofNat 32, Char.ofNat 101, Char.ofNat 110, Char.ofNat 116, Char.ofNat 114, Char.ofNat 117, Char.ofNat 115, Char.ofNat 116, Char.ofNat 47, Char.ofNat 101, Char.ofNat 110, Char.ofNat 116, Char.ofNat 114, Char.ofNat 117, Char.ofNat 115, Char.ofNat 116, Char.ofNat 108, Char.ofNat 97, Char.ofNat 119, Char.ofNat 49, Char.ofNat 52, Char.ofNat 46, Char.ofNat 87, Char.ofNat 105, Char.ofNat 114, Char.ofNat 101, Char.ofNat 82, Char.ofNat 101, Char.ofNat 113, Char.ofNat 117, Char.ofNat 101, Char.ofNat 115, Char.ofNat 116, Char.ofNat 115, Char.ofNat 32, Char.ofNat 101, Char.ofNat 110, Char.ofNat 116, Char.ofNat 114, Char.ofNat 117, Char.ofNat 115, Char.ofNat 116, Char.ofNat 47, Char.ofNat 101, Char.ofNat 110, Char.ofNat 116, Char.ofNat 114, Char.ofNat 117, Char.ofNat 115, Char.ofNat 116, Char.ofNat 108, Char.ofNat 97, Char.ofNat 119, Char.ofNat 49, Char.ofNat 53, Char.ofNat 46, Char.ofNat 76, Char.ofNat 105, Char.ofNat 110, Char.ofNat 107, Char.ofNat 83, Char.ofNat 101, Char.ofNat 97, Char.ofNat 108, Char.ofNat 115, Char.ofNat 32, Char.ofNat 101, Char.ofNat 110, Char.ofNat 116, Char.ofNat 114, Char.ofNat 117, Char.ofNat 115, Char.ofNat 116, Char.ofNat 47, Char.ofNat 101, Char.ofNat 110, Char.ofNat 116, Char.ofNat 114, Char.ofNat 117, Char.ofNat 115, Char.ofNat 116, Char.ofNat 108, Char.ofNat 97, Char.ofNat 119, Char.ofNat 49, Char.ofNat 53, Char.ofNat 46, Char.ofNat 76, Char.ofNat 105, Char.ofNat 110, Char.ofNat 107, Char.ofNat 83, Char.ofNat 105, Char.ofNat 122, Char.ofNat 101, Char.ofNat 115, Char.ofNat 32, Char.ofNat 101, Char.ofNat 110, Char.ofNat 116, Char.ofNat 114, Char.ofNat 117, Char.ofNat 115, Char.ofNat 116, Char.ofNat 47, Char.ofNat 101, Char.ofNat 110, Char.ofNat 116, Char.ofNat 114, Char.ofNat 117, Char.ofNat 115, Char.ofNat 116, Char.ofNat 108, Char.ofNat 97, Char.ofNat 119, Char.ofNat 49, Char.ofNat 52, Char.ofNat 46, Char.ofNat 87, Char.ofNat 105, Char.ofNat 114, Char.ofNat 101, Char.ofNat 82, Char.ofNat 101, Char.ofNat 112, Char.ofNat 108, Char.ofNat 105, Char.ofNat 101, Char.ofNat 115, Char.ofNat 32, Char.ofNat 101, Char.ofNat 110, Char.ofNat 116, Char.ofNat 114, Char.ofNat 117, Char.ofNat 115, Char.ofNat 116, Char.ofNat 47, Char.ofNat 101, Char.ofNat 110, Char.ofNat 116, Char.ofNat 114, Char.ofNat 117, Char.ofNat 115, Char.ofNat 116, Char.ofNat 108, Char.ofNat 97, Char.ofNat 119, Char.ofNat 49, Char.ofNat 53, Char.ofNat 46, Char.ofNat 76, Char.ofNat 105, Char.ofNat 110, Char.ofNat 107, Char.ofNat 79, Char.ofNat 112, Char.ofNat 101, Char.ofNat 110, Char.ofNat 115, Char.ofNat 32, Char.ofNat 101, Char.ofNat 110, Char.ofNat 116, Char.ofNat 114, Char.ofNat 117, Char.ofNat 115, Char.ofNat 116, Char.ofNat 47, Char.ofNat 101, Char.ofNat 110, Char.ofNat 116, Char.ofNat 114, Char.ofNat 117, Char.ofNat 115, Char.ofNat 116, Char.ofNat 108, Char.ofNat 97, Char.ofNat 119, Char.ofNat 49, Char.ofNat 53, Char.ofNat 46, Char.ofNat 76, Char.ofNat 105, Char.ofNat 110, Char.ofNat 107, Char.ofNat 66, Char.ofNat 97, Char.ofNat 99, Char.ofNat 107, Char.ofNat 32, Char.ofNat 101, Char.ofNat 110, Char.ofNat 116, Char.ofNat 114, Char.ofNat 117, Char.ofNat 115, Char.ofNat 116, Char.ofNat 47, Char.ofNat 101, Char.ofNat 110, Char.ofNat 116, Char.ofNat 114, Char.ofNat 117, Char.ofNat 115, Char.ofNat 116, Char.ofNat 108, Char.ofNat 97, Char.ofNat 119, Char.ofNat 49, Char.ofNat 51, Char.ofNat 46, Char.ofNat 84, Char.ofNat 105, Char.ofNat 99, Char.ofNat 107, Char.ofNat 101, Char.ofNat 116, Char.ofNat 83, Char.ofNat 105, Char.ofNat 103, Char.ofNat 110, Char.ofNat 115, Char.ofNat 32, Char.ofNat 101, Char.ofNat 110, Char.ofNat 116, Char.ofNat 114, Char.ofNat 117, Char.ofNat 115, Char.ofNat 116, Char.ofNat 47, Char.ofNat 101, Char.ofNat 110, Char.ofNat 116, Char.ofNat 114, Char.ofNat 117, Char.ofNat 115, Char.ofNat 116, Char.ofNat 108, Char.ofNat 97, Char.ofNat 119, Char.ofNat 49, Char.ofNat 52, Char.ofNat 46, Char.ofNat 87, Char.ofNat 105, Char.ofNat 114, Char.ofNat 101, Char.ofNat 80, Char.ofNat 97, Char.ofNat 114, Char.ofNat 115, Char.ofNat 101, Char.ofNat 115, Char.ofNat 32, Char.ofNat 101, Char.ofNat 110, Char.ofNat 116, Char.ofNat 114, Char.ofNat 117, Char.ofNat 115, Char.ofNat 116, Char.ofNat 47, Char.ofNat 101, Char.ofNat 110, Char.ofNat 116, Char.ofNat 114, Char.ofNat 117, Char.ofNat 115, Char.ofNat 116, Char.ofNat 108, Char.ofNat 97, Char.ofNat 119, Char.ofNat 49, Char.ofNat 51, Char.ofNat 46, Char.ofNat 84, Char.ofNat 105, Char.ofNat 99, Char.ofNat 107, Char.ofNat 101, Char.ofNat 116, Char.ofNat 80, Char.ofNat 97, Char.ofNat 114, Char.ofNat 115, Char.ofNat 101, Char.ofNat 115, Char.ofNat 32, Char.ofNat 101, Char.ofNat 110, Char.ofNat 116, Char.ofNat 114, Char.ofNat 117, Char.ofNat 115, Char.ofNat 116, Char.ofNat 47, Char.ofNat 101, Char.ofNat 110, Char.ofNat 116, Char.ofNat 114, Char.ofNat 117, Char.ofNat 115, Char.ofNat 116, Char.ofNat 108, Char.ofNat 97, Char.ofNat 119, Char.ofNat 49, Char.ofNat 51, Char.ofNat 46, Char.ofNat 84, Char.ofNat 105, Char.ofNat 99, Char.ofNat 107, Char.ofNat 101, Char.ofNat 116, Char.ofNat 66, Char.ofNat 97, Char.ofNat 99, Char.ofNat 107, Char.ofNat 32, Char.ofNat 101, Char.ofNat 110, Char.ofNat 116, Char.ofNat 114, Char.ofNat 117, Char.ofNat 115, Char.ofNat 116, Char.ofNat 47, Char.ofNat 101, Char.ofNat 110, Char.ofNat 116, Char.ofNat 114, Char.ofNat 117, Char.ofNat 115, Char.ofNat 116, Char.ofNat 108, Char.ofNat 97, Char.ofNat 119, Char.ofNat 49, Char.ofNat 51, Char.ofNat 46, Char.ofNat 84, Char.ofNat 105, Char.ofNat 99, Char.ofNat 107, Char.ofNat 101, Char.ofNat 116, Char.ofNat 79, Char.ofNat 114, Char.ofNat 100, Char.ofNat 101, Char.ofNat 114, Char.ofNat 115, Char.ofNat 32, Char.ofNat 101, Char.ofNat 110, Char.ofNat 116, Char.ofNat 114, Char.ofNat 117, Char.ofNat 115, Char.ofNat 116, Char.ofNat 47, Char.ofNat 101, Char.ofNat 110, Char.ofNat 116, Char.ofNat 114, Char.ofNat 117, Char.ofNat 115, Char.ofNat 116, Char.ofNat 108, Char.ofNat 97, Char.ofNat 119, Char.ofNat 49, Char.ofNat 52, Char.ofNat 46, Char.ofNat 87, Char.ofNat 105, Char.ofNat 114, Char.ofNat 101, Char.ofNat 87, Char.ofNat 111, Char.ofNat 114, Char.ofNat 100, Char.ofNat 115, Char.ofNat 32, Char.ofNat 101, Char.ofNat 110, Char.ofNat 116, Char.ofNat 114, Char.ofNat 117, Char.ofNat 115, Char.ofNat 116, Char.ofNat 47, Char.ofNat 101, Char.ofNat 110, Char.ofNat 116, Char.ofNat 114, Char.ofNat 117, Char.ofNat 115, Char.ofNat 116, Char.ofNat 108, Char.ofNat 97, Char.ofNat 119, Char.ofNat 49, Char.ofNat 52, Char.ofNat 46, Char.ofNat 87, Char.ofNat 105, Char.ofNat 114, Char.ofNat 101, Char.ofNat 66, Char.ofNat 97, Char.ofNat 99, Char.ofNat 107, Char.ofNat 32, Char.ofNat 101, Char.ofNat 110, Char.ofNat 116, Char.ofNat 114, Char.ofNat 117, Char.ofNat 115, Char.ofNat 116, Char.ofNat 47, Char.ofNat 101, Char.ofNat 110, Char.ofNat 116, Char.ofNat 114, Char.ofNat 117, Char.ofNat 115, Char.ofNat 116, Char.ofNat 108, Char.ofNat 97, Char.ofNat 119, Char.ofNat 49, Char.ofNat 51, Char.ofNat 46, Char.ofNat 84, Char.ofNat 105, Char.ofNat 99, Char.ofNat 107, Char.ofNat 101, Char.ofNat 116, Char.ofNat 83, Char.ofNat 101, Char.ofNat 97, Char.ofNat 108, Char.ofNat 115]
theorem headStr : Tryd.prog.initOrder = String.ofList headSigns := by kernel_rfl
theorem headIs : Tryd.prog.initOrder.toList = headSigns := by
 rw [headStr]
 exact String.toList_ofList
def sumSigns : List Char := [Char.ofNat 50, Char.ofNat 100, Char.ofNat 55, Char.ofNat 48, Char.ofNat 102, Char.ofNat 53, Char.ofNat 99, Char.ofNat 56, Char.ofNat 51, Char.ofNat 51, Char.ofNat 98, Char.ofNat 102, Char.ofNat 98, Char.ofNat 55, Char.ofNat 98, Char.ofNat 99, Char.ofNat 56, Char.ofNat 100, Char.ofNat 101, Char.ofNat 50, Char.ofNat 52, Char.ofNat 51, Char.ofNat 50, Char.ofNat 51, Char.ofNat 48, Char.ofNat 101, Char.ofNat 101, Char.ofNat 48, Char.ofNat 52, Char.ofNat 55, Char.ofNat 57, Char.ofNat 55, Char.ofNat 51, Char.ofNat 101, Char.ofNat 57, Char.ofNat 54, Char.ofNat 57, Char.ofNat 51, Char.ofNat 101, Char.ofNat 100, Char.ofNat 101, Char.ofNat 55, Char.ofNat 53, Char.ofNat 51, Char.ofNat 52, Char.ofNat 48, Char.ofNat 54, Char.ofNat 50, Char.ofNat 55, Char.ofNat 99, Char.ofNat 57, Char.ofNat 57, Char.ofNat 52, Char.ofNat 50, Char.ofNat 54, Char.ofNat 50, Char.ofNat 100, Char.ofNat 102, Char.ofNat 102, Char.ofNat 56, Char.ofNat 48, Char.ofNat 54, Char.ofNat 100, Char.ofNat 50]
theorem sumIs : "2d70f5c833bfb7bc8de243230ee047973e9693ede75340627c994262dff806d2".toList = sumSigns := by
 have h : "2d70f5c833bfb7bc8de243230ee047973e9693ede75340627c994262dff806d2" = String.ofList sumSigns := by kernel_rfl
 rw [h]
 exact String.toList_ofList
theorem head_cons {α : Type} {l : List α} {x : α} (h : l.head? = some x) : ∃ r, l = x :: r := by cases l <;> simp_all
theorem make_cut {P : Program} {r : List (List Char)} (h : behindMainWord (wordsSigns P.initOrder.toList) = "cut".toList :: r) : P.make = some .cut := by
 unfold Program.make
 rw [h]
 rfl
theorem headLifts_cut {P : Program} (h : (stripLifts liftWords (behindMainWord (wordsSigns P.initOrder.toList))).1 = []) : P.headLifts = [] := by
 unfold Program.headLifts
 simp only [h]
 split <;> rfl
theorem lifts_cut {P : Program} {r : List (List Char)} (h : behindMainWord (wordsSigns P.initOrder.toList) = "cut".toList :: r) (h1 : P.headLifts = []) : P.liftsFinal = false := by
 unfold Program.liftsFinal
 rw [h, h1]
 rfl
theorem mayEnter_cut {P : Program} {r : List (List Char)} (h : behindMainWord (wordsSigns P.initOrder.toList) = "cut".toList :: r) (h1 : P.laysLater = false) (h2 : P.bearsReflect = false)
  (h3 : (stripLifts liftWords (behindMainWord (wordsSigns P.initOrder.toList))).1 = []) (h4 : (stripLifts liftWords (behindMainWord (wordsSigns P.initOrder.toList))).2.head? = some "cut".toList) (h5 : P.doorFits [] = true) : P.mayEnter = true := by
 unfold Program.mayEnter
 rw [h] at h3 h4 ⊢
 simp only [h1, h2, h3, h4, h5]
 simp
theorem main_cut {P : Program} {s : List Char} {r : List (List Char)} (h : wordsSigns P.initOrder.toList = "harness".toList :: s :: r) (hs : isSumSigns s = true) : P.mainIs = some (true, s) := by
 unfold Program.mainIs
 rw [h]
 simp [hs]
theorem hHead : (behindMainWord (wordsSigns Tryd.prog.initOrder.toList)).head? = some "cut".toList := by
 rw [headIs]
 kernel_rfl
theorem hStrip : (stripLifts liftWords (behindMainWord (wordsSigns Tryd.prog.initOrder.toList))).1 = [] := by
 rw [headIs]
 kernel_rfl
theorem hStrip2 : (stripLifts liftWords (behindMainWord (wordsSigns Tryd.prog.initOrder.toList))).2.head? = some "cut".toList := by
 rw [headIs]
 kernel_rfl
theorem hMain : wordsSigns Tryd.prog.initOrder.toList = "harness".toList :: sumSigns :: (wordsSigns headSigns).drop 2 := by
 rw [headIs]
 kernel_rfl
theorem hSum : isSumSigns sumSigns = true := by kernel_rfl
theorem hLater : Tryd.prog.laysLater = false := by kernel_rfl
theorem hReflect : Tryd.prog.bearsReflect = false := by kernel_rfl
theorem hDoor : Tryd.prog.doorFits [] = true := by kernel_rfl
theorem kMayEnter : Tryd.prog.mayEnter = true := by
 obtain ⟨r, h⟩ := head_cons hHead
 exact mayEnter_cut h hLater hReflect hStrip hStrip2 hDoor
theorem kLifts : Tryd.prog.liftsFinal = false := by
 obtain ⟨r, h⟩ := head_cons hHead
 exact lifts_cut h (headLifts_cut hStrip)
theorem kMake : Tryd.prog.make = some .cut := by
 obtain ⟨r, h⟩ := head_cons hHead
 exact make_cut h
theorem kMainIs : Tryd.prog.mainIs = some (true, "2d70f5c833bfb7bc8de243230ee047973e9693ede75340627c994262dff806d2".toList) := by
 rw [sumIs]
 exact main_cut hMain hSum
theorem kLaidOut : (laidOutB Tryd.prog) = true := by kernel_rfl
theorem kRowed : mapsRowed Tryd.prog = true := by kernel_rfl
theorem kStops : (Tryd.prog.stops == []) = true := by kernel_rfl
theorem kKnobs : (Tryd.prog.stopKnobs == []) = true := by kernel_rfl
theorem kHeard : Tryd.prog.stopsHeard = true := by kernel_rfl
theorem kLooks : true = Tryd.prog.looks [] := by kernel_rfl
end Go.Proofs.YtkdpdgpphpngeaaDoor
