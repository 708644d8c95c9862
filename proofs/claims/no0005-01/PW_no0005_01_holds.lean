import PyProof.Rows.All
import Wide.All
import OpenK.AllK
import Wide.FinOn
import Lean
import PySem.Challenge.RW_no0005_01
set_option Elab.async false
set_option maxRecDepth 100000
namespace Mine
section
open PySem.W
abbrev at' (l : List Int) (i : Int) : Int := l.getD i.toNat 0
def bef (act : List Int) (i j : Int) : Bool := if act.getD i.toNat 0 ≠ act.getD j.toNat 0 then decide (act.getD j.toNat 0 < act.getD i.toNat 0) else decide (i < j)
def Ord5 (o dx la lh lp : Nat) : Prop := dx < o ∧ o < lh ∧ lh < lp ∧ la ≠ dx ∧ la ≠ o ∧ la ≠ lh ∧ la ≠ lp
theorem bef_ne {act : List Int} {i j : Int} (h : ¬ act.getD i.toNat 0 = act.getD j.toNat 0) : bef act i j = decide (act.getD j.toNat 0 < act.getD i.toNat 0) := by unfold bef; rw [if_pos h]
theorem bef_eq {act : List Int} {i j : Int} (h : act.getD i.toNat 0 = act.getD j.toNat 0) : bef act i j = decide (i < j) := by unfold bef; rw [if_neg (not_not_intro h)]
def bchild (act hp : List Int) (spot : Int) : Int :=
  if (hp.length : Int) ≤ 2 * spot + 1 then -1
  else if 2 * spot + 1 + 1 < (hp.length : Int) ∧ bef act (hp.getD (2 * spot + 1 + 1).toNat 0) (hp.getD (2 * spot + 1).toNat 0) = true then 2 * spot + 1 + 1 else 2 * spot + 1
section
variable {act hp : List Int} {spot : Int}
theorem bchild_1 (h : (hp.length : Int) ≤ 2 * spot + 1) : bchild act hp spot = -1 := by unfold bchild; rw [if_pos h]
theorem bchild_2 (h : ¬ (hp.length : Int) ≤ 2 * spot + 1) (h2 : 2 * spot + 1 + 1 < (hp.length : Int)) (h3 : bef act (hp.getD (2 * spot + 1 + 1).toNat 0) (hp.getD (2 * spot + 1).toNat 0) = true) : bchild act hp spot = 2 * spot + 1 + 1 := by
  unfold bchild; rw [if_neg h, if_pos ⟨h2, h3⟩]
theorem bchild_3 (h : ¬ (hp.length : Int) ≤ 2 * spot + 1) (h3 : bef act (hp.getD (2 * spot + 1 + 1).toNat 0) (hp.getD (2 * spot + 1).toNat 0) = false) : bchild act hp spot = 2 * spot + 1 := by
  unfold bchild; rw [if_neg h, if_neg (fun q => by rw [h3] at q; exact absurd q.2 (by decide))]
theorem bchild_4 (h : ¬ (hp.length : Int) ≤ 2 * spot + 1) (h3 : ¬ 2 * spot + 1 + 1 < (hp.length : Int)) : bchild act hp spot = 2 * spot + 1 := by
  unfold bchild; rw [if_neg h, if_neg (fun q => h3 q.1)]
end
structure Cons (n : Int) (hp pl : List Int) : Prop where
  n0 : 0 ≤ n
  lp : (pl.length : Int) = n + 1
  hv : ∀ i : Int, 0 ≤ i → i < hp.length → 1 ≤ at' hp i ∧ at' hp i ≤ n ∧ at' pl (at' hp i) = i
  pv : ∀ v : Int, 0 ≤ v → v ≤ n → at' pl v = -1 ∨ (0 ≤ at' pl v ∧ at' pl v < hp.length ∧ at' hp (at' pl v) = v)
def OrdFrom (act hp : List Int) (k : Int) : Prop := ∀ i : Int, 0 < i → i < hp.length → k ≤ (i - 1) / 2 → bef act (at' hp i) (at' hp ((i - 1) / 2)) = false
def ExUp (act hp : List Int) (k : Int) : Prop := (∀ i : Int, 0 < i → i < hp.length → i ≠ k → bef act (at' hp i) (at' hp ((i - 1) / 2)) = false) ∧
  (0 < k → ∀ i : Int, 0 < i → i < hp.length → (i - 1) / 2 = k → bef act (at' hp i) (at' hp ((k - 1) / 2)) = false)
def SameHeld (n : Int) (pl pl' : List Int) : Prop := ∀ v : Int, 0 ≤ v → v ≤ n → (0 ≤ at' pl' v ↔ 0 ≤ at' pl v)

structure RInv (n : Int) (act hp0 pl0 : List Int) (var spot : Int) (hp1 pl1 : List Int) : Prop where
  lh : hp1.length = hp0.length
  lp : pl1.length = pl0.length
  s0 : 0 ≤ spot
  s1 : spot < hp0.length
  v0 : 1 ≤ var
  v1 : var ≤ n
  cons : Cons n (hp1.set spot.toNat var) (pl1.set var.toNat spot)
  up : ExUp act (hp1.set spot.toNat var) spot
  held : SameHeld n pl0 (pl1.set var.toNat spot)
theorem at_set {l : List Int} {i x j : Int} (h0 : 0 ≤ i) (h1 : i < l.length) (hj : 0 ≤ j) : at' (l.set i.toNat x) j = if j = i then x else at' l j := by
  show (l.set i.toNat x).getD j.toNat 0 = if j = i then x else l.getD j.toNat 0
  rw [List.getD_eq_getElem?_getD, List.getD_eq_getElem?_getD, List.getElem?_set]
  by_cases e : j = i
  · subst e
    have : j.toNat < l.length := by omega
    simp [this]
  · have : ¬ i.toNat = j.toNat := by omega
    simp [e, this]
theorem at_app {l : List Int} {x j : Int} (hj : 0 ≤ j) : at' (l ++ [x]) j = if j = l.length then x else at' l j := by
  show (l ++ [x]).getD j.toNat 0 = if j = l.length then x else l.getD j.toNat 0
  rw [List.getD_eq_getElem?_getD, List.getD_eq_getElem?_getD, List.getElem?_append]
  by_cases e : j = l.length
  · subst e; simp
  · rw [if_neg e]
    by_cases h : j.toNat < l.length
    · simp [h]
    · have : 1 ≤ j.toNat - l.length := by omega
      simp [h, List.getElem?_eq_none (l := [x]) (by simpa using this)]
theorem at_out {l : List Int} {j : Int} (h : (l.length : Int) ≤ j) : at' l j = 0 := by
  show l.getD j.toNat 0 = 0
  rw [List.getD_eq_getElem?_getD, List.getElem?_eq_none (by omega)]; rfl
theorem at_drop {l : List Int} {j : Int} (hj : 0 ≤ j) (h : j < (l.length : Int) - 1) : at' l.dropLast j = at' l j := by
  show l.dropLast.getD j.toNat 0 = l.getD j.toNat 0
  rw [List.getD_eq_getElem?_getD, List.getD_eq_getElem?_getD, List.getElem?_dropLast, if_pos (by omega)]
theorem at_last {l : List Int} : l.getLastD 0 = at' l ((l.length : Int) - 1) := by
  show l.getLastD 0 = l.getD ((l.length : Int) - 1).toNat 0
  have : ((l.length : Int) - 1).toNat = l.length - 1 := by omega
  rw [this, List.getD_eq_getElem?_getD, List.getLastD_eq_getLast?, List.getLast?_eq_getElem?]
theorem fdiv2 {s : Int} : Int.fdiv s 2 = s / 2 := Int.fdiv_eq_ediv_of_nonneg _ (by omega)
theorem bef_iff {act : List Int} {i j : Int} : bef act i j = true ↔ at' act j < at' act i ∨ (at' act i = at' act j ∧ i < j) := by
  unfold bef
  split
  · rename_i h; simp only [decide_eq_true_eq]; constructor
    · exact fun h => .inl h
    · rintro (h1 | ⟨h1, _⟩); exact h1; exact absurd h1 h
  · rename_i h; have h : at' act i = at' act j := Decidable.not_not.mp h; simp only [decide_eq_true_eq]; constructor
    · exact fun h1 => .inr ⟨h, h1⟩
    · rintro (h1 | ⟨_, h1⟩); omega; exact h1
theorem bef_no {act : List Int} {i j : Int} : bef act i j = false ↔ at' act i < at' act j ∨ (at' act i = at' act j ∧ j ≤ i) := by
  rw [← Bool.not_eq_true, bef_iff]; omega
theorem bef_asym {act : List Int} {i j : Int} (h : bef act i j = true) : bef act j i = false := by rw [bef_iff] at h; rw [bef_no]; omega
theorem bef_self {act : List Int} {i : Int} : bef act i i = false := by rw [bef_no]; omega
theorem nb_trans {act : List Int} {i j k : Int} (h : bef act i j = false) (h2 : bef act j k = false) : bef act i k = false := by rw [bef_no] at *; omega
theorem Cons.congr {n : Int} {H P H' P' : List Int} (h : Cons n H P) (lH : H'.length = H.length) (lP : P'.length = P.length) (eH : ∀ k : Int, 0 ≤ k → k < H.length → at' H' k = at' H k) (eP : ∀ v : Int, 0 ≤ v → v ≤ n → at' P' v = at' P v) : Cons n H' P' := by
  refine ⟨h.n0, by rw [lP]; exact h.lp, fun i h0 h1 => ?_, fun v h0 h1 => ?_⟩
  · rw [lH] at h1
    have := h.hv i h0 h1
    rw [eH i h0 h1, eP _ (by omega) this.2.1]; exact this
  · rw [eP v h0 h1, lH]
    rcases h.pv v h0 h1 with e | ⟨a, b, c⟩
    · exact .inl e
    · exact .inr ⟨a, b, by rw [eH _ a b]; exact c⟩
theorem Cons.swap {n : Int} {H P H' P' : List Int} {i j : Int} (h : Cons n H P) (hi : 0 ≤ i ∧ i < H.length) (hj : 0 ≤ j ∧ j < H.length) (hij : i ≠ j) (lH : H'.length = H.length) (lP : P'.length = P.length)
    (eH : ∀ k : Int, 0 ≤ k → k < H.length → at' H' k = if k = i then at' H j else if k = j then at' H i else at' H k)
    (eP : ∀ v : Int, 0 ≤ v → v ≤ n → at' P' v = if v = at' H j then i else if v = at' H i then j else at' P v) : Cons n H' P' := by
  have hI := h.hv i hi.1 hi.2
  have hJ := h.hv j hj.1 hj.2
  have hne : at' H i ≠ at' H j := fun e => by rw [e] at hI; omega
  refine ⟨h.n0, by rw [lP]; exact h.lp, fun k h0 h1 => ?_, fun v h0 h1 => ?_⟩
  · rw [lH] at h1
    have hK := h.hv k h0 h1
    rw [eH k h0 h1]
    by_cases c1 : k = i
    · subst c1; rw [if_pos rfl, eP _ (by omega) hJ.2.1, if_pos rfl]; exact ⟨hJ.1, hJ.2.1, rfl⟩
    · rw [if_neg c1]
      by_cases c2 : k = j
      · subst c2; rw [if_pos rfl, eP _ (by omega) hI.2.1, if_neg hne, if_pos rfl]; exact ⟨hI.1, hI.2.1, rfl⟩
      · have n1 : at' H k ≠ at' H j := fun e => by rw [e] at hK; omega
        have n2 : at' H k ≠ at' H i := fun e => by rw [e] at hK; omega
        rw [if_neg c2, eP _ (by omega) hK.2.1, if_neg n1, if_neg n2]; exact hK
  · rw [eP v h0 h1, lH]
    by_cases c1 : v = at' H j
    · rw [if_pos c1]; exact .inr ⟨hi.1, hi.2, by rw [eH _ hi.1 hi.2, if_pos rfl, c1]⟩
    · rw [if_neg c1]
      by_cases c2 : v = at' H i
      · rw [if_pos c2]; exact .inr ⟨hj.1, hj.2, by rw [eH _ hj.1 hj.2, if_neg (fun e => hij e.symm), if_pos rfl, c2]⟩
      · rw [if_neg c2]
        rcases h.pv v h0 h1 with e | ⟨a, b, c⟩
        · exact .inl e
        · refine .inr ⟨a, b, ?_⟩
          rw [eH _ a b, if_neg (fun e => c2 (by rw [← e, c])), if_neg (fun e => c1 (by rw [← e, c]))]; exact c
theorem SameHeld.of {n : Int} {pl p1 p2 : List Int} (h : SameHeld n pl p1) (h2 : SameHeld n p1 p2) : SameHeld n pl p2 := fun v a b => (h2 v a b).trans (h v a b)
theorem set_same {l : List Int} {i : Int} (h0 : 0 ≤ i) (h1 : i < l.length) : l.set i.toNat (at' l i) = l := by
  refine List.ext_getElem (by simp) fun k h2 h3 => ?_
  rw [List.getElem_set]
  split
  · rename_i e; subst e; show l.getD i.toNat 0 = _; rw [List.getD_eq_getElem?_getD, List.getElem?_eq_getElem h3]; rfl
  · rfl
theorem RInv.start {n : Int} {act hp pl : List Int} {spot : Int} (hc : Cons n hp pl) (h0 : 0 ≤ spot) (h1 : spot < hp.length) (hu : ExUp act hp spot) : RInv n act hp pl (hp.getD spot.toNat 0) spot hp pl := by
  have hv := hc.hv spot h0 h1
  have e1 : hp.set spot.toNat (hp.getD spot.toNat 0) = hp := set_same h0 h1
  have e2 : pl.set (hp.getD spot.toNat 0).toNat spot = pl := by
    have h2 := set_same (l := pl) (i := at' hp spot) (by omega) (by have := hc.lp; omega)
    rw [hv.2.2] at h2; exact h2
  exact ⟨rfl, rfl, h0, h1, hv.1, hv.2.1, by rw [e1, e2]; exact hc, by rw [e1]; exact hu, by rw [e2]; exact fun _ _ _ => Iff.rfl⟩
theorem RInv.at1 {n : Int} {act hp0 pl0 hp1 pl1 : List Int} {var spot : Int} (h : RInv n act hp0 pl0 var spot hp1 pl1) (hs : 0 < spot) : at' (hp1.set spot.toNat var) ((spot - 1) / 2) = at' hp1 ((spot - 1) / 2) := by
  have h1 := h.s1
  have h2 := h.lh
  rw [at_set h.s0 (by omega) (by omega), if_neg (by omega)]
theorem RInv.above {n : Int} {act hp0 pl0 hp1 pl1 : List Int} {var spot : Int} (h : RInv n act hp0 pl0 var spot hp1 pl1) (hs : 0 < spot) : 1 ≤ hp1.getD (Int.fdiv (spot - 1) 2).toNat 0 ∧ hp1.getD (Int.fdiv (spot - 1) 2).toNat 0 ≤ n := by
  rw [fdiv2]
  have h1 := h.s1
  have h2 := h.lh
  have := h.cons.hv ((spot - 1) / 2) (by omega) (by rw [List.length_set]; omega)
  rw [h.at1 hs] at this
  exact ⟨this.1, this.2.1⟩
theorem RInv.step {n : Int} {act hp0 pl0 hp1 pl1 : List Int} {var spot : Int} (h : RInv n act hp0 pl0 var spot hp1 pl1) (hs : 0 < spot) (hb : bef act var (hp1.getD (Int.fdiv (spot - 1) 2).toNat 0) = true) :
    RInv n act hp0 pl0 var (Int.fdiv (spot - 1) 2) (hp1.set spot.toNat (hp1.getD (Int.fdiv (spot - 1) 2).toNat 0)) (pl1.set (hp1.getD (Int.fdiv (spot - 1) 2).toNat 0).toNat spot) := by
  have hA := h.above hs
  rw [fdiv2] at *
  generalize hp : (spot - 1) / 2 = p at *
  have hat : at' (hp1.set spot.toNat var) p = at' hp1 p := by have := h.at1 hs; rw [hp] at this; exact this
  have h1 := h.s1
  have h2 := h.lh
  have hlp := h.cons.lp
  rw [List.length_set] at hlp
  have hv0 := h.v0
  have hv1 := h.v1
  have hpp := h.cons.hv p (by omega) (by rw [List.length_set]; omega)
  rw [hat] at hpp
  have hps := h.cons.hv spot (by omega) (by rw [List.length_set]; omega)
  rw [at_set h.s0 (by omega) h.s0, if_pos rfl] at hps
  have hne : at' hp1 p ≠ var := fun e => by rw [e] at hpp; omega
  have e1 : ∀ k : Int, 0 ≤ k → at' ((hp1.set spot.toNat (at' hp1 p)).set p.toNat var) k = if k = p then var else if k = spot then at' hp1 p else at' (hp1.set spot.toNat var) k := by
    intro k hk
    rw [at_set (by omega) (by rw [List.length_set]; omega) hk]
    split
    · rfl
    · rw [at_set h.s0 (by omega) hk]
      split
      · rfl
      · rename_i a b; rw [at_set h.s0 (by omega) hk, if_neg b]
  have e0 : at' (hp1.set spot.toNat var) spot = var := by rw [at_set h.s0 (by omega) h.s0, if_pos rfl]
  have e2 : ∀ v : Int, 0 ≤ v → v ≤ n → at' ((pl1.set (at' hp1 p).toNat spot).set var.toNat p) v = if v = var then p else if v = at' hp1 p then spot else at' (pl1.set var.toNat spot) v := by
    intro v hv hv'
    rw [at_set (by omega) (by rw [List.length_set]; omega) hv]
    split
    · rfl
    · rw [at_set (by omega) (by omega) hv]
      split
      · rfl
      · rename_i a b; rw [at_set (by omega) (by omega) hv, if_neg a]
  refine ⟨by rw [List.length_set]; exact h.lh, by rw [List.length_set]; exact h.lp, by omega, by omega, hv0, hv1, ?_, ?_, ?_⟩
  · refine h.cons.swap (i := p) (j := spot) ⟨by omega, by rw [List.length_set]; omega⟩ ⟨by omega, by rw [List.length_set]; omega⟩ (by omega) (by simp) (by simp) (fun k hk hk' => ?_) (fun v hv hv' => ?_)
    · rw [e1 k hk, e0, hat]
    · rw [e2 v hv hv', e0, hat]
  · have hup := h.up
    obtain ⟨u1, u2⟩ := hup
    rw [List.length_set] at u1 u2
    have u2 := u2 hs
    rw [hp, hat] at u2
    have hba := bef_asym hb
    refine ⟨fun i hi hl hip => ?_, fun hp0 i hi hl hip => ?_⟩
    · rw [List.length_set, List.length_set] at hl
      rw [e1 i (by omega), e1 ((i - 1) / 2) (by omega), if_neg hip]
      by_cases c1 : i = spot
      · subst c1; rw [if_pos rfl, if_pos (by omega)]; exact hba
      · rw [if_neg c1]
        have q := u1 i hi hl c1
        by_cases c2 : (i - 1) / 2 = p
        · rw [if_pos c2]
          rw [c2, hat] at q
          exact nb_trans q hba
        · rw [if_neg c2]
          by_cases c3 : (i - 1) / 2 = spot
          · rw [if_pos c3]; exact u2 i hi hl c3
          · rw [if_neg c3]; exact q
    · rw [List.length_set, List.length_set] at hl
      rw [e1 i (by omega), e1 ((p - 1) / 2) (by omega), if_neg (show ¬ i = p by omega), if_neg (show ¬ (p - 1) / 2 = p by omega), if_neg (show ¬ (p - 1) / 2 = spot by omega)]
      have qp := u1 p hp0 (by omega) (by omega)
      rw [hat] at qp
      by_cases c1 : i = spot
      · rw [if_pos c1]; exact qp
      · rw [if_neg c1]
        have q := u1 i hi hl c1
        rw [hip, hat] at q
        exact nb_trans q qp
  · intro v hv hv'
    rw [e2 v hv hv']
    have hh := h.held v hv hv'
    by_cases c1 : v = var
    · rw [if_pos c1]
      rw [at_set (by omega) (by omega) hv, if_pos c1] at hh
      omega
    · rw [if_neg c1]
      by_cases c2 : v = at' hp1 p
      · rw [if_pos c2]; rw [← c2] at hpp; omega
      · rw [if_neg c2]; exact hh
theorem RInv.stop0 {n : Int} {act hp0 pl0 hp1 pl1 : List Int} {var spot : Int} (h : RInv n act hp0 pl0 var spot hp1 pl1) (hs : ¬ 0 < spot) : OrdFrom act (hp1.set spot.toNat var) 0 :=
  fun i hi hl _ => h.up.1 i hi hl (by omega)
theorem RInv.stop1 {n : Int} {act hp0 pl0 hp1 pl1 : List Int} {var spot : Int} (h : RInv n act hp0 pl0 var spot hp1 pl1) (hs : 0 < spot) (hb : bef act var (hp1.getD (Int.fdiv (spot - 1) 2).toNat 0) = false) : OrdFrom act (hp1.set spot.toNat var) 0 := by
  intro i hi hl _
  by_cases c : i = spot
  · rw [fdiv2] at hb
    have h1 := h.s1
    have h2 := h.lh
    subst c
    rw [h.at1 hs, at_set h.s0 (by omega) h.s0, if_pos rfl]; exact hb
  · exact h.up.1 i hi hl c

structure SInv (n : Int) (act hp0 pl0 : List Int) (k var spot below : Int) (hp1 pl1 : List Int) : Prop where
  lh : hp1.length = hp0.length
  lp : pl1.length = pl0.length
  k0 : 0 ≤ k
  s0 : k ≤ spot
  s1 : spot < hp0.length
  v0 : 1 ≤ var
  v1 : var ≤ n
  hr : ∀ i : Int, 0 ≤ i → i < hp1.length → 1 ≤ at' hp1 i ∧ at' hp1 i ≤ n
  cons : Cons n (hp1.set spot.toNat var) (pl1.set var.toNat spot)
  ord : ∀ i : Int, 0 < i → i < hp1.length → k ≤ (i - 1) / 2 → (i - 1) / 2 ≠ spot → bef act (at' (hp1.set spot.toNat var) i) (at' (hp1.set spot.toNat var) ((i - 1) / 2)) = false
  up : k < spot → k ≤ (spot - 1) / 2 ∧ ∀ i : Int, 0 < i → i < hp1.length → (i - 1) / 2 = spot → bef act (at' (hp1.set spot.toNat var) i) (at' (hp1.set spot.toNat var) ((spot - 1) / 2)) = false
  bl : below = bchild act hp1 spot
  held : SameHeld n pl0 (pl1.set var.toNat spot)
theorem bchild_spec {act hp : List Int} {spot : Int} (h0 : 0 ≤ spot) : (bchild act hp spot = -1 ∧ (hp.length : Int) ≤ 2 * spot + 1) ∨
    (spot < bchild act hp spot ∧ bchild act hp spot < hp.length ∧ (bchild act hp spot - 1) / 2 = spot ∧ ∀ i : Int, 0 < i → i < hp.length → (i - 1) / 2 = spot → bef act (at' hp i) (at' hp (bchild act hp spot)) = false) := by
  by_cases c1 : (hp.length : Int) ≤ 2 * spot + 1
  · exact .inl ⟨bchild_1 c1, c1⟩
  · refine .inr ?_
    by_cases c2 : 2 * spot + 1 + 1 < (hp.length : Int)
    · cases c3 : bef act (at' hp (2 * spot + 1 + 1)) (at' hp (2 * spot + 1)) with
      | true =>
        rw [bchild_2 c1 c2 c3]
        refine ⟨by omega, c2, by omega, fun i h1 h2 h3 => ?_⟩
        have : i = 2 * spot + 1 ∨ i = 2 * spot + 1 + 1 := by omega
        rcases this with rfl | rfl
        · exact bef_asym c3
        · exact bef_self
      | false =>
        rw [bchild_3 c1 c3]
        refine ⟨by omega, by omega, by omega, fun i h1 h2 h3 => ?_⟩
        have : i = 2 * spot + 1 ∨ i = 2 * spot + 1 + 1 := by omega
        rcases this with rfl | rfl
        · exact bef_self
        · exact c3
    · rw [bchild_4 c1 c2]
      refine ⟨by omega, by omega, by omega, fun i h1 h2 h3 => ?_⟩
      have : i = 2 * spot + 1 := by omega
      subst this
      exact bef_self
theorem Cons.range {n : Int} {act hp pl : List Int} (h : Cons n hp pl) (hn : (act.length : Int) = n + 1) : ∀ i : Int, 0 ≤ i → i < hp.length → 0 ≤ hp.getD i.toNat 0 ∧ hp.getD i.toNat 0 < act.length := fun i h0 h1 => by
  have := h.hv i h0 h1
  show 0 ≤ at' hp i ∧ at' hp i < act.length
  omega
theorem SInv.start {n : Int} {act hp pl : List Int} {spot : Int} (hc : Cons n hp pl) (h0 : 0 ≤ spot) (h1 : spot < hp.length) (hu : OrdFrom act hp (spot + 1)) : SInv n act hp pl spot (hp.getD spot.toNat 0) spot (bchild act hp spot) hp pl := by
  have hv := hc.hv spot h0 h1
  have e1 : hp.set spot.toNat (hp.getD spot.toNat 0) = hp := set_same h0 h1
  have e2 : pl.set (hp.getD spot.toNat 0).toNat spot = pl := by
    have h2 := set_same (l := pl) (i := at' hp spot) (by omega) (by have := hc.lp; omega)
    rw [hv.2.2] at h2; exact h2
  refine ⟨rfl, rfl, h0, Int.le_refl _, h1, hv.1, hv.2.1, fun i a b => ?_, by rw [e1, e2]; exact hc, ?_, fun h => by omega, rfl, by rw [e2]; exact fun _ _ _ => Iff.rfl⟩
  · have := hc.hv i a b; exact ⟨this.1, this.2.1⟩
  · intro i a b c d
    rw [e1]
    exact hu i a b (by omega)
theorem SInv.below {n : Int} {act hp0 pl0 hp1 pl1 : List Int} {k var spot below : Int} (h : SInv n act hp0 pl0 k var spot below hp1 pl1) (hs : 0 ≤ below) : spot < below ∧ below < hp1.length ∧ 1 ≤ hp1.getD below.toNat 0 ∧ hp1.getD below.toNat 0 ≤ n := by
  have hk := h.k0
  have hk1 := h.s0
  have hb := h.bl
  rcases bchild_spec (act := act) (hp := hp1) (spot := spot) (by omega) with ⟨e, _⟩ | ⟨a, b, _, _⟩
  · omega
  · rw [← hb] at a b
    exact ⟨a, b, h.hr below hs b⟩
theorem SInv.range {n : Int} {act hp0 pl0 hp1 pl1 : List Int} {k var spot below : Int} (h : SInv n act hp0 pl0 k var spot below hp1 pl1) (hn : (act.length : Int) = n + 1) (hs : 0 ≤ below) : ∀ i : Int, 0 ≤ i → i < (hp1.set spot.toNat (hp1.getD below.toNat 0)).length → 0 ≤ (hp1.set spot.toNat (hp1.getD below.toNat 0)).getD i.toNat 0 ∧ (hp1.set spot.toNat (hp1.getD below.toNat 0)).getD i.toNat 0 < act.length := by
  intro i h0 h1
  rw [List.length_set] at h1
  have hk := h.k0
  have hk1 := h.s0
  have hs1 := h.s1
  have hlh := h.lh
  have hB := h.below hs
  have hi := h.hr i h0 h1
  show 0 ≤ at' (hp1.set spot.toNat (at' hp1 below)) i ∧ at' (hp1.set spot.toNat (at' hp1 below)) i < act.length
  have h3 := hB.2.2.1
  have h4 := hB.2.2.2
  rw [at_set (by omega) (by omega) h0]
  split
  · show 0 ≤ hp1.getD below.toNat 0 ∧ hp1.getD below.toNat 0 < act.length
    omega
  · omega
theorem SInv.step {n : Int} {act hp0 pl0 hp1 pl1 : List Int} {k var spot below : Int} (h : SInv n act hp0 pl0 k var spot below hp1 pl1) (hs : 0 ≤ below) (hb : bef act (hp1.getD below.toNat 0) var = true) :
    SInv n act hp0 pl0 k var below (bchild act (hp1.set spot.toNat (hp1.getD below.toNat 0)) below) (hp1.set spot.toNat (hp1.getD below.toNat 0)) (pl1.set (hp1.getD below.toNat 0).toNat spot) := by
  have hB := h.below hs
  have hk := h.k0
  have hk1 := h.s0
  have h1 := h.s1
  have h2 := h.lh
  have hbl := h.bl
  have hlp := h.cons.lp
  rw [List.length_set] at hlp
  have hv0 := h.v0
  have hv1 := h.v1
  have hpar : (below - 1) / 2 = spot ∧ ∀ i : Int, 0 < i → i < hp1.length → (i - 1) / 2 = spot → bef act (at' hp1 i) (at' hp1 below) = false := by
    rcases bchild_spec (act := act) (hp := hp1) (spot := spot) (by omega) with ⟨e, _⟩ | ⟨_, _, c, d⟩
    · omega
    · rw [← hbl] at c d; exact ⟨c, d⟩
  obtain ⟨hpar, hsib⟩ := hpar
  change bef act (at' hp1 below) var = true at hb
  show SInv n act hp0 pl0 k var below (bchild act (hp1.set spot.toNat (at' hp1 below)) below) (hp1.set spot.toNat (at' hp1 below)) (pl1.set (at' hp1 below).toNat spot)
  have hat : ∀ i : Int, 0 ≤ i → i ≠ spot → at' (hp1.set spot.toNat var) i = at' hp1 i := fun i a b => by rw [at_set (by omega) (by omega) a, if_neg b]
  have hpp := h.cons.hv below (by omega) (by rw [List.length_set]; omega)
  rw [hat below hs (by omega)] at hpp
  have e0 : at' (hp1.set spot.toNat var) spot = var := by rw [at_set (by omega) (by omega) (by omega), if_pos rfl]
  have hps := h.cons.hv spot (by omega) (by rw [List.length_set]; omega)
  rw [e0] at hps
  have hne : at' hp1 below ≠ var := fun e => by rw [e] at hpp; omega
  have e1 : ∀ k : Int, 0 ≤ k → at' ((hp1.set spot.toNat (at' hp1 below)).set below.toNat var) k = if k = below then var else if k = spot then at' hp1 below else at' (hp1.set spot.toNat var) k := by
    intro k hk
    rw [at_set (by omega) (by rw [List.length_set]; omega) hk]
    split
    · rfl
    · rw [at_set (by omega) (by omega) hk]
      split
      · rfl
      · rename_i a b; rw [at_set (by omega) (by omega) hk, if_neg b]
  have e2 : ∀ v : Int, 0 ≤ v → v ≤ n → at' ((pl1.set (at' hp1 below).toNat spot).set var.toNat below) v = if v = var then below else if v = at' hp1 below then spot else at' (pl1.set var.toNat spot) v := by
    intro v hv hv'
    rw [at_set (by omega) (by rw [List.length_set]; omega) hv]
    split
    · rfl
    · rw [at_set (by omega) (by omega) hv]
      split
      · rfl
      · rename_i a b; rw [at_set (by omega) (by omega) hv, if_neg a]
  have hba := bef_asym hb
  refine ⟨by rw [List.length_set]; exact h.lh, by rw [List.length_set]; exact h.lp, hk, by omega, by omega, hv0, hv1, ?_, ?_, ?_, ?_, rfl, ?_⟩
  · intro i a b
    rw [List.length_set] at b
    rw [at_set (by omega) (by omega) a]
    split
    · exact ⟨hpp.1, hpp.2.1⟩
    · exact h.hr i a b
  · refine h.cons.swap (i := below) (j := spot) ⟨by omega, by rw [List.length_set]; omega⟩ ⟨by omega, by rw [List.length_set]; omega⟩ (by omega) (by simp) (by simp) (fun k hk hk' => ?_) (fun v hv hv' => ?_)
    · rw [e1 k hk, e0, hat below hs (by omega)]
    · rw [e2 v hv hv', e0, hat below hs (by omega)]
  · intro i hi hl hki hib
    rw [List.length_set] at hl
    rw [e1 i (by omega), e1 ((i - 1) / 2) (by omega), if_neg hib]
    by_cases c1 : (i - 1) / 2 = spot
    · rw [if_pos c1]
      by_cases c2 : i = below
      · rw [if_pos c2]; exact hba
      · rw [if_neg c2, if_neg (show ¬ i = spot by omega), hat i (by omega) (by omega)]
        exact hsib i hi hl c1
    · rw [if_neg c1, if_neg (show ¬ i = below from fun e => c1 (by rw [e]; exact hpar))]
      by_cases c2 : i = spot
      · rw [if_pos c2]
        have := (h.up (by omega)).2 below (by omega) (by omega) hpar
        rw [hat below hs (by omega)] at this
        rw [c2]; exact this
      · rw [if_neg c2]
        exact h.ord i hi hl hki c1
  · intro hkb
    refine ⟨by omega, fun i hi hl hib => ?_⟩
    rw [List.length_set] at hl
    rw [e1 i (by omega), hpar, e1 spot (by omega), if_neg (show ¬ i = below by omega), if_neg (show ¬ i = spot by omega), if_neg (show ¬ spot = below by omega), if_pos rfl]
    have := h.ord i hi hl (by omega) (by omega)
    rw [hib, hat below hs (by omega)] at this
    exact this
  · intro v hv hv'
    rw [e2 v hv hv']
    have hh := h.held v hv hv'
    by_cases c1 : v = var
    · rw [if_pos c1]
      rw [at_set (by omega) (by omega) hv, if_pos c1] at hh
      omega
    · rw [if_neg c1]
      by_cases c2 : v = at' hp1 below
      · rw [if_pos c2]; rw [← c2] at hpp; omega
      · rw [if_neg c2]; exact hh
theorem SInv.stop0 {n : Int} {act hp0 pl0 hp1 pl1 : List Int} {k var spot below : Int} (h : SInv n act hp0 pl0 k var spot below hp1 pl1) (hs : ¬ 0 ≤ below) : OrdFrom act (hp1.set spot.toNat var) k := by
  have hk := h.k0
  have hk1 := h.s0
  have hbl := h.bl
  intro i hi hl hki
  rw [List.length_set] at hl
  rcases bchild_spec (act := act) (hp := hp1) (spot := spot) (by omega) with ⟨_, e⟩ | ⟨a, b, _, _⟩
  · exact h.ord i hi hl hki (by omega)
  · omega
theorem SInv.stop1 {n : Int} {act hp0 pl0 hp1 pl1 : List Int} {k var spot below : Int} (h : SInv n act hp0 pl0 k var spot below hp1 pl1) (hs : 0 ≤ below) (hb : bef act (hp1.getD below.toNat 0) var = false) : OrdFrom act (hp1.set spot.toNat var) k := by
  have hk := h.k0
  have hk1 := h.s0
  have hbl := h.bl
  have h1 := h.s1
  have h2 := h.lh
  intro i hi hl hki
  rw [List.length_set] at hl
  by_cases c : (i - 1) / 2 = spot
  · rcases bchild_spec (act := act) (hp := hp1) (spot := spot) (by omega) with ⟨e, _⟩ | ⟨_, _, _, d⟩
    · omega
    · rw [← hbl] at d
      have := d i hi hl c
      rw [c, at_set (l := hp1) (j := i) (by omega) (by omega) (by omega), if_neg (by omega), at_set (by omega) (by omega) (by omega), if_pos rfl]
      exact nb_trans this hb
  · exact h.ord i hi hl hki c
theorem at_get {l : List Int} {i : Nat} (h : i < l.length) : l[i] = at' l i := by
  show _ = l.getD (i : Int).toNat 0
  rw [List.getD_eq_getElem?_getD, Int.toNat_natCast, List.getElem?_eq_getElem h]; rfl
theorem at_mem {l : List Int} {i : Int} (h0 : 0 ≤ i) (h1 : i < l.length) : at' l i ∈ l := by
  have h2 : i.toNat < l.length := by omega
  have e : ((i.toNat : Nat) : Int) = i := by omega
  have := at_get h2
  rw [e] at this
  rw [← this]; exact List.getElem_mem h2
theorem mem_at {l : List Int} {v : Int} (h : v ∈ l) : ∃ i : Int, 0 ≤ i ∧ i < l.length ∧ at' l i = v := by
  obtain ⟨i, hi, e⟩ := List.getElem_of_mem h
  exact ⟨i, by omega, by omega, by rw [← e]; exact (at_get hi).symm⟩
theorem Cons.nodup {n : Int} {hp pl : List Int} (h : Cons n hp pl) : hp.Nodup := by
  refine List.pairwise_iff_getElem.mpr fun i j hi hj hij e => ?_
  rw [at_get hi, at_get hj] at e
  have a := h.hv i (by omega) (by omega)
  have b := h.hv j (by omega) (by omega)
  rw [e] at a
  omega
theorem Cons.mem {n : Int} {hp pl : List Int} (h : Cons n hp pl) (v : Int) : v ∈ hp ↔ (1 ≤ v ∧ v ≤ n ∧ 0 ≤ at' pl v) := by
  constructor
  · intro hm
    obtain ⟨i, h0, h1, e⟩ := mem_at hm
    have := h.hv i h0 h1
    rw [e] at this; omega
  · rintro ⟨h0, h1, h2⟩
    rcases h.pv v (by omega) h1 with e | ⟨a, b, c⟩
    · omega
    · rw [← c]; exact at_mem a b
theorem Cons.mem0 {n : Int} {hp pl : List Int} (h : Cons n hp pl) (v : Int) (h0 : 0 ≤ v) (h1 : v ≤ n) (h2 : 0 ≤ at' pl v) : v ∈ hp := by
    rcases h.pv v h0 h1 with e | ⟨a, b, c⟩
    · omega
    · rw [← c]; exact at_mem a b
theorem Cons.len_le {n : Int} {hp pl : List Int} (h : Cons n hp pl) : (hp.length : Int) ≤ n := by
  have h0 := h.n0
  have := List.Nodup.length_le_of_subset (l₁ := hp) (l₂ := (List.range n.toNat).map (fun i : Nat => (i : Int) + 1)) h.nodup (fun v hv => by
    have := (h.mem v).mp hv
    exact List.mem_map.mpr ⟨(v - 1).toNat, List.mem_range.mpr (by omega), by omega⟩)
  rw [List.length_map, List.length_range] at this
  omega
theorem Cons.push {n : Int} {hp pl : List Int} {var : Int} (h : Cons n hp pl) (h1 : 1 ≤ var) (h2 : var ≤ n) (hv : ¬ 0 ≤ pl.getD var.toNat 0) : Cons n (hp ++ [var]) (pl.set var.toNat hp.length) := by
  have hl := h.lp
  have hv : ¬ 0 ≤ at' pl var := hv
  have hlen : (hp ++ [var]).length = hp.length + 1 := by simp
  have eP : ∀ v : Int, 0 ≤ v → at' (pl.set var.toNat hp.length) v = if v = var then (hp.length : Int) else at' pl v := fun v a => at_set (by omega) (by omega) a
  refine ⟨h.n0, by rw [List.length_set]; exact hl, fun i a b => ?_, fun v a b => ?_⟩
  · rw [at_app a]
    by_cases c : i = hp.length
    · rw [if_pos c, eP _ (by omega), if_pos rfl]; exact ⟨h1, h2, c.symm⟩
    · rw [if_neg c]
      have q := h.hv i a (by omega)
      rw [eP _ (by omega), if_neg (fun e => by rw [e] at q; omega)]; exact q
  · rw [eP v a]
    by_cases c : v = var
    · rw [if_pos c, at_app (by omega), if_pos rfl]; exact .inr ⟨by omega, by omega, c.symm⟩
    · rw [if_neg c]
      rcases h.pv v a b with e | ⟨x, y, z⟩
      · exact .inl e
      · refine .inr ⟨x, by omega, ?_⟩
        rw [at_app x, if_neg (by omega)]; exact z
theorem Cons.push_len {n : Int} {hp pl : List Int} {var : Int} (h : Cons n hp pl) (h1 : 1 ≤ var) (h2 : var ≤ n) (hv : ¬ 0 ≤ pl.getD var.toNat 0) : (hp.length : Int) + 1 ≤ n := by
  have := (h.push h1 h2 hv).len_le
  rw [List.length_append] at this
  simpa using this
theorem ExUp.push {act hp : List Int} {var : Int} (h : OrdFrom act hp 0) : ExUp act (hp ++ [var]) hp.length := by
  refine ⟨fun i a b c => ?_, fun a i x y z => ?_⟩
  · rw [List.length_append, List.length_singleton] at b
    rw [at_app (by omega), at_app (by omega), if_neg c, if_neg (by omega)]
    exact h i a (by omega) (by omega)
  · rw [List.length_append, List.length_singleton] at y
    omega
theorem SameHeld.push {n var x : Int} {pl pl' : List Int} (h2 : 1 ≤ var) (h3 : var ≤ n) (hl : (pl.length : Int) = n + 1) (h : SameHeld n (pl.set var.toNat x) pl') (hx : 0 ≤ x) : ∀ v : Int, 0 ≤ v → v ≤ n → (0 ≤ at' pl' v ↔ (0 ≤ at' pl v ∨ v = var)) := by
  intro v a b
  rw [h v a b, at_set (by omega) (by omega) a]
  by_cases c : v = var
  · rw [if_pos c]; exact ⟨fun _ => .inr c, fun _ => hx⟩
  · rw [if_neg c]; exact ⟨.inl, fun q => q.resolve_right c⟩
theorem Cons.first {n : Int} {hp pl : List Int} (h : Cons n hp pl) (h0 : ¬ (hp.length : Int) = 0) : 1 ≤ hp.getD (Int.toNat 0) 0 ∧ hp.getD (Int.toNat 0) 0 ≤ n := by
  have := h.hv 0 (by omega) (by omega)
  exact ⟨this.1, this.2.1⟩
theorem Cons.lastD {n : Int} {hp pl : List Int} (h : Cons n hp pl) (h0 : ¬ (hp.length : Int) = 0) : 1 ≤ hp.getLastD 0 ∧ hp.getLastD 0 ≤ n := by
  rw [at_last]
  have := h.hv ((hp.length : Int) - 1) (by omega) (by omega)
  exact ⟨this.1, this.2.1⟩
theorem Cons.pop_pl {n : Int} {hp pl : List Int} (h : Cons n hp pl) (h0 : 0 < (hp.dropLast.length : Int)) (v : Int) (a : 0 ≤ v) : at' ((pl.set (hp.getD (Int.toNat 0) 0).toNat (-1)).set (hp.getLastD 0).toNat 0) v = if v = hp.getLastD 0 then 0 else if v = at' hp 0 then -1 else at' pl v := by
  rw [List.length_dropLast] at h0
  have f0 := h.first (by omega)
  have f : 1 ≤ at' hp 0 ∧ at' hp 0 ≤ n := f0
  have l := h.lastD (by omega)
  have hl := h.lp
  rw [at_set (by omega) (by rw [List.length_set]; omega) a]
  split
  · rfl
  · exact at_set (by omega) (by omega) a
theorem Cons.pop1 {n : Int} {act hp pl : List Int} (h : Cons n hp pl) (hu : OrdFrom act hp 0) (h0 : 0 < (hp.dropLast.length : Int)) : Cons n (hp.dropLast.set (Int.toNat 0) (hp.getLastD 0)) ((pl.set (hp.getD (Int.toNat 0) 0).toNat (-1)).set (hp.getLastD 0).toNat 0) ∧ OrdFrom act (hp.dropLast.set (Int.toNat 0) (hp.getLastD 0)) (0 + 1) := by
  have hp0 := h.pop_pl h0
  have h0' := h0
  rw [List.length_dropLast] at h0
  have f : 1 ≤ at' hp 0 ∧ at' hp 0 ≤ n := h.first (by omega)
  have l := h.lastD (by omega)
  rw [at_last] at l
  have hl := h.lp
  have pf := h.hv 0 (by omega) (by omega)
  have pl' := h.hv ((hp.length : Int) - 1) (by omega) (by omega)
  have eH : ∀ k : Int, 0 ≤ k → k < (hp.length : Int) - 1 → at' (hp.dropLast.set (Int.toNat 0) (hp.getLastD 0)) k = if k = 0 then at' hp ((hp.length : Int) - 1) else at' hp k := by
    intro k a b
    rw [at_set (i := 0) (by omega) h0' a, at_last]
    split
    · rfl
    · exact at_drop a b
  rw [at_last] at hp0 eH ⊢
  have hlen : (hp.dropLast.set (Int.toNat 0) (at' hp ((hp.length : Int) - 1))).length = hp.length - 1 := by simp
  refine ⟨⟨h.n0, by rw [List.length_set, List.length_set]; exact hl, fun i a b => ?_, fun v a b => ?_⟩, ?_⟩
  · rw [hlen] at b
    rw [eH i a (by omega)]
    by_cases c : i = 0
    · rw [if_pos c, hp0 _ (by omega), if_pos rfl]; exact ⟨l.1, l.2, c.symm⟩
    · rw [if_neg c]
      have q := h.hv i a (by omega)
      rw [hp0 _ (by omega), if_neg (fun e => by rw [e] at q; omega), if_neg (fun e => by rw [e] at q; omega)]; exact q
  · rw [hp0 v a, hlen]
    by_cases c : v = at' hp ((hp.length : Int) - 1)
    · rw [if_pos c]; refine .inr ⟨by omega, by omega, ?_⟩
      rw [eH 0 (by omega) (by omega), if_pos rfl]; exact c.symm
    · rw [if_neg c]
      by_cases d : v = at' hp 0
      · rw [if_pos d]; exact .inl rfl
      · rw [if_neg d]
        rcases h.pv v a b with e | ⟨x, y, z⟩
        · exact .inl e
        · have n1 : at' pl v ≠ 0 := fun e => d (by rw [← z, e])
          have n2 : at' pl v ≠ (hp.length : Int) - 1 := fun e => c (by rw [← e, z])
          refine .inr ⟨x, by omega, ?_⟩
          rw [eH _ x (by omega), if_neg n1]; exact z
  · intro i a b c
    rw [hlen] at b
    rw [eH i (by omega) (by omega), eH ((i - 1) / 2) (by omega) (by omega), if_neg (by omega), if_neg (by omega)]
    exact hu i a (by omega) (by omega)
theorem Cons.pop0 {n : Int} {act hp pl : List Int} (h : Cons n hp pl) (ha : act = act) (h1 : ¬ (hp.length : Int) = 0) (h0 : ¬ 0 < (hp.dropLast.length : Int)) : Cons n hp.dropLast (pl.set (hp.getD (Int.toNat 0) 0).toNat (-1)) ∧ OrdFrom act hp.dropLast 0 ∧ (∀ v : Int, 0 ≤ v → v ≤ n → (0 ≤ at' (pl.set (hp.getD (Int.toNat 0) 0).toNat (-1)) v ↔ (0 ≤ at' pl v ∧ v ≠ hp.getD (Int.toNat 0) 0))) := by
  have f0 := h.first h1
  have f : 1 ≤ at' hp 0 ∧ at' hp 0 ≤ n := f0
  have hl := h.lp
  have eP : ∀ v : Int, 0 ≤ v → at' (pl.set (hp.getD (Int.toNat 0) 0).toNat (-1)) v = if v = at' hp 0 then -1 else at' pl v := fun v a => at_set (by omega) (by omega) a
  have h0' := h0
  rw [List.length_dropLast] at h0
  refine ⟨⟨h.n0, by rw [List.length_set]; exact hl, fun i a b => by omega, fun v a b => ?_⟩, fun i a b _ => by omega, fun v a b => ?_⟩
  · rw [eP v a]
    left
    split
    · rfl
    · rename_i c
      rcases h.pv v a b with e | ⟨x, y, z⟩
      · exact e
      · have : at' pl v = 0 := by omega
        rw [this] at z; exact absurd z.symm c
  · rw [eP v a]
    show _ ↔ 0 ≤ at' pl v ∧ v ≠ at' hp 0
    split
    · rename_i c; constructor
      · intro q; omega
      · intro q; exact absurd c q.2
    · rename_i c; exact ⟨fun q => ⟨q, c⟩, fun q => q.1⟩
theorem Cons.popE {n : Int} {hp pl : List Int} (h : Cons n hp pl) (h1 : (hp.length : Int) = 0) : hp.getD (Int.toNat 0) 0 = 0 ∧ (∀ v : Int, 0 ≤ v → v ≤ n → (0 ≤ at' pl v ↔ (0 ≤ at' pl v ∧ v ≠ hp.getD (Int.toNat 0) 0))) := by
  have e : hp = [] := List.eq_nil_of_length_eq_zero (by omega)
  subst e
  refine ⟨rfl, fun v a b => ⟨fun q => ?_, fun q => q.1⟩⟩
  rcases h.pv v a b with e | ⟨x, y, z⟩
  · omega
  · rw [List.length_nil] at y; omega
theorem Cons.popH {n : Int} {hp pl pl' : List Int} (h : Cons n hp pl) (h1 : ¬ (hp.length : Int) = 0) (h0 : 0 < (hp.dropLast.length : Int)) (hs : SameHeld n ((pl.set (hp.getD (Int.toNat 0) 0).toNat (-1)).set (hp.getLastD 0).toNat 0) pl') : (∀ v : Int, 0 ≤ v → v ≤ n → (0 ≤ at' pl' v ↔ (0 ≤ at' pl v ∧ v ≠ hp.getD (Int.toNat 0) 0))) := by
  intro v a b
  rw [hs v a b, h.pop_pl h0 v a]
  rw [List.length_dropLast] at h0
  have pf := h.hv 0 (by omega) (by omega)
  have pl' := h.hv ((hp.length : Int) - 1) (by omega) (by omega)
  show _ ↔ 0 ≤ at' pl v ∧ v ≠ at' hp 0
  rw [at_last]
  by_cases c : v = at' hp ((hp.length : Int) - 1)
  · rw [if_pos c, c]
    have n1 : at' hp ((hp.length : Int) - 1) ≠ at' hp 0 := fun e => by rw [e] at pl'; omega
    exact ⟨fun _ => ⟨by omega, n1⟩, fun _ => by omega⟩
  · rw [if_neg c]
    by_cases d : v = at' hp 0
    · rw [if_pos d]; exact ⟨fun q => by omega, fun q => absurd d q.2⟩
    · rw [if_neg d]; exact ⟨fun q => ⟨q, d⟩, fun q => q.1⟩

structure BInv (n : Int) (act hp pl : List Int) (spot : Int) (hp1 pl1 : List Int) : Prop where
  lh : hp1.length = hp.length
  s1 : spot < hp1.length
  s0 : -1 ≤ spot
  cons : Cons n hp1 pl1
  ord : OrdFrom act hp1 (spot + 1)
  held : SameHeld n pl pl1
theorem BInv.start {n : Int} {act hp pl : List Int} (h : Cons n hp pl) : BInv n act hp pl (Int.fdiv hp.length 2 - 1) hp pl := by
  rw [fdiv2]
  refine ⟨rfl, by omega, by omega, h, fun i a b c => by omega, fun _ _ _ => Iff.rfl⟩
theorem BInv.step {n : Int} {act hp pl hp1 pl1 hp2 pl2 : List Int} {spot : Int} (h : BInv n act hp pl spot hp1 pl1) (hs : 0 ≤ spot) (hl : hp2.length = hp1.length) (hc : Cons n hp2 pl2) (ho : OrdFrom act hp2 spot) (hh : SameHeld n pl1 pl2) : BInv n act hp pl (spot - 1) hp2 pl2 := by
  have := h.s1
  refine ⟨by rw [hl, h.lh], by rw [hl]; omega, by omega, hc, ?_, h.held.of hh⟩
  rw [show spot - 1 + 1 = spot by omega]; exact ho
theorem BInv.stop {n : Int} {act hp pl hp1 pl1 : List Int} {spot : Int} (h : BInv n act hp pl spot hp1 pl1) (hs : ¬ 0 ≤ spot) : OrdFrom act hp1 0 := by
  have h1 := h.s0
  have h2 := h.ord
  rw [show spot + 1 = 0 by omega] at h2; exact h2

structure GInv (n0 N : Int) (act pl : List Int) (n1 : Int) (act1 hp1 pl1 : List Int) : Prop where
  lo : n0 ≤ n1
  hi : n1 ≤ N
  ac : act1 = act ++ List.replicate (n1 - n0).toNat 0
  la : (act1.length : Int) = n1 + 1
  cons : Cons n1 hp1 pl1
  ord : OrdFrom act1 hp1 0
  held : ∀ v : Int, 0 ≤ v → v ≤ n1 → (0 ≤ at' pl1 v ↔ ((v ≤ n0 ∧ 0 ≤ at' pl v) ∨ n0 < v))
theorem bef_congr {act act' : List Int} {i j : Int} (h1 : at' act' i = at' act i) (h2 : at' act' j = at' act j) : bef act' i j = bef act i j := by
  show (if at' act' i ≠ at' act' j then decide (at' act' j < at' act' i) else decide (i < j)) = (if at' act i ≠ at' act j then decide (at' act j < at' act i) else decide (i < j))
  rw [h1, h2]
theorem OrdFrom.congr {n k : Int} {act act' hp pl : List Int} (hc : Cons n hp pl) (hu : OrdFrom act hp k) (h : ∀ v : Int, 1 ≤ v → v ≤ n → at' act' v = at' act v) : OrdFrom act' hp k := by
  intro i a b c
  have h1 := hc.hv i (by omega) b
  have h2 := hc.hv ((i - 1) / 2) (by omega) (by omega)
  rw [bef_congr (h _ h1.1 h1.2.1) (h _ h2.1 h2.2.1)]
  exact hu i a b c
theorem GInv.start {n0 N : Int} {act hp pl : List Int} (hc : Cons n0 hp pl) (hl : (act.length : Int) = n0 + 1) (hu : OrdFrom act hp 0) (h : n0 ≤ N) : GInv n0 N act pl n0 act hp pl :=
  ⟨Int.le_refl _, h, by rw [show (n0 - n0).toNat = 0 by omega]; simp, hl, hc, hu, fun v a b => ⟨fun q => .inl ⟨b, q⟩, fun q => q.elim (fun r => r.2) (fun r => by omega)⟩⟩
theorem GInv.gcons {n0 N n1 : Int} {act pl act1 hp1 pl1 : List Int} (h : GInv n0 N act pl n1 act1 hp1 pl1) : Cons (n1 + 1) hp1 (pl1 ++ [-1]) ∧ OrdFrom (act1 ++ [0]) hp1 0 := by
  have hl := h.cons.lp
  have h0 := h.cons.n0
  have hla := h.la
  refine ⟨⟨by omega, by rw [List.length_append, List.length_singleton]; omega, fun i a b => ?_, fun v a b => ?_⟩, ?_⟩
  · have q := h.cons.hv i a b
    rw [at_app (by omega), if_neg (by omega)]
    exact ⟨q.1, by omega, q.2.2⟩
  · rw [at_app a]
    split
    · exact .inl rfl
    · exact h.cons.pv v a (by omega)
  · refine OrdFrom.congr h.cons h.ord fun v a b => ?_
    rw [at_app (by omega), if_neg (by omega)]
theorem GInv.step {n0 N n1 : Int} {act pl act1 hp1 pl1 hp2 pl2 : List Int} (h : GInv n0 N act pl n1 act1 hp1 pl1) (hlt : ((act1.length : Nat) : Int) - 1 < N) (hc : Cons (n1 + 1) hp2 pl2) (hu : OrdFrom (act1 ++ [0]) hp2 0)
    (hs : ∀ v : Int, 0 ≤ v → v ≤ n1 + 1 → (0 ≤ at' pl2 v ↔ (0 ≤ at' (pl1 ++ [-1]) v ∨ v = ((act1.length + 1 : Nat) : Int) - 1))) : GInv n0 N act pl (n1 + 1) (act1 ++ [0]) hp2 pl2 := by
  have hla := h.la
  have hlo := h.lo
  have hl := h.cons.lp
  refine ⟨by omega, by omega, ?_, by rw [List.length_append, List.length_singleton]; omega, hc, hu, fun v a b => ?_⟩
  · rw [h.ac, List.append_assoc, show (n1 + 1 - n0).toNat = (n1 - n0).toNat + 1 by omega, List.replicate_succ']
  · rw [hs v a b, at_app a]
    by_cases c : v = n1 + 1
    · exact ⟨fun _ => .inr (by omega), fun _ => .inr (by omega)⟩
    · rw [if_neg (by omega)]
      have q := h.held v a (by omega)
      constructor
      · rintro (r | r)
        · exact q.mp r
        · omega
      · exact fun r => .inl (q.mpr r)
theorem Cons.at_held {n var : Int} {hp pl : List Int} (h : Cons n hp pl) (h1 : 1 ≤ var) (h2 : var ≤ n) (hh : 0 ≤ pl.getD var.toNat 0) : pl.getD var.toNat 0 < hp.length := by
  have hh : 0 ≤ at' pl var := hh
  show at' pl var < hp.length
  rcases h.pv var (by omega) h2 with e | ⟨a, b, c⟩
  · omega
  · exact b
theorem ExUp.bump {n var step : Int} {act hp pl : List Int} (h : Cons n hp pl) (hn : (act.length : Int) = n + 1) (hs : 0 < step) (h1 : 1 ≤ var) (h2 : var ≤ n) (hu : OrdFrom act hp 0) (hh : 0 ≤ pl.getD var.toNat 0) : ExUp (act.set var.toNat (act.getD var.toNat 0 + step)) hp (pl.getD var.toNat 0) := by
  have hh : 0 ≤ at' pl var := hh
  show ExUp _ hp (at' pl var)
  have eA : ∀ v : Int, 0 ≤ v → at' (act.set var.toNat (act.getD var.toNat 0 + step)) v = if v = var then at' act var + step else at' act v := fun v a => at_set (by omega) (by omega) a
  generalize act.set var.toNat (act.getD var.toNat 0 + step) = act' at eA
  have hpv : at' pl var < hp.length ∧ at' hp (at' pl var) = var := by
    rcases h.pv var (by omega) h2 with e | ⟨a, b, c⟩
    · omega
    · exact ⟨b, c⟩
  have only : ∀ i : Int, 0 ≤ i → i < hp.length → i ≠ at' pl var → at' hp i ≠ var := fun i a b c e => by
    have := (h.hv i a b).2.2
    rw [e] at this; exact c this.symm
  have up : ∀ i : Int, 0 ≤ i → i < hp.length → at' act (at' hp i) ≤ at' act' (at' hp i) := fun i a b => by
    have := h.hv i a b
    rw [eA _ (by omega)]
    split
    · rename_i e; rw [e]; omega
    · omega
  have same : ∀ i : Int, 0 ≤ i → i < hp.length → i ≠ at' pl var → at' act' (at' hp i) = at' act (at' hp i) := fun i a b c => by
    have := h.hv i a b
    rw [eA _ (by omega), if_neg (only i a b c)]
  refine ⟨fun i a b c => ?_, fun a i x y z => ?_⟩
  · have q := hu i a b (by omega)
    have u := up ((i - 1) / 2) (by omega) (by omega)
    rw [bef_no] at q ⊢
    rw [same i (by omega) b c]
    omega
  · have o1 := hu i x y (by omega)
    have o2 := hu (at' pl var) a hpv.1 (by omega)
    rw [z] at o1
    have q := nb_trans o1 o2
    have u := up ((at' pl var - 1) / 2) (by omega) (by omega)
    rw [bef_no] at q ⊢
    rw [same i (by omega) y (by omega)]
    omega
theorem OrdFrom.bump {n var step : Int} {act hp pl : List Int} (h : Cons n hp pl) (hn : (act.length : Int) = n + 1) (h1 : 1 ≤ var) (h2 : var ≤ n) (hu : OrdFrom act hp 0) (hh : ¬ 0 ≤ pl.getD var.toNat 0) : OrdFrom (act.set var.toNat (act.getD var.toNat 0 + step)) hp 0 := by
  have hh : ¬ 0 ≤ at' pl var := hh
  intro i a b c
  have p := h.hv i (by omega) b
  have q := h.hv ((i - 1) / 2) (by omega) (by omega)
  rw [bef_congr (act := act) (at_set (l := act) (by omega) (by omega) (by omega) |>.trans (if_neg (fun e => by rw [e] at p; omega))) (at_set (l := act) (by omega) (by omega) (by omega) |>.trans (if_neg (fun e => by rw [e] at q; omega)))]
  exact hu i a b c
theorem bump_small {var step : Int} {act : List Int} (hsb : step ≤ 5000000) (hab : ∀ a ∈ act, a ≤ 5000000) : ∀ a ∈ act.set var.toNat (act.getD var.toNat 0 + step), a ≤ 10000000 := by
  intro a ha
  rcases List.mem_or_eq_of_mem_set ha with h | h
  · have := hab a h; omega
  · subst h
    have : act.getD var.toNat 0 ≤ 5000000 := by
      rw [List.getD_eq_getElem?_getD]
      by_cases c : var.toNat < act.length
      · rw [List.getElem?_eq_getElem c]; exact hab _ (List.getElem_mem c)
      · rw [List.getElem?_eq_none (by omega)]; decide
    omega
def heldL (n : Int) (pl : List Int) : List Int := ((List.range n.toNat).map (fun i : Nat => (i : Int) + 1)).filter (fun v => decide (0 ≤ at' pl v))
def lfirst (act : List Int) (held : List Int) : Int := held.foldl (fun best var => if best = 0 ∨ act.getD best.toNat 0 < act.getD var.toNat 0 ∨ (act.getD var.toNat 0 = act.getD best.toNat 0 ∧ var < best) then var else best) 0
inductive PB (act known : List Int) : List Int → Int → List Int → Prop
  | none {H : List Int} : lfirst act H = 0 → PB act known H 0 H
  | hit {H : List Int} {b : Int} : b = lfirst act H → 0 < b → known.getD b.toNat 0 = 0 → PB act known H b (H.erase b)
  | skip {H H' : List Int} {b r : Int} : b = lfirst act H → 0 < b → known.getD b.toNat 0 ≠ 0 → PB act known (H.erase b) r H' → PB act known H r H'
theorem heldL_mem {n : Int} {pl : List Int} {v : Int} : v ∈ heldL n pl ↔ (1 ≤ v ∧ v ≤ n ∧ 0 ≤ at' pl v) := by
  unfold heldL
  rw [List.mem_filter, List.mem_map]
  constructor
  · rintro ⟨⟨i, hi, e⟩, h⟩
    have := List.mem_range.mp hi
    have := of_decide_eq_true h
    omega
  · rintro ⟨a, b, c⟩
    exact ⟨⟨(v - 1).toNat, List.mem_range.mpr (by omega), by omega⟩, decide_eq_true c⟩
theorem held_range {n : Int} {pl : List Int} : ∀ v ∈ heldL n pl, 1 ≤ v ∧ v ≤ n := fun v h => by have := heldL_mem.mp h; omega
theorem ups_sorted (n : Nat) : ((List.range n).map (fun i : Nat => (i : Int) + 1)).Pairwise (fun a b => a < b) := by
  rw [List.pairwise_map]
  exact List.Pairwise.imp (fun h => by omega) List.pairwise_lt_range
theorem heldL_sorted (n : Int) (pl : List Int) : (heldL n pl).Pairwise (fun a b => a < b) := (ups_sorted n.toNat).filter _
theorem heldL_nodup (n : Int) (pl : List Int) : (heldL n pl).Nodup := (heldL_sorted n pl).imp (fun h e => by omega)
theorem perm_of_mem {l r : List Int} (h1 : l.Nodup) (h2 : r.Nodup) (h : ∀ v, v ∈ l ↔ v ∈ r) : l.Perm r := by
  rw [List.perm_iff_count]
  intro a
  rw [List.Nodup.count h1, List.Nodup.count h2]
  by_cases c : a ∈ l
  · rw [if_pos c, if_pos ((h a).mp c)]
  · rw [if_neg c, if_neg (fun q => c ((h a).mpr q))]
theorem held_perm {n : Int} {hp pl : List Int} (h : Cons n hp pl) : hp.Perm (heldL n pl) := perm_of_mem h.nodup (heldL_nodup n pl) fun v => by rw [h.mem v, heldL_mem]
theorem held_len {n : Int} {hp pl : List Int} (h : Cons n hp pl) : (heldL n pl).length = hp.length := (held_perm h).length_eq.symm
def lfS (act : List Int) (best var : Int) : Int := if best = 0 ∨ act.getD best.toNat 0 < act.getD var.toNat 0 ∨ (act.getD var.toNat 0 = act.getD best.toNat 0 ∧ var < best) then var else best
theorem lfirst_eq (act l : List Int) : lfirst act l = l.foldl (lfS act) 0 := rfl
theorem lfS_spec {act : List Int} {b x : Int} (hb : 0 < b) : (lfS act b x = b ∧ bef act x b = false) ∨ (lfS act b x = x ∧ bef act x b = true) := by
  unfold lfS
  cases h : bef act x b with
  | false =>
    refine .inl ⟨if_neg ?_, rfl⟩
    have := bef_no.mp h
    show ¬ (b = 0 ∨ at' act b < at' act x ∨ (at' act x = at' act b ∧ x < b))
    omega
  | true =>
    refine .inr ⟨if_pos ?_, rfl⟩
    have := bef_iff.mp h
    show (b = 0 ∨ at' act b < at' act x ∨ (at' act x = at' act b ∧ x < b))
    omega
theorem lf_fold {act : List Int} : ∀ (l : List Int) (b : Int), 0 < b → (∀ v ∈ l, 1 ≤ v) → l.foldl (lfS act) b ∈ b :: l ∧ ∀ v ∈ b :: l, bef act v (l.foldl (lfS act) b) = false
  | [], b, _, _ => ⟨.head _, fun v h => by rw [List.mem_singleton.mp h]; exact bef_self⟩
  | x :: r, b, hb, hl => by
    rw [List.foldl_cons]
    have hx := hl x (.head _)
    rcases lfS_spec (act := act) (x := x) hb with ⟨e, q⟩ | ⟨e, q⟩
    · rw [e]
      obtain ⟨h1, h2⟩ := lf_fold (act := act) r b hb fun v hv => hl v (.tail _ hv)
      refine ⟨?_, fun v hv => ?_⟩
      · rcases List.mem_cons.mp h1 with h | h
        · rw [h]; exact .head _
        · exact .tail _ (.tail _ h)
      · rcases List.mem_cons.mp hv with h | h
        · rw [h]; exact h2 b (.head _)
        · rcases List.mem_cons.mp h with h | h
          · rw [h]; exact nb_trans q (h2 b (.head _))
          · exact h2 v (.tail _ h)
    · rw [e]
      obtain ⟨h1, h2⟩ := lf_fold (act := act) r x (by omega) fun v hv => hl v (.tail _ hv)
      refine ⟨.tail _ h1, fun v hv => ?_⟩
      rcases List.mem_cons.mp hv with h | h
      · rw [h]; exact nb_trans (bef_asym q) (h2 x (.head _))
      · exact h2 v h
theorem lfirst_spec {act l : List Int} (h : l ≠ []) (hl : ∀ v ∈ l, 1 ≤ v) : lfirst act l ∈ l ∧ ∀ v ∈ l, bef act v (lfirst act l) = false := by
  cases l with
  | nil => exact absurd rfl h
  | cons x r =>
    rw [lfirst_eq, List.foldl_cons, show lfS act 0 x = x from if_pos (.inl rfl)]
    exact lf_fold r x (by have := hl x (.head _); omega) fun v hv => hl v (.tail _ hv)
theorem lf_or {act : List Int} : ∀ (l : List Int) (b : Int), l.foldl (lfS act) b = b ∨ l.foldl (lfS act) b ∈ l
  | [], b => .inl rfl
  | x :: r, b => by
    rw [List.foldl_cons]
    have hs : lfS act b x = x ∨ lfS act b x = b := by unfold lfS; split; exact .inl rfl; exact .inr rfl
    rcases hs with e | e
    · rw [e]
      rcases lf_or (act := act) r x with h | h
      · rw [h]; exact .inr (.head _)
      · exact .inr (.tail _ h)
    · rw [e]
      rcases lf_or (act := act) r b with h | h
      · exact .inl h
      · exact .inr (.tail _ h)
theorem lfirst_mem {act held : List Int} (h : 0 < lfirst act held) : lfirst act held ∈ held := by
  rw [lfirst_eq] at *
  rcases lf_or (act := act) held 0 with e | e
  · omega
  · exact e
theorem lfirst_nonneg {act held : List Int} (h : ∀ v ∈ held, 0 ≤ v) : 0 ≤ lfirst act held := by
  rw [lfirst_eq]
  rcases lf_or (act := act) held 0 with e | e
  · omega
  · exact h _ e
theorem root_min {n : Int} {act hp pl : List Int} (h : Cons n hp pl) (hu : OrdFrom act hp 0) : ∀ (k : Nat) (i : Int), i.toNat ≤ k → 0 ≤ i → i < hp.length → bef act (at' hp i) (at' hp 0) = false
  | 0, i, a, b, c => by rw [show i = 0 by omega]; exact bef_self
  | k + 1, i, a, b, c => by
    by_cases d : i = 0
    · rw [d]; exact bef_self
    · exact nb_trans (hu i (by omega) c (by omega)) (root_min h hu k ((i - 1) / 2) (by omega) (by omega) (by omega))
theorem held_first {n : Int} {act hp pl : List Int} (h : Cons n hp pl) (hu : OrdFrom act hp 0) : lfirst act (heldL n pl) = hp.getD (Int.toNat 0) 0 := by
  have hl := held_len h
  by_cases c : (hp.length : Int) = 0
  · have e : hp = [] := List.eq_nil_of_length_eq_zero (by omega)
    have e2 : heldL n pl = [] := List.eq_nil_of_length_eq_zero (by omega)
    rw [e2, e]; rfl
  · have hne : heldL n pl ≠ [] := fun e => by rw [e] at hl; simp at hl; omega
    obtain ⟨h1, h2⟩ := lfirst_spec (act := act) hne (fun v hv => (held_range v hv).1)
    have hm : at' hp 0 ∈ heldL n pl := (held_perm h).mem_iff.mp (at_mem (by omega) (by omega))
    have h3 := h2 _ hm
    obtain ⟨i, i0, i1, e⟩ := mem_at ((held_perm h).mem_iff.mpr h1)
    have h4 := root_min h hu i.toNat i (by omega) i0 i1
    rw [e] at h4
    rw [bef_no] at h3 h4
    show _ = at' hp 0
    omega
theorem held_first0 {n : Int} {act hp pl : List Int} (h : Cons n hp pl) (hu : OrdFrom act hp 0) (h0 : ¬ 0 < (hp.length : Int)) : 0 = lfirst act (heldL n pl) := by
  have e2 : heldL n pl = [] := List.eq_nil_of_length_eq_zero (by have := held_len h; omega)
  rw [e2]; rfl
theorem heldG_foldl (pl : List Int) : ∀ (ks l : List Int), ks.foldl (fun l k => if 0 ≤ pl.getD k.toNat 0 then l ++ [k] else l) l = l ++ ks.filter (fun v => decide (0 ≤ at' pl v))
  | [], l => by simp
  | k :: r, l => by
    rw [List.foldl_cons, heldG_foldl pl r, List.filter_cons]
    by_cases c : 0 ≤ at' pl k
    · rw [if_pos c, if_pos (decide_eq_true c), List.append_assoc]; rfl
    · rw [if_neg c, if_neg (by simpa using c)]
theorem rangeKs_one (n : Nat) : rangeKs 1 n = (List.range n).map (fun i : Nat => (i : Int) + 1) := by
  unfold rangeKs
  exact List.map_congr_left fun a _ => by omega
theorem held_comp0 {n : Int} {pl : List Int} (h : 0 ≤ n) : (rangeKs 1 (n + 1 - 1).toNat).foldl (fun l k => if 0 ≤ pl.getD k.toNat 0 then l ++ [k] else l) [] = heldL n pl := by
  rw [heldG_foldl, List.nil_append, show n + 1 - 1 = n by omega, rangeKs_one]; rfl
theorem heldL_same {n : Int} {pl pl' : List Int} (h : SameHeld n pl pl') : heldL n pl' = heldL n pl := by
  unfold heldL
  refine List.filter_congr fun v hv => ?_
  obtain ⟨i, hi, e⟩ := List.mem_map.mp hv
  have := List.mem_range.mp hi
  exact decide_eq_decide.mpr (h v (by omega) (by omega))
theorem heldL_pop {n b : Int} {pl pl' : List Int} (h : ∀ v : Int, 0 ≤ v → v ≤ n → (0 ≤ at' pl' v ↔ (0 ≤ at' pl v ∧ v ≠ b))) : heldL n pl' = (heldL n pl).filter (fun v => decide (v ≠ b)) := by
  unfold heldL
  rw [List.filter_filter]
  refine List.filter_congr fun v hv => ?_
  obtain ⟨i, hi, e⟩ := List.mem_map.mp hv
  have := List.mem_range.mp hi
  rw [Bool.and_comm, ← Bool.decide_and]
  exact decide_eq_decide.mpr (h v (by omega) (by omega))
theorem heldL_popE {n b : Int} {pl pl' : List Int} (h : ∀ v : Int, 0 ≤ v → v ≤ n → (0 ≤ at' pl' v ↔ (0 ≤ at' pl v ∧ v ≠ b))) : heldL n pl' = (heldL n pl).erase b := by
  rw [heldL_pop h, List.Nodup.erase_eq_filter (heldL_nodup n pl)]
  refine List.filter_congr fun v hv => ?_
  show decide (v ≠ b) = !(v == b)
  by_cases c : v = b <;> simp [c]
theorem PB.det {act known H H1 H2 : List Int} {b1 b2 : Int} (h1 : PB act known H b1 H1) (h2 : PB act known H b2 H2) : b1 = b2 ∧ H1 = H2 := by
  induction h1 with
  | none e =>
    cases h2 with
    | none _ => exact ⟨rfl, rfl⟩
    | hit e2 h _ => omega
    | skip e2 h _ _ => omega
  | hit e h k =>
    cases h2 with
    | none _ => omega
    | hit e2 _ _ => subst e; subst e2; exact ⟨rfl, rfl⟩
    | skip e2 _ k2 _ => subst e; subst e2; exact absurd k k2
  | skip e h k _ ih =>
    cases h2 with
    | none _ => omega
    | hit e2 _ k2 => subst e; subst e2; exact absurd k2 k
    | skip e2 _ _ p => subst e; subst e2; exact ih p

structure PInv (n : Int) (act known : List Int) (H0 : List Int) (var : Int) (hp1 pl1 : List Int) : Prop where
  v0 : 0 ≤ var
  v1 : var ≤ n
  cons : Cons n hp1 pl1
  ord : OrdFrom act hp1 0
  came : ∃ Hp : List Int, var = lfirst act Hp ∧ heldL n pl1 = Hp.erase var ∧ (∀ v ∈ Hp, 1 ≤ v) ∧ ∀ r H', PB act known Hp r H' → PB act known H0 r H'
def pmeas (n : Int) (var : Int) (pl : List Int) : Nat := if var = 0 then 0 else 1 + (heldL n pl).length
theorem first_rng {n : Int} {hp pl : List Int} (hc : Cons n hp pl) : 0 ≤ hp.getD (Int.toNat 0) 0 ∧ hp.getD (Int.toNat 0) 0 ≤ n := by
  by_cases c : (hp.length : Int) = 0
  · rw [(hc.popE c).1]; exact ⟨by omega, hc.n0⟩
  · have := hc.first c; omega
theorem PInv.start {n : Int} {act known hp pl hp1 pl1 : List Int} {var : Int} (hc : Cons n hp pl) (hu : OrdFrom act hp 0) (hc1 : Cons n hp1 pl1) (hu1 : OrdFrom act hp1 0) (hv : var = hp.getD (Int.toNat 0) 0) (hs : ∀ v : Int, 0 ≤ v → v ≤ n → (0 ≤ at' pl1 v ↔ (0 ≤ at' pl v ∧ v ≠ hp.getD (Int.toNat 0) 0))) :
    PInv n act known (heldL n pl) (hp.getD (Int.toNat 0) 0) hp1 pl1 :=
  ⟨(first_rng hc).1, (first_rng hc).2, hc1, hu1, heldL n pl, (held_first hc hu).symm, heldL_popE hs, fun v hv => (held_range v hv).1, fun _ _ h => h⟩
theorem PInv.step {n : Int} {act known H0 hp pl hp1 pl1 : List Int} {var : Int} (h : PInv n act known H0 var hp pl) (h0 : 0 < var) (hk : ¬ known.getD var.toNat 0 = 0) (hc1 : Cons n hp1 pl1) (hu1 : OrdFrom act hp1 0) (hs : ∀ v : Int, 0 ≤ v → v ≤ n → (0 ≤ at' pl1 v ↔ (0 ≤ at' pl v ∧ v ≠ hp.getD (Int.toNat 0) 0))) :
    PInv n act known H0 (hp.getD (Int.toNat 0) 0) hp1 pl1 := by
  obtain ⟨Hp, e1, e2, _, e3⟩ := h.came
  refine ⟨(first_rng h.cons).1, (first_rng h.cons).2, hc1, hu1, heldL n pl, (held_first h.cons h.ord).symm, heldL_popE hs, fun v hv => (held_range v hv).1, fun r H' q => e3 r H' (.skip e1 h0 hk ?_)⟩
  rw [← e2]; exact q
theorem PInv.less {n : Int} {act known H0 hp pl pl1 : List Int} {var : Int} (h : PInv n act known H0 var hp pl) (h0 : 0 < var) (hs : ∀ v : Int, 0 ≤ v → v ≤ n → (0 ≤ at' pl1 v ↔ (0 ≤ at' pl v ∧ v ≠ hp.getD (Int.toNat 0) 0))) :
    pmeas n (hp.getD (Int.toNat 0) 0) pl1 < pmeas n var pl := by
  unfold pmeas
  rw [if_neg (show ¬ var = 0 by omega)]
  by_cases c : hp.getD (Int.toNat 0) 0 = 0
  · rw [if_pos c]; omega
  · rw [if_neg c, heldL_popE hs]
    have hf := held_first h.cons h.ord
    have hr := first_rng h.cons
    have hm : hp.getD (Int.toNat 0) 0 ∈ heldL n pl := by rw [← hf]; exact lfirst_mem (by omega)
    rw [List.length_erase_of_mem hm]
    have := List.length_pos_of_mem hm
    omega
theorem PInv.stop0 {n : Int} {act known H0 hp pl : List Int} {var : Int} (h : PInv n act known H0 var hp pl) (h0 : ¬ 0 < var) : PB act known H0 var (heldL n pl) := by
  obtain ⟨Hp, e1, e2, e4, e3⟩ := h.came
  have hv := h.v0
  have hz : var = 0 := by omega
  subst hz
  rw [e2, List.erase_of_not_mem (fun q => by have := e4 0 q; omega)]
  exact e3 _ _ (.none e1.symm)
theorem PInv.stop1 {n : Int} {act known H0 hp pl : List Int} {var : Int} (h : PInv n act known H0 var hp pl) (h0 : 0 < var) (hk : known.getD var.toNat 0 = 0) : PB act known H0 var (heldL n pl) := by
  obtain ⟨Hp, e1, e2, e4, e3⟩ := h.came
  rw [e2]
  exact e3 _ _ (.hit e1 h0 hk)

def rBy (act : List Int) (step : Int) : Int := Int.fdiv (act.foldl max step) 1024 + 1
def rAct (act : List Int) (step : Int) : List Int := act.map (fun a => Int.fdiv a (rBy act step))
def rStep (act : List Int) (step : Int) : Int := if Int.fdiv step (rBy act step) = 0 then 1 else Int.fdiv step (rBy act step)
def bAct (act : List Int) (step var : Int) : List Int := act.set var.toNat (act.getD var.toNat 0 + step)
def bumpA (act : List Int) (step limit var : Int) : List Int := if limit < (bAct act step var).getD var.toNat 0 then rAct (bAct act step var) step else bAct act step var
def bumpS (act : List Int) (step limit var : Int) : Int := if limit < (bAct act step var).getD var.toNat 0 then rStep (bAct act step var) step else step
def dStep (step : Int) : Int := step + Int.fdiv step (20 - 1) + 1
def decA (act : List Int) (step limit : Int) : List Int := if limit < dStep step then rAct act (dStep step) else act
def decS (act : List Int) (step limit : Int) : Int := if limit < dStep step then rStep act (dStep step) else dStep step
structure BumpOk (n : Int) (act : List Int) (step limit var : Int) : Prop where
  len : ((bumpA act step limit var).length : Int) = n + 1
  lo : (bAct act step var).getD var.toNat 0 ≤ limit → bumpA act step limit var = bAct act step var ∧ bumpS act step limit var = step
  s0 : ¬ (bAct act step var).getD var.toNat 0 ≤ limit → 0 < bumpS act step limit var
  s1 : ¬ (bAct act step var).getD var.toNat 0 ≤ limit → bumpS act step limit var ≤ limit
  ab : ¬ (bAct act step var).getD var.toNat 0 ≤ limit → ∀ a ∈ bumpA act step limit var, 0 ≤ a ∧ a ≤ limit
  mono : ¬ (bAct act step var).getD var.toNat 0 ≤ limit → ∀ i j : Int, 1 ≤ i → i < ((bAct act step var).length : Int) → 1 ≤ j → j < ((bAct act step var).length : Int) → (bAct act step var).getD j.toNat 0 ≤ (bAct act step var).getD i.toNat 0 → (bumpA act step limit var).getD j.toNat 0 ≤ (bumpA act step limit var).getD i.toNat 0
  late : ¬ (bAct act step var).getD var.toNat 0 ≤ limit → ∀ i : Int, 1 ≤ i → i < ((bAct act step var).length : Int) → 2 * (bAct act step var).getD i.toNat 0 ≤ (bAct act step var).getD var.toNat 0 → (bumpA act step limit var).getD i.toNat 0 < (bumpA act step limit var).getD var.toNat 0
structure DecOk (n : Int) (act : List Int) (step limit : Int) : Prop where
  len : ((decA act step limit).length : Int) = n + 1
  up : step < decS act step limit → step + Int.fdiv step 19 ≤ decS act step limit ∧ decS act step limit ≤ limit ∧ decA act step limit = act
  dn : ¬ step < decS act step limit → limit < step + Int.fdiv step 19 + 2
  s0 : ¬ step < decS act step limit → 0 < decS act step limit
  s1 : ¬ step < decS act step limit → decS act step limit ≤ limit
  ab : ¬ step < decS act step limit → ∀ a ∈ decA act step limit, 0 ≤ a ∧ a ≤ limit
  mono : ¬ step < decS act step limit → ∀ i j : Int, 1 ≤ i → i < (act.length : Int) → 1 ≤ j → j < (act.length : Int) → act.getD j.toNat 0 ≤ act.getD i.toNat 0 → (decA act step limit).getD j.toNat 0 ≤ (decA act step limit).getD i.toNat 0
structure LawInv (limit n : Int) (act hp pl : List Int) (step : Int) : Prop where
  n1 : 1 ≤ n
  n9 : n ≤ 9
  len : (act.length : Int) = n + 1
  cons : Cons n hp pl
  ord : OrdFrom act hp 0
  s0 : 0 < step
  s1 : step ≤ limit
  ab : ∀ a ∈ act, 0 ≤ a ∧ a ≤ limit
theorem foldl_max_le : ∀ (l : List Int) (s : Int), s ≤ l.foldl max s
  | [], s => Int.le_refl s
  | a :: r, s => Int.le_trans (Int.le_max_left s a) (foldl_max_le r (max s a))
theorem foldl_max_ub {B : Int} : ∀ (l : List Int) (s : Int), s ≤ B → (∀ a ∈ l, a ≤ B) → l.foldl max s ≤ B
  | [], s, h, _ => h
  | a :: r, s, h, ha => foldl_max_ub r (max s a) (Int.max_le.mpr ⟨h, ha a (.head _)⟩) fun b hb => ha b (.tail _ hb)
theorem foldl_max_mem : ∀ (l : List Int) (s : Int), ∀ a ∈ l, a ≤ l.foldl max s
  | [], _, _, h => nomatch h
  | x :: r, s, a, h => by
    rw [List.foldl_cons]
    rcases List.mem_cons.mp h with e | e
    · rw [e]; exact Int.le_trans (Int.le_max_right s x) (foldl_max_le r (max s x))
    · exact foldl_max_mem r _ a e
theorem rs_div {a g : Int} (h0 : 0 ≤ g) : Int.fdiv a (Int.fdiv g 1024 + 1) = a / (g / 1024 + 1) := by
  rw [Int.fdiv_eq_ediv_of_nonneg g (by omega), Int.fdiv_eq_ediv_of_nonneg _ (by omega)]
theorem rs_ub {a g : Int} (h0 : 0 ≤ g) (h : a ≤ g) : a / (g / 1024 + 1) ≤ 1024 := by
  have : a / (g / 1024 + 1) < 1025 := Int.ediv_lt_of_lt_mul (by omega) (by omega)
  omega
theorem rs_lo {a g : Int} (h0 : 0 ≤ g) (h : 0 ≤ a) : 0 ≤ a / (g / 1024 + 1) := Int.ediv_nonneg h (by omega)
theorem rs_mono {a b g : Int} (h0 : 0 ≤ g) (h : a ≤ b) : a / (g / 1024 + 1) ≤ b / (g / 1024 + 1) := Int.ediv_le_ediv (by omega) h
theorem rs_late {a g : Int} (h0 : 1500 ≤ g) (h : 2 * a ≤ g) : a / (g / 1024 + 1) < g / (g / 1024 + 1) := by
  have h1 : (a + (g / 1024 + 1)) / (g / 1024 + 1) ≤ g / (g / 1024 + 1) := Int.ediv_le_ediv (by omega) (by omega)
  rw [Int.add_ediv_of_dvd_right (Int.dvd_refl _), Int.ediv_self (by omega)] at h1
  omega
theorem rAct_get {act : List Int} {g : Int} (i : Int) : at' (act.map (fun a => Int.fdiv a g)) i = Int.fdiv (at' act i) g := by
  show (act.map (fun a => Int.fdiv a g)).getD i.toNat 0 = Int.fdiv (act.getD i.toNat 0) g
  rw [List.getD_eq_getElem?_getD, List.getD_eq_getElem?_getD, List.getElem?_map]
  cases act[i.toNat]? with
  | none => simp
  | some v => rfl
theorem at_in {l : List Int} {B : Int} (hB : 0 ≤ B) (h : ∀ a ∈ l, 0 ≤ a ∧ a ≤ B) (i : Int) : 0 ≤ at' l i ∧ at' l i ≤ B := by
  show 0 ≤ l.getD i.toNat 0 ∧ l.getD i.toNat 0 ≤ B
  rw [List.getD_eq_getElem?_getD]
  by_cases c : i.toNat < l.length
  · rw [List.getElem?_eq_getElem c]; exact h _ (List.getElem_mem c)
  · rw [List.getElem?_eq_none (by omega)]; exact ⟨Int.le_refl _, hB⟩
theorem rStep_rng {act : List Int} {step : Int} (hs : 0 < step) : 0 < rStep act step ∧ rStep act step ≤ 1024 := by
  have hg := foldl_max_le act step
  unfold rStep rBy
  rw [rs_div (by omega)]
  have h1 := rs_ub (a := step) (g := act.foldl max step) (by omega) hg
  have h2 := rs_lo (a := step) (g := act.foldl max step) (by omega) (by omega)
  split <;> omega
theorem rAct_ab {act : List Int} {step : Int} (hs : 0 < step) (h : ∀ a ∈ act, 0 ≤ a) : ∀ a ∈ rAct act step, 0 ≤ a ∧ a ≤ 1024 := by
  intro a ha
  have hg := foldl_max_le act step
  unfold rAct rBy at ha
  obtain ⟨b, hb, e⟩ := List.mem_map.mp ha
  rw [rs_div (by omega)] at e
  subst e
  exact ⟨rs_lo (by omega) (h b hb), rs_ub (by omega) (foldl_max_mem act step b hb)⟩
theorem rAct_mono {act : List Int} {step : Int} (hs : 0 < step) (i j : Int) (h : at' act j ≤ at' act i) : at' (rAct act step) j ≤ at' (rAct act step) i := by
  have hg := foldl_max_le act step
  unfold rAct rBy
  rw [rAct_get, rAct_get, rs_div (by omega), rs_div (by omega)]
  exact rs_mono (by omega) h
theorem bump_ok {n var step limit : Int} {act : List Int} (hn : (act.length : Int) = n + 1) (h1 : 1 ≤ var) (h2 : var ≤ n) (hs : 0 < step) (hs2 : step ≤ limit) (hl : 1500 ≤ limit) (hab : ∀ a ∈ act, 0 ≤ a ∧ a ≤ limit) : BumpOk n act step limit var := by
  have hb0 : ∀ a ∈ bAct act step var, 0 ≤ a := by
    intro a ha
    rcases List.mem_or_eq_of_mem_set ha with h | h
    · exact (hab a h).1
    · have : 0 ≤ act.getD var.toNat 0 := (at_in (by omega) hab var).1
      omega
  have hlen : (bAct act step var).length = act.length := by unfold bAct; rw [List.length_set]
  have hbs : bumpS act step limit var = if limit < (bAct act step var).getD var.toNat 0 then rStep (bAct act step var) step else step := rfl
  have hba : bumpA act step limit var = if limit < (bAct act step var).getD var.toNat 0 then rAct (bAct act step var) step else bAct act step var := rfl
  have hr := rStep_rng (act := bAct act step var) hs
  refine ⟨?_, fun h => ?_, fun h => ?_, fun h => ?_, fun h => ?_, fun h i j _ _ _ _ q => ?_, fun h i a b q => ?_⟩
  · rw [hba]; split
    · unfold rAct; rw [List.length_map, hlen]; exact hn
    · rw [hlen]; exact hn
  · rw [hba, hbs, if_neg (by omega), if_neg (by omega)]; exact ⟨rfl, rfl⟩
  · rw [hbs, if_pos (by omega)]; exact hr.1
  · rw [hbs, if_pos (by omega)]; omega
  · rw [hba, if_pos (by omega)]
    intro a ha
    have := rAct_ab hs hb0 a ha
    omega
  · rw [hba, if_pos (by omega)]
    exact rAct_mono hs i j q
  · rw [hba, if_pos (by omega)]
    show at' (rAct (bAct act step var) step) i < at' (rAct (bAct act step var) step) var
    have hg : (bAct act step var).foldl max step = at' (bAct act step var) var := by
      refine Int.le_antisymm (foldl_max_ub _ _ ?_ fun a ha => ?_) (foldl_max_mem _ _ _ (at_mem (by omega) (by rw [hlen]; omega)))
      · show step ≤ (bAct act step var).getD var.toNat 0; omega
      · rcases List.mem_or_eq_of_mem_set ha with h' | h'
        · have := (hab a h').2
          show a ≤ (bAct act step var).getD var.toNat 0
          omega
        · show a ≤ at' (bAct act step var) var
          unfold bAct
          rw [at_set (by omega) (by omega) (by omega), if_pos rfl]; omega
    have hv : limit < at' (bAct act step var) var := by show limit < (bAct act step var).getD var.toNat 0; omega
    have q : 2 * at' (bAct act step var) i ≤ at' (bAct act step var) var := q
    unfold rAct rBy
    rw [rAct_get, rAct_get, hg, rs_div (by omega), rs_div (by omega)]
    exact rs_late (by omega) q
theorem dec_ok {n step limit : Int} {act : List Int} (hn : (act.length : Int) = n + 1) (hs : 0 < step) (hs2 : step ≤ limit) (hl : 1500 ≤ limit) (hab : ∀ a ∈ act, 0 ≤ a ∧ a ≤ limit) : DecOk n act step limit := by
  have hd : dStep step = step + step / 19 + 1 := by unfold dStep; rw [Int.fdiv_eq_ediv_of_nonneg _ (by omega)]; rfl
  have hf : Int.fdiv step 19 = step / 19 := Int.fdiv_eq_ediv_of_nonneg _ (by omega)
  have hbs : decS act step limit = if limit < dStep step then rStep act (dStep step) else dStep step := rfl
  have hba : decA act step limit = if limit < dStep step then rAct act (dStep step) else act := rfl
  have hr := rStep_rng (act := act) (step := dStep step) (by omega)
  rw [hf.symm] at hd
  have key : ¬ step < decS act step limit → limit < dStep step := by
    rw [hbs]; split <;> omega
  have key2 : step < decS act step limit → ¬ limit < dStep step := by
    rw [hbs]; intro q c; rw [if_pos c] at q; omega
  refine ⟨?_, fun h => ?_, fun h => ?_, fun h => ?_, fun h => ?_, fun h => ?_, fun h i j _ _ _ _ q => ?_⟩
  · rw [hba]; split
    · unfold rAct; rw [List.length_map]; exact hn
    · exact hn
  · rw [hba, hbs, if_neg (key2 h), if_neg (key2 h)]; have := key2 h; exact ⟨by omega, by omega, rfl⟩
  · have := key h; omega
  · rw [hbs, if_pos (key h)]; exact hr.1
  · rw [hbs, if_pos (key h)]; omega
  · rw [hba, if_pos (key h)]
    intro a ha
    have := rAct_ab (step := dStep step) (by omega) (fun a h => (hab a h).1) a ha
    omega
  · rw [hba, if_pos (key h)]
    exact rAct_mono (by omega) i j q
theorem Cons.init : Cons 0 [] [-1] := by
  refine ⟨by omega, rfl, fun i a b => by rw [List.length_nil] at b; omega, fun v a b => ?_⟩
  rw [show v = 0 by omega]; exact .inl rfl
theorem heldL_all {n n0 : Int} {pl pl' : List Int} (hn : 0 ≤ n0) (h1 : n0 ≤ n) (h : ∀ v : Int, 1 ≤ v → v ≤ n → (0 ≤ at' pl' v ↔ ((v ≤ n0 ∧ 0 ≤ at' pl v) ∨ n0 < v))) : heldL n0 pl ++ rangeKs (n0 + 1) (n - n0).toNat = heldL n pl' := by
  have e : n.toNat = n0.toNat + (n - n0).toNat := by omega
  unfold heldL
  rw [e, List.range_add, List.map_append, List.filter_append]
  congr 1
  · refine List.filter_congr fun v hv => ?_
    obtain ⟨i, hi, e⟩ := List.mem_map.mp hv
    have := List.mem_range.mp hi
    have q := h v (by omega) (by omega)
    refine decide_eq_decide.mpr (Iff.trans ?_ q.symm)
    constructor
    · exact fun r => .inl ⟨by omega, r⟩
    · rintro (r | r)
      · exact r.2
      · omega
  · unfold rangeKs
    rw [List.map_map, List.filter_eq_self.mpr]
    · exact List.map_congr_left fun i _ => by simp only [Function.comp]; omega
    · intro v hv
      obtain ⟨i, hi, e⟩ := List.mem_map.mp hv
      have := List.mem_range.mp hi
      simp only [Function.comp] at e
      exact decide_eq_true ((h v (by omega) (by omega)).mpr (.inr (by omega)))
theorem held_start {n : Int} {act hp pl : List Int} (h : GInv 0 n [0] [-1] n act hp pl) : rangeKs 1 (n + 1 - 1).toNat = heldL n pl := by
  have := heldL_all (n0 := 0) (pl := [-1]) (by omega) (by have := h.lo; omega) (fun v a b => h.held v (by omega) b)
  rw [show heldL 0 [-1] = [] from rfl, List.nil_append] at this
  rw [show n + 1 - 1 = n - 0 by omega]; exact this
theorem held_grow {n N : Int} {act act' hp' pl pl' : List Int} (hn : 0 ≤ n) (h1 : n ≤ N) (hg : GInv n N act pl N act' hp' pl') : heldL n pl ++ rangeKs (n + 1) (N + 1 - (n + 1)).toNat = heldL N pl' := by
  rw [show N + 1 - (n + 1) = N - n by omega]
  exact heldL_all hn h1 fun v a b => hg.held v (by omega) b
theorem held_grow' {n N : Int} {act act' hp' pl pl' : List Int} (hn : 0 ≤ n) (h1 : n ≤ N) (hg : GInv n N act pl N act' hp' pl') : heldL n pl ++ rangeKs (n + 1) (N - n).toNat = heldL N pl' :=
  heldL_all hn h1 fun v a b => hg.held v (by omega) b
theorem LawInv.bump {limit n step var : Int} {act hp pl hp' pl' : List Int} (h : LawInv limit n act hp pl step) (hl : 1500 ≤ limit) (h1 : 1 ≤ var) (h2 : var ≤ n) (hc : Cons n hp' pl') (ho : OrdFrom (bumpA act step limit var) hp' 0) : LawInv limit n (bumpA act step limit var) hp' pl' (bumpS act step limit var) := by
  have b := bump_ok h.len h1 h2 h.s0 h.s1 hl h.ab
  have hs0 := h.s0
  have hs1 := h.s1
  have hlen := h.len
  by_cases c : (bAct act step var).getD var.toNat 0 ≤ limit
  · have e := b.lo c
    refine ⟨h.n1, h.n9, b.len, hc, ho, by rw [e.2]; exact hs0, by rw [e.2]; exact hs1, ?_⟩
    rw [e.1]
    intro a ha
    rcases List.mem_or_eq_of_mem_set ha with q | q
    · exact h.ab a q
    · have r : 0 ≤ act.getD var.toNat 0 := (at_in (by omega) h.ab var).1
      have c' : at' (bAct act step var) var ≤ limit := c
      unfold bAct at c'
      rw [at_set (by omega) (by omega) (by omega), if_pos rfl] at c'
      omega
  · exact ⟨h.n1, h.n9, b.len, hc, ho, b.s0 c, b.s1 c, b.ab c⟩
theorem LawInv.decay {limit n step : Int} {act hp pl hp' pl' : List Int} (h : LawInv limit n act hp pl step) (hl : 1500 ≤ limit) (hc : Cons n hp' pl') (ho : OrdFrom (decA act step limit) hp' 0) : LawInv limit n (decA act step limit) hp' pl' (decS act step limit) := by
  have b := dec_ok h.len h.s0 h.s1 hl h.ab
  have hs0 := h.s0
  by_cases c : step < decS act step limit
  · have e := b.up c
    exact ⟨h.n1, h.n9, b.len, hc, ho, by omega, e.2.1, by rw [e.2.2]; exact h.ab⟩
  · exact ⟨h.n1, h.n9, b.len, hc, ho, b.s0 c, b.s1 c, b.ab c⟩
theorem LawInv.grow {limit n N step : Int} {act hp pl hp' pl' : List Int} (h : LawInv limit n act hp pl step) (h1 : n ≤ N) (h9 : N ≤ 9) (hg : GInv n N act pl N (act ++ List.replicate (N - n).toNat 0) hp' pl') : LawInv limit N (act ++ List.replicate (N - n).toNat 0) hp' pl' step := by
  have hn := h.n1
  have hs0 := h.s0
  have hs1 := h.s1
  refine ⟨by omega, h9, hg.la, hg.cons, hg.ord, hs0, hs1, fun a ha => ?_⟩
  rcases List.mem_append.mp ha with q | q
  · exact h.ab a q
  · have := List.eq_of_mem_replicate q; omega
theorem heldF_foldl (b : Int) : ∀ (ks l : List Int), ks.foldl (fun l k => if k ≠ b then l ++ [k] else l) l = l ++ ks.filter (fun v => decide (v ≠ b))
  | [], l => by simp
  | k :: r, l => by
    rw [List.foldl_cons, heldF_foldl b r, List.filter_cons]
    by_cases c : k ≠ b
    · rw [if_pos c, if_pos (decide_eq_true c), List.append_assoc]; rfl
    · rw [if_neg c, if_neg (by simpa using c)]
theorem heldF_pop0 {n b : Int} {pl pl' : List Int} (h : ∀ v : Int, 0 ≤ v → v ≤ n → (0 ≤ at' pl' v ↔ (0 ≤ at' pl v ∧ v ≠ b))) : (heldL n pl).foldl (fun l k => if k ≠ b then l ++ [k] else l) [] = heldL n pl' := by
  rw [heldF_foldl, List.nil_append, heldL_pop h]
end
section
open PySem
open SetTable in
theorem below_spec {xs : Array Nat} (hr : xs.toList.Pairwise (· < ·)) (j : Nat) : below xs j ≤ xs.size ∧ (∀ i, i < below xs j → xs.getD i 0 < j) ∧ (∀ i, below xs j ≤ i → i < xs.size → j ≤ xs.getD i 0) := by
  have mono : ∀ a b, a ≤ b → b < xs.size → xs.getD a 0 ≤ xs.getD b 0 := by
    intro a b hab hb
    have ha : a < xs.size := by omega
    have e1 : xs.getD a 0 = xs.toList[a]'(by simpa using ha) := by simp [Array.getD, ha]
    have e2 : xs.getD b 0 = xs.toList[b]'(by simpa using hb) := by simp [Array.getD, hb]
    rcases Nat.lt_or_ge a b with h | h
    · rw [e1, e2]; exact Nat.le_of_lt (List.pairwise_iff_getElem.mp hr a b (by simpa using ha) (by simpa using hb) h)
    · have : a = b := by omega
      subst this; exact Nat.le_refl _
  have go : ∀ (f lo hi : Nat), hi - lo ≤ f → lo ≤ hi → hi ≤ xs.size → (∀ i, i < lo → xs.getD i 0 < j) → (∀ i, hi ≤ i → i < xs.size → j ≤ xs.getD i 0) →
      below.go xs j f lo hi ≤ xs.size ∧ (∀ i, i < below.go xs j f lo hi → xs.getD i 0 < j) ∧ (∀ i, below.go xs j f lo hi ≤ i → i < xs.size → j ≤ xs.getD i 0) := by
    intro f
    induction f with
    | zero =>
      intro lo hi h1 h2 h3 h4 h5
      unfold below.go
      exact ⟨by omega, h4, fun i a b => h5 i (by omega) b⟩
    | succ f ih =>
      intro lo hi h1 h2 h3 h4 h5
      unfold below.go
      by_cases c : lo < hi
      · rw [if_pos c]
        dsimp only
        have gd : xs.getD ((lo + hi) / 2) j = xs.getD ((lo + hi) / 2) 0 := by
          have hm : (lo + hi) / 2 < xs.size := by omega
          simp [Array.getD, hm]
        rw [gd]
        by_cases d : xs.getD ((lo + hi) / 2) 0 < j
        · rw [if_pos d]
          refine ih _ _ (by omega) (by omega) h3 (fun i hi' => ?_) h5
          exact Nat.lt_of_le_of_lt (mono i ((lo + hi) / 2) (by omega) (by omega)) d
        · rw [if_neg d]
          refine ih _ _ (by omega) (by omega) (by omega) h4 (fun i a b => ?_)
          exact Nat.le_trans (Nat.le_of_not_lt d) (mono _ _ a b)
      · rw [if_neg c]
        exact ⟨by omega, h4, fun i a b => h5 i (by omega) b⟩
  exact go _ 0 _ (by omega) (Nat.zero_le _) (Nat.le_refl _) (fun i h => by omega) (fun i a b => by omega)

open SetTable in
theorem slot_live {t : SetTable} (hr : t.place.toList.Pairwise (· < ·)) {j : Nat} (h : j ∈ t.place.toList) : ∃ i, t.slot j = .live i := by
  obtain ⟨b1, b2, b3⟩ := below_spec hr j
  obtain ⟨k, hk, e⟩ := List.getElem_of_mem h
  have hk' : k < t.place.size := by simpa using hk
  have ek : t.place.getD k 0 = j := by simp [Array.getD, hk']; simpa using e
  have hbk : below t.place j = k := by
    rcases Nat.lt_trichotomy (below t.place j) k with c | c | c
    · have := b3 _ (Nat.le_refl _) (by omega)
      have lt : t.place.getD (below t.place j) 0 < t.place.getD k 0 := by
        have ha : below t.place j < t.place.size := by omega
        have e1 : t.place.getD (below t.place j) 0 = t.place.toList[below t.place j]'(by simpa using ha) := by simp [Array.getD, ha]
        have e2 : t.place.getD k 0 = t.place.toList[k] := by simp [Array.getD, hk']
        rw [e1, e2]; exact List.pairwise_iff_getElem.mp hr _ _ _ _ c
      omega
    · exact c
    · have := b2 k c; omega
  refine ⟨k, ?_⟩
  unfold slot
  rw [hbk]
  dsimp only
  have e4 : t.place[k]? = some j := by
    rw [Array.getElem?_eq_getElem hk']
    simp [Array.getD, hk'] at ek
    rw [ek]
  rw [e4]; simp
open SetTable in
theorem slot_empty {t : SetTable} (hd : t.dummies = #[]) {j : Nat} (h : j ∉ t.place.toList) : t.slot j = .empty := by
  unfold slot
  dsimp only
  have e : (t.place[below t.place j]? == some j) = false := by
    cases q : t.place[below t.place j]? with
    | none => rfl
    | some x =>
      rw [Array.getElem?_eq_some_iff] at q
      obtain ⟨hlt, q⟩ := q
      have : x ≠ j := fun e => h (by rw [← e, ← q]; simp)
      simpa using this
  have e2 : has t.dummies j = false := by rw [hd]; rfl
  rw [e, e2]; rfl

def advM (mask : Nat) (p : SetTable.Probe) : SetTable.Probe :=
  if p.more > 0 then { p with j := p.j + 1, more := p.more - 1 } else
  { p with j := (SetTable.leap mask p.i p.perturb).1, more := SetTable.runEnd mask (SetTable.leap mask p.i p.perturb).1 - (SetTable.leap mask p.i p.perturb).1, i := (SetTable.leap mask p.i p.perturb).1, perturb := (SetTable.leap mask p.i p.perturb).2 }
def iterM (mask : Nat) : Nat → SetTable.Probe → SetTable.Probe
  | 0, p => p
  | n + 1, p => iterM mask n (advM mask p)
theorem advance_eq (t : SetTable) (p : SetTable.Probe) : t.advance p = advM t.mask p := rfl
theorem advM_dummy (mask : Nat) (p : SetTable.Probe) : (advM mask p).dummy = p.dummy := by unfold advM; split <;> rfl
theorem go_free {t : SetTable} (hd : t.dummies = #[]) (hr : t.place.toList.Pairwise (· < ·)) (h : Int) : ∀ (n fuel : Nat) (p : SetTable.Probe), n < fuel → (iterM t.mask n p).j ∉ t.place.toList →
    ∃ m, m ≤ n ∧ SetTable.probe.go t (fun _ => h + 1) h fuel p = some (.empty (iterM t.mask m p).j p.dummy) ∧ (iterM t.mask m p).j ∉ t.place.toList := by
  intro n
  induction n with
  | zero =>
    intro fuel p hf hn
    obtain ⟨f, rfl⟩ : ∃ f, fuel = f + 1 := ⟨fuel - 1, by omega⟩
    refine ⟨0, Nat.le_refl _, ?_, hn⟩
    unfold SetTable.probe.go
    have e : t.slot p.j = .empty := slot_empty hd hn
    rw [e]; rfl
  | succ n ih =>
    intro fuel p hf hn
    obtain ⟨f, rfl⟩ : ∃ f, fuel = f + 1 := ⟨fuel - 1, by omega⟩
    by_cases c : p.j ∈ t.place.toList
    · obtain ⟨i, e⟩ := slot_live hr c
      obtain ⟨m, h1, h2, h3⟩ := ih f (advM t.mask p) (by omega) hn
      refine ⟨m + 1, by omega, ?_, h3⟩
      unfold SetTable.probe.go
      rw [e]
      dsimp only
      rw [if_neg (by simp; omega), advance_eq, h2, advM_dummy]; rfl
    · refine ⟨0, Nat.zero_le _, ?_, c⟩
      unfold SetTable.probe.go
      have e : t.slot p.j = .empty := slot_empty hd c
      rw [e]; rfl
def startM (mask : Nat) (h : Int) : SetTable.Probe := { j := SetTable.bits h % (mask + 1), more := SetTable.runEnd mask (SetTable.bits h % (mask + 1)) - SetTable.bits h % (mask + 1), i := SetTable.bits h % (mask + 1), perturb := SetTable.bits h, dummy := none }
def posM (mask N : Nat) (h : Int) : List Nat := (List.range N).map fun n => (iterM mask n (startM mask h)).j
theorem freeSlot_ok {t : SetTable} (hd : t.dummies = #[]) (hr : t.place.toList.Pairwise (· < ·)) {h : Int} {N : Nat} (hN : N ≤ 10) (hs : t.place.size < N) (hnd : (posM t.mask N h).Nodup) (hle : ∀ j ∈ posM t.mask N h, j ≤ t.mask) :
    ∃ j, t.freeSlot h = some (j, false) ∧ j ∉ t.place.toList ∧ j ≤ t.mask := by
  have hex : ∃ n, n < N ∧ (iterM t.mask n (startM t.mask h)).j ∉ t.place.toList := by
    refine Classical.byContradiction fun hc => ?_
    have hsub : posM t.mask N h ⊆ t.place.toList := by
      intro j hj
      obtain ⟨n, hn, e⟩ := List.mem_map.mp hj
      refine Classical.byContradiction fun hm => hc ⟨n, List.mem_range.mp hn, ?_⟩
      rw [e]; exact hm
    have := List.Nodup.length_le_of_subset hnd hsub
    unfold posM at this
    simp at this
    omega
  obtain ⟨n, hn, hf⟩ := hex
  obtain ⟨m, h1, h2, h3⟩ := go_free hd hr h n (10 * SetTable.turns t.mask) (startM t.mask h) (by unfold SetTable.turns; omega) hf
  refine ⟨_, ?_, h3, hle _ (List.mem_map.mpr ⟨m, List.mem_range.mpr (by omega), rfl⟩)⟩
  unfold SetTable.freeSlot
  have e : t.probe (fun _ => h + 1) h (t.probeStart h) = some (.empty (iterM t.mask m (startM t.mask h)).j none) := h2
  rw [e]; rfl
theorem pos7 : ∀ h : Int, 1 ≤ h → h ≤ 9 → (posM 7 8 h).Nodup ∧ ∀ j ∈ posM 7 8 h, j ≤ 7 := by
  intro h h1 h2
  have : h = 1 ∨ h = 2 ∨ h = 3 ∨ h = 4 ∨ h = 5 ∨ h = 6 ∨ h = 7 ∨ h = 8 ∨ h = 9 := by omega
  rcases this with rfl | rfl | rfl | rfl | rfl | rfl | rfl | rfl | rfl <;> decide +kernel
theorem pos31 : ∀ h : Int, 1 ≤ h → h ≤ 9 → (posM 31 10 h).Nodup ∧ ∀ j ∈ posM 31 10 h, j ≤ 31 := by
  intro h h1 h2
  have : h = 1 ∨ h = 2 ∨ h = 3 ∨ h = 4 ∨ h = 5 ∨ h = 6 ∨ h = 7 ∨ h = 8 ∨ h = 9 := by omega
  rcases this with rfl | rfl | rfl | rfl | rfl | rfl | rfl | rfl | rfl <;> decide +kernel
theorem insertAt_toList {α : Type} (xs : Array α) (p : Nat) (x : α) : (SetTable.insertAt xs p x).toList = xs.toList.take p ++ x :: xs.toList.drop p := by
  unfold SetTable.insertAt
  have e1 : (xs.extract 0 p).toList = xs.toList.take p := by simp [Array.toList_extract]
  have e2 : (xs.extract p xs.size).toList = xs.toList.drop p := by
    rw [Array.toList_extract, List.extract_eq_take_drop]
    exact List.take_of_length_le (by simp)
  rw [Array.toList_append, Array.toList_push, e1, e2, List.append_assoc]; rfl
structure TabI (t : SetTable) (n : Nat) : Prop where
  dm : t.dummies = #[]
  pl : t.plain = true
  ld : t.led = true
  rs : t.place.toList.Pairwise (· < ·)
  le : ∀ j ∈ t.place.toList, j ≤ t.mask
  sz : t.place.size = n
  mkk : (t.mask = 7 ∧ n ≤ 4) ∨ (t.mask = 31 ∧ n ≤ 9)
theorem TabI.fresh : TabI (.fresh 0 0 true) 0 := ⟨rfl, rfl, rfl, List.Pairwise.nil, fun _ h => (by cases h), rfl, .inl ⟨rfl, by omega⟩⟩
theorem TabI.free {t : SetTable} {n : Nat} (h : TabI t n) (hn : n ≤ 8) {k : Int} (k1 : 1 ≤ k) (k2 : k ≤ 9) : ∃ j, t.freeSlot k = some (j, false) ∧ j ∉ t.place.toList ∧ j ≤ t.mask := by
  have hs := h.sz
  rcases h.mkk with ⟨m, l⟩ | ⟨m, l⟩
  · have p := pos7 k k1 k2
    exact freeSlot_ok h.dm h.rs (N := 8) (by omega) (by omega) (by rw [m]; exact p.1) (by rw [m]; exact p.2)
  · have p := pos31 k k1 k2
    exact freeSlot_ok h.dm h.rs (N := 10) (by omega) (by omega) (by rw [m]; exact p.1) (by rw [m]; exact p.2)
theorem put_place {t : SetTable} (hr : t.place.toList.Pairwise (· < ·)) (hd : t.dummies = #[]) {j : Nat} (hj : j ∉ t.place.toList) :
    (t.put j).1 = { t with place := SetTable.insertAt t.place (SetTable.below t.place j) j } ∧ (SetTable.insertAt t.place (SetTable.below t.place j) j).toList.Pairwise (· < ·) ∧ ∀ x, x ∈ (SetTable.insertAt t.place (SetTable.below t.place j) j).toList ↔ (x = j ∨ x ∈ t.place.toList) := by
  obtain ⟨b1, b2, b3⟩ := below_spec hr j
  have hl := insertAt_toList t.place (SetTable.below t.place j) j
  have hg : ∀ i (hi : i < t.place.toList.length), t.place.toList[i] = t.place.getD i 0 := by
    intro i hi
    have hi' : i < t.place.size := by simpa using hi
    simp [Array.getD, hi']
  refine ⟨?_, ?_, ?_⟩
  · unfold SetTable.put
    dsimp only
    have e : SetTable.has t.dummies j = false := by rw [hd]; rfl
    rw [e]; simp
  · rw [hl, List.pairwise_append]
    refine ⟨hr.sublist (List.take_sublist _ _), ?_, ?_⟩
    · rw [List.pairwise_cons]
      refine ⟨fun x hx => ?_, hr.sublist (List.drop_sublist _ _)⟩
      obtain ⟨i, hi, e⟩ := List.getElem_of_mem hx
      rw [List.getElem_drop] at e
      have hi' : SetTable.below t.place j + i < t.place.toList.length := by rw [List.length_drop] at hi; omega
      have q := b3 (SetTable.below t.place j + i) (by omega) (by simpa using hi')
      rw [← hg _ hi', e] at q
      have : x ∈ t.place.toList := List.mem_of_mem_drop hx
      have : x ≠ j := fun e => hj (e ▸ this)
      omega
    · intro a ha b hb
      obtain ⟨i, hi, e⟩ := List.getElem_of_mem ha
      rw [List.getElem_take] at e
      rw [List.length_take] at hi
      have hi' : i < t.place.toList.length := by omega
      have q := b2 i (by omega)
      rw [← hg _ hi', e] at q
      rcases List.mem_cons.mp hb with rfl | hb
      · exact q
      · obtain ⟨i2, hi2, e2⟩ := List.getElem_of_mem hb
        rw [List.getElem_drop] at e2
        have hi2' : SetTable.below t.place j + i2 < t.place.toList.length := by rw [List.length_drop] at hi2; omega
        have q2 := b3 (SetTable.below t.place j + i2) (by omega) (by simpa using hi2')
        rw [← hg _ hi2', e2] at q2
        omega
  · intro x
    rw [hl, List.mem_append, List.mem_cons]
    constructor
    · rintro (h | h | h)
      · exact .inr (List.mem_of_mem_take h)
      · exact .inl h
      · exact .inr (List.mem_of_mem_drop h)
    · rintro (h | h)
      · exact .inr (.inl h)
      · rw [← List.take_append_drop (SetTable.below t.place j) t.place.toList] at h
        rcases List.mem_append.mp h with h | h
        · exact .inl h
        · exact .inr (.inr h)
theorem bits_small : ∀ h : Int, 1 ≤ h → h ≤ 9 → SetTable.bits h % 32 = h.toNat := by
  intro h h1 h2
  have : h = 1 ∨ h = 2 ∨ h = 3 ∨ h = 4 ∨ h = 5 ∨ h = 6 ∨ h = 7 ∨ h = 8 ∨ h = 9 := by omega
  rcases this with rfl | rfl | rfl | rfl | rfl | rfl | rfl | rfl | rfl <;> decide +kernel
structure Own (owner : Array (Option Nat)) (l : List Int) : Prop where
  sz : owner.size = 32
  at' : ∀ j : Nat, j < 32 → owner[j]? = some (if (j : Int) ∈ l then some (l.idxOf (j : Int)) else none)
def layF (acc : Option (Array (Option Nat) × Nat)) (h : Int) : Option (Array (Option Nat) × Nat) := do
  let (owner, k) ← acc
  let j ← SetTable.layClean.free 31 owner (SetTable.turns 31) (SetTable.bits h % (31 + 1)) (SetTable.bits h)
  pure (owner.setIfInBounds j (some k), k + 1)
theorem Own.free {owner : Array (Option Nat)} {l : List Int} (o : Own owner l) {h : Int} (h1 : 1 ≤ h) (h2 : h ≤ 9) (hn : h ∉ l) :
    SetTable.layClean.free 31 owner (SetTable.turns 31) (SetTable.bits h % (31 + 1)) (SetTable.bits h) = some h.toNat := by
  have e : SetTable.bits h % (31 + 1) = h.toNat := bits_small h h1 h2
  rw [e, show SetTable.turns 31 = 45 + 1 from rfl]
  unfold SetTable.layClean.free
  have hr : SetTable.runEnd 31 h.toNat + 1 - h.toNat = 9 + 1 := by unfold SetTable.runEnd; rw [if_pos (by omega)]; omega
  have hj := o.at' h.toNat (by omega)
  rw [if_neg (by rw [show ((h.toNat : Nat) : Int) = h by omega]; exact hn)] at hj
  have hf : (List.range (SetTable.runEnd 31 h.toNat + 1 - h.toNat)).find? (fun k => (owner.getD (h.toNat + k) (some 0)).isNone) = some 0 := by
    rw [hr, List.range_succ_eq_map]
    refine List.find?_cons_of_pos ?_
    have hlt : h.toNat < owner.size := by rw [o.sz]; omega
    have : owner[h.toNat] = none := by rw [Array.getElem?_eq_getElem hlt] at hj; exact Option.some.inj hj
    simp [Array.getD, hlt, this]
  rw [hf]; rfl
theorem idxOf_snoc {l : List Int} {h x : Int} (hx : x ∈ l) : (l ++ [h]).idxOf x = l.idxOf x := by
  rw [List.idxOf_append, if_pos hx]
theorem idxOf_snoc_self {l : List Int} {h : Int} (hx : h ∉ l) : (l ++ [h]).idxOf h = l.length := by
  rw [List.idxOf_append, if_neg hx]; simp
theorem Own.step {owner : Array (Option Nat)} {l : List Int} (o : Own owner l) {h : Int} (h1 : 1 ≤ h) (h2 : h ≤ 9) (hn : h ∉ l) : Own (owner.setIfInBounds h.toNat (some l.length)) (l ++ [h]) := by
  refine ⟨by rw [Array.size_setIfInBounds]; exact o.sz, fun j hj => ?_⟩
  have hlt : h.toNat < owner.size := by rw [o.sz]; omega
  by_cases c : (j : Int) = h
  · have : h.toNat = j := by omega
    subst this
    rw [Array.getElem?_setIfInBounds_self_of_lt hlt, if_pos (by rw [c]; simp), c, idxOf_snoc_self hn]
  · rw [Array.getElem?_setIfInBounds_ne (by omega), o.at' j hj]
    by_cases d : (j : Int) ∈ l
    · rw [if_pos d, if_pos (List.mem_append_left _ d), idxOf_snoc d]
    · rw [if_neg d, if_neg (fun q => by
        rcases List.mem_append.mp q with q | q
        · exact d q
        · exact c (List.mem_singleton.mp q))]
theorem layF_fold : ∀ (l pre : List Int) (owner : Array (Option Nat)), Own owner pre → (pre ++ l).Nodup → (∀ h ∈ l, 1 ≤ h ∧ h ≤ 9) → ∃ owner', l.foldl layF (some (owner, pre.length)) = some (owner', (pre ++ l).length) ∧ Own owner' (pre ++ l)
  | [], pre, owner, o, _, _ => ⟨owner, by simp, by simpa using o⟩
  | h :: r, pre, owner, o, hd, hr => by
    have hn : h ∉ pre := fun q => by
      rw [List.nodup_append] at hd
      exact hd.2.2 h q h (.head _) rfl
    have hh := hr h (.head _)
    have e : layF (some (owner, pre.length)) h = some (owner.setIfInBounds h.toNat (some pre.length), pre.length + 1) := by
      unfold layF
      have := o.free hh.1 hh.2 hn
      simp only [Option.bind_eq_bind, Option.bind_some, this]
      rfl
    obtain ⟨owner', e2, o2⟩ := layF_fold r (pre ++ [h]) _ (o.step hh.1 hh.2 hn) (by rw [List.append_assoc]; exact hd) (fun x hx => hr x (.tail _ hx))
    rw [List.append_assoc] at e2 o2
    refine ⟨owner', ?_, o2⟩
    rw [List.foldl_cons, e]
    rw [List.length_append] at e2
    exact e2
theorem layClean_ok {l : List Int} (hd : l.Nodup) (hr : ∀ h ∈ l, 1 ≤ h ∧ h ≤ 9) : ∃ owner, SetTable.layClean 31 l.toArray = some owner ∧ Own owner l := by
  have o0 : Own (Array.replicate 32 none) [] := ⟨by simp, fun j hj => by simp [hj]⟩
  obtain ⟨owner, e, o⟩ := layF_fold l [] _ o0 hd hr
  refine ⟨owner, ?_, o⟩
  have : SetTable.layClean 31 l.toArray = (l.toArray.foldl layF (some (Array.replicate (31 + 1) none, 0))).map (·.1) := rfl
  rw [this, ← Array.foldl_toList]
  have e' : List.foldl layF (some (Array.replicate (31 + 1) none, 0)) l.toArray.toList = some (owner, ([] ++ l).length) := e
  rw [e']; rfl
def liveF (l : List Int) (j : Nat) : Option (Nat × Nat) := if (j : Int) ∈ l then some (j, l.idxOf (j : Int)) else none
theorem laid_ok {l : List Int} (hd : l.Nodup) (hr : ∀ h ∈ l, 1 ≤ h ∧ h ≤ 9) (fi mo : Nat) (ld pl : Bool) : ∃ (place order : List Nat), SetTable.laid 31 fi mo ld pl l.toArray = some ({ mask := 31, place := place.toArray, dummies := #[], finger := fi, led := ld, moves := mo, plain := pl }, order.toArray) ∧
    place.Pairwise (· < ·) ∧ (∀ j ∈ place, j ≤ 31) ∧ order.Perm (List.range l.length) ∧ place.length = l.length := by
  obtain ⟨owner, e, o⟩ := layClean_ok hd hr
  have hlive : (List.range (31 + 1)).filterMap (fun j => (owner.getD j none).map (j, ·)) = (List.range 32).filterMap (liveF l) := by
    have key : ∀ ms : List Nat, (∀ j ∈ ms, j < 32) → ms.filterMap (fun j => (owner.getD j none).map (j, ·)) = ms.filterMap (liveF l) := by
      intro ms
      induction ms with
      | nil => intro _; rfl
      | cons j r ih =>
        intro hm
        have hj := hm j (.head _)
        have q := o.at' j hj
        have hlt : j < owner.size := by rw [o.sz]; exact hj
        rw [Array.getElem?_eq_getElem hlt] at q
        have q := Option.some.inj q
        have e1 : (owner.getD j none).map (j, ·) = liveF l j := by
          unfold liveF
          have : owner.getD j none = owner[j] := by simp [Array.getD, hlt]
          rw [this, q]; split <;> rfl
        rw [List.filterMap_cons, List.filterMap_cons, e1, ih (fun x hx => hm x (.tail _ hx))]
    exact key _ (fun j hj => List.mem_range.mp hj)
  have hperm : (((List.range 32).filterMap (liveF l)).map (·.2)).Perm (List.range l.length) := by
    have inj : ∀ a b : Int, a ∈ l → b ∈ l → l.idxOf a = l.idxOf b → a = b := by
      intro a b ha hb hab
      have e1 := List.getElem_idxOf (List.idxOf_lt_length_of_mem ha)
      have e2 := List.getElem_idxOf (List.idxOf_lt_length_of_mem hb)
      rw [← e1, ← e2]; simp only [hab]
    have nd : (((List.range 32).filterMap (liveF l)).map (·.2)).Nodup := by
      rw [List.Nodup, List.pairwise_map]
      refine List.Pairwise.filterMap _ (R := (· < ·)) (fun a a' h b hb b' hb' => ?_) List.pairwise_lt_range
      unfold liveF at hb hb'
      split at hb <;> simp at hb
      split at hb' <;> simp at hb'
      rename_i m1 m2
      subst hb; subst hb'
      intro q
      have := inj _ _ m1 m2 q
      omega
    rw [List.perm_ext_iff_of_nodup nd List.nodup_range]
    intro i
    rw [List.mem_map, List.mem_range]
    constructor
    · rintro ⟨p, hp, rfl⟩
      obtain ⟨a, ha, e⟩ := List.mem_filterMap.mp hp
      unfold liveF at e
      split at e <;> simp at e
      rename_i m1
      subst e
      exact List.idxOf_lt_length_of_mem m1
    · intro hi
      have hm : l[i] ∈ l := List.getElem_mem hi
      have hh := hr _ hm
      refine ⟨(l[i].toNat, i), List.mem_filterMap.mpr ⟨l[i].toNat, List.mem_range.mpr (by omega), ?_⟩, rfl⟩
      unfold liveF
      rw [show ((l[i].toNat : Nat) : Int) = l[i] by omega, if_pos hm]
      have : l.idxOf l[i] = i := by
        have h1 := List.idxOf_lt_length_of_mem hm
        have e1 := List.getElem_idxOf h1
        rcases Nat.lt_trichotomy (l.idxOf l[i]) i with c | c | c
        · exact absurd e1 (List.pairwise_iff_getElem.mp hd _ _ h1 hi c)
        · exact c
        · exact absurd e1.symm (List.pairwise_iff_getElem.mp hd _ _ hi h1 c)
      rw [this]
  refine ⟨((List.range 32).filterMap (liveF l)).map (·.1), ((List.range 32).filterMap (liveF l)).map (·.2), ?_, ?_, ?_, ?_, ?_⟩
  · unfold SetTable.laid
    rw [e]
    simp only [Option.bind_eq_bind, Option.bind_some]
    rw [hlive]; rfl
  · rw [List.pairwise_map]
    refine List.Pairwise.filterMap _ (R := (· < ·)) (fun a a' h b hb b' hb' => ?_) List.pairwise_lt_range
    unfold liveF at hb hb'
    split at hb <;> simp at hb
    split at hb' <;> simp at hb'
    subst hb; subst hb'; exact h
  · intro j hj
    obtain ⟨p, hp, rfl⟩ := List.mem_map.mp hj
    obtain ⟨a, ha, e⟩ := List.mem_filterMap.mp hp
    have := List.mem_range.mp ha
    unfold liveF at e
    split at e <;> simp at e
    subst e; dsimp only; omega
  · exact hperm
  · have := hperm.length_eq
    rw [List.length_map, List.length_range] at this
    rw [List.length_map]; exact this
theorem add_tab {t : SetTable} {n : Nat} (T : TabI t n) (hn : n ≤ 8) {es : Array (Int × Value)} (hz : es.size = n) {k : Int} {x : Value} (hd : (es.toList.map (·.1) ++ [k]).Nodup) (hr : ∀ h ∈ es.toList.map (·.1) ++ [k], 1 ≤ h ∧ h ≤ 9) :
    (layNew t es k x).2.2.1 = false ∧ ((layNew t es k x).2.1.tooFull = true → TabI (relayAll (layNew t es k x).2.1 (layNew t es k x).1 (SetTable.grown (layNew t es k x).1.size)).2.1 (n + 1)) ∧ ((layNew t es k x).2.1.tooFull = false → TabI (layNew t es k x).2.1 (n + 1)) := by
  have hk := hr k (List.mem_append_right _ (.head _))
  obtain ⟨j, e, hj, hle⟩ := T.free hn hk.1 hk.2
  obtain ⟨p1, p2, p3⟩ := put_place T.rs T.dm hj
  have hsz1 : (SetTable.insertAt t.place (SetTable.below t.place j) j).size = n + 1 := by
    rw [← Array.length_toList, insertAt_toList, List.length_append, List.length_cons, Nat.add_succ, ← List.length_append, List.take_append_drop, Array.length_toList, T.sz]
  have hes : (SetTable.insertAt es (t.put j).2 (k, x)).size = n + 1 := by
    rw [← Array.length_toList, insertAt_toList, List.length_append, List.length_cons, Nat.add_succ, ← List.length_append, List.take_append_drop, Array.length_toList, hz]
  have hmk : n + 1 ≤ t.mask := by rcases T.mkk with ⟨m, l⟩ | ⟨m, l⟩ <;> omega
  have hfit : (t.put j).1.fits (SetTable.insertAt es (t.put j).2 (k, x)).size = true := by
    rw [p1, hes]
    unfold SetTable.fits SetTable.fill
    simp [hsz1, T.dm]
    exact hmk
  have hL : layNew t es k x = (SetTable.insertAt es (t.put j).2 (k, x), (t.put j).1, false, !((t.put j).1.fits (SetTable.insertAt es (t.put j).2 (k, x)).size)) := by
    unfold layNew
    rw [e]
    dsimp only
    unfold SetTable.orStandIn
    rw [hfit]; rfl
  rw [hL]
  dsimp only
  have hfill : (t.put j).1.fill = n + 1 := by rw [p1]; unfold SetTable.fill; simp [hsz1, T.dm]
  have hmask : (t.put j).1.mask = t.mask := by rw [p1]
  refine ⟨rfl, fun hf => ?_, fun hf => ?_⟩
  · have hf : (t.put j).1.fill * 5 ≥ (t.put j).1.mask * 3 := by unfold SetTable.tooFull at hf; simpa using hf
    rw [hfill, hmask] at hf
    have hn4 : n = 4 ∧ t.mask = 7 := by rcases T.mkk with ⟨m, l⟩ | ⟨m, l⟩ <;> omega
    obtain ⟨rfl, hm7⟩ := hn4
    rw [hes]
    have hperm : ((SetTable.insertAt es (t.put j).2 (k, x)).toList.map (·.1)).Perm (es.toList.map (·.1) ++ [k]) := by
      rw [insertAt_toList]
      have : (es.toList.take (t.put j).2 ++ (k, x) :: es.toList.drop (t.put j).2).Perm (es.toList ++ [(k, x)]) := by
        refine (List.perm_middle).trans ?_
        rw [List.take_append_drop]
        exact (List.perm_append_singleton _ _).symm
      have h2 := this.map (·.1)
      rw [List.map_append (l₁ := es.toList)] at h2
      exact h2
    have nd := hperm.nodup_iff.mpr hd
    have rg : ∀ h ∈ (SetTable.insertAt es (t.put j).2 (k, x)).toList.map (·.1), 1 ≤ h ∧ h ≤ 9 := fun h hh => hr h (hperm.mem_iff.mp hh)
    have hmap : (SetTable.insertAt es (t.put j).2 (k, x)).map (·.1) = ((SetTable.insertAt es (t.put j).2 (k, x)).toList.map (·.1)).toArray := by
      apply Array.toList_inj.mp
      simp
    obtain ⟨place, order, e2, o1, o2, o3, o4⟩ := laid_ok nd rg (t.put j).1.finger ((t.put j).1.movedTo 31) (t.put j).1.led (t.put j).1.plain
    have hlen : ((SetTable.insertAt es (t.put j).2 (k, x)).toList.map (·.1)).length = 5 := by rw [List.length_map, Array.length_toList, hes]
    rw [hlen] at o3 o4
    have hrel : (t.put j).1.relaid ((SetTable.insertAt es (t.put j).2 (k, x)).map (·.1)) (SetTable.grown (4 + 1)) = some ({ mask := 31, place := place.toArray, dummies := #[], finger := (t.put j).1.finger, led := (t.put j).1.led, moves := (t.put j).1.movedTo 31, plain := (t.put j).1.plain }, order.toArray) := by
      have hs : SetTable.sizeAbove (SetTable.grown (4 + 1)) = 32 := by decide
      unfold SetTable.relaid
      rw [hs, hmap]; exact e2
    have hcov : coversAll order.toArray 5 = true := by
      unfold coversAll
      exact List.isPerm_iff.mpr o3
    have hes' : (order.toArray.filterMap ((SetTable.insertAt es (t.put j).2 (k, x))[·]?)).size = 5 := by
      rw [← Array.length_toList, Array.toList_filterMap]
      have h3 := (o3.filterMap (fun i => (SetTable.insertAt es (t.put j).2 (k, x))[i]?)).length_eq
      have h4 := filterMap_getElem?_range (SetTable.insertAt es (t.put j).2 (k, x))
      rw [hes] at h4
      rw [h4] at h3
      rw [h3, Array.length_toList, hes]
    unfold relayAll
    rw [hrel]
    dsimp only
    rw [hes, hcov, hes', if_pos (by simp [SetTable.fits, SetTable.fill, o4])]
    dsimp only
    exact ⟨rfl, by rw [p1]; exact T.pl, by rw [p1]; exact T.ld, o1, o2, by simpa using o4, .inr ⟨rfl, by omega⟩⟩
  · have hf : ¬ (t.put j).1.fill * 5 ≥ (t.put j).1.mask * 3 := by unfold SetTable.tooFull at hf; simpa using hf
    rw [hfill, hmask] at hf
    rw [p1]
    exact ⟨T.dm, T.pl, T.ld, p2, fun x hx => ((p3 x).mp hx).elim (fun e => by rw [e]; exact hle) (T.le x), hsz1, by rcases T.mkk with ⟨m, l⟩ | ⟨m, l⟩; exact .inl ⟨m, by omega⟩; exact .inr ⟨m, by omega⟩⟩
open PySem.Calls PySem.Spec PyProof.Rows
theorem hashInt_small {k : Int} (h1 : 1 ≤ k) (h2 : k ≤ 9) : hashInt k = k := by
  have : k = 1 ∨ k = 2 ∨ k = 3 ∨ k = 4 ∨ k = 5 ∨ k = 6 ∨ k = 7 ∨ k = 8 ∨ k = 9 := by omega
  rcases this with rfl | rfl | rfl | rfl | rfl | rfl | rfl | rfl | rfl <;> decide +kernel
theorem nine {ks : List Int} (hd : ks.Nodup) (hr : ∀ k ∈ ks, 1 ≤ k ∧ k ≤ 9) : ks.length ≤ 9 := by
  have : ks ⊆ [1, 2, 3, 4, 5, 6, 7, 8, 9] := fun k hk => by
    have := hr k hk
    have : k = 1 ∨ k = 2 ∨ k = 3 ∨ k = 4 ∨ k = 5 ∨ k = 6 ∨ k = 7 ∨ k = 8 ∨ k = 9 := by omega
    simpa using this
  exact List.Nodup.length_le_of_subset hd this
structure SetI (bt : Bool) (o : Obj) (ks : List Int) (es : Array (Int × Value)) (ep : Nat) (t : SetTable) : Prop where
  ex : o.ExactSet
  d : o.data = .set es ep t
  vals : ∃ ps : List (Int × Tok), ps.map (·.1) = ks ∧ es.toList.Perm (ps.map fun p => (hashInt p.1, Value.int p.1 p.2))
  nd : ks.Nodup
  rg : ∀ k ∈ ks, 1 ≤ k ∧ k ≤ 9
  fits : t.fits es.size = true
  tab : bt = false → TabI t ks.length
section
variable {prog : Program} {w : World} {bt : Bool} {o : Obj} {ks : List Int} {es : Array (Int × Value)} {ep : Nat} {t : SetTable}
theorem SetI.size (I : SetI bt o ks es ep t) : es.size = ks.length := by
  obtain ⟨ps, e, p⟩ := I.vals
  rw [← Array.length_toList, p.length_eq, List.length_map, ← e, List.length_map]
theorem SetI.elems (I : SetI bt o ks es ep t) : ElemsOf (intKind prog w) es.toList := by
  obtain ⟨ps, e, p⟩ := I.vals
  intro x hx
  obtain ⟨q, hq, rfl⟩ := List.mem_map.mp (p.mem_iff.mp hx)
  exact ⟨⟨q.1, by simp [intKind, Value.isInt], rfl⟩, rfl⟩
theorem SetI.mem (I : SetI bt o ks es ep t) (k : Int) : (∃ e ∈ es.toList, (intKind prog w).is k e.2 = true) ↔ k ∈ ks := by
  obtain ⟨ps, e, p⟩ := I.vals
  rw [← e, List.mem_map]
  constructor
  · rintro ⟨x, hx, h⟩
    obtain ⟨q, hq, rfl⟩ := List.mem_map.mp (p.mem_iff.mp hx)
    refine ⟨q, hq, ?_⟩
    simpa [intKind, Value.isInt] using h
  · rintro ⟨q, hq, rfl⟩
    exact ⟨_, p.mem_iff.mpr (List.mem_map.mpr ⟨q, hq, rfl⟩), by simp [intKind, Value.isInt]⟩
theorem SetI.hashes (I : SetI bt o ks es ep t) : (es.toList.map (·.1)).Perm ks := by
  obtain ⟨ps, e, p⟩ := I.vals
  have h1 := p.map (·.1)
  rw [List.map_map] at h1
  have : ps.map ((fun x : Int × Value => x.1) ∘ fun p => (hashInt p.1, Value.int p.1 p.2)) = ks := by
    rw [← e]
    refine List.map_congr_left fun q hq => ?_
    have := I.rg q.1 (by rw [← e]; exact List.mem_map_of_mem hq)
    exact hashInt_small this.1 this.2
  rw [this] at h1
  exact h1
variable {A : Around} {E : Value → Shared → Prop} {s : Shared}
set_option maxHeartbeats 1600000 in
theorem setI_add {a : Addr} {k : Int} {tok : Tok} {Q : Bool → Shared → Prop} (ho : s.heap.get? a = some o) (I : SetI bt o ks es ep t) (k1 : 1 ≤ k) (k2 : k ≤ 9)
    (h : ∀ b h' o' es' ep' t', Heap.SameBut a s.heap h' → h'.get? a = some o' → SetI bt o' (if k ∈ ks then ks else ks ++ [k]) es' ep' t' → Q b { s with heap := h' }) :
    wpAny (model prog w) A (setAddHashed a (.int k tok) (hashInt k)) Q E s := by
  have hel := I.elems (prog := prog) (w := w)
  have hmem := I.mem (prog := prog) (w := w) k
  have hsize := I.size
  have h9 := nine I.nd I.rg
  have hkey : (intKind prog w).is k (.int k tok) = true := by simp [intKind, Value.isInt]
  have hsc : (Value.int k tok).scannable = true := rfl
  have hbd : scanBound = 4096 := rfl
  unfold setAddHashed setAddHashedIn
  refine wpAny_holding (wpAny_bind (wpAny_setState_of ho I.d I.fits ?_))
  dsimp only
  rw [byScan_of hsc (by omega) hel]
  simp only [↓reduceIte]
  unfold setAddByScan
  refine wpAny_bind ?_
  refine wpAny_bind (wpAny_rule ?_)
  refine wpAny_bind (wpAny_setScan_of (knd := intKind prog w) (k := k) hkey ho I.d I.fits hel ?_)
  cases hr : List.findIdx? (fun e => (intKind prog w).is k e.2) es.toList with
  | some j =>
    dsimp only
    obtain ⟨hj, hpj, _⟩ := List.findIdx?_eq_some_iff_getElem.mp hr
    have hk : k ∈ ks := hmem.mp ⟨es.toList[j], List.getElem_mem hj, hpj⟩
    refine wpAny_pure (wpAny_pure ?_)
    have := h false s.heap o es ep t (Heap.SameBut.refl a s.heap) ho (by rw [if_pos hk]; exact I)
    exact this
  | none =>
    dsimp only
    have hk : k ∉ ks := fun hk => by
      obtain ⟨e, he, hp⟩ := hmem.mpr hk
      have := List.findIdx?_eq_none_iff.mp hr e he
      rw [hp] at this; exact Bool.noConfusion this
    have hnd : (ks ++ [k]).Nodup := by
      rw [List.nodup_append]
      refine ⟨I.nd, by simp, fun a ha b hb => ?_⟩
      rw [List.mem_singleton] at hb
      subst hb; exact fun e => hk (e ▸ ha)
    have hrg : ∀ x ∈ ks ++ [k], 1 ≤ x ∧ x ≤ 9 := fun x hx => by
      rcases List.mem_append.mp hx with hx | hx
      · exact I.rg x hx
      · rw [List.mem_singleton.mp hx]; exact ⟨k1, k2⟩
    have h8 : ks.length ≤ 8 := by
      have := nine hnd hrg
      rw [List.length_append] at this
      simp at this; omega
    have hhk : hashInt k = k := hashInt_small k1 k2
    have hP : (es.toList.map (·.1) ++ [k]).Perm (ks ++ [k]) := I.hashes.append_right [k]
    have tabs := fun hbt : bt = false => add_tab (I.tab hbt) h8 (es := es) hsize (k := hashInt k) (x := .int k tok) (by rw [hhk]; exact hP.nodup_iff.mpr hnd) (by rw [hhk]; exact fun x hx => hrg x (hP.mem_iff.mp hx))
    have valsOf : ∀ es' : Array (Int × Value), es'.toList.Perm (es.toList ++ [(hashInt k, Value.int k tok)]) → ∃ ps : List (Int × Tok), ps.map (·.1) = ks ++ [k] ∧ es'.toList.Perm (ps.map fun p => (hashInt p.1, Value.int p.1 p.2)) := by
      intro es' hp
      obtain ⟨ps, e, p⟩ := I.vals
      refine ⟨ps ++ [(k, tok)], by rw [List.map_append, e]; rfl, hp.trans ?_⟩
      rw [List.map_append]
      exact p.append_right _
    have hperm := layNew_perm t es (hashInt k) (.int k tok)
    have hfits := layNew_fits t es (hashInt k) (.int k tok)
    generalize hL : layNew t es (hashInt k) (.int k tok) = L at hperm hfits tabs ⊢
    obtain ⟨es1, t1, wasDummy, gave⟩ := L
    dsimp only at hperm hfits tabs ⊢
    rw [Array.toList_push] at hperm
    have hsz1 : es1.size = ks.length + 1 := by rw [← Array.length_toList, hperm.length_eq, List.length_append, Array.length_toList, hsize]; rfl
    have hgw : ∀ (b : Bool) {s₁ : Shared} {Q' : Unit → Shared → Prop}, Q' () s₁ → wpAny (model prog w) A (match b with | true => rule "set.scan.the-table-gave-way" | false => pure ()) Q' E s₁ :=
      fun b s₁ Q' hq => by cases b <;> first | exact wpAny_pure hq | exact wpAny_rule hq
    have fin : ∀ (h' : Heap) (o' : Obj) (es' : Array (Int × Value)) (ep' : Nat) (t' : SetTable), Heap.SameBut a s.heap h' → h'.get? a = some o' → o'.ExactSet → o'.data = .set es' ep' t' → es'.toList.Perm (es.toList ++ [(hashInt k, Value.int k tok)]) → t'.fits es'.size = true → (bt = false → TabI t' (ks.length + 1)) → Q true { s with heap := h' } := by
      intro h' o' es' ep' t' sb ho' hx hd hp hf ht
      refine h true h' o' es' ep' t' sb ho' ?_
      rw [if_neg hk]
      exact ⟨hx, hd, valsOf es' hp, hnd, hrg, hf, fun hb => by rw [List.length_append]; exact ht hb⟩
    have storedAt : ∀ {h₁ : Heap} {o₁ : Obj} {es₀ : Array (Int × Value)} {ep₀ : Nat} {t₀ : SetTable} (es' : Array (Int × Value)) (t' : SetTable), h₁.get? a = some o₁ → o₁.data = .set es₀ ep₀ t₀ → (h₁.update a (Obj.putSet es' t')).get? a = some { o₁ with data := .set es' (ep₀ + 1) t' } := by
      intro h₁ o₁ es₀ ep₀ t₀ es' t' ho₁ hd₁
      have := Heap.get?_update_self (Obj.putSet es' t') ho₁ (by rw [putSet_of es' t' hd₁]; rfl)
      rw [putSet_of es' t' hd₁] at this; exact this
    have tail : wpAny (model prog w) A (do
        storeSet a es1 t1
        if (!wasDummy && t1.tooFull) = true then do
            (match (relayAll t1 es1 (SetTable.grown es1.size)).2.2 with | true => rule "set.scan.the-table-gave-way" | false => pure ())
            storeSet a (relayAll t1 es1 (SetTable.grown es1.size)).1 (relayAll t1 es1 (SetTable.grown es1.size)).2.1
            pure (some true)
          else pure (some true)) (fun r s' => wpAny (model prog w) A (match r with | some added => pure added | none => setAddHashedIn a (.int k tok) (hashInt k) 99999) Q E s') E s := by
      refine wpAny_bind (wpAny_storeSet_of ho I.d ?_ (fits_of_scanBound (by omega)))
      have ho1 := storedAt es1 t1 ho I.d
      have sb1 := Heap.SameBut.update s.heap a (Obj.putSet es1 t1)
      split
      · rename_i hc
        simp only [Bool.and_eq_true, Bool.not_eq_true'] at hc
        have hp2 := relayAll_perm t1 es1 (SetTable.grown es1.size)
        have hf2 := relayAll_fits t1 es1 (SetTable.grown es1.size)
        have tb : bt = false → TabI (relayAll t1 es1 (SetTable.grown es1.size)).2.1 (ks.length + 1) := fun hb => (tabs hb).2.1 hc.2
        refine wpAny_bind (hgw _ ?_)
        have hz2 : (relayAll t1 es1 (SetTable.grown es1.size)).1.size = ks.length + 1 := by rw [← Array.length_toList, hp2.length_eq, Array.length_toList, hsz1]
        refine wpAny_bind (wpAny_storeSet_of ho1 rfl ?_ (fits_of_scanBound (by omega)))
        refine wpAny_pure (wpAny_pure ?_)
        exact fin _ _ _ _ _ (sb1.trans (Heap.SameBut.update _ a _)) (storedAt _ _ ho1 rfl) I.ex rfl (hp2.trans hperm) hf2 tb
      · rename_i hc
        have hnf : bt = false → t1.tooFull = false := fun hb => by
          have := (tabs hb).1
          subst this
          simpa using hc
        exact wpAny_pure (wpAny_pure (fin _ _ _ _ _ sb1 ho1 I.ex rfl hperm hfits fun hb => (tabs hb).2.2 (hnf hb)))
    refine wpAny_bind (hgw _ ?_)
    split
    · refine wpAny_bind ?_
      rw [hashByValue_scannable 8 hsc]
      refine wpAny_pure ?_
      exact tail
    · refine wpAny_bind (wpAny_pure ?_)
      simp only [↓reduceIte]
      exact tail
end
theorem map_getD (ns : List Int) : (List.range ns.length).map (fun i => ns.getD i 0) = ns := by
  refine List.ext_getElem (by simp) fun i h1 h2 => ?_
  rw [List.getElem_map, List.getElem_range, List.getD_eq_getElem?_getD, List.getElem?_eq_getElem h2]; rfl
def ddS (ks : List Int) (k : Int) : List Int := if k ∈ ks then ks else ks ++ [k]
def ddI (val : Nat → Int) (i : Nat) : List Int := ((List.range i).map val).foldl ddS []
theorem ddI_succ (val : Nat → Int) (i : Nat) : ddI val (i + 1) = ddS (ddI val i) (val i) := by
  unfold ddI; rw [List.range_succ, List.map_append, List.foldl_append]; rfl
def SetHas (bt : Bool) (h : Heap) (a : Addr) (ks : List Int) : Prop := ∃ o es ep t, h.get? a = some o ∧ SetI bt o ks es ep t
theorem SetHas.at' {bt : Bool} {h h' : Heap} {a : Addr} {ks : List Int} (x : SetHas bt h a ks) (e : ∀ o, h.get? a = some o → h'.get? a = some o) : SetHas bt h' a ks := by
  obtain ⟨o, es, ep, t, ho, I⟩ := x
  exact ⟨o, es, ep, t, e o ho, I⟩
theorem SetHas.fresh {bt : Bool} {h : Heap} {a : Addr} {led : Bool} (ho : h.get? a = some { cls := .type "set", dict := none, data := .set #[] 0 (.fresh 0 0 led) }) (hb : bt = false → led = true) : SetHas bt h a [] := by
  refine ⟨_, #[], 0, .fresh 0 0 led, ho, ⟨rfl, rfl, rfl⟩, rfl, ⟨[], rfl, .refl _⟩, List.nodup_nil, (fun _ h => nomatch h), rfl, fun e => ?_⟩
  rw [hb e]; exact TabI.fresh
section
variable {prog : Program} {w : World} {bt : Bool} {A : Around} {R : Result → Shared → Prop} {I : Addr} {fp wr : List Addr} {G : Array GenState → Array GenState → Prop} {n : Nat} {P : Nat → Value → Prop} {St : Nat → Shared → Prop}
theorem set_loop (W : WalksS prog w A.in1 I fp wr G n P St) (S : Addr) (hSf : S ∉ fp) (val : Nat → Int) (hval : ∀ i v, P i v → ∃ t, v = .int (val i) t) (hv : ∀ i, i < n → 1 ≤ val i ∧ val i ≤ 9) :
    ∀ (k i : Nat) (s : Shared), n - i = k → i ≤ n → St i s → SetHas bt s.heap S (ddI val i) →
      (∀ s', Moved (S :: wr) G s s' → SetHas bt s'.heap S (ddI val n) → R (.ok (.ret .none)) s') →
      codeAny (model prog w) A (.builtin "set.update.loop" ⟨[.ref S, .ref I], []⟩) R s := by
  have hSw : S ∉ wr := fun h => hSf (W.sub _ h)
  have hsub : ∀ b ∈ wr, b ∈ S :: wr := fun b hb => List.mem_cons_of_mem _ hb
  intro k
  induction k with
  | zero =>
    intro i s hk hi hst hS hR
    have hin : i = n := by omega
    subst hin
    refine codeAny_builtin PyProof.Rows.F.entry_set_update_loop ?_
    rw [Around.under_plainId PyProof.Rows.F.plain_set_update_loop _]
    show wpAny _ A.in1 (pyNext (.ref I) >>= _) _ _ s
    refine wpAny_bind (W.done s _ _ hst fun s' hm => ?_)
    show wpAny _ A.in1 (ret Value.none) _ _ s'
    exact wpAny_pure (hR s' (hm.mono hsub) (hS.at' fun o ho => hm.heap S o hSw ho))
  | succ k ih =>
    intro i s hk hi hst hS hR
    have hlt : i < n := by omega
    refine codeAny_builtin PyProof.Rows.F.entry_set_update_loop ?_
    rw [Around.under_plainId PyProof.Rows.F.plain_set_update_loop _]
    show wpAny _ A.in1 (pyNext (.ref I) >>= _) _ _ s
    refine wpAny_bind (W.item i s _ _ hlt hst fun v s' hP hst' hm => ?_)
    obtain ⟨t, rfl⟩ := hval i v hP
    obtain ⟨o, es, ep, tb, ho, II⟩ := hS.at' fun o ho => hm.heap S o hSw ho
    show wpAny _ A.in1 (holding [Value.int (val i) t] (setAdd S (.int (val i) t)) >>= _) _ _ s'
    refine wpAny_bind (wpAny_holding ?_)
    unfold setAdd
    refine wpAny_holding ?_
    refine wpAny_bind ((intKind prog w).pyHash (k := val i) (intKind_is _ _ _ _) ?_)
    refine setI_add (s := { s' with toks := s'.toks + 1 }) (o := o) (es := es) (ep := ep) (t := tb) ho II (hv i hlt).1 (hv i hlt).2 fun b h' o' es' ep' t' hsb ho' I' => ?_
    have hSi : SetHas bt h' S (ddI val (i + 1)) := by rw [ddI_succ]; exact ⟨o', es', ep', t', ho', I'⟩
    refine wpAny_pure ⟨plainId_quiet PyProof.Rows.F.plain_set_update_loop _, ih (i + 1) _ (by omega) hlt (W.frame _ s' _ _ hst' (Nat.le_succ _) fun b hb o e => ?_) hSi fun s'' hm'' hS'' => ?_⟩
    · rw [hsb.2 b (fun h : b = S => hSf (by rw [← h]; exact hb))]; exact e
    · refine hR s'' (Moved.trans W.gtrans ((hm.mono hsub).then_heap (Nat.le_succ _) fun b o hb e => ?_) hm'') hS''
      rw [hsb.2 b (fun h : b = S => hb (by rw [h]; exact List.mem_cons_self))]; exact e
end
section
variable {prog : Program} {w : World} {A : Around} {E : Value → Shared → Prop} {s : Shared}
theorem code_set_newB (a : Value) {Q₁ : Value → Shared → Prop}
    (h : Q₁ (.ref s.heap.objs.size) { s with heap := s.heap.push { cls := .type "set", dict := none, data := .set #[] 0 (.fresh 0 0 (!w.params.followText "set-order")) } }) :
    codeAny (model prog w) A (.call (.builtin "set.__new__") ⟨[.type "set", a], []⟩) (wants Q₁ E) s := by
  refine codeAny_of_tree ?_
  show wpAny _ A.in1 (do checkBuiltinCall "set.__new__" ⟨[.type "set", a], []⟩; again (.builtin "set.__new__" ⟨[.type "set", a], []⟩)) _ _ s
  refine wpAny_bind (wpAny_of_eq (PySem.F.newCall_set_1 a) (wpAny_pure ⟨plainId_quiet PySem.F.plain_set_new _, codeAny_builtin PySem.F.entry_set_new ?_⟩))
  rw [Around.under_plainId PySem.F.plain_set_new _]
  unfold Builtin.«set.__new__» Builtin.Frozenset.newClass
  have hsub := sub_set_self
  obtain ⟨hp, g, d, tk, os⟩ := s
  dsimp only
  wp_walk
  refine wpAny_askSetting (wpAny_pure ?_)
  dsimp only
  simp only [newObj]
  refine wpAny_bind (wpAny_alloc (wpAny_pure ?_))
  exact wpAny_pure h
set_option maxRecDepth 100000 in
set_option maxHeartbeats 3200000 in
theorem call_set_ints {l : Addr} {items : Array Value} {ns : List Int} {Q : Value → Shared → Prop}
    (hh : A.handled = none) (hl : s.heap.IsList l items) (hi : IntsAre items.toList ns) (hv : ∀ k ∈ ns, 1 ≤ k ∧ k ≤ 9)
    (h : ∀ (h' : Heap) (tk : Nat), SetHas (w.params.followText "set-order") h' s.heap.objs.size (ns.foldl ddS []) →
      (∀ b o, b < s.heap.objs.size → s.heap.get? b = some o → h'.get? b = some o) → Q (.ref s.heap.objs.size) { s with heap := h', toks := tk }) :
    wpAny (model prog w) A (call (.type "set") [.ref l]) Q E s := by
  obtain ⟨c, tl, hmro⟩ := PySem.F.called_set.mro
  have hmade := PySem.F.called_set.made
  have hsub := PySem.F.called_set.sub
  refine wpAny_call (codeAny_of_tree ?_)
  show wpAny _ _ (callAny (.type "set") _) _ _ _
  refine wpAny_pure ⟨Code.quiet_builtin _ (by decide +kernel), codeAny_builtin PySem.F.entry_type_call ?_⟩
  rw [Around.under_plain (weight_type_call_type "set" [.ref l] []) rfl]
  have h1 := PySem.F.called_set.notType
  have h2 := PySem.F.called_set.canCreate
  have hct := PySem.F.typeCall_set_1 (.ref l)
  repeat (any_goals (first | assumption | wp_step))
  refine codeAny_mono (code_set_newB (.ref l) (E := E) (Q₁ := fun obj s₁ => obj = .ref s.heap.objs.size ∧ s₁ = { s with heap := s.heap.push { cls := .type "set", dict := none, data := .set #[] 0 (.fresh 0 0 (!w.params.followText "set-order")) } }) ⟨rfl, rfl⟩) fun r s₁ hr => ?_
  cases r with
  | error e => exact hr
  | ok fl =>
    cases fl with
    | ret obj =>
      obtain ⟨rfl, rfl⟩ := hr
      generalize hled : (!w.params.followText "set-order") = led
      have hS : (s.heap.push { cls := .type "set", dict := none, data := .set #[] 0 (.fresh 0 0 led) }).get? s.heap.objs.size = some { cls := .type "set", dict := none, data := .set #[] 0 (.fresh 0 0 led) } := Heap.get?_push_size _ rfl
      have hT : Shared.TypeIs { s with heap := s.heap.push { cls := .type "set", dict := none, data := .set #[] 0 (.fresh 0 0 led) } } (.ref s.heap.objs.size) "set" := ⟨_, hS, rfl⟩
      have hli := PySem.F.called_set.init.lookup
      have hbi := PySem.F.called_set.init.bind (.ref s.heap.objs.size)
      repeat (any_goals (first | assumption | wp_step))
      refine codeAny_mono (codeAny_call_builtin (R := wants (fun r s₂ => r = .none ∧ ∃ h' tk, s₂ = { s with heap := h', toks := tk } ∧
          SetHas (w.params.followText "set-order") h' s.heap.objs.size (ns.foldl ddS []) ∧
          (∀ b o, b < s.heap.objs.size → s.heap.get? b = some o → h'.get? b = some o)) E) PySem.F.called_set.init.plain PySem.F.entry_set_init (check_set_init_1 hT ?_)) fun r₂ s₂ hr₂ => ?_
      · obtain ⟨ol, hol, hcl, nl, hdl⟩ := hl
        obtain ⟨ocls, odict, odata, oslots⟩ := ol
        simp only at hcl hdl
        subst hcl; subst hdl
        have hol' : (s.heap.push { cls := .type "set", dict := none, data := .set #[] 0 (.fresh 0 0 led) }).get? l = some { cls := .type "list", dict := odict, data := .seq items nl, slots := oslots } := Heap.get?_push_of_some _ hol
        have hsls := PySem.F.sub_list_set
        have hslf := PySem.F.sub_list_frozenset
        have hne : (Value.type "list" == Value.type "dict") = false := by decide
        have hl1 : (s.heap.push { cls := .type "set", dict := none, data := .set #[] 0 (.fresh 0 0 led) }).IsList l items := ⟨_, hol', rfl, nl, rfl⟩
        unfold Builtin.«set.__init__» noKeywords Builtin.Frozenset.updateFrom
        generalize hPI : pyIter = PI
        wp_walk
        subst hPI
        refine wpAny_pyIter_list hl1 ?_
        refine wpAny_bind (wpAny_runValue ?_)
        have hlS : l < s.heap.objs.size := Heap.lt_size hol
        have hh3 : A.in1.in1.in1.handled = none := by simp [hh]
        have hneI : l ≠ (s.heap.push { cls := .type "set", dict := none, data := .set #[] 0 (.fresh 0 0 led) }).objs.size := by
          rw [Heap.size_push]; exact Nat.ne_of_lt (Nat.lt_succ_of_lt hlS)
        have hSf : s.heap.objs.size ∉ [(s.heap.push { cls := .type "set", dict := none, data := .set #[] 0 (.fresh 0 0 led) }).objs.size, l] := by
          rw [Heap.size_push]; simp only [List.mem_cons, List.not_mem_nil, or_false, not_or]
          exact ⟨Nat.ne_of_lt (Nat.lt_succ_self _), Nat.ne_of_gt hlS⟩
        have hval : ∀ (i : Nat) (v : Value), items[i]? = some v → ∃ t, v = .int ((fun i => ns.getD i 0) i) t := fun i v hv =>
          PyProof.Rows.IntsAre.int_at hi i v (by rw [Array.getElem?_toList]; exact hv)
        have hlen : items.size = ns.length := by rw [← Array.length_toList]; exact hi.length
        have hdd : ddI (fun i => ns.getD i 0) items.size = ns.foldl ddS [] := by
          unfold ddI
          rw [hlen, map_getD]
        refine set_loop (bt := w.params.followText "set-order") ((Walks.list hh3 _ l hneI items).toS) s.heap.objs.size
          hSf (fun i => ns.getD i 0) hval (fun i hi' => hv _ (by rw [List.getD_eq_getElem?_getD, List.getElem?_eq_getElem (by omega)]; exact List.getElem_mem _)) (items.size - 0) 0 _ (by omega) (Nat.zero_le _)
          ⟨⟨_, Heap.get?_push_size _ rfl, rfl, rfl⟩, (hl1.push _)⟩ ?hS0 ?hR
        case hS0 =>
          have hget : ((s.heap.push { cls := .type "set", dict := none, data := .set #[] 0 (.fresh 0 0 led) }).push { cls := .type "list_iterator", data := .fields #[.ref l, .int 0 0] }).get? s.heap.objs.size
              = some { cls := .type "set", dict := none, data := .set #[] 0 (.fresh 0 0 led) } := Heap.get?_push_of_some _ hS
          exact SetHas.fresh hget fun hb => by rw [← hled, hb]; rfl
        case hR =>
          intro s' hm hS'
          rw [hdd] at hS'
          obtain ⟨h', g', d', tk', os'⟩ := s'
          have eg : g' = s.gens := hm.gens
          have ed : d' = s.drawn := hm.drawn
          have eo : os' = s.os := hm.os
          subst eg; subst ed; subst eo
          show wpAny _ _ _ _ _ _
          refine wpAny_pure ?_
          show wpAny _ _ (ret Value.none) _ _ _
          refine wpAny_pure ⟨rfl, h', tk', rfl, hS', fun b o hb e => ?_⟩
          have hb1 : b ≠ s.heap.objs.size := Nat.ne_of_lt hb
          have hb2 : b ≠ (s.heap.push { cls := .type "set", dict := none, data := .set #[] 0 (.fresh 0 0 led) }).objs.size := by
            rw [Heap.size_push]; exact Nat.ne_of_lt (Nat.lt_succ_of_lt hb)
          exact hm.heap b o (by simp only [List.mem_cons, List.not_mem_nil, or_false, not_or]; exact ⟨hb1, hb2⟩) (Heap.get?_push_of_some _ (Heap.get?_push_of_some _ e))
      · cases r₂ with
        | error e => exact hr₂
        | ok fl₂ =>
          cases fl₂ with
          | ret r =>
            obtain ⟨rfl, h', tk, rfl, hS', hk'⟩ := hr₂
            repeat (any_goals (first | assumption | wp_step))
            exact h _ _ hS' hk'
          | _ => exact hr₂.elim
    | _ => exact hr.elim
end
end
section
open PySem PySem.Calls PySem.Spec PyProof.Rows
theorem slot_si_next : Slot "set_iterator" "__next__" "set_iterator.__next__" :=
  .of (owner := "set_iterator") (n := "__next__") (by rw [typeLookup_type, builtinLookup_eq_fast]; kernel_rfl) (by decide +kernel) (by decide +kernel) (by decide +kernel)
    (by first | exact .inl (by decide +kernel) | exact .inr (by decide +kernel)) (by rw [isSubtype_type]; kernel_rfl)
theorem slot_si_iter : Slot "set_iterator" "__iter__" "set_iterator.__iter__" :=
  .of (owner := "set_iterator") (n := "__iter__") (by rw [typeLookup_type, builtinLookup_eq_fast]; kernel_rfl) (by decide +kernel) (by decide +kernel) (by decide +kernel)
    (by first | exact .inl (by decide +kernel) | exact .inr (by decide +kernel)) (by rw [isSubtype_type]; kernel_rfl)
theorem entry_si_next : entryFor table "set_iterator.__next__" = some Builtin.«set_iterator.__next__» := entryFor_of_tree (by kernel_rfl)
theorem entry_si_iter : entryFor table "set_iterator.__iter__" = some Builtin.«dict_keyiterator.__iter__» :=
  entryFor_alias (id' := "dict_keyiterator.__iter__") (by kernel_rfl) rfl (by decide +kernel) (by kernel_rfl)
theorem entry_s_iter : entryFor table "set.__iter__" = some Builtin.«frozenset.__iter__» :=
  entryFor_alias (id' := "frozenset.__iter__") (by kernel_rfl) rfl (by decide +kernel) (by kernel_rfl)
theorem owner_si : Manifest.owners.lookup (String.ofList ['r', 'o', 't', 'a', 'r', 'e', 't', 'i', '_', 't', 'e', 's'].reverse) = some Manifest.sig_set_iterator := by kernel_rfl
theorem args_si_next (a : Value) : argsOk "set_iterator.__next__" ⟨[a], []⟩ := by
  unfold argsOk; rw [signature?_of (id := "set_iterator.__next__") (n := ['_', '_', 't', 'x', 'e', 'n', '_', '_']) (o := ['r', 'o', 't', 'a', 'r', 'e', 't', 'i', '_', 't', 'e', 's']) (by kernel_rfl) owner_si]; kernel_rfl
theorem args_si_iter (a : Value) : argsOk "set_iterator.__iter__" ⟨[a], []⟩ := by
  unfold argsOk; rw [signature?_of (id := "set_iterator.__iter__") (n := ['_', '_', 'r', 'e', 't', 'i', '_', '_']) (o := ['r', 'o', 't', 'a', 'r', 'e', 't', 'i', '_', 't', 'e', 's']) (by kernel_rfl) owner_si]; kernel_rfl
theorem pick_go {α : Type} (next : Nat → Nat) : ∀ (f k : Nat) (left : List α) (out : Array α), left.length = f → (pickOrder.go next f k left out).toList.Perm (out.toList ++ left)
  | 0, k, left, out, h => by
    have : left = [] := List.eq_nil_of_length_eq_zero h
    subst this
    unfold pickOrder.go
    rw [List.append_nil]
  | f + 1, k, left, out, h => by
    have hlt : next k % left.length < left.length := Nat.mod_lt _ (by omega)
    unfold pickOrder.go
    rw [List.getElem?_eq_getElem hlt]
    dsimp only
    refine (pick_go next f (k + 1) _ _ (by rw [List.length_eraseIdx_of_lt hlt]; omega)).trans ?_
    rw [Array.toList_push, List.append_assoc]
    refine List.Perm.append_left _ ?_
    generalize next k % left.length = i at hlt
    have e1 : left = left.take i ++ left[i] :: left.drop (i + 1) := by
      rw [← List.drop_eq_getElem_cons hlt, List.take_append_drop]
    have e2 : left.eraseIdx i = left.take i ++ left.drop (i + 1) := List.eraseIdx_eq_take_drop_succ _ _
    rw [e2]
    exact (List.perm_middle (a := left[i]) (l₁ := left.take i) (l₂ := left.drop (i + 1))).symm.trans (List.Perm.of_eq e1.symm)
theorem pick_perm {α : Type} (next : Nat → Nat) (xs : Array α) : (pickOrder next xs).toList.Perm xs.toList := by
  have := pick_go next xs.size 0 xs.toList #[] (by simp)
  exact (by simpa using this : List.Perm (pickOrder.go next xs.size 0 xs.toList #[]).toList xs.toList)
def slP (t : SetTable) (i : Nat) : Nat := if i = 0 then 0 else t.place.getD (i - 1) 0 + 1
theorem below_sl {t : SetTable} (hr : t.place.toList.Pairwise (· < ·)) {i : Nat} (hi : i ≤ t.place.size) : SetTable.below t.place (slP t i) = i := by
  obtain ⟨b1, b2, b3⟩ := below_spec hr (slP t i)
  have mono : ∀ a b, a < b → b < t.place.size → t.place.getD a 0 < t.place.getD b 0 := by
    intro a b hab hb
    have ha : a < t.place.size := by omega
    have e1 : t.place.getD a 0 = t.place.toList[a]'(by simpa using ha) := by simp [Array.getD, ha]
    have e2 : t.place.getD b 0 = t.place.toList[b]'(by simpa using hb) := by simp [Array.getD, hb]
    rw [e1, e2]; exact List.pairwise_iff_getElem.mp hr a b (by simpa using ha) (by simpa using hb) hab
  generalize SetTable.below t.place (slP t i) = r at b1 b2 b3
  unfold slP at b2 b3
  rcases Nat.lt_trichotomy r i with c | c | c
  · have h1 := b3 r (Nat.le_refl _) (by omega)
    rw [if_neg (by omega)] at h1
    rcases Nat.lt_or_ge r (i - 1) with d | d
    · have := mono r (i - 1) d (by omega); omega
    · have : r = i - 1 := by omega
      subst this; omega
  · exact c
  · have h1 := b2 i c
    by_cases z : i = 0
    · rw [if_pos z] at h1; omega
    · rw [if_neg z] at h1
      have := mono (i - 1) i (by omega) (by omega); omega
section
variable {prog : Program} {w : World}
structure SeqOf (prog : Program) (w : World) (a : Addr) (es : Array (Int × Value)) (ep : Nat) (t : SetTable) (sl : Nat → Nat) (vs : List Value) : Prop where
  s0 : sl 0 = 0
  len : vs.length = es.size
  next : ∀ (A : Around) (E : Value → Shared → Prop) (s : Shared) (o : Obj) (Q : Option (Value × Nat) → Shared → Prop), s.heap.get? a = some o → o.data = .set es ep t → ∀ (i : Nat) (v : Value), vs[i]? = some v → Q (some (v, sl (i + 1))) s → wpAny (model prog w) A (setNext a (sl i) i ep) Q E s
  stop : ∀ (A : Around) (E : Value → Shared → Prop) (s : Shared) (o : Obj) (Q : Option (Value × Nat) → Shared → Prop), s.heap.get? a = some o → o.data = .set es ep t → Q none s → wpAny (model prog w) A (setNext a (sl vs.length) vs.length ep) Q E s
  drawn : ∀ (A : Around) (E : Value → Shared → Prop) (s : Shared) (o : Obj) (Q : Bool → Shared → Prop), s.heap.get? a = some o → o.data = .set es ep t → Q false s → wpAny (model prog w) A (setDrawn a) Q E s
theorem wpAny_byText {A : Around} {E : Value → Shared → Prop} {s : Shared} {Q : Bool → Shared → Prop} (h : Q (w.params.followText "set-order") s) : wpAny (model prog w) A setsByText Q E s := by
  unfold setsByText
  exact wpAny_bind (wpAny_askSetting (wpAny_pure h))
theorem seq_tab {a : Addr} {es : Array (Int × Value)} {ep n : Nat} {t : SetTable} (hb : w.params.followText "set-order" = false) (T : TabI t n) (hn : es.size = n) (hf : t.fits es.size = true) : SeqOf prog w a es ep t (slP t) (es.toList.map (·.2)) where
  s0 := rfl
  len := by simp
  drawn := fun A E s o Q ho hd h => by
    unfold setDrawn
    refine wpAny_bind (wpAny_setState_of ho hd hf ?_)
    dsimp only
    refine wpAny_bind (wpAny_byText ?_)
    refine wpAny_pure ?_
    rw [hb]
    have e : (!t.plain && decide (es.size > 1)) = false := by rw [T.pl]; rfl
    have : Q (!false && (!t.plain && decide (es.size > 1))) s := by rw [e]; exact h
    exact this
  next := fun A E s o Q ho hd i v hv h => by
    have hi : i < es.size := by
      have := (List.getElem?_eq_some_iff.mp hv).1
      simpa using this
    unfold setNext
    refine wpAny_bind (wpAny_setState_of ho hd hf ?_)
    dsimp only
    refine wpAny_bind (wpAny_byText ?_)
    rw [hb]
    simp only [Bool.false_eq_true, if_false]
    refine wpAny_ite_split (fun hab => absurd hab (show ¬ ((!t.plain && decide (es.size > 1)) = true) by rw [T.pl]; simp)) (fun _ => ?_)
    refine wpAny_bind ?_
    refine wpAny_ite_split (fun hab => absurd hab (show ¬ ((!t.led && !es.isEmpty) = true) by rw [T.ld]; simp)) (fun _ => wpAny_pure ?_)
    refine wpAny_pure ?_
    rw [below_sl T.rs (by rw [T.sz]; omega)]
    have e1 : es[i]? = some es[i] := Array.getElem?_eq_getElem hi
    have hi2 : i < t.place.size := by rw [T.sz]; omega
    have e2 : t.place[i]? = some t.place[i] := Array.getElem?_eq_getElem hi2
    rw [e1, e2]
    dsimp only
    have e3 : es[i].2 = v := by
      rw [List.getElem?_map, Array.getElem?_toList, e1] at hv
      exact Option.some.inj hv
    have e4 : slP t (i + 1) = t.place[i] + 1 := by unfold slP; simp [Array.getD, hi2]
    rw [e3, ← e4]; exact h
  stop := fun A E s o Q ho hd h => by
    unfold setNext
    refine wpAny_bind (wpAny_setState_of ho hd hf ?_)
    dsimp only
    refine wpAny_bind (wpAny_byText ?_)
    rw [hb]
    simp only [Bool.false_eq_true, if_false]
    refine wpAny_ite_split (fun hab => absurd hab (show ¬ ((!t.plain && decide (es.size > 1)) = true) by rw [T.pl]; simp)) (fun _ => ?_)
    refine wpAny_bind ?_
    refine wpAny_ite_split (fun hab => absurd hab (show ¬ ((!t.led && !es.isEmpty) = true) by rw [T.ld]; simp)) (fun _ => wpAny_pure ?_)
    refine wpAny_pure ?_
    have el : (es.toList.map (·.2)).length = es.size := by simp
    rw [el, below_sl T.rs (by rw [T.sz]; omega)]
    have e1 : es[es.size]? = none := by simp
    rw [e1]; exact h
theorem seq_text {a : Addr} {es : Array (Int × Value)} {ep : Nat} {t : SetTable} (hb : w.params.followText "set-order" = true) (hf : t.fits es.size = true) : SeqOf prog w a es ep t (fun _ => 0) ((pickOrder (w.params.setOrder a ep) es).toList.map (·.2)) := by
  have walk : ∀ (A : Around) (E : Value → Shared → Prop) (s : Shared) (o : Obj) (Q : Array (Int × Value) → Shared → Prop), s.heap.get? a = some o → o.data = .set es ep t → Q (pickOrder (w.params.setOrder a ep) es) s → wpAny (model prog w) A (setWalk a) Q E s := by
    intro A E s o Q ho hd h
    unfold setWalk
    refine wpAny_bind (wpAny_setState_of ho hd hf ?_)
    dsimp only
    refine wpAny_bind (wpAny_byText ?_)
    rw [hb]
    simp only [if_true]
    exact wpAny_bind (wpAny_askSetting (wpAny_pure h))
  refine ⟨rfl, ?_, ?_, ?_, ?_⟩
  · rw [List.length_map, (pick_perm _ _).length_eq]; simp
  · intro A E s o Q ho hd i v hv h
    unfold setNext
    refine wpAny_bind (wpAny_setState_of ho hd hf ?_)
    dsimp only
    refine wpAny_bind (wpAny_byText ?_)
    rw [hb]
    simp only [if_true]
    rw [if_neg (by simp)]
    refine wpAny_bind (walk A E s o _ ho hd (wpAny_pure ?_))
    rw [List.getElem?_map, Array.getElem?_toList] at hv
    obtain ⟨x, hx, e⟩ := Option.map_eq_some_iff.mp hv
    rw [hx]
    subst e; exact h
  · intro A E s o Q ho hd h
    unfold setNext
    refine wpAny_bind (wpAny_setState_of ho hd hf ?_)
    dsimp only
    refine wpAny_bind (wpAny_byText ?_)
    rw [hb]
    simp only [if_true]
    rw [if_neg (by simp)]
    refine wpAny_bind (walk A E s o _ ho hd (wpAny_pure ?_))
    rw [List.length_map, Array.length_toList]
    have : (pickOrder (w.params.setOrder a ep) es)[(pickOrder (w.params.setOrder a ep) es).size]? = none := by simp
    rw [this]; exact h
  · intro A E s o Q ho hd h
    unfold setDrawn
    refine wpAny_bind (wpAny_setState_of ho hd hf ?_)
    dsimp only
    refine wpAny_bind (wpAny_byText ?_)
    refine wpAny_pure ?_
    rw [hb]; exact h
end
section
variable {prog : Program} {w : World} {A : Around} {E : Value → Shared → Prop} {s : Shared} {a I : Addr} {o : Obj} {es : Array (Int × Value)} {ep : Nat} {t : SetTable} {sl : Nat → Nat} {vs : List Value}
def siObj (a : Addr) (n ep : Nat) (slot i : Nat) : Obj := { cls := .type "set_iterator", data := .fields #[rawInt slot, rawInt i, .ref a, rawInt n, rawInt ep] }
def SiSt (a I : Addr) (o : Obj) (n ep : Nat) (sl : Nat → Nat) (i : Nat) (h : Heap) : Prop := h.get? I = some (siObj a n ep (sl i) i) ∧ h.get? a = some o
theorem wpAny_setEntries_of {Q : Array (Int × Value) → Shared → Prop} (ho : s.heap.get? a = some o) (hd : o.data = .set es ep t) (hf : t.fits es.size = true) (h : Q es s) : wpAny (model prog w) A (setEntries a) Q E s := by
  unfold setEntries
  exact wpAny_bind (wpAny_setState_of ho hd hf (wpAny_pure h))
set_option maxHeartbeats 1000000 in
theorem si_item {Q : Option Value → Shared → Prop} {i : Nat} {v : Value} (K : SeqOf prog w a es ep t sl vs) (hne : a ≠ I) (hd : o.data = .set es ep t) (hf : t.fits es.size = true) (hst : SiSt a I o es.size ep sl i s.heap) (hv : vs[i]? = some v)
    (hQ : ∀ h', SiSt a I o es.size ep sl (i + 1) h' → (∀ b x, b ≠ I → s.heap.get? b = some x → h'.get? b = some x) → Q (some v) { s with heap := h' }) :
    wpAny (model prog w) A (pyNext (.ref I)) Q E s := by
  obtain ⟨hI, ho⟩ := hst
  have hT : s.TypeIs (.ref I) "set_iterator" := ⟨_, hI, rfl⟩
  unfold pyNext
  refine wpAny_bind (wpAny_attempt (wpAny_callSpecial?_slot (name := Str.ofString "__next__") hT slot_si_next (wpAny_call_entry slot_si_next hT entry_si_next ?_ (args_si_next _))))
  unfold Builtin.«set_iterator.__next__»
  refine wpAny_bind (wpAny_pure ?_)
  refine wpAny_bind (wpAny_fieldsOf hI rfl ?_)
  show wpAny _ _ (setEntries a >>= _) _ _ s
  refine wpAny_bind (wpAny_setEntries_of ho hd hf ?_)
  rw [if_neg (by simp)]
  show wpAny _ _ (setNext a (sl i) i ep >>= _) _ _ s
  refine wpAny_bind (K.next _ _ s o _ ho hd i v hv ?_)
  dsimp only
  refine wpAny_bind (wpAny_setField_rec hI (by simp) fun h1 hI1 sb1 => ?_)
  refine wpAny_bind (wpAny_setField_rec (s := { s with heap := h1 }) hI1 (by simp) fun h2 hI2 sb2 => ?_)
  refine wpAny_pure ⟨_, rfl, wpAny_pure (hQ h2 ⟨?_, ?_⟩ fun b x hb e => ?_)⟩
  · rw [hI2]; simp [siObj, rawInt]
  · rw [sb2.2 a hne, sb1.2 a hne]; exact ho
  · rw [sb2.2 b hb, sb1.2 b hb]; exact e
set_option maxHeartbeats 1000000 in
theorem si_done {Q : Option Value → Shared → Prop} (hh : A.handled = none) (K : SeqOf prog w a es ep t sl vs) (hd : o.data = .set es ep t) (hf : t.fits es.size = true) (hst : SiSt a I o es.size ep sl vs.length s.heap)
    (hQ : ∀ h', (∀ b x, b ≠ I → s.heap.get? b = some x → h'.get? b = some x) → Q none { s with heap := h' }) :
    wpAny (model prog w) A (pyNext (.ref I)) Q E s := by
  obtain ⟨hI, ho⟩ := hst
  have hT : s.TypeIs (.ref I) "set_iterator" := ⟨_, hI, rfl⟩
  unfold pyNext
  refine wpAny_bind (wpAny_attempt (wpAny_callSpecial?_slot (name := Str.ofString "__next__") hT slot_si_next (wpAny_call_entry slot_si_next hT entry_si_next ?_ (args_si_next _))))
  unfold Builtin.«set_iterator.__next__»
  refine wpAny_bind (wpAny_pure ?_)
  refine wpAny_bind (wpAny_fieldsOf hI rfl ?_)
  show wpAny _ _ (setEntries a >>= _) _ _ s
  refine wpAny_bind (wpAny_setEntries_of ho hd hf ?_)
  rw [if_neg (by simp)]
  show wpAny _ _ (setNext a (sl vs.length) vs.length ep >>= _) _ _ s
  refine wpAny_bind (K.stop _ _ s o _ ho hd ?_)
  dsimp only
  refine wpAny_bind (wpAny_setField_rec hI (by simp) fun h1 hI1 sb1 => ?_)
  show wpAny _ _ (newExc (.type "StopIteration") [] >>= _) _ _ _
  refine wpAny_bind ?_
  simp only [newExc, newTuple]
  refine wpAny_bind (wpAny_newObj_type ?_ (by size_fits))
  refine wpAny_bind (m := firstArgMember _ _) (wpAny_of_eq (a := Value.none) (by first | rfl | (simp only [firstArgMember]; rfl)) ?_)
  refine wpAny_newObj_type ?_ (by size_fits)
  simp only [raiseNew]
  refine wpAny_bind (wpAny_handled ?_)
  rw [show A.in1.handled = none from hh]
  refine wpAny_bind (wpAny_pure (wpAny_throw ?_))
  refine wpAny_bind (wpAny_isInstance (T := "StopIteration") (b := true) ⟨_, Heap.get?_push_size _ rfl, rfl⟩ isSubtype_stop ?_)
  exact wpAny_pure (hQ _ fun b x hb e => Heap.get?_push_of_some _ (Heap.get?_push_of_some _ (by rw [sb1.2 b hb]; exact e)))
theorem si_walks (hh : A.handled = none) (K : SeqOf prog w a es ep t sl vs) (hne : a ≠ I) (hd : o.data = .set es ep t) (hf : t.fits es.size = true) :
    Walks prog w A I [I, a] [I] vs.length (fun i v => vs[i]? = some v) (SiSt a I o es.size ep sl) where
  sub := fun b hb => by simp at hb; simp [hb]
  frame := fun _ _ _ st hk => ⟨hk I (by simp) _ st.1, hk a (by simp) _ st.2⟩
  item := fun i s Q E hi st hQ => by
    obtain ⟨v, hv⟩ : ∃ v, vs[i]? = some v := ⟨_, List.getElem?_eq_getElem hi⟩
    exact si_item K hne hd hf st hv fun h' st' hk => hQ v h' s.toks hv st' fun b x hb e => hk b x (fun h => hb (by simp [h])) e
  done := fun s Q E st hQ => si_done hh K hd hf st fun h' hk => hQ h' s.toks fun b x hb e => hk b x (fun h => hb (by simp [h])) e
  self := fun i s Q E st hQ => by
    have hT : s.TypeIs (.ref I) "set_iterator" := ⟨_, st.1, rfl⟩
    refine wpAny_pyIter_slot hT slot_si_iter (wpAny_call_entry slot_si_iter hT entry_si_iter ?_ (args_si_iter _))
    show wpAny _ _ (ret (.ref I)) _ _ s
    exact wpAny_pure ⟨_, rfl, "set_iterator", _, hT, slot_si_next.lookup, hQ⟩
theorem set_pyIter {Q : Value → Shared → Prop} (K : SeqOf prog w a es ep t sl vs) (hx : o.ExactSet) (ho : s.heap.get? a = some o) (hd : o.data = .set es ep t) (hf : t.fits es.size = true)
    (hQ : Q (.ref s.heap.objs.size) { s with heap := s.heap.push (siObj a es.size ep (sl 0) 0) }) : wpAny (model prog w) A (pyIter (.ref a)) Q E s := by
  have hT : s.TypeIs (.ref a) "set" := ⟨o, ho, hx.1⟩
  refine wpAny_pyIter_slot hT PySem.F.slot_set_iter (wpAny_call_entry PySem.F.slot_set_iter hT entry_s_iter ?_ (PySem.F.args_set_iter_1 _))
  unfold Builtin.«frozenset.__iter__»
  refine wpAny_bind (wpAny_pure ?_)
  refine wpAny_bind ?_
  unfold Builtin.Frozenset.sizeOf
  refine wpAny_bind (wpAny_setEntries_of ho hd hf (wpAny_pure ?_))
  refine wpAny_bind (K.drawn _ _ s o _ ho hd ?_)
  simp only [Bool.false_eq_true, if_false]
  refine wpAny_bind (wpAny_pure ?_)
  refine wpAny_bind (wpAny_setEpoch_of ho hd hf ?_)
  refine wpAny_bind (wpAny_newObj_type (wpAny_pure ⟨_, rfl, "set_iterator", _, ⟨_, Heap.get?_push_size _ rfl, rfl⟩, slot_si_next.lookup, ?_⟩))
  rw [show sl 0 = 0 from K.s0] at hQ
  exact hQ
theorem set_hint {r : Addr} {Q : Bool → Shared → Prop} (hT : s.TypeIs (.ref r) "set") (h : Q false s) : wpAny (model prog w) A (Builtin.List.listLengthHint (.ref r)) Q E s := by
  unfold Builtin.List.listLengthHint
  refine wpAny_bind (wpAny_specialOf hT PySem.F.slot_set_len.lookup ?_)
  generalize hid : ("set.__len__" : String) = id0
  wp_delta
  rw [show splitId id0 = some ("set", "__len__") from by subst hid; decide +kernel]
  subst hid
  refine wpAny_bind (wpAny_isInstance (T := "set") (b := true) hT (by rw [isSubtype_type]; kernel_rfl) ?_)
  refine wpAny_ite_split (fun hab => absurd hab (by decide)) (fun _ => ?_)
  refine wpAny_ite_split (fun _ => ?_) (fun hab => absurd (by decide +kernel) hab)
  refine wpAny_bind (wpAny_typeOf hT ?_)
  exact wpAny_pure h
theorem set_src (K : SeqOf prog w a es ep t sl vs) (hx : o.ExactSet) (hd : o.data = .set es ep t) (hf : t.fits es.size = true) :
    PySem.W.KdlSrc prog w "set" a a vs.length (fun i v => vs[i]? = some v) (fun h => h.get? a = some o) where
  type := fun _ ho => ⟨o, ho, hx.1⟩
  there := fun _ ho => ⟨Heap.lt_size ho, Heap.lt_size ho⟩
  keep := fun _ _ ho hk => hk a (.inl rfl) o ho
  notList := by decide
  notTuple := by decide
  hint := fun _ _ _ _ ho hq => set_hint ⟨o, ho, hx.1⟩ hq
  iter := fun A s hh ho => ⟨siObj a es.size ep (sl 0) 0, _, (fun _ _ hq => set_pyIter K hx ho hd hf hq), si_walks hh K (Nat.ne_of_lt (Heap.lt_size ho)) hd hf, ⟨Heap.get?_push_size _ rfl, Heap.get?_push_of_some _ ho⟩⟩
end
open PySem.W
theorem kf_ints_of : ∀ {vs : List Value} {ns : List Int}, IntsAre vs ns → kf_ints vs = true
  | _, _, .nil => rfl
  | _, _, .cons _ _ h => by have q := kf_ints_of h; exact q
theorem lks_nums_of : ∀ {vs : List Value} {ns : List Int}, IntsAre vs ns → lks_nums vs = ns
  | _, _, .nil => rfl
  | _, _, .cons n _ h => by show n :: lks_nums _ = _; rw [lks_nums_of h]
theorem lks_asc_of : ∀ {l : List Int}, l.Pairwise (· ≤ ·) → lks_asc l = true
  | [], _ => rfl
  | a :: r, h => by
    simp only [lks_asc, Bool.and_eq_true, List.all_eq_true, decide_eq_true_eq]
    exact ⟨(List.pairwise_cons.mp h).1, lks_asc_of (List.pairwise_cons.mp h).2⟩
theorem lks_vals_ints : ∀ (q : List Int) (i : Nat) (t : Nat → Tok), IntsAre (lks_vals q i t) q
  | [], _, _ => .nil
  | _ :: r, i, t => .cons _ _ (lks_vals_ints r (i + 1) t)
theorem ints_of_all : ∀ (vs : List Value), (∀ v ∈ vs, ∃ n t, v = Value.int n t) → ∃ ns, IntsAre vs ns
  | [], _ => ⟨[], .nil⟩
  | v :: r, h => by
    obtain ⟨n, t, rfl⟩ := h v (.head _)
    obtain ⟨ns, i⟩ := ints_of_all r fun x hx => h x (.tail _ hx)
    exact ⟨n :: ns, .cons n t i⟩
theorem ints_map {vs : List Value} {ns : List Int} (h : IntsAre vs ns) : vs.map numOf = ns := h.nums
def SetIs (w : World) (o : Obj) (ks : List Int) : Prop := ∃ es ep t, SetI (w.params.followText "set-order") o ks es ep t
section
variable {prog : Program} {w : World} {A : Around} {E : Value → Shared → Prop} {s : Shared} {h₀ : Heap} {L : Addr} {m : Str → Option Value} {news : List (Addr × Obj)}
theorem set_N {l : Addr} {vs : List Value} {ns : List Int} {Q : Value → Shared → Prop} (F : Fr h₀ L s.heap m) (N : News h₀ L s.heap news) (hh : A.handled = none) (hl : s.heap.IsList l vs.toArray) (hi : IntsAre vs ns) (hv : ∀ k ∈ ns, 1 ≤ k ∧ k ≤ 9)
    (h : ∀ S o h' tk, SetIs w o (ns.foldl ddS []) → Fr h₀ L h' m → News h₀ L h' ((S, o) :: news) → (∀ q ∈ news, q.1 < S) → Q (.ref S) { s with heap := h', toks := tk }) :
    wpAny (model prog w) A (call (.type "set") [.ref l]) Q E s := by
  refine call_set_ints hh hl (by simpa using hi) hv fun h' tk hS hk => ?_
  obtain ⟨o, es, ep, t, ho, I⟩ := hS
  obtain ⟨oL, _, _, hL, _⟩ := F.ns
  have hLlt : L < s.heap.objs.size := Heap.lt_size hL
  refine h _ o h' tk ⟨es, ep, t, I⟩ ⟨F.ns.at' fun o' e => hk L o' hLlt e, fun b o' e => hk b o' (Heap.lt_size (F.keep b o' e)) (F.keep b o' e), F.above⟩ (fun p hp => ?_) (fun q hq => Heap.lt_size (N q hq).1)
  rcases List.mem_cons.mp hp with rfl | hp
  · refine ⟨ho, Nat.ne_of_gt hLlt, ?_⟩
    cases hq : h₀.get? s.heap.objs.size with
    | none => rfl
    | some o' => exact absurd (Heap.lt_size (F.keep _ _ hq)) (Nat.lt_irrefl _)
  · exact ⟨hk _ _ (Heap.lt_size (N p hp).1) (N p hp).1, (N p hp).2.1, (N p hp).2.2⟩
theorem sortset_N {S : Addr} {o : Obj} {ks q : List Int} {Q : Value → Shared → Prop} (F : Fr h₀ L s.heap m) (N : News h₀ L s.heap news) (hh : A.handled = none) (hS : (S, o) ∈ news) (I : SetIs w o ks) (hp : q.Perm ks) (ha : q.Pairwise (· ≤ ·)) (hne : 0 < q.length)
    (h : ∀ D vs' h' tk, Fr h₀ L h' m → News h₀ L h' ((D, listOf vs'.toArray 2) :: news) → (∀ p ∈ news, p.1 < D) → IntsAre vs' q → Q (.ref D) { s with heap := h', toks := tk }) :
    wpAny (model prog w) A (call (.builtin "sorted") [.ref S]) Q E s := by
  obtain ⟨es, ep, t, I⟩ := I
  have ho := (N _ hS).1
  have hsz := I.size
  have h9 := nine I.nd I.rg
  obtain ⟨sl, vo, K, hvo⟩ : ∃ (sl : Nat → Nat) (vo : List Value), SeqOf prog w S es ep t sl vo ∧ vo.Perm (es.toList.map (·.2)) := by
    cases hb : w.params.followText "set-order" with
    | false => exact ⟨_, _, seq_tab hb (I.tab hb) hsz I.fits, .refl _⟩
    | true => exact ⟨_, _, seq_text hb I.fits, (pick_perm _ _).map _⟩
  obtain ⟨ps, eps, pp⟩ := I.vals
  have hnum : (vo.map numOf).Perm ks := by
    have h1 := (hvo.map numOf).trans ((pp.map (·.2)).map numOf)
    rw [List.map_map, List.map_map] at h1
    rw [← eps]
    exact h1
  have hall : ∀ v ∈ vo, ∃ n u, v = Value.int n u := by
    intro v hv
    have := (hvo.trans (pp.map (·.2))).mem_iff.mp hv
    rw [List.map_map] at this
    obtain ⟨p, _, rfl⟩ := List.mem_map.mp this
    exact ⟨_, _, rfl⟩
  obtain ⟨no, hI⟩ := ints_of_all vo hall
  have hno : no.Perm ks := by rw [← ints_map hI]; exact hnum
  have hlen : vo.length = ks.length := by rw [hI.length]; exact hno.length_eq
  refine kdu_sorted (set_src K I.ex I.d I.fits) hh F N ho (by rw [sizeLine_eq]; omega) fun D h' tk vs F' N' l1 hl hv => ?_
  have evs : vs = vo := by
    refine List.ext_getElem? fun i => ?_
    cases hq : vs[i]? with
    | none =>
      have := List.getElem?_eq_none_iff.mp hq
      rw [List.getElem?_eq_none (by omega)]
    | some v => exact (hv i v hq).symm
  subst evs
  refine lks_sort (its := vs.toArray) (n := 0) (q := q) (news' := fun t => (D, listOf (lks_vals q 0 t).toArray (0 + 2)) :: news) F' N' (fun t => Upd.head fun p hp => ?_) (kf_ints_of hI) ?_ ?_ ?_ fun t h2 F2 N2 => h D _ h2 tk F2 N2 l1 (lks_vals_ints q 0 t)
  · exact Nat.ne_of_lt (l1 p hp)
  · unfold lks_ok
    rw [Bool.and_eq_true]
    refine ⟨?_, lks_asc_of ha⟩
    rw [show lks_nums vs.toArray.toList = no from lks_nums_of hI]
    exact List.isPerm_iff.mpr (hno.trans hp.symm)
  · have : vs.length = q.length := by rw [hlen, hp.length_eq]
    cases vs with
    | nil => simp at this; omega
    | cons _ _ => rfl
  · show vs.length < 64
    omega
end
theorem dd_mem : ∀ (ns ks : List Int) (x : Int), x ∈ ns.foldl ddS ks ↔ (x ∈ ks ∨ x ∈ ns)
  | [], ks, x => by simp
  | n :: r, ks, x => by
    rw [List.foldl_cons, dd_mem r, List.mem_cons]
    unfold ddS
    split
    · rename_i h
      constructor
      · rintro (q | q)
        · exact .inl q
        · exact .inr (.inr q)
      · rintro (q | rfl | q)
        · exact .inl q
        · exact .inl h
        · exact .inr q
    · rw [List.mem_append, List.mem_singleton]
      constructor
      · rintro ((q | q) | q)
        · exact .inl q
        · exact .inr (.inl q)
        · exact .inr (.inr q)
      · rintro (q | q | q)
        · exact .inl (.inl q)
        · exact .inl (.inr q)
        · exact .inr q
theorem dd_nodup : ∀ (ns ks : List Int), ks.Nodup → (ns.foldl ddS ks).Nodup
  | [], _, h => h
  | n :: r, ks, h => by
    rw [List.foldl_cons]
    refine dd_nodup r _ ?_
    unfold ddS
    split
    · exact h
    · rename_i hn
      rw [List.nodup_append]
      refine ⟨h, by simp, fun a ha b hb => ?_⟩
      rw [List.mem_singleton] at hb
      subst hb; exact fun e => hn (e ▸ ha)
open PySem.W
def KTr {α : Type} (n : Nat) (z : Nat → Int) : KasT α → (α → Prop) → Prop
  | .ret a, R => R a
  | .ask i j k, R => i < n ∧ j < n ∧ KTr n z (k (decide (z i < z j))) R
theorem KTr.bind {α β : Type} {n : Nat} {z : Nat → Int} {f : α → KasT β} {R : β → Prop} : ∀ (t : KasT α), KTr n z t (fun a => KTr n z (f a) R) → KTr n z (t.bind f) R
  | .ret _, h => h
  | .ask _ _ k, h => ⟨h.1, h.2.1, KTr.bind (k _) h.2.2⟩
theorem KTr.mono {α : Type} {n : Nat} {z : Nat → Int} {R R' : α → Prop} (hR : ∀ a, R a → R' a) : ∀ (t : KasT α), KTr n z t R → KTr n z t R'
  | .ret a, h => hR a h
  | .ask _ _ k, h => ⟨h.1, h.2.1, KTr.mono hR (k _) h.2.2⟩
theorem KTr.wp {α : Type} {n : Nat} {z : Nat → Int} {R : α → Prop} {cmp : Nat → Nat → (Bool → Shared → Prop) → Shared → Prop} {s : Shared} {Q : α → Shared → Prop} (hc : ∀ i j (C : Bool → Shared → Prop), i < n → j < n → C (decide (z i < z j)) s → cmp i j C s) (hQ : ∀ a, R a → Q a s) : ∀ (t : KasT α), KTr n z t R → t.kasWp cmp Q s
  | .ret a, h => hQ a h
  | .ask i j k, h => hc i j _ h.1 h.2.1 (KTr.wp hc hQ (k _) h.2.2)
structure PA (n : Nat) (p : Array Nat) : Prop where
  pm : p.toList.Perm (List.range n)
  sz : p.size = n
  lt : ∀ i, i < n → p.getD i 0 < n
  inj : ∀ i j, i < n → j < n → p.getD i 0 = p.getD j 0 → i = j
def SA (z : Nat → Int) (p : Array Nat) (m : Nat) : Prop := ∀ i j, i < j → j < m → z (p.getD i 0) < z (p.getD j 0)
def DA (z : Nat → Int) (p : Array Nat) (m : Nat) : Prop := ∀ i j, i < j → j < m → z (p.getD j 0) < z (p.getD i 0)
theorem PA.of {n : Nat} {p : Array Nat} (h : p.toList.Perm (List.range n)) : PA n p := by
  have hs : p.size = n := by rw [← Array.length_toList, h.length_eq, List.length_range]
  have hg : ∀ i (hi : i < p.toList.length), p.getD i 0 = p.toList[i] := fun i hi => by
    have : i < p.size := by simpa using hi
    simp [Array.getD, this]
  have hl : ∀ i, i < n → i < p.toList.length := fun i hi => by rw [Array.length_toList, hs]; exact hi
  refine ⟨h, hs, fun i hi => ?_, fun i j hi hj e => ?_⟩
  · rw [hg i (hl i hi)]
    exact List.mem_range.mp (h.mem_iff.mp (List.getElem_mem _))
  · rw [hg i (hl i hi), hg j (hl j hj)] at e
    have nd : p.toList.Nodup := h.nodup_iff.mpr List.nodup_range
    rcases Nat.lt_trichotomy i j with c | c | c
    · exact absurd e (List.pairwise_iff_getElem.mp nd i j (hl i hi) (hl j hj) c)
    · exact c
    · exact absurd e.symm (List.pairwise_iff_getElem.mp nd j i (hl j hj) (hl i hi) c)
def gd (p : Array Nat) (i : Nat) : Nat := p.getD i 0
theorem gd_eq (p : Array Nat) (i : Nat) : gd p i = (p[i]?).getD 0 := Array.getD_eq_getD_getElem?
section
variable {n : Nat} {z : Nat → Int} (hz : ∀ i j, i < n → j < n → z i = z j → i = j)
include hz
theorem PA.ne {p : Array Nat} (h : PA n p) {i j : Nat} (hi : i < n) (hj : j < n) (hij : i ≠ j) : z (p.getD i 0) ≠ z (p.getD j 0) := fun e => hij (h.inj i j hi hj (hz _ _ (h.lt i hi) (h.lt j hj) e))
theorem asc_ok {p : Array Nat} (h : PA n p) : ∀ (f m : Nat), 1 ≤ m → m + f ≤ n → SA z p m → KTr n z (kas_asc p f m) (fun r => m ≤ r ∧ r ≤ m + f ∧ SA z p r ∧ (r < m + f → z (p.getD r 0) < z (p.getD (r - 1) 0)))
  | 0, m, _, _, hs => ⟨Nat.le_refl _, Nat.le_refl _, hs, fun c => absurd c (by omega)⟩
  | f + 1, m, h1, h2, hs => by
    refine ⟨h.lt m (by omega), h.lt (m - 1) (by omega), ?_⟩
    by_cases c : z (p.getD m 0) < z (p.getD (m - 1) 0)
    · rw [decide_eq_true c]
      show KTr n z (if true = true then _ else _) _
      rw [if_pos rfl]
      exact ⟨Nat.le_refl _, by omega, hs, fun _ => c⟩
    · rw [decide_eq_false c]
      show KTr n z (if false = true then _ else _) _
      rw [if_neg (by simp)]
      have hne := h.ne hz (i := m) (j := m - 1) (by omega) (by omega) (by omega)
      have hs' : SA z p (m + 1) := by
        intro i j hij hj
        rcases Nat.lt_or_ge j m with d | d
        · exact hs i j hij d
        · have : j = m := by omega
          subst this
          rcases Nat.lt_or_ge i (j - 1) with e | e
          · have := hs i (j - 1) e (by omega); omega
          · have : i = j - 1 := by omega
            subst this; omega
      refine KTr.mono (fun r hr => ?_) _ (asc_ok h f (m + 1) (by omega) (by omega) hs')
      obtain ⟨a, b, d, e⟩ := hr
      exact ⟨by omega, by omega, d, fun q => e (by omega)⟩
theorem desc_ok {p : Array Nat} (h : PA n p) : ∀ (f m : Nat), 1 ≤ m → m + f ≤ n → DA z p m → KTr n z (kas_desc f p m 0) (fun r => r.1 = p ∧ r.2.2 = 0 ∧ m ≤ r.2.1 ∧ r.2.1 ≤ m + f ∧ DA z p r.2.1)
  | 0, m, _, _, hs => ⟨rfl, rfl, Nat.le_refl _, Nat.le_refl _, hs⟩
  | f + 1, m, h1, h2, hs => by
    refine ⟨h.lt m (by omega), h.lt (m - 1) (by omega), ?_⟩
    by_cases c : z (p.getD m 0) < z (p.getD (m - 1) 0)
    · rw [decide_eq_true c]
      show KTr n z (if true = true then _ else _) _
      rw [if_pos rfl, if_neg (by omega)]
      have hs' : DA z p (m + 1) := by
        intro i j hij hj
        rcases Nat.lt_or_ge j m with d | d
        · exact hs i j hij d
        · have : j = m := by omega
          subst this
          rcases Nat.lt_or_ge i (j - 1) with e | e
          · have := hs i (j - 1) e (by omega); omega
          · have : i = j - 1 := by omega
            subst this; omega
      refine KTr.mono (fun r hr => ?_) _ (desc_ok h f (m + 1) (by omega) (by omega) hs')
      obtain ⟨a, b, d, e, g⟩ := hr
      exact ⟨a, b, by omega, by omega, g⟩
    · rw [decide_eq_false c]
      show KTr n z (if false = true then _ else _) _
      rw [if_neg (by simp)]
      have hne := h.ne hz (i := m) (j := m - 1) (by omega) (by omega) (by omega)
      refine ⟨h.lt (m - 1) (by omega), h.lt m (by omega), ?_⟩
      rw [decide_eq_true (by omega)]
      show KTr n z (if true = true then _ else _) _
      rw [if_pos rfl]
      exact ⟨rfl, rfl, Nat.le_refl _, Nat.le_add_right _ _, hs⟩
omit hz in
theorem rev_getD {p : Array Nat} {m : Nat} (hm : m ≤ p.size) (i : Nat) : (kas_rev p 0 m).getD i 0 = if i < m then p.getD (m - 1 - i) 0 else p.getD i 0 := by
  have e := getElem?_mirror_all (xs := p) (i := 0) hm i
  rw [Array.getD_eq_getD_getElem?]
  unfold kas_rev
  rw [e]
  by_cases c : i < m
  · rw [if_pos ⟨Nat.zero_le _, c⟩, if_pos c, Array.getD_eq_getD_getElem?, show 0 + m - 1 - i = m - 1 - i by omega]
  · rw [if_neg (fun q => c q.2), if_neg c, Array.getD_eq_getD_getElem?]
omit hz in
theorem PA.rev {p : Array Nat} (h : PA n p) (m : Nat) : PA n (kas_rev p 0 m) := PA.of ((Array.perm_iff_toList_perm.mp (mirror_perm _ _ _ _)).trans h.pm)
omit hz in
theorem DA.rev {p : Array Nat} {m : Nat} (hm : m ≤ p.size) (h : DA z p m) : SA z (kas_rev p 0 m) m := by
  intro i j hij hj
  rw [rev_getD hm, rev_getD hm, if_pos (by omega), if_pos hj]
  exact h _ _ (by omega) (by omega)
theorem tail3_ok {p : Array Nat} (h : PA n p) {m : Nat} (h1 : 1 ≤ m) (hm : m ≤ n) (hd : DA z p m) : KTr n z (kas_tail3 m n p) (fun r => PA n r.2 ∧ SA z r.2 r.1 ∧ 1 ≤ r.1 ∧ r.1 ≤ n) := by
  have hr := h.rev m
  refine KTr.bind _ (KTr.mono (fun r hr' => ?_) _ (asc_ok hz hr (n - m) m h1 (by omega) (hd.rev (by rw [h.sz]; exact hm))))
  obtain ⟨a, b, c, _⟩ := hr'
  exact ⟨hr, c, by omega, by omega⟩
theorem descPart_ok {p : Array Nat} (h : PA n p) {m : Nat} (hm : m + 1 ≤ n) (hd : DA z p (m + 1)) : KTr n z (kas_descPart m n p) (fun r => PA n r.2 ∧ SA z r.2 r.1 ∧ 1 ≤ r.1 ∧ r.1 ≤ n) := by
  refine KTr.bind _ (KTr.mono (fun r hr' => ?_) _ (desc_ok hz h (n - (m + 1)) (m + 1) (by omega) (by omega) hd))
  obtain ⟨a, b, c, d, e⟩ := hr'
  obtain ⟨p', m', q'⟩ := r
  dsimp only at a b c d e
  subst a; subst b
  dsimp only
  rw [if_neg (by omega)]
  exact tail3_ok hz h (by omega) (by omega) e
theorem count_ok {p : Array Nat} (h : PA n p) (hn : 1 ≤ n) : KTr n z (kas_count n p) (fun r => PA n r.2 ∧ SA z r.2 r.1 ∧ 1 ≤ r.1 ∧ r.1 ≤ n) := by
  refine KTr.bind _ (KTr.mono (fun m hm => ?_) _ (asc_ok hz h (n - 1) 1 (Nat.le_refl _) (by omega) (fun i j a b => by omega)))
  obtain ⟨a, b, c, d⟩ := hm
  by_cases e : m = n
  · rw [if_pos (by simp [e])]
    exact ⟨h, c, a, by omega⟩
  · rw [if_neg (by simp [e])]
    by_cases g : m > 1
    · rw [if_pos g]
      refine ⟨h.lt 0 (by omega), h.lt (m - 1) (by omega), ?_⟩
      rw [decide_eq_true (c 0 (m - 1) (by omega) (by omega))]
      show KTr n z (if true = true then _ else _) _
      rw [if_pos rfl]
      exact ⟨h, c, a, by omega⟩
    · rw [if_neg g]
      have : m = 1 := by omega
      subst this
      have hd := d (by omega)
      refine descPart_ok hz h (by omega) (fun i j hij hj => ?_)
      have : i = 0 ∧ j = 1 := by omega
      obtain ⟨rfl, rfl⟩ := this
      exact hd
theorem place_ok {p : Array Nat} (h : PA n p) {k : Nat} (hk : k < n) (hs : SA z p k) : ∀ (f l r : Nat), l ≤ r → r ≤ k → r - l ≤ f → (∀ i, i < l → z (p.getD i 0) < z (p.getD k 0)) → (∀ i, r ≤ i → i < k → z (p.getD k 0) < z (p.getD i 0)) →
    KTr n z (kas_place p k f l r) (fun a => a ≤ k ∧ (∀ i, i < a → z (p.getD i 0) < z (p.getD k 0)) ∧ (∀ i, a ≤ i → i < k → z (p.getD k 0) < z (p.getD i 0)))
  | 0, l, r, h1, h2, h3, h4, h5 => ⟨by omega, h4, fun i a b => h5 i (by omega) b⟩
  | f + 1, l, r, h1, h2, h3, h4, h5 => by
    unfold kas_place
    by_cases c : l ≥ r
    · rw [if_pos c]
      exact ⟨by omega, h4, fun i a b => h5 i (by omega) b⟩
    · rw [if_neg c]
      refine ⟨h.lt k hk, h.lt _ (by omega), ?_⟩
      by_cases d : z (p.getD k 0) < z (p.getD ((l + r) / 2) 0)
      · rw [decide_eq_true d]
        show KTr n z (if true = true then _ else _) _
        rw [if_pos rfl]
        refine place_ok h hk hs f l _ (by omega) (by omega) (by omega) h4 (fun i a b => ?_)
        rcases Nat.lt_or_ge ((l + r) / 2) i with e | e
        · have := hs _ _ e b; omega
        · have : i = (l + r) / 2 := by omega
          subst this; exact d
      · rw [decide_eq_false d]
        show KTr n z (if false = true then _ else _) _
        rw [if_neg (by simp)]
        have hne := h.ne hz (i := k) (j := (l + r) / 2) hk (by omega) (by omega)
        refine place_ok h hk hs f _ r (by omega) h2 (by omega) (fun i a => ?_) h5
        rcases Nat.lt_or_ge i ((l + r) / 2) with e | e
        · have := hs _ _ e (by omega); omega
        · have : i = (l + r) / 2 := by omega
          subst this; omega
omit hz in
theorem bub_gd {p : Array Nat} {k a : Nat} (hk : k < p.size) (ha : a ≤ k) (i : Nat) : gd (bubble p k (k - a)) i = if i = a then gd p k else if a < i ∧ i ≤ k then gd p (i - 1) else gd p i := by
  have e := getElem?_bubble hk (k - a) (by omega) i
  rw [show k - (k - a) = a by omega] at e
  rw [gd_eq, e, gd_eq, gd_eq, gd_eq]
  split
  · rfl
  · split <;> rfl
omit hz in
theorem PA.bub {p : Array Nat} (h : PA n p) (k a : Nat) : PA n (bubble p k (k - a)) := PA.of ((Array.perm_iff_toList_perm.mp (bubble_perm _ _ _)).trans h.pm)
theorem bin_ok : ∀ (f : Nat) {p : Array Nat} {k : Nat}, PA n p → k + f = n → SA z p k → KTr n z (kas_bin f p k) (fun q => PA n q ∧ SA z q n)
  | 0, p, k, h, hk, hs => by
    have : k = n := by omega
    subst this; exact ⟨h, hs⟩
  | f + 1, p, k, h, hk, hs => by
    refine KTr.bind _ (KTr.mono (fun a ha => ?_) _ (place_ok hz h (by omega) hs k 0 k (Nat.zero_le _) (Nat.le_refl _) (by omega) (fun i c => by omega) (fun i c d => by omega)))
    obtain ⟨h1, h2, h3⟩ := ha
    have hk' : k < p.size := by rw [h.sz]; omega
    refine bin_ok f (h.bub _ _) (by omega) (fun i j hij hj => ?_)
    show z (gd _ i) < z (gd _ j)
    rw [bub_gd hk' h1, bub_gd hk' h1]
    by_cases c : i = a
    · rw [if_pos c, if_neg (by omega), if_pos (by omega)]
      exact h3 _ (by omega) (by omega)
    · rw [if_neg c]
      by_cases d : j = a
      · rw [if_pos d, if_neg (by omega)]
        exact h2 _ (by omega)
      · rw [if_neg d]
        split <;> split
        · exact hs _ _ (by omega) (by omega)
        · omega
        · exact hs _ _ (by omega) (by omega)
        · exact hs _ _ (by omega) (by omega)
theorem sort_ok (hn : 1 ≤ n) : KTr n z (kas_sort n) (fun q => PA n q ∧ SA z q n) := by
  have h0 : PA n (List.toArray (List.range n)) := PA.of (.refl _)
  refine KTr.bind _ (KTr.mono (fun r hr => ?_) _ (count_ok hz h0 hn))
  obtain ⟨h1, h2, h3, h4⟩ := hr
  by_cases c : r.1 < n
  · rw [if_pos c, show max r.1 1 = r.1 by omega]
    exact bin_ok hz _ h1 (by omega) h2
  · rw [if_neg c]
    have : r.1 = n := by omega
    rw [this] at h2
    exact ⟨h1, h2⟩
end
end
section
open PySem PySem.W
set_option maxHeartbeats 0
noncomputable def K39 : Params → Frag :=
  (fun (n0 : Str) (p0 : Arguments) (b0 : List Stmt) (d0 : List PySem.Expr) (r0 : Option PySem.Expr) (t0 : List TypeParam) (s0 : Scope) (u0 : Option Scope) (v0 : Str) (w0 : Pos) (a1 : Stmt) (a2 : Stmt) (a3 : Stmt) (n4_0 : Str) (p4_0 : Arguments) (b4_0 : List Stmt) (d4_0 : List PySem.Expr) (r4_0 : Option PySem.Expr) (t4_0 : List TypeParam) (s4_0 : Scope) (u4_0 : Option Scope) (v4_0 : Str) (w4_0 : Pos) (n4_1 : Str) (p4_1 : Arguments) (b4_1 : List Stmt) (d4_1 : List PySem.Expr) (r4_1 : Option PySem.Expr) (t4_1 : List TypeParam) (s4_1 : Scope) (u4_1 : Option Scope) (v4_1 : Str) (w4_1 : Pos) (n4_2 : Str) (p4_2 : Arguments) (b4_2 : List Stmt) (d4_2 : List PySem.Expr) (r4_2 : Option PySem.Expr) (t4_2 : List TypeParam) (s4_2 : Scope) (u4_2 : Option Scope) (v4_2 : Str) (w4_2 : Pos) (n4_3 : Str) (p4_3 : Arguments) (b4_3 : List Stmt) (d4_3 : List PySem.Expr) (r4_3 : Option PySem.Expr) (t4_3 : List TypeParam) (s4_3 : Scope) (u4_3 : Option Scope) (v4_3 : Str) (w4_3 : Pos) (n4_4 : Str) (p4_4 : Arguments) (b4_4 : List Stmt) (d4_4 : List PySem.Expr) (r4_4 : Option PySem.Expr) (t4_4 : List TypeParam) (s4_4 : Scope) (u4_4 : Option Scope) (v4_4 : Str) (w4_4 : Pos) (n4_5 : Str) (p4_5 : Arguments) (b4_5 : List Stmt) (d4_5 : List PySem.Expr) (r4_5 : Option PySem.Expr) (t4_5 : List TypeParam) (s4_5 : Scope) (u4_5 : Option Scope) (v4_5 : Str) (w4_5 : Pos) (n4_6 : Str) (p4_6 : Arguments) (b4_6 : List Stmt) (d4_6 : List PySem.Expr) (r4_6 : Option PySem.Expr) (t4_6 : List TypeParam) (s4_6 : Scope) (u4_6 : Option Scope) (v4_6 : Str) (w4_6 : Pos) (n4_7 : Str) (p4_7 : Arguments) (b4_7 : List Stmt) (d4_7 : List PySem.Expr) (r4_7 : Option PySem.Expr) (t4_7 : List TypeParam) (s4_7 : Scope) (u4_7 : Option Scope) (v4_7 : Str) (w4_7 : Pos) (n4_8 : Str) (p4_8 : Arguments) (b4_8 : List Stmt) (d4_8 : List PySem.Expr) (r4_8 : Option PySem.Expr) (t4_8 : List TypeParam) (s4_8 : Scope) (u4_8 : Option Scope) (v4_8 : Str) (w4_8 : Pos) (n4_9 : Str) (p4_9 : Arguments) (b4_9 : List Stmt) (d4_9 : List PySem.Expr) (r4_9 : Option PySem.Expr) (t4_9 : List TypeParam) (s4_9 : Scope) (u4_9 : Option Scope) (v4_9 : Str) (w4_9 : Pos) (n4_10 : Str) (p4_10 : Arguments) (b4_10 : List Stmt) (d4_10 : List PySem.Expr) (r4_10 : Option PySem.Expr) (t4_10 : List TypeParam) (s4_10 : Scope) (u4_10 : Option Scope) (v4_10 : Str) (w4_10 : Pos) (n4_11 : Str) (p4_11 : Arguments) (b4_11 : List Stmt) (d4_11 : List PySem.Expr) (r4_11 : Option PySem.Expr) (t4_11 : List TypeParam) (s4_11 : Scope) (u4_11 : Option Scope) (v4_11 : Str) (w4_11 : Pos) (n4_12 : Str) (p4_12 : Arguments) (b4_12 : List Stmt) (d4_12 : List PySem.Expr) (r4_12 : Option PySem.Expr) (t4_12 : List TypeParam) (s4_12 : Scope) (u4_12 : Option Scope) (v4_12 : Str) (w4_12 : Pos) (n4_13 : Str) (p4_13 : Arguments) (b4_13 : List Stmt) (d4_13 : List PySem.Expr) (r4_13 : Option PySem.Expr) (t4_13 : List TypeParam) (s4_13 : Scope) (u4_13 : Option Scope) (v4_13 : Str) (w4_13 : Pos) (n4_14 : Str) (p4_14 : Arguments) (b4_14 : List Stmt) (d4_14 : List PySem.Expr) (r4_14 : Option PySem.Expr) (t4_14 : List TypeParam) (s4_14 : Scope) (u4_14 : Option Scope) (v4_14 : Str) (w4_14 : Pos) (n4_15 : Str) (p4_15 : Arguments) (b4_15 : List Stmt) (d4_15 : List PySem.Expr) (r4_15 : Option PySem.Expr) (t4_15 : List TypeParam) (s4_15 : Scope) (u4_15 : Option Scope) (v4_15 : Str) (w4_15 : Pos) (c4_0 : Str) (c4_1 : List PySem.Expr) (c4_2 : List Keyword) (c4_4 : List PySem.Expr) (c4_5 : List TypeParam) (c4_6 : Scope) (c4_7 : Option Scope) (c4_8 : Str) (c4_9 : List Str) (c4_10 : Pos) (n5_0 : Str) (p5_0 : Arguments) (b5_0 : List Stmt) (d5_0 : List PySem.Expr) (r5_0 : Option PySem.Expr) (t5_0 : List TypeParam) (s5_0 : Scope) (u5_0 : Option Scope) (v5_0 : Str) (w5_0 : Pos) (n5_1 : Str) (p5_1 : Arguments) (b5_1 : List Stmt) (d5_1 : List PySem.Expr) (r5_1 : Option PySem.Expr) (t5_1 : List TypeParam) (s5_1 : Scope) (u5_1 : Option Scope) (v5_1 : Str) (w5_1 : Pos) (n5_2 : Str) (p5_2 : Arguments) (b5_2 : List Stmt) (d5_2 : List PySem.Expr) (r5_2 : Option PySem.Expr) (t5_2 : List TypeParam) (s5_2 : Scope) (u5_2 : Option Scope) (v5_2 : Str) (w5_2 : Pos) (c5_0 : Str) (c5_1 : List PySem.Expr) (c5_2 : List Keyword) (c5_4 : List PySem.Expr) (c5_5 : List TypeParam) (c5_6 : Scope) (c5_7 : Option Scope) (c5_8 : Str) (c5_9 : List Str) (c5_10 : Pos) (a6 : Stmt) (n7 : Str) (p7 : Arguments) (b7 : List Stmt) (d7 : List PySem.Expr) (r7 : Option PySem.Expr) (t7 : List TypeParam) (s7 : Scope) (u7 : Option Scope) (v7 : Str) (w7 : Pos) (n8 : Str) (p8 : Arguments) (b8 : List Stmt) (d8 : List PySem.Expr) (r8 : Option PySem.Expr) (t8 : List TypeParam) (s8 : Scope) (u8 : Option Scope) (v8 : Str) (w8 : Pos) (n9 : Str) (p9 : Arguments) (b9 : List Stmt) (d9 : List PySem.Expr) (r9 : Option PySem.Expr) (t9 : List TypeParam) (s9 : Scope) (u9 : Option Scope) (v9 : Str) (w9 : Pos) (n10 : Str) (p10 : Arguments) (b10 : List Stmt) (d10 : List PySem.Expr) (r10 : Option PySem.Expr) (t10 : List TypeParam) (s10 : Scope) (u10 : Option Scope) (v10 : Str) (w10 : Pos) (n11 : Str) (p11 : Arguments) (b11 : List Stmt) (d11 : List PySem.Expr) (r11 : Option PySem.Expr) (t11 : List TypeParam) (s11 : Scope) (u11 : Option Scope) (v11 : Str) (w11 : Pos) (n12 : Str) (p12 : Arguments) (b12 : List Stmt) (d12 : List PySem.Expr) (r12 : Option PySem.Expr) (t12 : List TypeParam) (s12 : Scope) (u12 : Option Scope) (v12 : Str) (w12 : Pos) (n13 : Str) (p13 : Arguments) (b13 : List Stmt) (d13 : List PySem.Expr) (r13 : Option PySem.Expr) (t13 : List TypeParam) (s13 : Scope) (u13 : Option Scope) (v13 : Str) (w13 : Pos) (n14 : Str) (p14 : Arguments) (b14 : List Stmt) (d14 : List PySem.Expr) (r14 : Option PySem.Expr) (t14 : List TypeParam) (s14 : Scope) (u14 : Option Scope) (v14 : Str) (w14 : Pos) (n15 : Str) (p15 : Arguments) (b15 : List Stmt) (d15 : List PySem.Expr) (r15 : Option PySem.Expr) (t15 : List TypeParam) (s15 : Scope) (u15 : Option Scope) (v15 : Str) (w15 : Pos) (main : List Stmt → Module) (prog : Module → Program)
    (_ : PySem.Challenge.pw_no0005_01 = prog (main [.FunctionDef n0 p0 b0 d0 r0 t0 s0 u0 v0 w0,
      a1,
      a2,
      a3,
      .ClassDef c4_0 c4_1 c4_2 [.FunctionDef n4_0 p4_0 b4_0 d4_0 r4_0 t4_0 s4_0 u4_0 v4_0 w4_0, .FunctionDef n4_1 p4_1 b4_1 d4_1 r4_1 t4_1 s4_1 u4_1 v4_1 w4_1, .FunctionDef n4_2 p4_2 b4_2 d4_2 r4_2 t4_2 s4_2 u4_2 v4_2 w4_2, .FunctionDef n4_3 p4_3 b4_3 d4_3 r4_3 t4_3 s4_3 u4_3 v4_3 w4_3, .FunctionDef n4_4 p4_4 b4_4 d4_4 r4_4 t4_4 s4_4 u4_4 v4_4 w4_4, .FunctionDef n4_5 p4_5 b4_5 d4_5 r4_5 t4_5 s4_5 u4_5 v4_5 w4_5, .FunctionDef n4_6 p4_6 b4_6 d4_6 r4_6 t4_6 s4_6 u4_6 v4_6 w4_6, .FunctionDef n4_7 p4_7 b4_7 d4_7 r4_7 t4_7 s4_7 u4_7 v4_7 w4_7, .FunctionDef n4_8 p4_8 b4_8 d4_8 r4_8 t4_8 s4_8 u4_8 v4_8 w4_8, .FunctionDef n4_9 p4_9 b4_9 d4_9 r4_9 t4_9 s4_9 u4_9 v4_9 w4_9, .FunctionDef n4_10 p4_10 b4_10 d4_10 r4_10 t4_10 s4_10 u4_10 v4_10 w4_10, .FunctionDef n4_11 p4_11 b4_11 d4_11 r4_11 t4_11 s4_11 u4_11 v4_11 w4_11, .FunctionDef n4_12 p4_12 b4_12 d4_12 r4_12 t4_12 s4_12 u4_12 v4_12 w4_12, .FunctionDef n4_13 p4_13 b4_13 d4_13 r4_13 t4_13 s4_13 u4_13 v4_13 w4_13, .FunctionDef n4_14 p4_14 b4_14 d4_14 r4_14 t4_14 s4_14 u4_14 v4_14 w4_14, .FunctionDef n4_15 p4_15 b4_15 d4_15 r4_15 t4_15 s4_15 u4_15 v4_15 w4_15] c4_4 c4_5 c4_6 c4_7 c4_8 c4_9 c4_10,
      .ClassDef c5_0 c5_1 c5_2 [.FunctionDef n5_0 p5_0 b5_0 d5_0 r5_0 t5_0 s5_0 u5_0 v5_0 w5_0, .FunctionDef n5_1 p5_1 b5_1 d5_1 r5_1 t5_1 s5_1 u5_1 v5_1 w5_1, .FunctionDef n5_2 p5_2 b5_2 d5_2 r5_2 t5_2 s5_2 u5_2 v5_2 w5_2] c5_4 c5_5 c5_6 c5_7 c5_8 c5_9 c5_10,
      a6,
      .FunctionDef n7 p7 b7 d7 r7 t7 s7 u7 v7 w7,
      .FunctionDef n8 p8 b8 d8 r8 t8 s8 u8 v8 w8,
      .FunctionDef n9 p9 b9 d9 r9 t9 s9 u9 v9 w9,
      .FunctionDef n10 p10 b10 d10 r10 t10 s10 u10 v10 w10,
      .FunctionDef n11 p11 b11 d11 r11 t11 s11 u11 v11 w11,
      .FunctionDef n12 p12 b12 d12 r12 t12 s12 u12 v12 w12,
      .FunctionDef n13 p13 b13 d13 r13 t13 s13 u13 v13 w13,
      .FunctionDef n14 p14 b14 d14 r14 t14 s14 u14 v14 w14,
      .FunctionDef n15 p15 b15 d15 r15 t15 s15 u15 v15 w15])) (P : Params) => ((
(nat_lit 2, { cls := Value.none, data := Data.dict #[] }) ::
    (nat_lit 3, { cls := Value.type "dict", data := Data.dict #[{ hash := PyData.keyHash P (Str.ofString "__name__"), key := Value.str (Str.ofString "__name__") 165, val := Value.str (Str.ofString "law_no0005_01") 397 }, { hash := PyData.keyHash P (Str.ofString "__doc__"), key := Value.str (Str.ofString "__doc__") 166, val := Value.none }, { hash := PyData.keyHash P (Str.ofString "__package__"), key := Value.str (Str.ofString "__package__") 167, val := Value.none }, { hash := PyData.keyHash P (Str.ofString "__loader__"), key := Value.str (Str.ofString "__loader__") 168, val := Value.builtin "__main__.__loader__#opaque" }, { hash := PyData.keyHash P (Str.ofString "__spec__"), key := Value.str (Str.ofString "__spec__") 169, val := Value.none }, { hash := PyData.keyHash P (Str.ofString "__annotations__"), key := Value.str (Str.ofString "__annotations__") 170, val := Value.ref 6 }, { hash := PyData.keyHash P (Str.ofString "__builtins__"), key := Value.str (Str.ofString "__builtins__") 171, val := Value.ref 4 }, { hash := PyData.keyHash P (Str.ofString "__file__"), key := Value.str (Str.ofString "__file__") 173, val := Value.str (Str.ofString "/claim/cut.py") 172 }, { hash := PyData.keyHash P (Str.ofString "__cached__"), key := Value.str (Str.ofString "__cached__") 174, val := Value.none }, { hash := PyData.keyHash P (Str.ofString "_wall"), key := Value.str (Str.ofString "_wall") 193, val := Value.ref 21 }, { hash := PyData.keyHash P (Str.ofString "FIRST_STEP"), key := Value.str (Str.ofString "FIRST_STEP") 197, val := Value.int 1024 196 }, { hash := PyData.keyHash P (Str.ofString "SHRINK"), key := Value.str (Str.ofString "SHRINK") 199, val := Value.int 20 198 }, { hash := PyData.keyHash P (Str.ofString "CoreHeap"), key := Value.str (Str.ofString "CoreHeap") 359, val := Value.ref 142 }, { hash := PyData.keyHash P (Str.ofString "ActivityHeap"), key := Value.str (Str.ofString "ActivityHeap") 396, val := Value.ref 177 }, { hash := PyData.keyHash P (Str.ofString "_law_first"), key := Value.str (Str.ofString "_law_first") 408, val := Value.ref 186 }, { hash := PyData.keyHash P (Str.ofString "_law_in_order"), key := Value.str (Str.ofString "_law_in_order") 418, val := Value.ref 193 }, { hash := PyData.keyHash P (Str.ofString "_law_small"), key := Value.str (Str.ofString "_law_small") 428, val := Value.ref 200 }, { hash := PyData.keyHash P (Str.ofString "_law_bumped"), key := Value.str (Str.ofString "_law_bumped") 440, val := Value.ref 207 }, { hash := PyData.keyHash P (Str.ofString "_law_decayed"), key := Value.str (Str.ofString "_law_decayed") 450, val := Value.ref 214 }, { hash := PyData.keyHash P (Str.ofString "_law_same"), key := Value.str (Str.ofString "_law_same") 456, val := Value.ref 219 }, { hash := PyData.keyHash P (Str.ofString "_law_values"), key := Value.str (Str.ofString "_law_values") 462, val := Value.ref 224 }, { hash := PyData.keyHash P (Str.ofString "_law_best"), key := Value.str (Str.ofString "_law_best") 473, val := Value.ref 231 }, { hash := PyData.keyHash P (Str.ofString "law"), key := Value.str (Str.ofString "law") 479, val := Value.ref 236 }] 23 }) ::
    (nat_lit 15, { cls := Value.type "tuple", data := Data.seq #[] }) ::
    (nat_lit 17, { cls := Value.type "tuple", data := Data.seq #[Value.str (Str.ofString "k") 190] }) ::
    (nat_lit 18, { cls := Value.type "tuple", data := Data.seq #[] }) ::
    (nat_lit 20, { cls := Value.type "code", data := Data.fields #[Value.str (Str.ofString "_wall") 187, Value.str (Str.ofString "_wall") 188, Value.str (Str.ofString "/claim/cut.py") 189, Value.int 1 0, Value.int 1 0, Value.int 0 0, Value.int 0 0, Value.int 3 0, Value.ref 15, Value.bool true, Value.int 181 0, Value.ref 16, Value.none, Value.ref 17, Value.ref 18, Value.ref 19, Value.int 191 0, Value.int 1 0, Value.str (Str.ofString "/claim/cut.py") 192] }) ::
    (nat_lit 21, { cls := Value.type "function", data := Data.func { name := n0, qualname := Str.ofString "_wall", params := p0, body := FuncBody.stmts b0, scope := s0, globals := 3, closure := [], defaults := Value.none, kwdefaults := Value.none, pyModule := Value.str (Str.ofString "__main__") 164, code := Value.ref 20 } }) ::
    (nat_lit 29, { cls := Value.type "tuple", data := Data.seq #[Value.int 1000000000000 212] }) ::
    (nat_lit 30, { cls := Value.type "tuple", data := Data.seq #[] }) ::
    (nat_lit 32, { cls := Value.type "tuple", data := Data.seq #[Value.str (Str.ofString "self") 216, Value.str (Str.ofString "limit") 217] }) ::
    (nat_lit 33, { cls := Value.type "tuple", data := Data.seq #[] }) ::
    (nat_lit 35, { cls := Value.type "code", data := Data.fields #[Value.str (Str.ofString "__init__") 213, Value.str (Str.ofString "CoreHeap.__init__") 214, Value.str (Str.ofString "/claim/cut.py") 215, Value.int 9 0, Value.int 2 0, Value.int 0 0, Value.int 0 0, Value.int 3 0, Value.ref 30, Value.bool true, Value.int 181 0, Value.ref 31, Value.none, Value.ref 32, Value.ref 33, Value.ref 34, Value.int 218 0, Value.int 9 0, Value.str (Str.ofString "/claim/cut.py") 219] }) ::
    (nat_lit 36, { cls := Value.type "function", data := Data.func { name := n4_0, qualname := Str.ofString "CoreHeap.__init__", params := p4_0, body := FuncBody.stmts b4_0, scope := s4_0, globals := 3, closure := [], defaults := Value.ref 29, kwdefaults := Value.none, pyModule := Value.str (Str.ofString "minismt.sattrail") 194, code := Value.ref 35 } }) ::
    (nat_lit 37, { cls := Value.type "tuple", data := Data.seq #[] }) ::
    (nat_lit 39, { cls := Value.type "tuple", data := Data.seq #[Value.str (Str.ofString "self") 224] }) ::
    (nat_lit 40, { cls := Value.type "tuple", data := Data.seq #[] }) ::
    (nat_lit 42, { cls := Value.type "code", data := Data.fields #[Value.str (Str.ofString "many") 221, Value.str (Str.ofString "CoreHeap.many") 222, Value.str (Str.ofString "/claim/cut.py") 223, Value.int 16 0, Value.int 1 0, Value.int 0 0, Value.int 0 0, Value.int 3 0, Value.ref 37, Value.bool true, Value.int 181 0, Value.ref 38, Value.none, Value.ref 39, Value.ref 40, Value.ref 41, Value.int 225 0, Value.int 16 0, Value.str (Str.ofString "/claim/cut.py") 226] }) ::
    (nat_lit 43, { cls := Value.type "function", data := Data.func { name := n4_1, qualname := Str.ofString "CoreHeap.many", params := p4_1, body := FuncBody.stmts b4_1, scope := s4_1, globals := 3, closure := [], defaults := Value.none, kwdefaults := Value.none, pyModule := Value.str (Str.ofString "minismt.sattrail") 194, code := Value.ref 42 } }) ::
    (nat_lit 44, { cls := Value.type "tuple", data := Data.seq #[] }) ::
    (nat_lit 46, { cls := Value.type "tuple", data := Data.seq #[Value.str (Str.ofString "self") 231, Value.str (Str.ofString "var") 232] }) ::
    (nat_lit 47, { cls := Value.type "tuple", data := Data.seq #[] }) ::
    (nat_lit 49, { cls := Value.type "code", data := Data.fields #[Value.str (Str.ofString "is_held") 228, Value.str (Str.ofString "CoreHeap.is_held") 229, Value.str (Str.ofString "/claim/cut.py") 230, Value.int 19 0, Value.int 2 0, Value.int 0 0, Value.int 0 0, Value.int 3 0, Value.ref 44, Value.bool true, Value.int 181 0, Value.ref 45, Value.none, Value.ref 46, Value.ref 47, Value.ref 48, Value.int 233 0, Value.int 19 0, Value.str (Str.ofString "/claim/cut.py") 234] }) ::
    (nat_lit 50, { cls := Value.type "function", data := Data.func { name := n4_2, qualname := Str.ofString "CoreHeap.is_held", params := p4_2, body := FuncBody.stmts b4_2, scope := s4_2, globals := 3, closure := [], defaults := Value.none, kwdefaults := Value.none, pyModule := Value.str (Str.ofString "minismt.sattrail") 194, code := Value.ref 49 } }) ::
    (nat_lit 51, { cls := Value.type "tuple", data := Data.seq #[] }) ::
    (nat_lit 53, { cls := Value.type "tuple", data := Data.seq #[Value.str (Str.ofString "self") 239, Value.str (Str.ofString "one") 240, Value.str (Str.ofString "other") 241] }) ::
    (nat_lit 54, { cls := Value.type "tuple", data := Data.seq #[] }) ::
    (nat_lit 56, { cls := Value.type "code", data := Data.fields #[Value.str (Str.ofString "is_before") 236, Value.str (Str.ofString "CoreHeap.is_before") 237, Value.str (Str.ofString "/claim/cut.py") 238, Value.int 22 0, Value.int 3 0, Value.int 0 0, Value.int 0 0, Value.int 3 0, Value.ref 51, Value.bool true, Value.int 181 0, Value.ref 52, Value.none, Value.ref 53, Value.ref 54, Value.ref 55, Value.int 242 0, Value.int 22 0, Value.str (Str.ofString "/claim/cut.py") 243] }) ::
    (nat_lit 57, { cls := Value.type "function", data := Data.func { name := n4_3, qualname := Str.ofString "CoreHeap.is_before", params := p4_3, body := FuncBody.stmts b4_3, scope := s4_3, globals := 3, closure := [], defaults := Value.none, kwdefaults := Value.none, pyModule := Value.str (Str.ofString "minismt.sattrail") 194, code := Value.ref 56 } }) ::
    (nat_lit 58, { cls := Value.type "tuple", data := Data.seq #[] }) ::
    (nat_lit 60, { cls := Value.type "tuple", data := Data.seq #[Value.str (Str.ofString "self") 248, Value.str (Str.ofString "n") 249] }) ::
    (nat_lit 61, { cls := Value.type "tuple", data := Data.seq #[] }) ::
    (nat_lit 63, { cls := Value.type "code", data := Data.fields #[Value.str (Str.ofString "grow") 245, Value.str (Str.ofString "CoreHeap.grow") 246, Value.str (Str.ofString "/claim/cut.py") 247, Value.int 27 0, Value.int 2 0, Value.int 0 0, Value.int 0 0, Value.int 3 0, Value.ref 58, Value.bool true, Value.int 181 0, Value.ref 59, Value.none, Value.ref 60, Value.ref 61, Value.ref 62, Value.int 250 0, Value.int 27 0, Value.str (Str.ofString "/claim/cut.py") 251] }) ::
    (nat_lit 64, { cls := Value.type "function", data := Data.func { name := n4_4, qualname := Str.ofString "CoreHeap.grow", params := p4_4, body := FuncBody.stmts b4_4, scope := s4_4, globals := 3, closure := [], defaults := Value.none, kwdefaults := Value.none, pyModule := Value.str (Str.ofString "minismt.sattrail") 194, code := Value.ref 63 } }) ::
    (nat_lit 65, { cls := Value.type "tuple", data := Data.seq #[] }) ::
    (nat_lit 67, { cls := Value.type "tuple", data := Data.seq #[Value.str (Str.ofString "self") 256, Value.str (Str.ofString "spot") 257, Value.str (Str.ofString "var") 258] }) ::
    (nat_lit 68, { cls := Value.type "tuple", data := Data.seq #[] }) ::
    (nat_lit 70, { cls := Value.type "code", data := Data.fields #[Value.str (Str.ofString "put") 253, Value.str (Str.ofString "CoreHeap.put") 254, Value.str (Str.ofString "/claim/cut.py") 255, Value.int 33 0, Value.int 3 0, Value.int 0 0, Value.int 0 0, Value.int 3 0, Value.ref 65, Value.bool true, Value.int 181 0, Value.ref 66, Value.none, Value.ref 67, Value.ref 68, Value.ref 69, Value.int 259 0, Value.int 33 0, Value.str (Str.ofString "/claim/cut.py") 260] }) ::
    (nat_lit 71, { cls := Value.type "function", data := Data.func { name := n4_5, qualname := Str.ofString "CoreHeap.put", params := p4_5, body := FuncBody.stmts b4_5, scope := s4_5, globals := 3, closure := [], defaults := Value.none, kwdefaults := Value.none, pyModule := Value.str (Str.ofString "minismt.sattrail") 194, code := Value.ref 70 } }) ::
    (nat_lit 72, { cls := Value.type "tuple", data := Data.seq #[] }) ::
    (nat_lit 74, { cls := Value.type "tuple", data := Data.seq #[Value.str (Str.ofString "self") 265, Value.str (Str.ofString "spot") 266, Value.str (Str.ofString "var") 267, Value.str (Str.ofString "above") 268] }) ::
    (nat_lit 75, { cls := Value.type "tuple", data := Data.seq #[] }) ::
    (nat_lit 77, { cls := Value.type "code", data := Data.fields #[Value.str (Str.ofString "rise") 262, Value.str (Str.ofString "CoreHeap.rise") 263, Value.str (Str.ofString "/claim/cut.py") 264, Value.int 37 0, Value.int 2 0, Value.int 0 0, Value.int 0 0, Value.int 3 0, Value.ref 72, Value.bool true, Value.int 181 0, Value.ref 73, Value.none, Value.ref 74, Value.ref 75, Value.ref 76, Value.int 269 0, Value.int 37 0, Value.str (Str.ofString "/claim/cut.py") 270] }) ::
    (nat_lit 78, { cls := Value.type "function", data := Data.func { name := n4_6, qualname := Str.ofString "CoreHeap.rise", params := p4_6, body := FuncBody.stmts b4_6, scope := s4_6, globals := 3, closure := [], defaults := Value.none, kwdefaults := Value.none, pyModule := Value.str (Str.ofString "minismt.sattrail") 194, code := Value.ref 77 } }) ::
    (nat_lit 79, { cls := Value.type "tuple", data := Data.seq #[] }) ::
    (nat_lit 81, { cls := Value.type "tuple", data := Data.seq #[Value.str (Str.ofString "self") 275, Value.str (Str.ofString "spot") 276, Value.str (Str.ofString "left") 277, Value.str (Str.ofString "right") 278] }) ::
    (nat_lit 82, { cls := Value.type "tuple", data := Data.seq #[] }) ::
    (nat_lit 84, { cls := Value.type "code", data := Data.fields #[Value.str (Str.ofString "better_child") 272, Value.str (Str.ofString "CoreHeap.better_child") 273, Value.str (Str.ofString "/claim/cut.py") 274, Value.int 47 0, Value.int 2 0, Value.int 0 0, Value.int 0 0, Value.int 3 0, Value.ref 79, Value.bool true, Value.int 181 0, Value.ref 80, Value.none, Value.ref 81, Value.ref 82, Value.ref 83, Value.int 279 0, Value.int 47 0, Value.str (Str.ofString "/claim/cut.py") 280] }) ::
    (nat_lit 85, { cls := Value.type "function", data := Data.func { name := n4_7, qualname := Str.ofString "CoreHeap.better_child", params := p4_7, body := FuncBody.stmts b4_7, scope := s4_7, globals := 3, closure := [], defaults := Value.none, kwdefaults := Value.none, pyModule := Value.str (Str.ofString "minismt.sattrail") 194, code := Value.ref 84 } }) ::
    (nat_lit 86, { cls := Value.type "tuple", data := Data.seq #[] }) ::
    (nat_lit 88, { cls := Value.type "tuple", data := Data.seq #[Value.str (Str.ofString "self") 285, Value.str (Str.ofString "spot") 286, Value.str (Str.ofString "var") 287, Value.str (Str.ofString "below") 288] }) ::
    (nat_lit 89, { cls := Value.type "tuple", data := Data.seq #[] }) ::
    (nat_lit 91, { cls := Value.type "code", data := Data.fields #[Value.str (Str.ofString "sink") 282, Value.str (Str.ofString "CoreHeap.sink") 283, Value.str (Str.ofString "/claim/cut.py") 284, Value.int 56 0, Value.int 2 0, Value.int 0 0, Value.int 0 0, Value.int 3 0, Value.ref 86, Value.bool true, Value.int 181 0, Value.ref 87, Value.none, Value.ref 88, Value.ref 89, Value.ref 90, Value.int 289 0, Value.int 56 0, Value.str (Str.ofString "/claim/cut.py") 290] }) ::
    (nat_lit 92, { cls := Value.type "function", data := Data.func { name := n4_8, qualname := Str.ofString "CoreHeap.sink", params := p4_8, body := FuncBody.stmts b4_8, scope := s4_8, globals := 3, closure := [], defaults := Value.none, kwdefaults := Value.none, pyModule := Value.str (Str.ofString "minismt.sattrail") 194, code := Value.ref 91 } }) ::
    (nat_lit 93, { cls := Value.type "tuple", data := Data.seq #[] }) ::
    (nat_lit 95, { cls := Value.type "tuple", data := Data.seq #[Value.str (Str.ofString "self") 295, Value.str (Str.ofString "var") 296] }) ::
    (nat_lit 96, { cls := Value.type "tuple", data := Data.seq #[] }) ::
    (nat_lit 98, { cls := Value.type "code", data := Data.fields #[Value.str (Str.ofString "push") 292, Value.str (Str.ofString "CoreHeap.push") 293, Value.str (Str.ofString "/claim/cut.py") 294, Value.int 65 0, Value.int 2 0, Value.int 0 0, Value.int 0 0, Value.int 3 0, Value.ref 93, Value.bool true, Value.int 181 0, Value.ref 94, Value.none, Value.ref 95, Value.ref 96, Value.ref 97, Value.int 297 0, Value.int 65 0, Value.str (Str.ofString "/claim/cut.py") 298] }) ::
    (nat_lit 99, { cls := Value.type "function", data := Data.func { name := n4_9, qualname := Str.ofString "CoreHeap.push", params := p4_9, body := FuncBody.stmts b4_9, scope := s4_9, globals := 3, closure := [], defaults := Value.none, kwdefaults := Value.none, pyModule := Value.str (Str.ofString "minismt.sattrail") 194, code := Value.ref 98 } }) ::
    (nat_lit 100, { cls := Value.type "tuple", data := Data.seq #[] }) ::
    (nat_lit 102, { cls := Value.type "tuple", data := Data.seq #[Value.str (Str.ofString "self") 303, Value.str (Str.ofString "best") 304, Value.str (Str.ofString "last") 305] }) ::
    (nat_lit 103, { cls := Value.type "tuple", data := Data.seq #[] }) ::
    (nat_lit 105, { cls := Value.type "code", data := Data.fields #[Value.str (Str.ofString "pop") 300, Value.str (Str.ofString "CoreHeap.pop") 301, Value.str (Str.ofString "/claim/cut.py") 302, Value.int 72 0, Value.int 1 0, Value.int 0 0, Value.int 0 0, Value.int 3 0, Value.ref 100, Value.bool true, Value.int 181 0, Value.ref 101, Value.none, Value.ref 102, Value.ref 103, Value.ref 104, Value.int 306 0, Value.int 72 0, Value.str (Str.ofString "/claim/cut.py") 307] }) ::
    (nat_lit 106, { cls := Value.type "function", data := Data.func { name := n4_10, qualname := Str.ofString "CoreHeap.pop", params := p4_10, body := FuncBody.stmts b4_10, scope := s4_10, globals := 3, closure := [], defaults := Value.none, kwdefaults := Value.none, pyModule := Value.str (Str.ofString "minismt.sattrail") 194, code := Value.ref 105 } }) ::
    (nat_lit 107, { cls := Value.type "tuple", data := Data.seq #[] }) ::
    (nat_lit 109, { cls := Value.type "tuple", data := Data.seq #[Value.str (Str.ofString "self") 312, Value.str (Str.ofString "known") 313, Value.str (Str.ofString "var") 314] }) ::
    (nat_lit 110, { cls := Value.type "tuple", data := Data.seq #[] }) ::
    (nat_lit 112, { cls := Value.type "code", data := Data.fields #[Value.str (Str.ofString "pop_best") 309, Value.str (Str.ofString "CoreHeap.pop_best") 310, Value.str (Str.ofString "/claim/cut.py") 311, Value.int 83 0, Value.int 2 0, Value.int 0 0, Value.int 0 0, Value.int 3 0, Value.ref 107, Value.bool true, Value.int 181 0, Value.ref 108, Value.none, Value.ref 109, Value.ref 110, Value.ref 111, Value.int 315 0, Value.int 83 0, Value.str (Str.ofString "/claim/cut.py") 316] }) ::
    (nat_lit 113, { cls := Value.type "function", data := Data.func { name := n4_11, qualname := Str.ofString "CoreHeap.pop_best", params := p4_11, body := FuncBody.stmts b4_11, scope := s4_11, globals := 3, closure := [], defaults := Value.none, kwdefaults := Value.none, pyModule := Value.str (Str.ofString "minismt.sattrail") 194, code := Value.ref 112 } }) ::
    (nat_lit 114, { cls := Value.type "tuple", data := Data.seq #[] }) ::
    (nat_lit 116, { cls := Value.type "tuple", data := Data.seq #[Value.str (Str.ofString "self") 321, Value.str (Str.ofString "var") 322] }) ::
    (nat_lit 117, { cls := Value.type "tuple", data := Data.seq #[] }) ::
    (nat_lit 119, { cls := Value.type "code", data := Data.fields #[Value.str (Str.ofString "bump") 318, Value.str (Str.ofString "CoreHeap.bump") 319, Value.str (Str.ofString "/claim/cut.py") 320, Value.int 89 0, Value.int 2 0, Value.int 0 0, Value.int 0 0, Value.int 3 0, Value.ref 114, Value.bool true, Value.int 181 0, Value.ref 115, Value.none, Value.ref 116, Value.ref 117, Value.ref 118, Value.int 323 0, Value.int 89 0, Value.str (Str.ofString "/claim/cut.py") 324] }) ::
    (nat_lit 120, { cls := Value.type "function", data := Data.func { name := n4_12, qualname := Str.ofString "CoreHeap.bump", params := p4_12, body := FuncBody.stmts b4_12, scope := s4_12, globals := 3, closure := [], defaults := Value.none, kwdefaults := Value.none, pyModule := Value.str (Str.ofString "minismt.sattrail") 194, code := Value.ref 119 } }) ::
    (nat_lit 121, { cls := Value.type "tuple", data := Data.seq #[] }) ::
    (nat_lit 123, { cls := Value.type "tuple", data := Data.seq #[Value.str (Str.ofString "self") 329] }) ::
    (nat_lit 124, { cls := Value.type "tuple", data := Data.seq #[] }) ::
    (nat_lit 126, { cls := Value.type "code", data := Data.fields #[Value.str (Str.ofString "decay") 326, Value.str (Str.ofString "CoreHeap.decay") 327, Value.str (Str.ofString "/claim/cut.py") 328, Value.int 96 0, Value.int 1 0, Value.int 0 0, Value.int 0 0, Value.int 3 0, Value.ref 121, Value.bool true, Value.int 181 0, Value.ref 122, Value.none, Value.ref 123, Value.ref 124, Value.ref 125, Value.int 330 0, Value.int 96 0, Value.str (Str.ofString "/claim/cut.py") 331] }) ::
    (nat_lit 127, { cls := Value.type "function", data := Data.func { name := n4_13, qualname := Str.ofString "CoreHeap.decay", params := p4_13, body := FuncBody.stmts b4_13, scope := s4_13, globals := 3, closure := [], defaults := Value.none, kwdefaults := Value.none, pyModule := Value.str (Str.ofString "minismt.sattrail") 194, code := Value.ref 126 } }) ::
    (nat_lit 128, { cls := Value.type "tuple", data := Data.seq #[] }) ::
    (nat_lit 131, { cls := Value.type "code", data := Data.fields #[Value.str (Str.ofString "rescale") 333, Value.str (Str.ofString "CoreHeap.rescale") 334, Value.str (Str.ofString "/claim/cut.py") 335, Value.int 101 0, Value.int 1 0, Value.int 0 0, Value.int 0 0, Value.int 3 0, Value.ref 128, Value.bool true, Value.int 181 0, Value.ref 129, Value.none, Value.none, Value.none, Value.ref 130, Value.int 336 0, Value.int 101 0, Value.str (Str.ofString "/claim/cut.py") 337] }) ::
    (nat_lit 132, { cls := Value.type "function", data := Data.func { name := n4_14, qualname := Str.ofString "CoreHeap.rescale", params := p4_14, body := FuncBody.stmts b4_14, scope := s4_14, globals := 3, closure := [], defaults := Value.none, kwdefaults := Value.none, pyModule := Value.str (Str.ofString "minismt.sattrail") 194, code := Value.ref 131 } }) ::
    (nat_lit 133, { cls := Value.type "tuple", data := Data.seq #[] }) ::
    (nat_lit 135, { cls := Value.type "tuple", data := Data.seq #[Value.str (Str.ofString "self") 342, Value.str (Str.ofString "spot") 343] }) ::
    (nat_lit 136, { cls := Value.type "tuple", data := Data.seq #[] }) ::
    (nat_lit 138, { cls := Value.type "code", data := Data.fields #[Value.str (Str.ofString "rebuild") 339, Value.str (Str.ofString "CoreHeap.rebuild") 340, Value.str (Str.ofString "/claim/cut.py") 341, Value.int 113 0, Value.int 1 0, Value.int 0 0, Value.int 0 0, Value.int 3 0, Value.ref 133, Value.bool true, Value.int 181 0, Value.ref 134, Value.none, Value.ref 135, Value.ref 136, Value.ref 137, Value.int 344 0, Value.int 113 0, Value.str (Str.ofString "/claim/cut.py") 345] }) ::
    (nat_lit 139, { cls := Value.type "function", data := Data.func { name := n4_15, qualname := Str.ofString "CoreHeap.rebuild", params := p4_15, body := FuncBody.stmts b4_15, scope := s4_15, globals := 3, closure := [], defaults := Value.none, kwdefaults := Value.none, pyModule := Value.str (Str.ofString "minismt.sattrail") 194, code := Value.ref 138 } }) ::
    (nat_lit 140, { cls := Value.type "tuple", data := Data.seq #[Value.str (Str.ofString "activity") 347, Value.str (Str.ofString "heap") 348, Value.str (Str.ofString "limit") 349, Value.str (Str.ofString "place") 350, Value.str (Str.ofString "step") 351] }) ::
    (nat_lit 141, { cls := Value.type "dict", data := Data.dict #[{ hash := PyData.keyHash P (Str.ofString "__module__"), key := Value.str (Str.ofString "__module__") 207, val := Value.str (Str.ofString "minismt.sattrail") 194 }, { hash := PyData.keyHash P (Str.ofString "__firstlineno__"), key := Value.str (Str.ofString "__firstlineno__") 211, val := Value.int 7 210 }, { hash := PyData.keyHash P (Str.ofString "__init__"), key := Value.str (Str.ofString "__init__") 220, val := Value.ref 36 }, { hash := PyData.keyHash P (Str.ofString "many"), key := Value.str (Str.ofString "many") 227, val := Value.ref 43 }, { hash := PyData.keyHash P (Str.ofString "is_held"), key := Value.str (Str.ofString "is_held") 235, val := Value.ref 50 }, { hash := PyData.keyHash P (Str.ofString "is_before"), key := Value.str (Str.ofString "is_before") 244, val := Value.ref 57 }, { hash := PyData.keyHash P (Str.ofString "grow"), key := Value.str (Str.ofString "grow") 252, val := Value.ref 64 }, { hash := PyData.keyHash P (Str.ofString "put"), key := Value.str (Str.ofString "put") 261, val := Value.ref 71 }, { hash := PyData.keyHash P (Str.ofString "rise"), key := Value.str (Str.ofString "rise") 271, val := Value.ref 78 }, { hash := PyData.keyHash P (Str.ofString "better_child"), key := Value.str (Str.ofString "better_child") 281, val := Value.ref 85 }, { hash := PyData.keyHash P (Str.ofString "sink"), key := Value.str (Str.ofString "sink") 291, val := Value.ref 92 }, { hash := PyData.keyHash P (Str.ofString "push"), key := Value.str (Str.ofString "push") 299, val := Value.ref 99 }, { hash := PyData.keyHash P (Str.ofString "pop"), key := Value.str (Str.ofString "pop") 308, val := Value.ref 106 }, { hash := PyData.keyHash P (Str.ofString "pop_best"), key := Value.str (Str.ofString "pop_best") 317, val := Value.ref 113 }, { hash := PyData.keyHash P (Str.ofString "bump"), key := Value.str (Str.ofString "bump") 325, val := Value.ref 120 }, { hash := PyData.keyHash P (Str.ofString "decay"), key := Value.str (Str.ofString "decay") 332, val := Value.ref 127 }, { hash := PyData.keyHash P (Str.ofString "rescale"), key := Value.str (Str.ofString "rescale") 338, val := Value.ref 132 }, { hash := PyData.keyHash P (Str.ofString "rebuild"), key := Value.str (Str.ofString "rebuild") 346, val := Value.ref 139 }, { hash := PyData.keyHash P (Str.ofString "__static_attributes__"), key := Value.str (Str.ofString "__static_attributes__") 352, val := Value.ref 140 }, { hash := PyData.keyHash P (Str.ofString "__dict__"), key := Value.str (Str.ofString "__dict__") 354, val := Value.ref 143 }, { hash := PyData.keyHash P (Str.ofString "__weakref__"), key := Value.str (Str.ofString "__weakref__") 356, val := Value.ref 144 }, { hash := PyData.keyHash P (Str.ofString "__doc__"), key := Value.str (Str.ofString "__doc__") 357, val := Value.none }] 4 }) ::
    (nat_lit 142, { cls := Value.type "type", data := Data.cls { name := Str.ofString "CoreHeap", bases := [Value.type "object"], mro := [Value.ref 142, Value.type "object"], ns := 141, qualname := Str.ofString "CoreHeap", subclasses := [Value.ref 177] }, slots := #[none, none, some (Value.str (Str.ofString "CoreHeap") 200), some (Value.str (Str.ofString "CoreHeap") 208), some (Value.builtin "object.__new__"), some (Value.bool true)] }) ::
    (nat_lit 143, { cls := Value.type "getset_descriptor", data := Data.fields #[Value.str (Str.ofString "__dict__") 353, Value.ref 142, Value.builtin "function.__dict__", Value.builtin "function.__dict__#set"] }) ::
    (nat_lit 144, { cls := Value.type "getset_descriptor", data := Data.fields #[Value.str (Str.ofString "__weakref__") 355, Value.ref 142, Value.builtin "ExceptionGroup.__weakref__", Value.none] }) ::
    (nat_lit 147, { cls := Value.type "tuple", data := Data.seq #[Value.ref 142] }) ::
    (nat_lit 154, { cls := Value.type "tuple", data := Data.seq #[] }) ::
    (nat_lit 156, { cls := Value.type "tuple", data := Data.seq #[Value.str (Str.ofString "self") 375] }) ::
    (nat_lit 157, { cls := Value.type "tuple", data := Data.seq #[] }) ::
    (nat_lit 159, { cls := Value.type "code", data := Data.fields #[Value.str (Str.ofString "size") 372, Value.str (Str.ofString "ActivityHeap.size") 373, Value.str (Str.ofString "/claim/cut.py") 374, Value.int 120 0, Value.int 1 0, Value.int 0 0, Value.int 0 0, Value.int 3 0, Value.ref 154, Value.bool true, Value.int 181 0, Value.ref 155, Value.none, Value.ref 156, Value.ref 157, Value.ref 158, Value.int 376 0, Value.int 120 0, Value.str (Str.ofString "/claim/cut.py") 377] }) ::
    (nat_lit 160, { cls := Value.type "function", data := Data.func { name := n5_0, qualname := Str.ofString "ActivityHeap.size", params := p5_0, body := FuncBody.stmts b5_0, scope := s5_0, globals := 3, closure := [], defaults := Value.none, kwdefaults := Value.none, pyModule := Value.str (Str.ofString "minismt.sattrail") 194, code := Value.ref 159 } }) ::
    (nat_lit 161, { cls := Value.type "tuple", data := Data.seq #[] }) ::
    (nat_lit 163, { cls := Value.type "tuple", data := Data.seq #[Value.str (Str.ofString "self") 382] }) ::
    (nat_lit 164, { cls := Value.type "tuple", data := Data.seq #[] }) ::
    (nat_lit 166, { cls := Value.type "code", data := Data.fields #[Value.str (Str.ofString "top") 379, Value.str (Str.ofString "ActivityHeap.top") 380, Value.str (Str.ofString "/claim/cut.py") 381, Value.int 123 0, Value.int 1 0, Value.int 0 0, Value.int 0 0, Value.int 3 0, Value.ref 161, Value.bool true, Value.int 181 0, Value.ref 162, Value.none, Value.ref 163, Value.ref 164, Value.ref 165, Value.int 383 0, Value.int 123 0, Value.str (Str.ofString "/claim/cut.py") 384] }) ::
    (nat_lit 167, { cls := Value.type "function", data := Data.func { name := n5_1, qualname := Str.ofString "ActivityHeap.top", params := p5_1, body := FuncBody.stmts b5_1, scope := s5_1, globals := 3, closure := [], defaults := Value.none, kwdefaults := Value.none, pyModule := Value.str (Str.ofString "minismt.sattrail") 194, code := Value.ref 166 } }) ::
    (nat_lit 168, { cls := Value.type "tuple", data := Data.seq #[] }) ::
    (nat_lit 170, { cls := Value.type "tuple", data := Data.seq #[Value.str (Str.ofString "self") 389] }) ::
    (nat_lit 171, { cls := Value.type "tuple", data := Data.seq #[] }) ::
    (nat_lit 173, { cls := Value.type "code", data := Data.fields #[Value.str (Str.ofString "is_sound") 386, Value.str (Str.ofString "ActivityHeap.is_sound") 387, Value.str (Str.ofString "/claim/cut.py") 388, Value.int 126 0, Value.int 1 0, Value.int 0 0, Value.int 0 0, Value.int 3 0, Value.ref 168, Value.bool true, Value.int 181 0, Value.ref 169, Value.none, Value.ref 170, Value.ref 171, Value.ref 172, Value.int 390 0, Value.int 126 0, Value.str (Str.ofString "/claim/cut.py") 391] }) ::
    (nat_lit 174, { cls := Value.type "function", data := Data.func { name := n5_2, qualname := Str.ofString "ActivityHeap.is_sound", params := p5_2, body := FuncBody.stmts b5_2, scope := s5_2, globals := 3, closure := [], defaults := Value.none, kwdefaults := Value.none, pyModule := Value.str (Str.ofString "minismt.sattrail") 194, code := Value.ref 173 } }) ::
    (nat_lit 175, { cls := Value.type "tuple", data := Data.seq #[] }) ::
    (nat_lit 176, { cls := Value.type "dict", data := Data.dict #[{ hash := PyData.keyHash P (Str.ofString "__module__"), key := Value.str (Str.ofString "__module__") 367, val := Value.str (Str.ofString "minismt.sattrail") 194 }, { hash := PyData.keyHash P (Str.ofString "__firstlineno__"), key := Value.str (Str.ofString "__firstlineno__") 371, val := Value.int 118 370 }, { hash := PyData.keyHash P (Str.ofString "size"), key := Value.str (Str.ofString "size") 378, val := Value.ref 160 }, { hash := PyData.keyHash P (Str.ofString "top"), key := Value.str (Str.ofString "top") 385, val := Value.ref 167 }, { hash := PyData.keyHash P (Str.ofString "is_sound"), key := Value.str (Str.ofString "is_sound") 392, val := Value.ref 174 }, { hash := PyData.keyHash P (Str.ofString "__static_attributes__"), key := Value.str (Str.ofString "__static_attributes__") 393, val := Value.ref 175 }, { hash := PyData.keyHash P (Str.ofString "__doc__"), key := Value.str (Str.ofString "__doc__") 394, val := Value.none }] 2 }) ::
    (nat_lit 177, { cls := Value.type "type", data := Data.cls { name := Str.ofString "ActivityHeap", bases := [Value.ref 142], mro := [Value.ref 177, Value.ref 142, Value.type "object"], ns := 176, qualname := Str.ofString "ActivityHeap" }, slots := #[some (Value.ref 147), none, some (Value.str (Str.ofString "ActivityHeap") 360), some (Value.str (Str.ofString "ActivityHeap") 368), some (Value.builtin "object.__new__"), some (Value.bool true)] }) ::
    (nat_lit 180, { cls := Value.type "tuple", data := Data.seq #[] }) ::
    (nat_lit 182, { cls := Value.type "tuple", data := Data.seq #[Value.str (Str.ofString "activity") 402, Value.str (Str.ofString "held") 403, Value.str (Str.ofString "best") 404, Value.str (Str.ofString "var") 405] }) ::
    (nat_lit 183, { cls := Value.type "tuple", data := Data.seq #[] }) ::
    (nat_lit 185, { cls := Value.type "code", data := Data.fields #[Value.str (Str.ofString "_law_first") 399, Value.str (Str.ofString "_law_first") 400, Value.str (Str.ofString "/claim/cut.py") 401, Value.int 129 0, Value.int 2 0, Value.int 0 0, Value.int 0 0, Value.int 3 0, Value.ref 180, Value.bool true, Value.int 181 0, Value.ref 181, Value.none, Value.ref 182, Value.ref 183, Value.ref 184, Value.int 406 0, Value.int 129 0, Value.str (Str.ofString "/claim/cut.py") 407] }) ::
    (nat_lit 186, { cls := Value.type "function", data := Data.func { name := n7, qualname := Str.ofString "_law_first", params := p7, body := FuncBody.stmts b7, scope := s7, globals := 3, closure := [], defaults := Value.none, kwdefaults := Value.none, pyModule := Value.str (Str.ofString "law_no0005_01") 397, code := Value.ref 185 } }) ::
    (nat_lit 187, { cls := Value.type "tuple", data := Data.seq #[] }) ::
    (nat_lit 189, { cls := Value.type "tuple", data := Data.seq #[Value.str (Str.ofString "before") 412, Value.str (Str.ofString "after") 413, Value.str (Str.ofString "one") 414, Value.str (Str.ofString "two") 415] }) ::
    (nat_lit 190, { cls := Value.type "tuple", data := Data.seq #[] }) ::
    (nat_lit 192, { cls := Value.type "code", data := Data.fields #[Value.str (Str.ofString "_law_in_order") 409, Value.str (Str.ofString "_law_in_order") 410, Value.str (Str.ofString "/claim/cut.py") 411, Value.int 135 0, Value.int 2 0, Value.int 0 0, Value.int 0 0, Value.int 3 0, Value.ref 187, Value.bool true, Value.int 181 0, Value.ref 188, Value.none, Value.ref 189, Value.ref 190, Value.ref 191, Value.int 416 0, Value.int 135 0, Value.str (Str.ofString "/claim/cut.py") 417] }) ::
    (nat_lit 193, { cls := Value.type "function", data := Data.func { name := n8, qualname := Str.ofString "_law_in_order", params := p8, body := FuncBody.stmts b8, scope := s8, globals := 3, closure := [], defaults := Value.none, kwdefaults := Value.none, pyModule := Value.str (Str.ofString "law_no0005_01") 397, code := Value.ref 192 } }) ::
    (nat_lit 194, { cls := Value.type "tuple", data := Data.seq #[] }) ::
    (nat_lit 196, { cls := Value.type "tuple", data := Data.seq #[Value.str (Str.ofString "heap") 422, Value.str (Str.ofString "limit") 423, Value.str (Str.ofString "before") 424, Value.str (Str.ofString "after") 425] }) ::
    (nat_lit 197, { cls := Value.type "tuple", data := Data.seq #[] }) ::
    (nat_lit 199, { cls := Value.type "code", data := Data.fields #[Value.str (Str.ofString "_law_small") 419, Value.str (Str.ofString "_law_small") 420, Value.str (Str.ofString "/claim/cut.py") 421, Value.int 141 0, Value.int 3 0, Value.int 0 0, Value.int 0 0, Value.int 3 0, Value.ref 194, Value.bool true, Value.int 181 0, Value.ref 195, Value.none, Value.ref 196, Value.ref 197, Value.ref 198, Value.int 426 0, Value.int 141 0, Value.str (Str.ofString "/claim/cut.py") 427] }) ::
    (nat_lit 200, { cls := Value.type "function", data := Data.func { name := n9, qualname := Str.ofString "_law_small", params := p9, body := FuncBody.stmts b9, scope := s9, globals := 3, closure := [], defaults := Value.none, kwdefaults := Value.none, pyModule := Value.str (Str.ofString "law_no0005_01") 397, code := Value.ref 199 } }) ::
    (nat_lit 201, { cls := Value.type "tuple", data := Data.seq #[] }) ::
    (nat_lit 203, { cls := Value.type "tuple", data := Data.seq #[Value.str (Str.ofString "heap") 432, Value.str (Str.ofString "limit") 433, Value.str (Str.ofString "var") 434, Value.str (Str.ofString "wanted") 435, Value.str (Str.ofString "ahead") 436, Value.str (Str.ofString "late") 437] }) ::
    (nat_lit 204, { cls := Value.type "tuple", data := Data.seq #[] }) ::
    (nat_lit 206, { cls := Value.type "code", data := Data.fields #[Value.str (Str.ofString "_law_bumped") 429, Value.str (Str.ofString "_law_bumped") 430, Value.str (Str.ofString "/claim/cut.py") 431, Value.int 146 0, Value.int 3 0, Value.int 0 0, Value.int 0 0, Value.int 3 0, Value.ref 201, Value.bool true, Value.int 181 0, Value.ref 202, Value.none, Value.ref 203, Value.ref 204, Value.ref 205, Value.int 438 0, Value.int 146 0, Value.str (Str.ofString "/claim/cut.py") 439] }) ::
    (nat_lit 207, { cls := Value.type "function", data := Data.func { name := n10, qualname := Str.ofString "_law_bumped", params := p10, body := FuncBody.stmts b10, scope := s10, globals := 3, closure := [], defaults := Value.none, kwdefaults := Value.none, pyModule := Value.str (Str.ofString "law_no0005_01") 397, code := Value.ref 206 } }) ::
    (nat_lit 208, { cls := Value.type "tuple", data := Data.seq #[] }) ::
    (nat_lit 210, { cls := Value.type "tuple", data := Data.seq #[Value.str (Str.ofString "heap") 444, Value.str (Str.ofString "limit") 445, Value.str (Str.ofString "before") 446, Value.str (Str.ofString "ahead") 447] }) ::
    (nat_lit 211, { cls := Value.type "tuple", data := Data.seq #[] }) ::
    (nat_lit 213, { cls := Value.type "code", data := Data.fields #[Value.str (Str.ofString "_law_decayed") 441, Value.str (Str.ofString "_law_decayed") 442, Value.str (Str.ofString "/claim/cut.py") 443, Value.int 159 0, Value.int 2 0, Value.int 0 0, Value.int 0 0, Value.int 3 0, Value.ref 208, Value.bool true, Value.int 181 0, Value.ref 209, Value.none, Value.ref 210, Value.ref 211, Value.ref 212, Value.int 448 0, Value.int 159 0, Value.str (Str.ofString "/claim/cut.py") 449] }) ::
    (nat_lit 214, { cls := Value.type "function", data := Data.func { name := n11, qualname := Str.ofString "_law_decayed", params := p11, body := FuncBody.stmts b11, scope := s11, globals := 3, closure := [], defaults := Value.none, kwdefaults := Value.none, pyModule := Value.str (Str.ofString "law_no0005_01") 397, code := Value.ref 213 } }) ::
    (nat_lit 215, { cls := Value.type "tuple", data := Data.seq #[] }) ::
    (nat_lit 218, { cls := Value.type "code", data := Data.fields #[Value.str (Str.ofString "_law_same") 451, Value.str (Str.ofString "_law_same") 452, Value.str (Str.ofString "/claim/cut.py") 453, Value.int 166 0, Value.int 3 0, Value.int 0 0, Value.int 0 0, Value.int 3 0, Value.ref 215, Value.bool true, Value.int 181 0, Value.ref 216, Value.none, Value.none, Value.none, Value.ref 217, Value.int 454 0, Value.int 166 0, Value.str (Str.ofString "/claim/cut.py") 455] }) ::
    (nat_lit 219, { cls := Value.type "function", data := Data.func { name := n12, qualname := Str.ofString "_law_same", params := p12, body := FuncBody.stmts b12, scope := s12, globals := 3, closure := [], defaults := Value.none, kwdefaults := Value.none, pyModule := Value.str (Str.ofString "law_no0005_01") 397, code := Value.ref 218 } }) ::
    (nat_lit 220, { cls := Value.type "tuple", data := Data.seq #[] }) ::
    (nat_lit 223, { cls := Value.type "code", data := Data.fields #[Value.str (Str.ofString "_law_values") 457, Value.str (Str.ofString "_law_values") 458, Value.str (Str.ofString "/claim/cut.py") 459, Value.int 172 0, Value.int 2 0, Value.int 0 0, Value.int 0 0, Value.int 3 0, Value.ref 220, Value.bool true, Value.int 181 0, Value.ref 221, Value.none, Value.none, Value.none, Value.ref 222, Value.int 460 0, Value.int 172 0, Value.str (Str.ofString "/claim/cut.py") 461] }) ::
    (nat_lit 224, { cls := Value.type "function", data := Data.func { name := n13, qualname := Str.ofString "_law_values", params := p13, body := FuncBody.stmts b13, scope := s13, globals := 3, closure := [], defaults := Value.none, kwdefaults := Value.none, pyModule := Value.str (Str.ofString "law_no0005_01") 397, code := Value.ref 223 } }) ::
    (nat_lit 225, { cls := Value.type "tuple", data := Data.seq #[] }) ::
    (nat_lit 227, { cls := Value.type "tuple", data := Data.seq #[Value.str (Str.ofString "activity") 466, Value.str (Str.ofString "held") 467, Value.str (Str.ofString "known") 468, Value.str (Str.ofString "left") 469, Value.str (Str.ofString "best") 470] }) ::
    (nat_lit 228, { cls := Value.type "tuple", data := Data.seq #[] }) ::
    (nat_lit 230, { cls := Value.type "code", data := Data.fields #[Value.str (Str.ofString "_law_best") 463, Value.str (Str.ofString "_law_best") 464, Value.str (Str.ofString "/claim/cut.py") 465, Value.int 174 0, Value.int 3 0, Value.int 0 0, Value.int 0 0, Value.int 3 0, Value.ref 225, Value.bool true, Value.int 181 0, Value.ref 226, Value.none, Value.ref 227, Value.ref 228, Value.ref 229, Value.int 471 0, Value.int 174 0, Value.str (Str.ofString "/claim/cut.py") 472] }) ::
    (nat_lit 231, { cls := Value.type "function", data := Data.func { name := n14, qualname := Str.ofString "_law_best", params := p14, body := FuncBody.stmts b14, scope := s14, globals := 3, closure := [], defaults := Value.none, kwdefaults := Value.none, pyModule := Value.str (Str.ofString "law_no0005_01") 397, code := Value.ref 230 } }) ::
    (nat_lit 232, { cls := Value.type "tuple", data := Data.seq #[] }) ::
    (nat_lit 235, { cls := Value.type "code", data := Data.fields #[Value.str (Str.ofString "law") 474, Value.str (Str.ofString "law") 475, Value.str (Str.ofString "/claim/cut.py") 476, Value.int 183 0, Value.int 1 0, Value.int 0 0, Value.int 0 0, Value.int 3 0, Value.ref 232, Value.bool true, Value.int 181 0, Value.ref 233, Value.none, Value.none, Value.none, Value.ref 234, Value.int 477 0, Value.int 183 0, Value.str (Str.ofString "/claim/cut.py") 478] }) ::
    (nat_lit 236, { cls := Value.type "function", data := Data.func { name := n15, qualname := Str.ofString "law", params := p15, body := FuncBody.stmts b15, scope := s15, globals := 3, closure := [], defaults := Value.none, kwdefaults := Value.none, pyModule := Value.str (Str.ofString "law_no0005_01") 397, code := Value.ref 235 } }) :: [] : Frag)))
    _ _ _ _ _ _ _ _ _ _ _ _ _ _ _ _ _ _ _ _ _ _ _ _ _ _ _ _ _ _ _ _ _ _ _ _ _ _ _ _ _ _ _ _ _ _ _ _ _ _ _ _ _ _ _ _ _ _ _ _ _ _ _ _ _ _ _ _ _ _ _ _ _ _ _ _ _ _ _ _ _ _ _ _ _ _ _ _ _ _ _ _ _ _ _ _ _ _ _ _ _ _ _ _ _ _ _ _ _ _ _ _ _ _ _ _ _ _ _ _ _ _ _ _ _ _ _ _ _ _ _ _ _ _ _ _ _ _ _ _ _ _ _ _ _ _ _ _ _ _ _ _ _ _ _ _ _ _ _ _ _ _ _ _ _ _ _ _ _ _ _ _ _ _ _ _ _ _ _ _ _ _ _ _ _ _ _ _ _ _ _ _ _ _ _ _ _ _ _ _ _ _ _ _ _ _ _ _ _ _ _ _ _ _ _ _ _ _ _ _ _ _ _ _ _ _ _ _ _ _ _ _ _ _ _ _ _ _ _ _ _ _ _ _ _ _ _ _ _ _ _ _ _ _ _ _ _ _ _ _ _ _ _ _ _ _ _ _ _ _ _ _ _ _ _ _ _ _ _ _ _ _ _ _ _ _ _ _ _ _ _ _ _ _ _ _ _ _ _ _ _ _ _ _ _ _ _ _ _ _ _ _ _ _ (fun b => { PySem.Challenge.pw_no0005_01.main with body := b }) (fun m => { PySem.Challenge.pw_no0005_01 with main := m }) rfl
noncomputable def V39 : Program :=
  (fun (s0 : Stmt) (s1 : Stmt) (s2 : Stmt) (s3 : Stmt) (s4 : Stmt) (s5 : Stmt) (s6 : Stmt) (s7 : Stmt) (s8 : Stmt) (s9 : Stmt) (s10 : Stmt) (s11 : Stmt) (s12 : Stmt) (s13 : Stmt) (s14 : Stmt) (s15 : Stmt) (prog : List Stmt → Program) (_ : PySem.Challenge.pw_no0005_01 = prog [s0, s1, s2, s3, s4, s5, s6, s7, s8, s9, s10, s11, s12, s13, s14, s15]) =>
    ({ PySem.Challenge.pw_no0005_01 with main := { PySem.Challenge.pw_no0005_01.main with body := [s0, s2, s3, s4, s5, s7, s8, s9, s10, s11, s12, s13, s14, s15] } } : Program))
    _ _ _ _ _ _ _ _ _ _ _ _ _ _ _ _ (fun b => { PySem.Challenge.pw_no0005_01 with main := { PySem.Challenge.pw_no0005_01.main with body := b } }) rfl
theorem e39 : ∀ P, ([2, 3, 15, 17, 18, 20, 21, 29, 30, 32, 33, 35, 36, 37, 39, 40, 42, 43, 44, 46, 47, 49, 50, 51, 53, 54, 56, 57, 58, 60, 61, 63, 64, 65, 67, 68, 70, 71, 72, 74, 75, 77, 78, 79, 81, 82, 84, 85, 86, 88, 89, 91, 92, 93, 95, 96, 98, 99, 100, 102, 103, 105, 106, 107, 109, 110, 112, 113, 114, 116, 117, 119, 120, 121, 123, 124, 126, 127, 128, 131, 132, 133, 135, 136, 138, 139, 140, 141, 142, 143, 144, 147, 154, 156, 157, 159, 160, 161, 163, 164, 166, 167, 168, 170, 171, 173, 174, 175, 176, 177, 180, 182, 183, 185, 186, 187, 189, 190, 192, 193, 194, 196, 197, 199, 200, 201, 203, 204, 206, 207, 208, 210, 211, 213, 214, 215, 218, 219, 220, 223, 224, 225, 227, 228, 230, 231, 232, 235, 236] : List Addr) = (K39 P).map (·.1) := fun P => by kernel_rfl
noncomputable abbrev hk39 : Hook := kHook K39 [2, 3, 15, 17, 18, 20, 21, 29, 30, 32, 33, 35, 36, 37, 39, 40, 42, 43, 44, 46, 47, 49, 50, 51, 53, 54, 56, 57, 58, 60, 61, 63, 64, 65, 67, 68, 70, 71, 72, 74, 75, 77, 78, 79, 81, 82, 84, 85, 86, 88, 89, 91, 92, 93, 95, 96, 98, 99, 100, 102, 103, 105, 106, 107, 109, 110, 112, 113, 114, 116, 117, 119, 120, 121, 123, 124, 126, 127, 128, 131, 132, 133, 135, 136, 138, 139, 140, 141, 142, 143, 144, 147, 154, 156, 157, 159, 160, 161, 163, 164, 166, 167, 168, 170, 171, 173, 174, 175, 176, 177, 180, 182, 183, 185, 186, 187, 189, 190, 192, 193, 194, 196, 197, 199, 200, 201, 203, 204, 206, 207, 208, 210, 211, 213, 214, 215, 218, 219, 220, 223, 224, 225, 227, 228, 230, 231, 232, 235, 236] e39
abbrev rrW : RowW := OpenRow.toRowW (OpenLaw.row PySem.Challenge.rw_no0005_01)
theorem left_of {p q : Program} {loose : List Str} {Xt : Shared → Bool} {α : Type} {Yf : Shared → α} {Ya : World → α} {N : Nat}
    (o : ∀ w : World, (fencedOpening treeTable p w N).map (fun s => (s.heap, s.gens, s.drawn, s.toks)) = some (boot_heap w.params, Array.mk [], boot_drawn, boot_toks))
    (h : ∀ (w : World) (os : OsState), (topFrom treeTable p w N ⟨boot_heap w.params, Array.mk [], boot_drawn, boot_toks, os⟩).map (fun s => (openSeen q loose (importedModules p.main.body) Xt true s, Yf s)) = some (openGood q loose, Ya w)) :
    LeftO p q loose Xt Yf Ya N := fun w => by
  obtain ⟨⟨a, b, c, d, os⟩, e, e'⟩ := Option.map_eq_some_iff.mp (o w)
  obtain ⟨rfl, rfl, rfl, rfl⟩ : a = boot_heap w.params ∧ b = Array.mk [] ∧ c = boot_drawn ∧ d = boot_toks := by simpa using e'
  unfold openEnds
  rw [e]
  exact h w os

theorem bo39 : ∀ w : World, (fencedOpening treeTable rrW.prog w 2836).map (fun s => (s.heap, s.gens, s.drawn, s.toks)) = some (boot_heap w.params, Array.mk [], boot_drawn, boot_toks) :=
  boot_open (by kernel_rfl) (by decide +kernel) (fun s => by kernel_rfl)
theorem hl39 : LeftO rrW.prog V39 [] (fun s => xlAt V39 [] s && recOk (RowW.records rrW) s) hk39.obs hk39.val 2836 := left_of bo39 fun w os => by
  unfold topFrom
  rw [PySem.W.Fast.te14082659384304107361, PySem.W.Fast.te4187177175401517315]
  kernel_rfl
end
section
open PySem PySem.W PyProof.Rows PySem.Calls PySem.Spec
theorem news_sub {h₀ h : Heap} {L : Addr} {news news' : List (Addr × Obj)} (N : News h₀ L h news') (hs : ∀ p ∈ news, p ∈ news') : News h₀ L h news := fun p hp => N p (hs p hp)
theorem news_app {h₀ h : Heap} {L : Addr} {n1 n2 : List (Addr × Obj)} (N1 : News h₀ L h n1) (N2 : News h₀ L h n2) : News h₀ L h (n1 ++ n2) :=
  fun p hp => (List.mem_append.mp hp).elim (N1 p) (N2 p)
abbrev Led := List (Addr × Obj)
def Apart (l r : Led) : Prop := ∀ p ∈ r, ∀ q ∈ l, @Ne Nat p.1 q.1

section
variable {prog : Program} {w : World} {A₀ A : Around} {s : Shared} {base h₀ : Heap} {outer : List Env} {L : Addr} {m : Str → Option Value} {env : Env} {H Rr : Led} {K : Frag}
  {p : Program} {loose : List Str} {mean : ExcName → Option Value} {mg mb : Str → Option Value}
  {R : Result → Shared → Prop} {name qual : Str} {params : Arguments} {body : List Stmt} {scope : Scope} {dV kV doc pm cdv ct oc : Value} {an od : Option Addr} {osl : Array (Option Value)} {f : Addr} {args : Args} {binds : List (Str × Value)}

def LeaveF (h₀ : Heap) (L : Addr) (m : Str → Option Value) (g : Heap) (Rr : Led) (R : Result → Shared → Prop) (v : Value) (s' : Shared) : Prop :=
  ∃ L' m' news', Fr g L' s'.heap m' ∧ News g L' s'.heap news' ∧ (Fr h₀ L s'.heap m → News h₀ L s'.heap news' → News h₀ L s'.heap Rr → Apart news' Rr → R (.ok (.ret v)) s')

theorem rest_in (NR : News h₀ L s.heap Rr) (dj : Apart H Rr) : ∀ q ∈ Rr, (hideAll s.heap (H.map (·.1))).get? q.1 = some q.2 := fun q hq =>
  hideAll_get _ (NR q hq).1 fun hm => by
    obtain ⟨x, hx, e⟩ := List.mem_map.mp hm
    exact dj q hq x hx e.symm

theorem leave_rest {g : Heap} (NR : News h₀ L s.heap Rr) (hg : ∀ q ∈ Rr, g.get? q.1 = some q.2) {v : Value} {s' : Shared} (lv : ∀ v s', LeaveK h₀ L m g R v s' → R (.ok (.ret v)) s') (hl : LeaveF h₀ L m g Rr R v s') : R (.ok (.ret v)) s' := by
  obtain ⟨L', m', news', F', N', k⟩ := hl
  refine lv v s' ⟨L', m', news', F', N', fun F1 N1 => k F1 N1 (fun q hq => ⟨F'.keep _ _ (hg q hq), (NR q hq).2.1, (NR q hq).2.2⟩) fun q hq x hx e => ?_⟩
  have := (N' x hx).2.2
  rw [← e, hg q hq] at this
  cases this

theorem enterF (B : Below A₀ base outer h₀) (F : Fr h₀ L s.heap m) (X₀ : K.In h₀) (N : News h₀ L s.heap H) (NR : News h₀ L s.heap Rr) (dj : Apart H Rr) (T : Top p loose mean mg mb h₀)
    (hA : A.frames = some (env :: outer)) (hf : env.frame = some L) (hke : env.scope.kind = .function)
    (ho : K.lookup f = some ⟨oc, od, .func (fnOf name qual params body scope dV kV doc pm an cdv ct), osl⟩) (hcd : codeIn K cdv qual = true) (hroom : A.depth < recursionLimit)
    (hbind : BindsTo s (fnOf name qual params body scope dV kV doc pm an cdv ct) args binds) (hloc : ∀ y ∈ binds, scope.names.lookup y.1 = some .local)
    (h : ∀ g L' h₁, Fr h₀ L g m → Fr g L' h₁ (fun y => binds.reverse.lookup y) → News g L' h₁ H → Below A base (env :: outer) g → K.In g → Top p loose mean mg mb g → (∀ q ∈ H, q.1 < L') →
      wpAny (model prog w) (A.deeper (envOf qual scope L' f cdv)) (execs body (envOf qual scope L' f cdv))
        (fun fl s' => LeaveF h₀ L m g Rr R (match fl with | .ret v => v | _ => .none) s')
        (fun e s' => wpAny (model prog w) (A.deeper (envOf qual scope L' f cdv)) (leaving (envOf qual scope L' f cdv) e) (fun _ s'' => R (.error e) s'') (fun e' s'' => R (.error e') s'') s')
        { s with heap := h₁, toks := s.toks + binds.length })
    (hco : scope.isCoroutine = false) (hgen : scope.isGenerator = false) (hk : scope.kind = .function) (hcell : ∀ x ∈ scope.names, x.2 ≠ .cell) : codeAny (model prog w) A (.call (.ref f) args) R s := by
  obtain ⟨FG, BG, st, lv⟩ := groundX (R := R) B F N hA hf hke
  have X := X₀.keeps F.keep
  refine codeAny_call_def (fd := fnOf name qual params body scope dV kV doc pm an cdv ct) (body := body) (binds := binds) hroom (X _ _ ho) rfl (T.nolimit.keeps F.keep) (codeRec_of X hcd) rfl hbind hcell hloc (fun h₁ hns hk₁ => ?_) hco hgen hk
  exact wpAny_mono (h _ s.heap.objs.size h₁ FG ⟨hns, fun b o e => hk₁ b o (of_hideAll _ e), Nat.le_of_eq (hideAll_size _ _)⟩
    (fun q hq => ⟨hk₁ _ _ (N q hq).1, Nat.ne_of_lt (Heap.lt_size (N q hq).1), hideAll_none _ (List.mem_map_of_mem hq)⟩) BG (X₀.keeps st) (T.keeps st) (fun q hq => Heap.lt_size (N q hq).1))
    (fun fl s' hl => leave_rest NR (rest_in NR dj) lv hl) fun _ _ y => y

theorem enterC (B : Below A₀ base outer h₀) (F : Fr h₀ L s.heap m) (X₀ : K.In h₀) (N : News h₀ L s.heap H) (NR : News h₀ L s.heap Rr) (dj : Apart H Rr) (T : Top p loose mean mg mb h₀)
    (hA : A.frames = some (env :: outer)) (hf : env.frame = some L) (hke : env.scope.kind = .function)
    (ho : K.lookup f = some ⟨oc, od, .func (fnOf name qual params body scope dV kV doc pm an cdv ct), osl⟩) (hcd : codeIn K cdv qual = true) (hroom : A.depth < recursionLimit)
    (hbind : BindsTo s (fnOf name qual params body scope dV kV doc pm an cdv ct) args binds) (hkind : (binds.all fun y => scope.names.lookup y.1 == some .local || scope.names.lookup y.1 == some .cell) = true)
    (hnd : ((cellsFrom 0 scope.names []).map (·.1)).Nodup)
    (h : ∀ g L' h₁ tk cells, Fr h₀ L g m → Fr g L' h₁ (bindL (envOfC qual scope L' f cdv).kindOf binds fun _ => none) → News g L' h₁ (cells ++ H) →
      CellsAre (bindC (envOfC qual scope L' f cdv).kindOf binds fun _ => none) (cellsFrom (L' + 1) scope.names []) cells → Below A base (env :: outer) g → K.In g → Top p loose mean mg mb g → (∀ q ∈ H, q.1 < L') →
      wpAny (model prog w) (A.deeper (envOfC qual scope L' f cdv)) (execs body (envOfC qual scope L' f cdv))
        (fun fl s' => LeaveF h₀ L m g Rr R (match fl with | .ret v => v | _ => .none) s')
        (fun e s' => wpAny (model prog w) (A.deeper (envOfC qual scope L' f cdv)) (leaving (envOfC qual scope L' f cdv) e) (fun _ s'' => R (.error e) s'') (fun e' s'' => R (.error e') s'') s')
        { s with heap := h₁, toks := tk })
    (hco : scope.isCoroutine = false) (hgen : scope.isGenerator = false) (hk : scope.kind = .function) : codeAny (model prog w) A (.call (.ref f) args) R s := by
  obtain ⟨FG, BG, st, lv⟩ := groundX (R := R) B F N hA hf hke
  have X := X₀.keeps F.keep
  refine codeAny_call_function hroom (X _ _ ho) rfl hco hgen rfl (codeRec_of X hcd) (hbind _ _ _ _ ?_)
  refine wpAny_newFunctionEnv_cells hk (kindsX hkind _) fun env' he s' x => ?_
  subst he
  refine ⟨(T.nolimit.keeps F.keep).keeps x.toInCall.keep, codeAny_func ?_⟩
  obtain ⟨h₁, tk, rfl, _⟩ := x.done
  have hk₁ := x.toInCall.keep
  obtain ⟨cells, NC, Y⟩ := Cl.news (h₀ := s.heap) (Nat.le_refl _) fun n c hm => ⟨x.cell n c (lookup_of_mem_nodup (cellsFrom_names scope.names 0 (s.heap.objs.size + 1) [] [] rfl ▸ hnd) hm), x.above n c hm⟩
  refine wpAny_mono (h _ s.heap.objs.size h₁ tk cells FG ⟨x.toInCall.ns, fun b o e => hk₁ b o (of_hideAll _ e), Nat.le_of_eq (hideAll_size _ _)⟩ (fun q hq => ?_) Y BG (X₀.keeps st) (T.keeps st) (fun q hq => Heap.lt_size (N q hq).1)) (fun fl s' hl => leave_rest NR (rest_in NR dj) lv hl) fun _ _ y => y
  rcases List.mem_append.mp hq with hq | hq
  · refine ⟨(NC q hq).1, (NC q hq).2.1, ?_⟩
    cases z : (hideAll s.heap (H.map (·.1))).get? q.1 with
    | none => rfl
    | some o => have := of_hideAll _ z; rw [(NC q hq).2.2] at this; cases this
  · exact ⟨hk₁ _ _ (N q hq).1, Nat.ne_of_lt (Heap.lt_size (N q hq).1), hideAll_none _ (List.mem_map_of_mem hq)⟩
end

structure GC where
  prog : Program
  w : World
  p : Program
  loose : List Str
  mean : ExcName → Option Value
  mg : Str → Option Value
  mb : Str → Option Value
  dp : Nat
  un : Nat
  gd : Option (List Code)
  outer : List Env
  A₀ : Around
  base : Heap
  h₀ : Heap
  L : Addr
abbrev gM (G : GC) : Model := model G.prog G.w
abbrev gA (qual : Str) (scope : Scope) (f : Addr) (cd : Value) (G : GC) : Around := ktrTop G.dp G.un G.gd qual scope G.L f cd [] G.outer
abbrev gE (qual : Str) (scope : Scope) (f : Addr) (cd : Value) (G : GC) : Env := envX qual scope G.L f cd []
abbrev gAC (qual : Str) (scope : Scope) (f : Addr) (cd : Value) (G : GC) : Around := ktrTop G.dp G.un G.gd qual scope G.L f cd (cellsFrom (G.L + 1) scope.names []) G.outer
abbrev gEC (qual : Str) (scope : Scope) (f : Addr) (cd : Value) (G : GC) : Env := envX qual scope G.L f cd (cellsFrom (G.L + 1) scope.names [])

def KEnd (q : Value → Shared → Prop) (fl : Flow) (s : Shared) : Prop := q (match fl with | .ret v => v | _ => .none) s
theorem kEnd_eq {q : Value → Shared → Prop} {v r : Value} {s : Shared} (e : r = v) (h : q r s) : KEnd q (.ret v) s := by subst e; exact h
theorem kEnd_ret {q : Value → Shared → Prop} {v : Value} {s : Shared} (h : q v s) : KEnd q (.ret v) s := h
theorem kEnd_next {q : Value → Shared → Prop} {s : Shared} (h : q .none s) : KEnd q .next s := h

abbrev NoE : Value → Shared → Prop := fun _ _ => False
abbrev Cps := (Value → Led → Prop) → Prop
def Ctr (D U : Nat) (f : Addr) (vs : List Value) (H : Params → Led) (C : Params → Cps) : Prop :=
  ∀ (G : GC) (cn : Str) (cs : Scope) (a : Addr) (ccd : Value) (cl : List (Str × Addr)) (m : Str → Option Value) (Rr : Led) (h : Heap) (gs : Array GenState) (dr : Drawn) (tk0 : Nat) (os : OsState) (Q E : Value → Shared → Prop),
    Below G.A₀ G.base G.outer G.h₀ → Fr G.h₀ G.L h m → (K39 G.w.params).In G.h₀ → News G.h₀ G.L h (H G.w.params) → News G.h₀ G.L h Rr → Apart (H G.w.params) Rr → Top G.p G.loose G.mean G.mg G.mb G.h₀ →
    cs.kind = .function → G.dp + D < recursionLimit → G.un + U < cLine →
    C G.w.params (fun r H' => ∀ h' tk', Fr G.h₀ G.L h' m → News G.h₀ G.L h' (Rr ++ H') → Apart H' Rr → Q r ⟨h', gs, dr, tk', os⟩) →
    wpAny (gM G) (ktrTop G.dp G.un G.gd cn cs G.L a ccd cl G.outer) (call (.ref f) vs) Q E ⟨h, gs, dr, tk0, os⟩

abbrev bnd (params : Arguments) (vs : List Value) : List (Str × Value) := (params.args.map (·.arg)).zip vs
theorem ctr_intro {D U : Nat} {f : Addr} {vs : List Value} {H : Params → Led} {C : Params → Cps} {name qual : Str} {params : Arguments} {body : List Stmt} {scope : Scope} {dV kV doc pm cdv ct oc : Value} {an od : Option Addr} {osl : Array (Option Value)}
    (mono : ∀ P (k k' : Value → Led → Prop), (∀ r H', k r H' → k' r H') → C P k → C P k')
    (ho : ∀ P, (K39 P).lookup f = some ⟨oc, od, .func (fnOf name qual params body scope dV kV doc pm an cdv ct), osl⟩) (hcd : ∀ P, codeIn (K39 P) cdv qual = true)
    (hbind : ∀ s, BindsTo s (fnOf name qual params body scope dV kV doc pm an cdv ct) ⟨vs, []⟩ (bnd params vs)) (hloc : ∀ y ∈ bnd params vs, scope.names.lookup y.1 = some .local)
    (hco : scope.isCoroutine = false) (hgen : scope.isGenerator = false) (hk : scope.kind = .function) (hcell : ∀ x ∈ scope.names, x.2 ≠ .cell)
    (h : ∀ (G : GC) (h : Heap) (gs : Array GenState) (dr : Drawn) (tk0 : Nat) (os : OsState) (q : Value → Shared → Prop), Below G.A₀ G.base G.outer G.h₀ → Fr G.h₀ G.L h (fun y => (bnd params vs).reverse.lookup y) → (K39 G.w.params).In G.h₀ → News G.h₀ G.L h (H G.w.params) → Top G.p G.loose G.mean G.mg G.mb G.h₀ →
      (∀ q ∈ H G.w.params, q.1 < G.L) → G.dp + D < recursionLimit → G.un + U < cLine →
      C G.w.params (fun r H' => ∀ m' h' tk', Fr G.h₀ G.L h' m' → News G.h₀ G.L h' H' → q r ⟨h', gs, dr, tk', os⟩) →
      wpAny (gM G) (gA qual scope f cdv G) (execs body (gE qual scope f cdv G)) (KEnd q) NoE ⟨h, gs, dr, tk0, os⟩) : Ctr (D + 1) (U + 8) f vs H C := by
  intro G cn cs a ccd cl m Rr h0 gs dr tk0 os Q E B F X N NR dj T hkc hD hU hret
  refine wpAny_call ?_
  refine enterF B F X N NR dj T rfl rfl hkc (ho _) (hcd _) ?_ (hbind _) hloc ?_ hco hgen hk hcell
  · show G.dp < recursionLimit
    omega
  intro g L' h₁ FG F' N' B' X' T' l1
  refine wpAny_noRaise (h ⟨G.prog, G.w, G.p, G.loose, G.mean, G.mg, G.mb, G.dp + 1, G.un + 3, G.gd, envX cn cs G.L a ccd cl :: G.outer, ktrTop G.dp G.un G.gd cn cs G.L a ccd cl G.outer, G.base, g, L'⟩ h₁ gs dr (tk0 + (bnd params vs).length) os (fun v s' => LeaveF G.h₀ G.L m g Rr (fun r s' => match r with | .ok (.ret v) => Q v s' | .ok _ => False | .error e => E e s') v s') B' F' X' N' T' l1 ?_ ?_ (mono _ _ _ ?_ hret))
  · show G.dp + 1 + D < recursionLimit
    omega
  · show G.un + 3 + U < cLine
    omega
  · intro r H' k m' h' tk' F1 N1
    exact ⟨L', m', H', F1, N1, fun F2 N2 NR2 dj2 => k _ _ F2 (news_app NR2 N2) dj2⟩
structure EC where
  cn : Str
  cs : Scope
  a : Addr
  ccd : Value
  cl : List (Str × Addr)
  prog : Program
  w : World
  A : Around
  h₀ : Heap
  L : Addr
  m : Str → Option Value
  news : Led
abbrev EC.env (c : EC) : Env := envX c.cn c.cs c.L c.a c.ccd c.cl
def EvI (c : EC) (e : PySem.Expr) (x : Int) : Prop := ∀ (Q : Value → Shared → Prop) (E : Value → Shared → Prop) (s : Shared), Fr c.h₀ c.L s.heap c.m → News c.h₀ c.L s.heap c.news → (∀ t tk, Q (.int x t) { s with toks := tk }) → wpAny (model c.prog c.w) c.A (eval e c.env) Q E s
def EvV (c : EC) (e : PySem.Expr) (v : Value) : Prop := ∀ (Q : Value → Shared → Prop) (E : Value → Shared → Prop) (s : Shared), Fr c.h₀ c.L s.heap c.m → News c.h₀ c.L s.heap c.news → (∀ tk, Q v { s with toks := tk }) → wpAny (model c.prog c.w) c.A (eval e c.env) Q E s
def EvT (c : EC) (e : PySem.Expr) (p : Prop) : Prop := ∀ (Q : Bool → Shared → Prop) (E : Value → Shared → Prop) (s : Shared), Fr c.h₀ c.L s.heap c.m → News c.h₀ c.L s.heap c.news → (p → ∀ tk, Q true { s with toks := tk }) → (¬ p → ∀ tk, Q false { s with toks := tk }) → wpAny (model c.prog c.w) c.A (isTrue e c.env (eval e c.env)) Q E s
inductive IOp : Operator → Int → Int → Int → Prop
  | add {a b : Int} : IOp .Add a b (a + b)
  | sub {a b : Int} : IOp .Sub a b (a - b)
  | fdiv {a b : Int} : b ≠ 0 → b.natAbs < 1073741824 → IOp .FloorDiv a b (a.fdiv b)
  | mod {a b : Int} : b ≠ 0 → IOp .Mod a b (a.fmod b)
  | mul {a b : Int} : a.natAbs < 1073741824 → IOp .Mult a b (a * b)
inductive COp : CmpOp → Int → Int → Prop → Prop
  | lt {a b : Int} : COp .Lt a b (a < b)
  | le {a b : Int} : COp .LtE a b (a ≤ b)
  | gt {a b : Int} : COp .Gt a b (b < a)
  | ge {a b : Int} : COp .GtE a b (b ≤ a)
  | eq {a b : Int} : COp .Eq a b (a = b)
  | ne {a b : Int} : COp .NotEq a b (a ≠ b)
def nmOk (cs : Scope) (k : NameKind) (x : Str) : Bool := (cs.kind == .function) && (cs.names.lookup x == some k) && !(x == ("__debug__" : Str))
theorem nmOk_spec {cs : Scope} {k : NameKind} {x : Str} (h : nmOk cs k x = true) : cs.kind = .function ∧ cs.names.lookup x = some k ∧ (x == ("__debug__" : Str)) = false := by
  unfold nmOk at h
  simp only [Bool.and_eq_true, beq_iff_eq, Bool.not_eq_true'] at h
  exact ⟨h.1.1, h.1.2, h.2⟩
section
variable {c : EC} {x : Str} {pos p1 p2 : Pos} {i j k : Int} {t : Tok} {v : Value} {e l r sl : PySem.Expr} {D : Addr}
theorem evI_name (hv : c.m x = some (.int i t)) (hx : nmOk c.cs .local x = true) : EvI c (.Name x pos) i := fun Q E s F _ h => by
  obtain ⟨a, b, d⟩ := nmOk_spec hx
  exact nameX_L F hv (h t s.toks) a b d
theorem evV_name (hv : c.m x = some v) (hx : nmOk c.cs .local x = true) : EvV c (.Name x pos) v := fun Q E s F _ h => by
  obtain ⟨a, b, d⟩ := nmOk_spec hx
  exact nameX_L F hv (h s.toks) a b d
theorem evV_cell {q : Addr} {o : Obj} (hc : c.cl.lookup x = some q) (hm : (q, o) ∈ c.news) (ho : o.data = .cell (some v)) (hx : nmOk c.cs .cell x = true) : EvV c (.Name x pos) v := fun Q E s _ N h => by
  obtain ⟨a, b, d⟩ := nmOk_spec hx
  exact nameX_C N hc hm ho (h s.toks) a b d
theorem evI_cell {q : Addr} {o : Obj} (hc : c.cl.lookup x = some q) (hm : (q, o) ∈ c.news) (ho : o.data = .cell (some (.int i t))) (hx : nmOk c.cs .cell x = true) : EvI c (.Name x pos) i := fun Q E s _ N h => by
  obtain ⟨a, b, d⟩ := nmOk_spec hx
  exact nameX_C N hc hm ho (h t s.toks) a b d
theorem evI_const {kk : Nat} : EvI c (.Constant (.int i) kk pos) i := fun Q E s _ _ h => wpAny_Constant_int (h _ _)
theorem evI_op {op : Operator} (h1 : EvI c l i) (h2 : EvI c r j) (ho : IOp op i j k) : EvI c (.BinOp l op r pos) k := fun _ _ _ F N h => by
  refine wpAny_BinOp (h1 _ _ _ F N fun t tk => h2 _ _ _ F N fun t2 tk2 => ?_)
  cases ho with
  | add => exact PySem.P.add_int (h _ _)
  | sub => exact PySem.P.sub_int (h _ _)
  | fdiv a b => exact PyProof.Rows.floordiv_int a (h _ _) (.inl (PyProof.noPylong_small b))
  | mod a => exact mod_int' a (h _ _)
  | mul a => exact PySem.P.mul_int (h _ _) (PySem.IntMulOk.of_left (PySem.intBits_le_64 (by omega) (by omega)))
theorem evI_neg (h : EvI c e i) : EvI c (.UnaryOp .USub e pos) (-i) := fun _ _ _ F N k => wpAny_UnaryOp (h _ _ _ F N fun _ _ => PySem.P.neg_int (k _ _))
theorem cmp_op {A : Around} {s : Shared} {E Q : Value → Shared → Prop} {prog : Program} {w : World} {op : CmpOp} {a b : Int} {p : Prop} {t u : Tok} (ho : COp op a b p) (h : ∀ b : Bool, (b = true → p) → (b = false → ¬ p) → Q (.bool b) s) :
    wpAny (model prog w) A (compareOp op (.int a t) (.int b u)) Q E s := by
  cases ho with
  | lt => exact PySem.P.lt_int (h _ (by simp) (by simp))
  | le => exact PySem.P.le_int (h _ (by simp) (by simp))
  | gt => exact PySem.P.gt_int (h _ (by simp) (by simp))
  | ge => exact PySem.P.ge_int (h _ (by simp) (by simp))
  | eq => exact PySem.P.eq_int (h _ (by simp) (by simp))
  | ne => exact PySem.P.ne_int (h _ (by simp) (by simp))
theorem evT_cmp {op : CmpOp} {p : Prop} (h1 : EvI c l i) (h2 : EvI c r j) (ho : COp op i j p) (hm : behindInMarks op r = false) : EvT c (.Compare l [op] [r] pos) p := fun _ _ _ F N h h' => by
  refine wpAny_isTrue_Compare1 (h1 _ _ _ F N fun t tk => h2 _ _ _ F N fun t2 tk2 => cmp_op ho fun b k1 k2 => wpAny_truthy_bool ?_) hm
  cases b with
  | true => exact h (k1 rfl) _
  | false => exact h' (k2 rfl) _
theorem evT_not {p : Prop} (h1 : EvT c e p) : EvT c (.UnaryOp .Not e pos) (¬ p) := fun Q E s F N h h' =>
  isTrue_not (h1 _ _ _ F N (fun hp tk => h' (fun n => n hp) tk) fun hp tk => h hp tk)
theorem evT_and {p q : Prop} (h1 : EvT c l p) (h2 : p → EvT c r q) : EvT c (.BoolOp .And [l, r] pos) (p ∧ q) := fun Q E s F N h h' =>
  isTrue_and (h1 _ _ _ F N (fun hp tk => by
    show wpAny _ _ (isTrue (.BoolOp .And [r] pos) _ _) _ _ _
    refine isTrue_and (h2 hp _ _ _ F N (fun hq tk2 => ?_) fun hq tk2 => ?_)
    · exact isTrue_and_nil (h ⟨hp, hq⟩ _)
    · exact h' (fun n => hq n.2) _) fun hp tk => h' (fun n => hp n.1) _)
theorem evT_or {p q : Prop} (h1 : EvT c l p) (h2 : ¬ p → EvT c r q) : EvT c (.BoolOp .Or [l, r] pos) (p ∨ q) := fun Q E s F N h h' =>
  isTrue_or (h1 _ _ _ F N (fun hp tk => h (.inl hp) _) fun hp tk => by
    show wpAny _ _ (isTrue (.BoolOp .Or [r] pos) _ _) _ _ _
    refine isTrue_or (h2 hp _ _ _ F N (fun hq tk2 => ?_) fun hq tk2 => ?_)
    · exact h (.inr hq) _
    · exact isTrue_or_nil (h' (fun n => n.elim hp hq) _))
end
noncomputable def atOk (P : Params) (name : Str) : Bool := plainGet (K39 P) 177 name && hasDictIn (K39 P) 177 && (match findIn (K39 P) (.ref 177) name with | some none => true | _ => false)
theorem atOk_spec {P : Params} {name : Str} (h : atOk P name = true) : plainGet (K39 P) 177 name = true ∧ hasDictIn (K39 P) 177 = true ∧ findIn (K39 P) (.ref 177) name = some none := by
  unfold atOk at h
  simp only [Bool.and_eq_true] at h
  refine ⟨h.1.1, h.1.2, ?_⟩
  have := h.2
  split at this
  · assumption
  · cases this
theorem at_limit : ∀ P, atOk P "limit" = true := fun P => by kernel_rfl
theorem at_step : ∀ P, atOk P "step" = true := fun P => by kernel_rfl
theorem at_act : ∀ P, atOk P "activity" = true := fun P => by kernel_rfl
theorem at_heap : ∀ P, atOk P "heap" = true := fun P => by kernel_rfl
theorem at_place : ∀ P, atOk P "place" = true := fun P => by kernel_rfl
noncomputable def mtOk (P : Params) (name : Str) (f : Addr) : Bool := plainGet (K39 P) 177 name && (match findIn (K39 P) (.ref 177) name with | some (some (.ref g)) => Nat.beq g f | _ => false) && isFn (K39 P) (.ref f) && keepIn (K39 P) (.ref f)
theorem mtOk_spec {P : Params} {name : Str} {f : Addr} (h : mtOk P name f = true) : plainGet (K39 P) 177 name = true ∧ findIn (K39 P) (.ref 177) name = some (some (.ref f)) ∧ isFn (K39 P) (.ref f) = true ∧ keepIn (K39 P) (.ref f) = true := by
  unfold mtOk at h
  simp only [Bool.and_eq_true] at h
  refine ⟨h.1.1.1, ?_, h.1.2, h.2⟩
  have := h.1.1.2
  split at this
  · rename_i e
    rw [e, Nat.eq_of_beq_eq_true this]
  · cases this
noncomputable def fnOk (P : Params) (g : Str) (f : Addr) : Bool := (match nsIn (K39 P) mainGlobals g with | some (some (.ref q)) => Nat.beq q f | _ => false) && keepIn (K39 P) (.ref f)
theorem fnOk_spec {P : Params} {g : Str} {f : Addr} (h : fnOk P g f = true) : nsIn (K39 P) mainGlobals g = some (some (.ref f)) ∧ keepIn (K39 P) (.ref f) = true := by
  unfold fnOk at h
  simp only [Bool.and_eq_true] at h
  refine ⟨?_, h.2⟩
  have := h.1
  split at this
  · rename_i e
    rw [e, Nat.eq_of_beq_eq_true this]
  · cases this
theorem len_none : ∀ P, nsIn (K39 P) mainGlobals "len" = some none := fun P => by kernel_rfl
theorem len_boot : bootBuiltins "len" = some (.builtin "len") := by boot_fast
abbrev hEs (P : Params) (t1 t2 t3 t4 t5 tl ts : Tok) (limit step : Int) (la lh lp : Addr) : List DictEntry := [⟨PyData.keyHash P "limit", .str "limit" t1, .int limit tl⟩, ⟨PyData.keyHash P "step", .str "step" t2, .int step ts⟩, ⟨PyData.keyHash P "activity", .str "activity" t3, .ref la⟩, ⟨PyData.keyHash P "heap", .str "heap" t4, .ref lh⟩, ⟨PyData.keyHash P "place", .str "place" t5, .ref lp⟩]
section
variable {c : EC} {x : Str} {pos xp p1 p2 : Pos} {i j k : Int} {t : Tok} {v : Value} {e l r sl : PySem.Expr} {D o dx la lh lp : Addr} {t1 t2 t3 t4 t5 tl ts : Tok} {limit step : Int}
theorem evI_of {e : PySem.Expr} (h : EvV c e (.int i t)) : EvI c e i := fun Q E s F N k => h Q E s F N fun tk => k t tk
theorem evV_attr {name : Str} {es : List DictEntry} {n : Nat} (ha : ∀ P, atOk P name = true) (hl : getL name es = some (some v)) (hh : handedIn v = true) (he : ∀ env, eval (.Attribute (.Name x xp) name pos) env = (do
      let o ← eval (.Name x xp) env
      standAt pos.atName
      let r ← holding [o] (getAttr o name true)
      letTemporaryGo (.Name x xp) o r
      pure r))
    (hb : EvV c (.Name x xp) (.ref o)) (X : (K39 c.w.params).In c.h₀) (h1 : (o, instObj 177 dx) ∈ c.news) (h2 : (dx, dictOf es n) ∈ c.news) : EvV c (.Attribute (.Name x xp) name pos) v := fun Q E s F N h => by
  obtain ⟨a, b, d⟩ := atOk_spec (ha c.w.params)
  exact Attribute_Name_ (hb _ _ _ F N fun tk => get_own F X (InstAt.of_news N h1 h2) a b d rfl hl hh (h _)) (he _)
theorem evI_limit (hb : EvV c (.Name x xp) (.ref o)) (X : (K39 c.w.params).In c.h₀) (h1 : (o, instObj 177 dx) ∈ c.news) (h2 : (dx, dictOf (hEs c.w.params t1 t2 t3 t4 t5 tl ts limit step la lh lp) 5) ∈ c.news) : EvI c (.Attribute (.Name x xp) "limit" pos) limit :=
  evI_of (evV_attr at_limit rfl rfl (fun _ => by with_unfolding_all rfl) hb X h1 h2)
theorem evI_step (hb : EvV c (.Name x xp) (.ref o)) (X : (K39 c.w.params).In c.h₀) (h1 : (o, instObj 177 dx) ∈ c.news) (h2 : (dx, dictOf (hEs c.w.params t1 t2 t3 t4 t5 tl ts limit step la lh lp) 5) ∈ c.news) : EvI c (.Attribute (.Name x xp) "step" pos) step :=
  evI_of (evV_attr at_step rfl rfl (fun _ => by with_unfolding_all rfl) hb X h1 h2)
theorem evV_act (hb : EvV c (.Name x xp) (.ref o)) (X : (K39 c.w.params).In c.h₀) (h1 : (o, instObj 177 dx) ∈ c.news) (h2 : (dx, dictOf (hEs c.w.params t1 t2 t3 t4 t5 tl ts limit step la lh lp) 5) ∈ c.news) : EvV c (.Attribute (.Name x xp) "activity" pos) (.ref la) :=
  evV_attr at_act rfl (by simp only [handedIn]) (fun _ => by with_unfolding_all rfl) hb X h1 h2
theorem evV_heap (hb : EvV c (.Name x xp) (.ref o)) (X : (K39 c.w.params).In c.h₀) (h1 : (o, instObj 177 dx) ∈ c.news) (h2 : (dx, dictOf (hEs c.w.params t1 t2 t3 t4 t5 tl ts limit step la lh lp) 5) ∈ c.news) : EvV c (.Attribute (.Name x xp) "heap" pos) (.ref lh) :=
  evV_attr at_heap rfl (by simp only [handedIn]) (fun _ => by with_unfolding_all rfl) hb X h1 h2
theorem evV_place (hb : EvV c (.Name x xp) (.ref o)) (X : (K39 c.w.params).In c.h₀) (h1 : (o, instObj 177 dx) ∈ c.news) (h2 : (dx, dictOf (hEs c.w.params t1 t2 t3 t4 t5 tl ts limit step la lh lp) 5) ∈ c.news) : EvV c (.Attribute (.Name x xp) "place" pos) (.ref lp) :=
  evV_attr at_place rfl (by simp only [handedIn]) (fun _ => by with_unfolding_all rfl) hb X h1 h2
theorem evI_sub {vs : List Value} {ns : List Int} {n : Nat} (he : EvV c e (.ref D)) (hi : EvI c sl k) (hm : (D, listOf vs.toArray n) ∈ c.news) (h : IntsAre vs ns) (h0 : 0 ≤ k) (h1 : k < ns.length) (h2 : ns.length ≤ 100)
    (hs : ∀ u, subscripted sl false (.ref D) (.int k u) = operate [.ref D, .int k u] (getItem (.ref D) (.int k u))) : EvI c (.Subscript e sl pos) (ns.getD k.toNat 0) := fun Q E s F N q =>
  Subscript_ (he _ _ _ F N fun tk => hi _ _ _ F N fun t tk2 => ksa_sub N hm h h0 h1 (by omega) (fun u => q u _) (hs _))
inductive EvL (c : EC) : List PySem.Expr → List (Value ⊕ Int) → Prop
  | nil : EvL c [] []
  | v {e es sp v} : EvV c e v → (∀ rest env, starEach (e :: rest) env = (false, eval e env) :: starEach rest env) → EvL c es sp → EvL c (e :: es) (.inl v :: sp)
  | i {e es sp i} : EvI c e i → (∀ rest env, starEach (e :: rest) env = (false, eval e env) :: starEach rest env) → EvL c es sp → EvL c (e :: es) (.inr i :: sp)
def ArgK : List (Value ⊕ Int) → (List Value → Prop) → Prop
  | [], k => k []
  | .inl v :: r, k => ArgK r fun vs => k (v :: vs)
  | .inr i :: r, k => ∀ t, ArgK r fun vs => k (.int i t :: vs)
theorem argK0 {k : List Value → Prop} (h : k []) : ArgK [] k := h
theorem argK1 {i : Int} {k : List Value → Prop} (h : ∀ t, k [.int i t]) : ArgK [.inr i] k := h
theorem argK2 {i j : Int} {k : List Value → Prop} (h : ∀ t t', k [.int i t, .int j t']) : ArgK [.inr i, .inr j] k := h
theorem argKv {v : Value} {k : List Value → Prop} (h : k [v]) : ArgK [.inl v] k := h
theorem argKvv {v v' : Value} {k : List Value → Prop} (h : k [v, v']) : ArgK [.inl v, .inl v'] k := h
theorem argKvi {v : Value} {i : Int} {k : List Value → Prop} (h : ∀ t, k [v, .int i t]) : ArgK [.inl v, .inr i] k := h
theorem argKvii {v : Value} {i j : Int} {k : List Value → Prop} (h : ∀ t t', k [v, .int i t, .int j t']) : ArgK [.inl v, .inr i, .inr j] k := h
theorem argKvvi {v v' : Value} {i : Int} {k : List Value → Prop} (h : ∀ t, k [v, v', .int i t]) : ArgK [.inl v, .inl v', .inr i] k := h
theorem argKvvv {v v' v'' : Value} {k : List Value → Prop} (h : k [v, v', v'']) : ArgK [.inl v, .inl v', .inl v''] k := h
theorem argK_mono {sp : List (Value ⊕ Int)} : ∀ {k k' : List Value → Prop}, (∀ vs, k vs → k' vs) → ArgK sp k → ArgK sp k' := by
  induction sp with
  | nil => intro k k' h x; exact h _ x
  | cons a r ih =>
    intro k k' h x
    cases a with
    | inl v => exact ih (k := fun vs => k (v :: vs)) (k' := fun vs => k' (v :: vs)) (fun vs y => h _ y) x
    | inr i => exact fun t => ih (k := fun vs => k (.int i t :: vs)) (k' := fun vs => k' (.int i t :: vs)) (fun vs y => h _ y) (x t)
theorem evL_spliced {es : List PySem.Expr} {sp : List (Value ⊕ Int)} (h : EvL c es sp) : ∀ {Q : List Value → Shared → Prop} {E : Value → Shared → Prop} {s : Shared}, Fr c.h₀ c.L s.heap c.m → News c.h₀ c.L s.heap c.news → ArgK sp (fun vs => ∀ tk, Q vs { s with toks := tk }) →
    wpAny (model c.prog c.w) c.A (spliced (backTo pos (starEach es c.env))) Q E s := by
  induction h with
  | nil => intro Q E s F N k; exact args_nil (k s.toks)
  | v h1 he _ ih => intro Q E s F N k; exact args_cons (h1 _ _ _ F N fun tk => ih (Q := fun vs s₂ => Q _ s₂) F N k) (he _ _)
  | i h1 he _ ih => intro Q E s F N k; exact args_cons (h1 _ _ _ F N fun t tk => ih (Q := fun vs s₂ => Q _ s₂) F N (k t)) (he _ _)
theorem evL_plain {es : List PySem.Expr} {sp : List (Value ⊕ Int)} (h : EvL c es sp) (env : Env) (pos : Pos) : (backTo pos (starEach es env)).any (·.1) = false := by
  induction h with
  | nil => rfl
  | v _ he _ ih => rw [he]; exact ih
  | i _ he _ ih => rw [he]; exact ih
end
section
variable {cn : Str} {cs : Scope} {a : Addr} {ccd : Value} {cl : List (Str × Addr)} {prog : Program} {w : World} {A : Around} {h₀ : Heap} {L : Addr} {m : Str → Option Value} {news : Led} {s : Shared} {h : Heap} {gs : Array GenState} {dr : Drawn} {tk0 : Nat} {os : OsState} {E : Value → Shared → Prop}
  {x : Str} {pos xp p1 p2 : Pos} {i : Int} {v : Value} {e : PySem.Expr} {D o dx : Addr}
theorem useI {Q : Value → Shared → Prop} (F : Fr h₀ L h m) (N : News h₀ L h news) (hh : EvI (EC.mk cn cs a ccd cl prog w A h₀ L m news) e i) (k : ∀ t tk, Q (.int i t) ⟨h, gs, dr, tk, os⟩) : wpAny (model prog w) A (eval e (envX cn cs L a ccd cl)) Q E ⟨h, gs, dr, tk0, os⟩ := hh Q E _ F N k
theorem useV {Q : Value → Shared → Prop} (F : Fr h₀ L h m) (N : News h₀ L h news) (hh : EvV (EC.mk cn cs a ccd cl prog w A h₀ L m news) e v) (k : ∀ tk, Q v ⟨h, gs, dr, tk, os⟩) : wpAny (model prog w) A (eval e (envX cn cs L a ccd cl)) Q E ⟨h, gs, dr, tk0, os⟩ := hh Q E _ F N k
theorem useT {p : Prop} {Q : Bool → Shared → Prop} (F : Fr h₀ L h m) (N : News h₀ L h news) (hh : EvT (EC.mk cn cs a ccd cl prog w A h₀ L m news) e p) (k1 : p → ∀ tk, Q true ⟨h, gs, dr, tk, os⟩) (k2 : ¬ p → ∀ tk, Q false ⟨h, gs, dr, tk, os⟩) : wpAny (model prog w) A (isTrue e (envX cn cs L a ccd cl) (eval e (envX cn cs L a ccd cl))) Q E ⟨h, gs, dr, tk0, os⟩ := hh Q E _ F N k1 k2
theorem callWith_evL {f : Addr} {first : List Value} {xs : List PySem.Expr} {sp : List (Value ⊕ Int)} {Q : Value → Shared → Prop} (F : Fr h₀ L s.heap m) (N : News h₀ L s.heap news) (X : (K39 w.params).In h₀) (hk : keepIn (K39 w.params) (.ref f) = true)
    (ha : EvL (EC.mk cn cs a ccd cl prog w A h₀ L m news) xs sp) (k : ArgK sp (fun vs => ∀ tk, wpAny (model prog w) A (call (.ref f) (first ++ vs)) Q E { s with toks := tk })) :
    wpAny (model prog w) A (callWith pos (.ref f) first (backTo pos (starEach xs (envX cn cs L a ccd cl))) []) Q E s := by
  have key : wpAny (model prog w) A (spliced (backTo pos (starEach xs (envX cn cs L a ccd cl)))) (fun vs s₁ => (K39 w.params).In s₁.heap ∧ wpAny (model prog w) A (call (.ref f) (first ++ vs)) Q E s₁) E s :=
    evL_spliced ha F N (argK_mono (fun vs h tk => ⟨X.keeps F.keep, h tk⟩) k)
  cases ha with
  | nil => exact callWith_K0 (X.keeps F.keep) hk (k s.toks)
  | v g1 g2 g3 => exact callWith_K X hk key (g2 _ _) (evL_plain g3 _ _)
  | i g1 g2 g3 => exact callWith_K X hk key (g2 _ _) (evL_plain g3 _ _)
theorem call_meth {meth : Str} {f : Addr} {es : List DictEntry} {n : Nat} {ap : Pos} {xs : List PySem.Expr} {sp : List (Value ⊕ Int)} {pl : Env → Sem Bool} {Q : Value → Shared → Prop} (F : Fr h₀ L h m) (N : News h₀ L h news) (hm : ∀ P, mtOk P meth f = true)
    (he : ∀ env, eval (.Call (.Attribute (.Name x xp) meth ap) xs [] pos) env = (do
      let ov ← eval (.Name x xp) env
      standAt ap.atName
      let (f, first) ← holding [ov] (getMethod ov meth (pl env))
      callWith pos f first (backTo pos (starEach xs env)) []))
    (hb : EvV (EC.mk cn cs a ccd cl prog w A h₀ L m news) (.Name x xp) (.ref o)) (X : (K39 w.params).In h₀) (h1 : (o, instObj 177 dx) ∈ news) (h2 : (dx, dictOf es n) ∈ news) (hl : getL meth es = some none)
    (ha : EvL (EC.mk cn cs a ccd cl prog w A h₀ L m news) xs sp) (k : ArgK sp (fun vs => ∀ tk, wpAny (model prog w) A (call (.ref f) (.ref o :: vs)) Q E ⟨h, gs, dr, tk, os⟩)) :
    wpAny (model prog w) A (eval (.Call (.Attribute (.Name x xp) meth ap) xs [] pos) (envX cn cs L a ccd cl)) Q E ⟨h, gs, dr, tk0, os⟩ := by
  obtain ⟨b1, b2, b3, b4⟩ := mtOk_spec (hm w.params)
  refine MethodCall_ (hb _ _ _ F N fun tk => method_inst F X (InstAt.of_news N h1 h2) b1 b2 b3 hl (callWith_evL (s := ⟨h, gs, dr, _, os⟩) F N X b4 ha k)) (he _)
theorem call_fun {g : Str} {f : Addr} {xs : List PySem.Expr} {sp : List (Value ⊕ Int)} {p : Program} {loose : List Str} {mg mb : Str → Option Value} {Q : Value → Shared → Prop} (F : Fr h₀ L h m) (N : News h₀ L h news) (X : (K39 w.params).In h₀) (T : TopRead p loose mg mb h₀)
    (hg : ∀ P, fnOk P g f = true) (hx : nmOk cs .globalImplicit g = true)
    (he : ∀ env, eval (.Call (.Name g xp) xs [] pos) env = (do callWith pos (← eval (.Name g xp) env) [] (backTo pos (starEach xs env)) (backToKw pos (keywordEach [] env))))
    (ha : EvL (EC.mk cn cs a ccd cl prog w A h₀ L m news) xs sp) (k : ArgK sp (fun vs => ∀ tk, wpAny (model prog w) A (call (.ref f) vs) Q E ⟨h, gs, dr, tk, os⟩)) :
    wpAny (model prog w) A (eval (.Call (.Name g xp) xs [] pos) (envX cn cs L a ccd cl)) Q E ⟨h, gs, dr, tk0, os⟩ := by
  obtain ⟨b1, b2⟩ := fnOk_spec (hg w.params)
  obtain ⟨d1, d2, d3⟩ := nmOk_spec hx
  exact Call_ (nameX_K F X T b1 (callWith_evL (first := []) F N X b2 ha k) d1 d2 d3) (he _)
theorem evI_len {e : PySem.Expr} {vs : List Value} {n : Nat} {p : Program} {loose : List Str} {mg mb : Str → Option Value} (X : (K39 w.params).In h₀) (T : TopRead p loose mg mb h₀) (hx : nmOk cs .globalImplicit "len" = true)
    (he : EvV (EC.mk cn cs a ccd cl prog w A h₀ L m news) e (.ref D)) (hq : ∀ rest env, starEach (e :: rest) env = (false, eval e env) :: starEach rest env) (hc : ∀ env, eval (.Call (.Name "len" xp) [e] [] pos) env = (do callWith pos (← eval (.Name "len" xp) env) [] (backTo pos (starEach [e] env)) (backToKw pos (keywordEach [] env))))
    (hm : (D, listOf vs.toArray n) ∈ news) (hl : (vs.length : Int) = i) (h100 : vs.length ≤ 100) :
    EvI (EC.mk cn cs a ccd cl prog w A h₀ L m news) (.Call (.Name "len" xp) [e] [] pos) i := fun Q E s F N k => by
  obtain ⟨d1, d2, d3⟩ := nmOk_spec hx
  refine Call_ (nameX_B (v := .builtin "len") F X T (len_none _) len_boot (by decide) ?_ d1 d2 d3) (hc _)
  refine callWith_builtin1 ?_ (hq _ _) rfl
  refine args_cons (he _ _ _ F N fun tk => ?_) (hq _ _)
  refine args_nil (kun_lenL (News.isList N hm) (by rw [List.size_toArray]; exact hl) (by omega) (k _ _))
end
def upd (m : Str → Option Value) (x : Str) (v : Option Value) : Str → Option Value := fun y => if y = x then v else m y
def MEq (xs : List Str) (m m' : Str → Option Value) : Prop := ∀ y, xs.contains y = false → m y = m' y
theorem MEq.rf {xs : List Str} {m : Str → Option Value} : MEq xs m m := fun _ _ => rfl
theorem MEq.l {xs : List Str} {m m' : Str → Option Value} {x : Str} {v : Option Value} (h : xs.contains x = true) (k : MEq xs m m') : MEq xs (upd m x v) m' := fun y hy => by
  unfold upd
  by_cases e : y = x
  · subst e; rw [h] at hy; cases hy
  · rw [if_neg e]; exact k y hy
theorem MEq.n {xs : List Str} {m m' : Str → Option Value} {x : Str} {v : Option Value} (h : m' x = v) (k : MEq (x :: xs) m m') : MEq xs (upd m x v) m' := fun y hy => by
  unfold upd
  by_cases e : y = x
  · subst e; rw [if_pos rfl]; exact h.symm
  · rw [if_neg e]
    refine k y ?_
    rw [List.contains_cons, hy, Bool.or_false]
    exact beq_eq_false_iff_ne.mpr e
theorem MEq.r {xs : List Str} {m m' : Str → Option Value} {x : Str} {v : Option Value} (h : xs.contains x = true) (k : MEq xs m m') : MEq xs m (upd m' x v) := fun y hy => by
  unfold upd
  by_cases e : y = x
  · subst e; rw [h] at hy; cases hy
  · rw [if_neg e]; exact k y hy
theorem MEq.g {xs : List Str} {m m' : Str → Option Value} {x : Str} {v : Option Value} (h : m x = v) (k : MEq (x :: xs) m m') : MEq xs m (upd m' x v) := fun y hy => by
  unfold upd
  by_cases e : y = x
  · subst e; rw [if_pos rfl]; exact h
  · rw [if_neg e]
    refine k y ?_
    rw [List.contains_cons, hy, Bool.or_false]
    exact beq_eq_false_iff_ne.mpr e
theorem fr_meq {h₀ h : Heap} {L : Addr} {m m' : Str → Option Value} (F : Fr h₀ L h m) (e : MEq [] m m') : Fr h₀ L h m' := by
  have : m = m' := funext fun y => e y rfl
  exact this ▸ F
theorem updF_upd {d : Addr} {o : Obj} : ∀ {l : Led} {g : Obj → Led}, UpdF d o l g → ∀ o', Upd d o o' l (g o')
  | _, _, .head h, _ => .head h
  | _, _, .tail h r, o' => .tail h (updF_upd r o')
def SeqK (M : Model) (A : Around) (rest : List Stmt) (env : Env) (Q : Flow → Shared → Prop) (E : Value → Shared → Prop) (f : Flow) (s : Shared) : Prop := match f with
  | .next => wpAny M A (execs rest env) Q E s
  | f => Q f s
section
variable {M : Model} {A : Around} {rest body orelse : List Stmt} {env : Env} {Q : Flow → Shared → Prop} {E : Value → Shared → Prop} {s : Shared} {st : Stmt}
theorem seq_next (h : wpAny M A (execs rest env) Q E s) : SeqK M A rest env Q E .next s := h
theorem seq_ret {v : Value} (h : Q (.ret v) s) : SeqK M A rest env Q E (.ret v) s := h
theorem seq_brk (h : Q .brk s) : SeqK M A rest env Q E .brk s := h
theorem seq_cont (h : Q .cont s) : SeqK M A rest env Q E .cont s := h
theorem x_cons (h : wpAny M A (exec st env) (SeqK M A rest env Q E) E s) : wpAny M A (execs (st :: rest) env) Q E s :=
  wpAny_execs_cons (wpAny_mono h (fun f s' h => by cases f <;> exact h) fun _ _ x => x)
end
section
variable {cn : Str} {cs : Scope} {a : Addr} {ccd : Value} {cl : List (Str × Addr)} {prog : Program} {w : World} {A : Around} {h₀ : Heap} {L : Addr} {m : Str → Option Value} {news : Led} {h : Heap} {gs : Array GenState} {dr : Drawn} {tk0 : Nat} {os : OsState} {E : Value → Shared → Prop} {Q : Flow → Shared → Prop} {rest body orelse : List Stmt}
  {x : Str} {pos xp p1 p2 : Pos} {i j k : Int} {v : Value} {e l r sl ob : PySem.Expr} {D o dx : Addr}
theorem x_if {p : Prop} (F : Fr h₀ L h m) (N : News h₀ L h news) (T : EvT (EC.mk cn cs a ccd cl prog w A h₀ L m news) e p) (h1 : p → ∀ tk, wpAny (model prog w) A (execs body (envX cn cs L a ccd cl)) Q E ⟨h, gs, dr, tk, os⟩)
    (h2 : ¬ p → ∀ tk, wpAny (model prog w) A (execs orelse (envX cn cs L a ccd cl)) Q E ⟨h, gs, dr, tk, os⟩) : wpAny (model prog w) A (exec (.If e body orelse pos) (envX cn cs L a ccd cl)) Q E ⟨h, gs, dr, tk0, os⟩ :=
  wpAny_If (T _ _ _ F N (fun hp tk => by rw [if_pos rfl]; exact h1 hp tk) fun hp tk => by rw [if_neg (by simp)]; exact h2 hp tk)
theorem x_asgI (F : Fr h₀ L h m) (N : News h₀ L h news) (V : EvI (EC.mk cn cs a ccd cl prog w A h₀ L m news) e i) (hx : nmOk cs .local x = true) (hs : ∀ env, swapsWith e (some (.Name x p1)) pos.line env = pure false)
    (k : ∀ t h' tk, Fr h₀ L h' (upd m x (some (.int i t))) → News h₀ L h' news → wpAny (model prog w) A (execs rest (envX cn cs L a ccd cl)) Q E ⟨h', gs, dr, tk, os⟩) :
    wpAny (model prog w) A (execs (.Assign [.Name x p1] e pos :: rest) (envX cn cs L a ccd cl)) Q E ⟨h, gs, dr, tk0, os⟩ := by
  obtain ⟨d1, d2, _⟩ := nmOk_spec hx
  exact wpAny_execs_cons (wpAny_Assign_Name (V _ _ _ F N fun t tk => storeX_L F N (fun h' F' N' => k t h' _ F' N') d1 d2) (hs _))
theorem x_asgV (F : Fr h₀ L h m) (N : News h₀ L h news) (V : EvV (EC.mk cn cs a ccd cl prog w A h₀ L m news) e v) (hx : nmOk cs .local x = true) (hs : ∀ env, swapsWith e (some (.Name x p1)) pos.line env = pure false)
    (k : ∀ h' tk, Fr h₀ L h' (upd m x (some v)) → News h₀ L h' news → wpAny (model prog w) A (execs rest (envX cn cs L a ccd cl)) Q E ⟨h', gs, dr, tk, os⟩) :
    wpAny (model prog w) A (execs (.Assign [.Name x p1] e pos :: rest) (envX cn cs L a ccd cl)) Q E ⟨h, gs, dr, tk0, os⟩ := by
  obtain ⟨d1, d2, _⟩ := nmOk_spec hx
  exact wpAny_execs_cons (wpAny_Assign_Name (V _ _ _ F N fun tk => storeX_L F N (fun h' F' N' => k h' _ F' N') d1 d2) (hs _))
theorem x_retI (F : Fr h₀ L h m) (N : News h₀ L h news) (V : EvI (EC.mk cn cs a ccd cl prog w A h₀ L m news) e i) (k : ∀ t tk, Q (.ret (.int i t)) ⟨h, gs, dr, tk, os⟩) :
    wpAny (model prog w) A (execs (.Return (some e) pos :: rest) (envX cn cs L a ccd cl)) Q E ⟨h, gs, dr, tk0, os⟩ :=
  wpAny_execs_cons (wpAny_Return_some (V _ _ _ F N fun t tk => k t tk))
theorem x_retV (F : Fr h₀ L h m) (N : News h₀ L h news) (V : EvV (EC.mk cn cs a ccd cl prog w A h₀ L m news) e v) (k : ∀ tk, Q (.ret v) ⟨h, gs, dr, tk, os⟩) :
    wpAny (model prog w) A (execs (.Return (some e) pos :: rest) (envX cn cs L a ccd cl)) Q E ⟨h, gs, dr, tk0, os⟩ :=
  wpAny_execs_cons (wpAny_Return_some (V _ _ _ F N fun tk => k tk))
theorem x_retC {op : CmpOp} {p : Prop} (F : Fr h₀ L h m) (N : News h₀ L h news) (h1 : EvI (EC.mk cn cs a ccd cl prog w A h₀ L m news) l i) (h2 : EvI (EC.mk cn cs a ccd cl prog w A h₀ L m news) r j) (ho : COp op i j p) (hm : behindInMarks op r = false)
    (k : ∀ (b : Bool) tk, (b = true ↔ p) → Q (.ret (.bool b)) ⟨h, gs, dr, tk, os⟩) :
    wpAny (model prog w) A (execs (.Return (some (.Compare l [op] [r] p1)) pos :: rest) (envX cn cs L a ccd cl)) Q E ⟨h, gs, dr, tk0, os⟩ := by
  refine wpAny_execs_cons (wpAny_Return_some (wpAny_Compare1 (h1 _ _ _ F N fun t tk => h2 _ _ _ F N fun t2 tk2 => cmp_op ho fun b k1 k2 => k b _ ⟨k1, fun hp => ?_⟩) hm))
  cases b with
  | true => rfl
  | false => exact absurd hp (k2 rfl)
theorem x_setI {vs : List Value} {ns : List Int} {n : Nat} {g : Obj → Led} (F : Fr h₀ L h m) (N : News h₀ L h news) (hv : EvI (EC.mk cn cs a ccd cl prog w A h₀ L m news) e i) (ho : EvV (EC.mk cn cs a ccd cl prog w A h₀ L m news) ob (.ref D)) (hk : EvI (EC.mk cn cs a ccd cl prog w A h₀ L m news) sl k)
    (U : UpdF D (listOf vs.toArray n) news g) (hi : IntsAre vs ns) (h0 : 0 ≤ k) (h1 : k < ns.length) (h2 : ns.length ≤ 100) (hs : ∀ env, swapsWith e (some (.Subscript ob sl p1)) pos.line env = pure false)
    (q : ∀ t h' tk, Fr h₀ L h' m → News h₀ L h' (g (listOf (vs.set k.toNat (.int i t)).toArray n)) → wpAny (model prog w) A (execs rest (envX cn cs L a ccd cl)) Q E ⟨h', gs, dr, tk, os⟩) :
    wpAny (model prog w) A (execs (.Assign [.Subscript ob sl p1] e pos :: rest) (envX cn cs L a ccd cl)) Q E ⟨h, gs, dr, tk0, os⟩ := by
  refine wpAny_execs_cons (wpAny_Assign_Subscript (hv _ _ _ F N fun t tk => ho _ _ _ F N fun tk2 => hk _ _ _ F N fun t2 tk3 => ?_) (hs _))
  exact ksa_set F N (updF_upd U _) hi h0 h1 (by omega) fun h' F' N' _ _ _ => q t h' _ F' N'
theorem x_store {Q : Unit → Shared → Prop} (F : Fr h₀ L h m) (N : News h₀ L h news) (hx : nmOk cs .local x = true)
    (k : ∀ h' tk, Fr h₀ L h' (upd m x (some v)) → News h₀ L h' news → Q () ⟨h', gs, dr, tk, os⟩) : wpAny (model prog w) A (storeName (envX cn cs L a ccd cl) x v) Q E ⟨h, gs, dr, tk0, os⟩ := by
  obtain ⟨d1, d2, _⟩ := nmOk_spec hx
  exact storeX_L F N (fun h' F' N' => k h' _ F' N') d1 d2
end
/-! the heap object's part of the ledger -/
def led (P : Params) (o dx la lh lp : Addr) (t1 t2 t3 t4 t5 tl ts : Tok) (limit step : Int) (va vh vp : List Value) (na nh np : Nat) : Led :=
  [(o, instObj 177 dx), (dx, dictOf (hEs P t1 t2 t3 t4 t5 tl ts limit step la lh lp) 5), (la, listOf va.toArray na), (lh, listOf vh.toArray nh), (lp, listOf vp.toArray np)]
theorem size_small {α : Type} {l : List α} (h : l.length ≤ 100) : l.length ≤ sizeLine := by rw [PySem.sizeLine_eq]; omega
theorem ints_small {vs : List Value} {ns : List Int} (h : IntsAre vs ns) (hn : ns.length ≤ 100) : vs.length ≤ sizeLine := size_small (by rw [h.length]; exact hn)
theorem ints_app1 {vs : List Value} {ns : List Int} (h : IntsAre vs ns) (x : Int) (u : Tok) : IntsAre (vs ++ [.int x u]) (ns ++ [x]) := IntsAre.append h (.cons x u .nil)
inductive Spl (as : List Addr) : Led → Led → Prop
  | nil : Spl as [] []
  | drop {p : Addr × Obj} {r R : Led} : p.1 ∈ as → Spl as r R → Spl as (p :: r) R
  | keep {p : Addr × Obj} {r R : Led} : (∀ a ∈ as, p.1 ≠ a) → Spl as r R → Spl as (p :: r) (p :: R)
theorem Spl.sub {as : List Addr} {r R : Led} (h : Spl as r R) : ∀ p ∈ R, p ∈ r := by
  induction h with
  | nil => exact fun _ h => h
  | drop _ _ ih => exact fun p hp => .tail _ (ih p hp)
  | keep _ _ ih => intro p hp; rcases List.mem_cons.mp hp with rfl | hp; exact .head _; exact .tail _ (ih p hp)
theorem Spl.apart {H r R : Led} (h : Spl (H.map (·.1)) r R) : Apart H R := by
  have : ∀ {as : List Addr} {r R : Led}, Spl as r R → ∀ p ∈ R, ∀ a ∈ as, p.1 ≠ a := by
    intro as r R h
    induction h with
    | nil => exact fun _ h => nomatch h
    | drop _ _ ih => exact ih
    | keep k _ ih => intro p hp; rcases List.mem_cons.mp hp with rfl | hp; exact k; exact ih p hp
  exact fun p hp q hq => this h p hp q.1 (List.mem_map_of_mem hq)
theorem Spl.all {as : List Addr} {r R : Led} (h : Spl as r R) : ∀ p ∈ r, p.1 ∈ as ∨ p ∈ R := by
  induction h with
  | nil => exact fun _ h => nomatch h
  | drop k _ ih => intro p hp; rcases List.mem_cons.mp hp with rfl | hp; exact .inl k; exact ih p hp
  | keep k _ ih => intro p hp; rcases List.mem_cons.mp hp with rfl | hp; exact .inr (.head _); exact (ih p hp).imp id (.tail _)
section
variable {D U : Nat} {f : Addr} {vs : List Value} {H : Params → Led} {C : Params → Cps} {cn : Str} {cs : Scope} {a : Addr} {ccd : Value} {cl : List (Str × Addr)} {m : Str → Option Value} {h : Heap} {gs : Array GenState} {dr : Drawn} {tk0 : Nat} {os : OsState} {news Rr : Led} {Q E : Value → Shared → Prop}
theorem ctr_use (K : Ctr D U f vs H C) (G : GC) (F : Fr G.h₀ G.L h m) (N : News G.h₀ G.L h news) (B : Below G.A₀ G.base G.outer G.h₀) (X : (K39 G.w.params).In G.h₀) (T : Top G.p G.loose G.mean G.mg G.mb G.h₀) (hk : cs.kind = .function)
    (hH : ∀ q ∈ H G.w.params, q ∈ news) (hR : Spl ((H G.w.params).map (·.1)) news Rr) (hd : G.dp + D < recursionLimit) (hu : G.un + U < cLine)
    (k : C G.w.params (fun r H' => ∀ h' tk', Fr G.h₀ G.L h' m → News G.h₀ G.L h' (Rr ++ H') → Apart H' Rr → Q r ⟨h', gs, dr, tk', os⟩)) :
    wpAny (gM G) (ktrTop G.dp G.un G.gd cn cs G.L a ccd cl G.outer) (call (.ref f) vs) Q E ⟨h, gs, dr, tk0, os⟩ :=
  K G cn cs a ccd cl m Rr h gs dr tk0 os Q E B F X (news_sub N hH) (news_sub N hR.sub) hR.apart T hk hd hu k
theorem ctr_use0 (K : Ctr D U f vs H C) (G : GC) (F : Fr G.h₀ G.L h m) (N : News G.h₀ G.L h (H G.w.params)) (B : Below G.A₀ G.base G.outer G.h₀) (X : (K39 G.w.params).In G.h₀) (T : Top G.p G.loose G.mean G.mg G.mb G.h₀) (hk : cs.kind = .function)
    (hd : G.dp + D < recursionLimit) (hu : G.un + U < cLine)
    (k : C G.w.params (fun r H' => ∀ h' tk', Fr G.h₀ G.L h' m → News G.h₀ G.L h' H' → Apart H' [] → Q r ⟨h', gs, dr, tk', os⟩)) :
    wpAny (gM G) (ktrTop G.dp G.un G.gd cn cs G.L a ccd cl G.outer) (call (.ref f) vs) Q E ⟨h, gs, dr, tk0, os⟩ :=
  K G cn cs a ccd cl m [] h gs dr tk0 os Q E B F X N (fun _ h => nomatch h) (fun _ h => nomatch h) T hk hd hu k
end
def EvTH (c : EC) (e : PySem.Expr) (p : Prop) : Prop := ∀ (Q : Bool → Shared → Prop) (E : Value → Shared → Prop) (h : Heap) (gs : Array GenState) (dr : Drawn) (tk0 : Nat) (os : OsState), Fr c.h₀ c.L h c.m → News c.h₀ c.L h c.news →
  (p → ∀ h' tk, Fr c.h₀ c.L h' c.m → News c.h₀ c.L h' c.news → Q true ⟨h', gs, dr, tk, os⟩) → (¬ p → ∀ h' tk, Fr c.h₀ c.L h' c.m → News c.h₀ c.L h' c.news → Q false ⟨h', gs, dr, tk, os⟩) →
  wpAny (model c.prog c.w) c.A (isTrue e c.env (eval e c.env)) Q E ⟨h, gs, dr, tk0, os⟩
section
variable {c : EC} {pos : Pos} {e l r : PySem.Expr} {p q : Prop}
theorem evTH_of (h1 : EvT c e p) : EvTH c e p := fun _ _ h _ _ _ _ F N k k' => h1 _ _ _ F N (fun hp tk => k hp h tk F N) fun hp tk => k' hp h tk F N
theorem evTH_not (h1 : EvTH c e p) : EvTH c (.UnaryOp .Not e pos) (¬ p) := fun _ _ _ _ _ _ _ F N k k' =>
  isTrue_not (h1 _ _ _ _ _ _ _ F N (fun hp h' tk F' N' => k' (fun n => n hp) h' tk F' N') fun hp h' tk F' N' => k hp h' tk F' N')
theorem evTH_and (h1 : EvTH c l p) (h2 : p → EvTH c r q) : EvTH c (.BoolOp .And [l, r] pos) (p ∧ q) := fun _ _ _ _ _ _ _ F N k k' =>
  isTrue_and (h1 _ _ _ _ _ _ _ F N (fun hp h' tk F' N' => by
    show wpAny _ _ (isTrue (.BoolOp .And [r] pos) _ _) _ _ _
    refine isTrue_and (h2 hp _ _ _ _ _ _ _ F' N' (fun hq h2 tk2 F2 N2 => ?_) fun hq h2 tk2 F2 N2 => ?_)
    · exact isTrue_and_nil (k ⟨hp, hq⟩ _ _ F2 N2)
    · exact k' (fun n => hq n.2) _ _ F2 N2) fun hp h' tk F' N' => k' (fun n => hp n.1) _ _ F' N')
end
section
variable {D U : Nat} {f : Addr} {H : Params → Led} {cn : Str} {cs : Scope} {a : Addr} {ccd : Value} {cl : List (Str × Addr)} {m : Str → Option Value} {news Rr : Led} {meth x : Str} {ap xp pos : Pos} {xs : List PySem.Expr} {sp : List (Value ⊕ Int)} {o dx : Addr} {es : List DictEntry} {n : Nat} {b : Bool} {pl : Env → Sem Bool} {G : GC}
theorem evTH_meth (K : ArgK sp (fun vs => Ctr D U f (.ref o :: vs) H (fun P k => k (.bool b) (H P)))) (hm : ∀ P, mtOk P meth f = true)
    (B : Below G.A₀ G.base G.outer G.h₀) (X : (K39 G.w.params).In G.h₀) (T : Top G.p G.loose G.mean G.mg G.mb G.h₀) (hd : G.dp + D < recursionLimit) (hu : G.un + U < cLine) (hk : cs.kind = .function)
    (hb : EvV (EC.mk cn cs a ccd cl G.prog G.w (ktrTop G.dp G.un G.gd cn cs G.L a ccd cl G.outer) G.h₀ G.L m news) (.Name x xp) (.ref o)) (h1 : (o, instObj 177 dx) ∈ news) (h2 : (dx, dictOf es n) ∈ news) (hl : getL meth es = some none)
    (ha : EvL (EC.mk cn cs a ccd cl G.prog G.w (ktrTop G.dp G.un G.gd cn cs G.L a ccd cl G.outer) G.h₀ G.L m news) xs sp)
    (hH : ∀ q ∈ H G.w.params, q ∈ news) (hR : Spl ((H G.w.params).map (·.1)) news Rr)
    (he : ∀ env, eval (.Call (.Attribute (.Name x xp) meth ap) xs [] pos) env = (do
      let ov ← eval (.Name x xp) env
      standAt ap.atName
      let (f, first) ← holding [ov] (getMethod ov meth (pl env))
      callWith pos f first (backTo pos (starEach xs env)) []))
    (hp : ∀ env, isTrue (.Call (.Attribute (.Name x xp) meth ap) xs [] pos) env (eval (.Call (.Attribute (.Name x xp) meth ap) xs [] pos) env) = (do let v ← eval (.Call (.Attribute (.Name x xp) meth ap) xs [] pos) env; standAt pos; holding [v] (truthy v))) :
    EvTH (EC.mk cn cs a ccd cl G.prog G.w (ktrTop G.dp G.un G.gd cn cs G.L a ccd cl G.outer) G.h₀ G.L m news) (.Call (.Attribute (.Name x xp) meth ap) xs [] pos) (b = true) := fun Q E h gs dr tk0 os F N k k' => by
  refine isTrue_plain ?_ (hp _)
  refine call_meth F N hm he hb X h1 h2 hl ha (argK_mono (fun vs hK tk => ?_) K)
  refine ctr_use hK G F N B X T hk hH hR hd hu fun h' tk' F' N' _ => ?_
  have N2 : News G.h₀ G.L h' news := fun p hp => by
    rcases hR.all p hp with hq | hq
    · obtain ⟨z, hz, e⟩ := List.mem_map.mp hq
      have e1 := (N p hp).1
      have e2 := (N z (hH z hz)).1
      rw [e, e1] at e2
      have : z = p := Prod.ext e (Option.some.inj e2).symm
      exact this ▸ N' z (List.mem_append.mpr (.inr hz))
    · exact N' p (List.mem_append.mpr (.inl hq))
  refine wpAny_truthy_bool ?_
  cases b with
  | true => exact k rfl h' tk' F' N2
  | false => exact k' (by simp) h' tk' F' N2
end
def EvIH (c : EC) (e : PySem.Expr) (i : Int) : Prop := ∀ (Q : Value → Shared → Prop) (E : Value → Shared → Prop) (h : Heap) (gs : Array GenState) (dr : Drawn) (tk0 : Nat) (os : OsState), Fr c.h₀ c.L h c.m → News c.h₀ c.L h c.news →
  (∀ t h' tk, Fr c.h₀ c.L h' c.m → News c.h₀ c.L h' c.news → Q (.int i t) ⟨h', gs, dr, tk, os⟩) → wpAny (model c.prog c.w) c.A (eval e c.env) Q E ⟨h, gs, dr, tk0, os⟩
section
variable {c : EC} {pos : Pos} {e l r : PySem.Expr} {p q : Prop} {i j : Int}
theorem evIH_of (h1 : EvI c e i) : EvIH c e i := fun _ _ h _ _ _ _ F N k => h1 _ _ _ F N fun t tk => k t h tk F N
theorem evTH_cmp {op : CmpOp} (h1 : EvIH c l i) (h2 : EvIH c r j) (ho : COp op i j p) (hm : behindInMarks op r = false) : EvTH c (.Compare l [op] [r] pos) p := fun _ _ _ _ _ _ _ F N k k' => by
  refine wpAny_isTrue_Compare1 (h1 _ _ _ _ _ _ _ F N fun t h' tk F' N' => h2 _ _ _ _ _ _ _ F' N' fun t2 h2 tk2 F2 N2 => cmp_op ho fun b k1 k2 => wpAny_truthy_bool ?_) hm
  cases b with
  | true => exact k (k1 rfl) _ _ F2 N2
  | false => exact k' (k2 rfl) _ _ F2 N2
theorem evTH_or (h1 : EvTH c l p) (h2 : ¬ p → EvTH c r q) : EvTH c (.BoolOp .Or [l, r] pos) (p ∨ q) := fun _ _ _ _ _ _ _ F N k k' =>
  isTrue_or (h1 _ _ _ _ _ _ _ F N (fun hp h' tk F' N' => k (.inl hp) _ _ F' N') fun hp h' tk F' N' => by
    show wpAny _ _ (isTrue (.BoolOp .Or [r] pos) _ _) _ _ _
    refine isTrue_or (h2 hp _ _ _ _ _ _ _ F' N' (fun hq h2 tk2 F2 N2 => ?_) fun hq h2 tk2 F2 N2 => ?_)
    · exact k (.inr hq) _ _ F2 N2
    · exact isTrue_or_nil (k' (fun n => n.elim hp hq) _ _ F2 N2))
end
section
variable {D U : Nat} {f : Addr} {H : Params → Led} {cn : Str} {cs : Scope} {a : Addr} {ccd : Value} {cl : List (Str × Addr)} {m : Str → Option Value} {news Rr : Led} {meth x : Str} {ap xp pos : Pos} {o dx : Addr} {es : List DictEntry} {n : Nat} {i : Int} {pl : Env → Sem Bool} {G : GC}
theorem evIH_meth0 (K : Ctr D U f [.ref o] H (fun P k => ∀ t, k (.int i t) (H P))) (hm : ∀ P, mtOk P meth f = true)
    (hb : EvV (EC.mk cn cs a ccd cl G.prog G.w (ktrTop G.dp G.un G.gd cn cs G.L a ccd cl G.outer) G.h₀ G.L m news) (.Name x xp) (.ref o)) (h1 : (o, instObj 177 dx) ∈ news) (h2 : (dx, dictOf es n) ∈ news) (hl : getL meth es = some none)
    (hH : ∀ q ∈ H G.w.params, q ∈ news) (hR : Spl ((H G.w.params).map (·.1)) news Rr)
    (B : Below G.A₀ G.base G.outer G.h₀) (X : (K39 G.w.params).In G.h₀) (T : Top G.p G.loose G.mean G.mg G.mb G.h₀) (hd : G.dp + D < recursionLimit) (hu : G.un + U < cLine) (hk : cs.kind = .function)
    (he : ∀ env, eval (.Call (.Attribute (.Name x xp) meth ap) [] [] pos) env = (do
      let ov ← eval (.Name x xp) env
      standAt ap.atName
      let (f, first) ← holding [ov] (getMethod ov meth (pl env))
      callWith pos f first (backTo pos (starEach [] env)) [])) :
    EvIH (EC.mk cn cs a ccd cl G.prog G.w (ktrTop G.dp G.un G.gd cn cs G.L a ccd cl G.outer) G.h₀ G.L m news) (.Call (.Attribute (.Name x xp) meth ap) [] [] pos) i := fun Q E h gs dr tk0 os F N k => by
  refine call_meth F N hm he hb X h1 h2 hl .nil (argK0 fun tk => ?_)
  refine ctr_use K G F N B X T hk hH hR hd hu fun t h' tk' F' N' _ => k t _ _ F' ?_
  intro p hp
  rcases hR.all p hp with hq | hq
  · obtain ⟨z, hz, e⟩ := List.mem_map.mp hq
    have e1 := (N p hp).1
    have e2 := (N z (hH z hz)).1
    rw [e, e1] at e2
    have : z = p := Prod.ext e (Option.some.inj e2).symm
    exact this ▸ N' z (List.mem_append.mpr (.inr hz))
  · exact N' p (List.mem_append.mpr (.inl hq))
end
section
variable {cn : Str} {cs : Scope} {a : Addr} {ccd : Value} {cl : List (Str × Addr)} {prog : Program} {w : World} {A : Around} {h₀ : Heap} {L : Addr} {m : Str → Option Value} {news : Led} {h : Heap} {gs : Array GenState} {dr : Drawn} {tk0 : Nat} {os : OsState} {E : Value → Shared → Prop} {Q : Flow → Shared → Prop} {body orelse : List Stmt} {pos : Pos} {e : PySem.Expr} {p : Prop}
theorem x_ifH (F : Fr h₀ L h m) (N : News h₀ L h news) (T : EvTH (EC.mk cn cs a ccd cl prog w A h₀ L m news) e p)
    (h1 : p → ∀ h' tk, Fr h₀ L h' m → News h₀ L h' news → wpAny (model prog w) A (execs body (envX cn cs L a ccd cl)) Q E ⟨h', gs, dr, tk, os⟩)
    (h2 : ¬ p → ∀ h' tk, Fr h₀ L h' m → News h₀ L h' news → wpAny (model prog w) A (execs orelse (envX cn cs L a ccd cl)) Q E ⟨h', gs, dr, tk, os⟩) :
    wpAny (model prog w) A (exec (.If e body orelse pos) (envX cn cs L a ccd cl)) Q E ⟨h, gs, dr, tk0, os⟩ :=
  wpAny_If (T _ _ _ _ _ _ _ F N (fun hp h' tk F' N' => by rw [if_pos rfl]; exact h1 hp h' tk F' N') fun hp h' tk F' N' => by rw [if_neg (by simp)]; exact h2 hp h' tk F' N')
end
theorem len_cast {vs : List Value} {ns : List Int} (h : IntsAre vs ns) : (vs.length : Int) = (ns.length : Int) := by rw [h.length]
section
variable {prog : Program} {w : World} {A : Around} {h₀ : Heap} {L D : Addr} {m : Str → Option Value} {news : Led} {h : Heap} {gs : Array GenState} {dr : Drawn} {tk0 : Nat} {os : OsState} {E Q : Value → Shared → Prop} {g : Obj → Led} {vs : List Value} {n : Nat}
theorem append_U {x : Value} (F : Fr h₀ L h m) (N : News h₀ L h news) (U : UpdF D (listOf vs.toArray n) news g) (hz : vs.length ≤ 100) (k : ∀ h' tk, Fr h₀ L h' m → News h₀ L h' (g (listOf (vs ++ [x]).toArray (n + 1))) → Q .none ⟨h', gs, dr, tk, os⟩) :
    wpAny (model prog w) A (call (.builtin "list.append") [.ref D, x]) Q E ⟨h, gs, dr, tk0, os⟩ :=
  append_K F N (by rw [List.push_toArray]; exact updF_upd U _) (fun h' F' N' => k h' _ F' N') (by rw [List.size_toArray]; exact size_small hz)
theorem pop_U {l : List Int} (F : Fr h₀ L h m) (N : News h₀ L h news) (U : UpdF D (listOf vs.toArray n) news g) (hi : IntsAre vs l) (hne : ¬ (l.length : Int) = 0) (hz : l.length ≤ 100)
    (k : ∀ t h' tk, Fr h₀ L h' m → News h₀ L h' (g (listOf vs.dropLast.toArray (n + 1))) → IntsAre vs.dropLast l.dropLast → Q (.int (l.getLastD 0) t) ⟨h', gs, dr, tk, os⟩) :
    wpAny (model prog w) A (call (.builtin "list.pop") [.ref D]) Q E ⟨h, gs, dr, tk0, os⟩ :=
  kpa_pop F N (updF_upd U _) hi (by have := hi.length; omega) (size_small (by have := hi.length; omega)) fun h' t F' N' i' => k t h' _ F' N' i'
end
theorem le_w {x a b : Nat} (h : x ≤ a) (e : Nat.ble a b = true) : x ≤ b := Nat.le_trans h (Nat.le_of_ble_eq_true e)
theorem le_we {x y a b : Nat} (q : x = y) (h : y ≤ a) (e : Nat.ble a b = true) : x ≤ b := q ▸ le_w h e
theorem lt_we {i : Int} {x y : Nat} (q : x = y) (h : i < (y : Int)) : i < (x : Int) := q ▸ h
def LEnd (q : Flow → Shared → Prop) (f : Flow) (s : Shared) : Prop := q f s
theorem lEnd_ {q : Flow → Shared → Prop} {f : Flow} {s : Shared} (h : q f s) : LEnd q f s := h
section
variable {cn : Str} {cs : Scope} {a : Addr} {ccd : Value} {cl : List (Str × Addr)} {prog : Program} {w : World} {A : Around} {h₀ : Heap} {L : Addr} {m : Str → Option Value} {h : Heap} {gs : Array GenState} {dr : Drawn} {tk0 : Nat} {os : OsState} {E : Value → Shared → Prop} {Q : Flow → Shared → Prop} {rest body : List Stmt} {test : PySem.Expr} {pos : Pos}
theorem x_while {σ : Type} (Ld : σ → Led) (mp : σ → Str → Option Value) (P : σ → Prop) (μ : σ → Nat) (tp : σ → Prop) (c₀ : σ) (F : Fr h₀ L h m) (N : News h₀ L h (Ld c₀)) (hm : MEq [] m (mp c₀)) (hp : P c₀)
    (T : ∀ c, P c → EvTH (EC.mk cn cs a ccd cl prog w A h₀ L (mp c) (Ld c)) test (tp c))
    (turn : ∀ c h tk (q : Flow → Shared → Prop), P c → tp c → Fr h₀ L h (mp c) → News h₀ L h (Ld c) →
      (∀ c' m' h' tk', P c' → μ c' < μ c → MEq [] m' (mp c') → Fr h₀ L h' m' → News h₀ L h' (Ld c') → q .next ⟨h', gs, dr, tk', os⟩) →
      (∀ s', wpAny (model prog w) A (execs rest (envX cn cs L a ccd cl)) Q E s' → q .brk s') → (∀ v s', Q (.ret v) s' → q (.ret v) s') →
      wpAny (model prog w) A (execs body (envX cn cs L a ccd cl)) (LEnd q) E ⟨h, gs, dr, tk, os⟩)
    (done : ∀ c h tk, P c → ¬ tp c → Fr h₀ L h (mp c) → News h₀ L h (Ld c) → wpAny (model prog w) A (execs rest (envX cn cs L a ccd cl)) Q E ⟨h, gs, dr, tk, os⟩)
    (hE : PassesOwn (model prog w) A (envX cn cs L a ccd cl) E) : wpAny (model prog w) A (execs (.While test body [] pos :: rest) (envX cn cs L a ccd cl)) Q E ⟨h, gs, dr, tk0, os⟩ := by
  refine wpAny_execs_cons ?_
  refine While_inv2 (fun n m nx => ∃ c : σ, nx = Ld c ∧ μ c = n ∧ m = mp c ∧ P c) (fr_meq F hm) N ⟨c₀, rfl, rfl, rfl, hp⟩ ?_ hE
  rintro n m₁ nx h1 tk1 F₁ N₁ ⟨c, rfl, rfl, rfl, hp'⟩
  refine T c hp' _ _ _ _ _ _ _ F₁ N₁ (fun ht h2 tk2 F2 N2 => ?_) fun hn h2 tk2 F2 N2 => ?_
  · rw [if_pos rfl]
    refine wpAny_mono (turn c h2 tk2 (fun f s' => WhileStep2 h₀ L ⟨h, gs, dr, tk0, os⟩ (fun n m nx => ∃ c : σ, nx = Ld c ∧ μ c = n ∧ m = mp c ∧ P c) (fun f s' => match f with | .next => wpAny (model prog w) A (execs rest (envX cn cs L a ccd cl)) Q E s' | f => Q f s') (μ c) f s') hp' ht F2 N2 ?_ ?_ ?_) (fun _ _ x => x) fun _ _ x => x
    · intro c' m' h' tk' hp2 hlt em F' N'
      exact ⟨h', tk', mp c', Ld c', μ c', rfl, fr_meq F' em, N', hlt, c', rfl, rfl, rfl, hp2⟩
    · intro s' k; exact k
    · intro v s' k; exact k
  · rw [if_neg (by simp)]
    exact done c h2 tk2 hp' hn F2 N2
end
theorem meq_upd {xs : List Str} {m m' : Str → Option Value} {x : Str} {v : Option Value} (h : MEq [x] m m') : MEq xs (upd m x v) (upd m' x v) := fun y _ => by
  unfold upd
  by_cases e : y = x
  · rw [if_pos e, if_pos e]
  · rw [if_neg e, if_neg e]
    exact h y (by simp [e])
theorem fr_updq {h₀ h : Heap} {L : Addr} {m m' : Str → Option Value} {x : Str} {v : Option Value} (F : Fr h₀ L h (fun y => if y = x then v else m y)) (e : MEq [x] m m') : Fr h₀ L h (upd m' x v) :=
  fr_meq F (meq_upd e)
section
variable {prog : Program} {w : World} {A : Around} {E : Value → Shared → Prop} {cn : Str} {cs : Scope} {a : Addr} {ccd : Value} {cl : List (Str × Addr)} {L : Addr} {h₀ : Heap} {x : Str} {body : List Stmt} {Q : Flow → Shared → Prop} {h : Heap} {gs : Array GenState} {dr : Drawn} {tk0 : Nat} {os : OsState}
def ForNext {σ : Type} (h₀ : Heap) (L : Addr) (Ld : σ → Led) (mp : σ → Str → Option Value) (P : List Int → σ → Prop) (x : Str) (pre : List Int) (I : Addr) (oI : Obj) (gs : Array GenState) (dr : Drawn) (os : OsState) (q : Flow → Shared → Prop) : Prop :=
  ∀ (c' : σ) m' h' tk', P pre c' → MEq [x] m' (mp c') → (∀ p ∈ Ld c', @Ne Nat I p.1) → Fr h₀ L h' m' → News h₀ L h' ((I, oI) :: Ld c') → q .next ⟨h', gs, dr, tk', os⟩
def ForEnd {σ : Type} (h₀ : Heap) (L : Addr) (Ld : σ → Led) (mp : σ → Str → Option Value) (P : List Int → σ → Prop) (x : Str) (pre : List Int) (I : Addr) (oI : Obj) (gs : Array GenState) (dr : Drawn) (os : OsState) (s₂ : Shared) : Prop :=
  ∃ (c' : σ) (m' : Str → Option Value) (h' : Heap) (tk' : Nat), s₂ = ⟨h', gs, dr, tk', os⟩ ∧ P pre c' ∧ MEq [x] m' (mp c') ∧ (∀ p ∈ Ld c', @Ne Nat I p.1) ∧ Fr h₀ L h' m' ∧ News h₀ L h' ((I, oI) :: Ld c')
set_option maxHeartbeats 3200000 in
theorem forL {σ : Type} {l : Addr} {vs : List Value} {ns : List Int} {nn : Nat} {m : Str → Option Value} (Ld : σ → Led) (mp : σ → Str → Option Value) (P : List Int → σ → Prop) (c₀ : σ)
    (F : Fr h₀ L h m) (N : News h₀ L h (Ld c₀)) (hm : MEq [] m (mp c₀)) (hp : P [] c₀) (hl : ∀ c : σ, (l, listOf vs.toArray nn) ∈ Ld c) (hi : IntsAre vs ns) (hh : A.handled = none)
    (turn : ∀ (c : σ) pre post k t h tk I oI (q : Flow → Shared → Prop), ns = pre ++ k :: post → (∀ p ∈ Ld c, @Ne Nat I p.1) → P pre c →
      Fr h₀ L h (upd (mp c) x (some (.int k t))) → News h₀ L h ((I, oI) :: Ld c) →
      ForNext h₀ L Ld mp P x (pre ++ [k]) I oI gs dr os q → (∀ s', Q .next s' → q .brk s') → (∀ v s', Q (.ret v) s' → q (.ret v) s') →
      wpAny (model prog w) A (execs body (envX cn cs L a ccd cl)) (LEnd q) E ⟨h, gs, dr, tk, os⟩)
    (done : ∀ (c : σ) u h tk, P ns c → Fr h₀ L h (upd (mp c) x u) → News h₀ L h (Ld c) → Q .next ⟨h, gs, dr, tk, os⟩) :
    wpAny (model prog w) A (pyIter (.ref l)) (fun it s₂ => LoopAtV prog w A h₀ (envX cn cs L a ccd cl) x body Q E it s₂) E ⟨h, gs, dr, tk0, os⟩ := by
  have hl0 := hl c₀
  have hol : h.get? l = some (listOf vs.toArray nn) := (N _ hl0).1
  have hls : h.IsList l vs.toArray := ⟨_, hol, rfl, nn, rfl⟩
  have hne : l ≠ h.objs.size := Nat.ne_of_lt (Heap.lt_size hol)
  refine wpAny_pyIter_list hls ?_
  have W := Walks.list (prog := prog) (w := w) hh h.objs.size l hne vs.toArray
  have hlen : vs.toArray.size = ns.length := by simp [hi.length]
  rw [hlen] at W
  refine ⟨_, _, _, ns.length, _, _, m, Ld c₀, (fun i m nx => ∃ c, nx = Ld c ∧ MEq [x] m (mp c) ∧ P (ns.take i) c), rfl, W, ?_, ?_, ?_, ⟨⟨_, Heap.get?_push_size _ rfl, rfl, rfl⟩, hls.at fun o e => Heap.get?_push_of_some _ e⟩, F.push _, (fun p hp => ⟨Heap.get?_push_of_some _ (N p hp).1, (N p hp).2⟩), ⟨c₀, rfl, fun y _ => hm y rfl, by simpa using hp⟩, ?_, ?_⟩
  · intro hm
    rcases List.mem_cons.mp hm with e | hm
    · exact absurd F.ns.lt (e ▸ Nat.lt_irrefl _)
    · exact (N _ hl0).2.1 ((List.mem_singleton.mp hm).symm)
  · intro b hb
    rw [List.mem_singleton.mp hb]
    exact next_is_new F
  · intro p hp hI
    exact absurd (Heap.lt_size (N p hp).1) ((List.mem_singleton.mp hI) ▸ Nat.lt_irrefl _)
  · rintro i v m₁ news₁ s₁ own ⟨hh', tk', rfl⟩ hin hP ⟨c, rfl, hq, hp'⟩ hoff hown hget hfp hst F₁ N₁
    have hI0 : h₀.get? h.objs.size = none := next_is_new F
    obtain ⟨⟨oI, hoI, _⟩, _⟩ := id hst
    have hI' : (h.objs.size, oI) ∈ own := hfp _ (List.mem_cons.mpr (.inl rfl)) hI0 _ hoI
    have hlt' : i < ns.length := hin
    obtain ⟨t, hx⟩ := hi.get i (ns[i]'hlt') (List.getElem?_eq_getElem hlt')
    have hv : v = .int ns[i] t := by
      have hP' : vs[i]? = some v := by simpa using hP
      rw [hx] at hP'; exact (Option.some.inj hP').symm
    subst hv
    have hs : ns.take (i + 1) = ns.take i ++ [ns[i]'hlt'] := by rw [List.take_add_one, List.getElem?_eq_getElem hlt'] <;> rfl
    have e : ns = ns.take i ++ ns[i] :: ns.drop (i + 1) := by
      have ht := List.take_append_drop (i + 1) ns
      rw [hs, List.append_assoc] at ht
      exact ht.symm
    have hsep : ∀ p ∈ Ld c, @Ne Nat h.objs.size p.1 := fun p hp e => hoff p hp (List.mem_singleton.mpr e.symm)
    have N₂ : News h₀ L hh' ((h.objs.size, oI) :: Ld c) := fun p hp => by
      rcases List.mem_cons.mp hp with rfl | hp
      · exact N₁ _ (List.mem_append.mpr (.inl hI'))
      · exact N₁ p (List.mem_append.mpr (.inr hp))
    have hlo : hh'.get? l = some (listOf vs.toArray nn) := (N₁ _ (List.mem_append.mpr (.inr (hl c)))).1
    refine wpAny_mono (turn c _ _ ns[i] t hh' tk' _ oI (fun f s₂ => match f with | .ret v => Q (.ret v) s₂ | .brk => Q .next s₂ | _ => ForEnd h₀ L Ld mp P x (ns.take (i + 1)) h.objs.size oI gs dr os s₂) e hsep hp' (fr_updq F₁ hq) N₂ (fun c' m' h' tk' ax b d F' N' => ⟨c', m', h', tk', rfl, by rw [hs]; exact ax, b, d, F', N'⟩) (fun _ k => k) fun _ _ k => k) (fun f s₂ p => ?_) fun _ _ e => e
    have fin : ForEnd h₀ L Ld mp P x (ns.take (i + 1)) h.objs.size oI gs dr os s₂ → LoopStepU h₀ L [h.objs.size] own (fun m nx => ∃ c, nx = Ld c ∧ MEq [x] m (mp c) ∧ P (ns.take (i + 1)) c) ⟨hh', gs, dr, tk', os⟩ .next s₂ := by
      rintro ⟨c', m', h', tk'', rfl, hp2, em, hne2, F', N'⟩
      refine ⟨rfl, h', tk'', m', Ld c', rfl, F', fun q hq => ?_, fun q hq hI => hne2 q hq (List.mem_singleton.mp hI).symm, c', rfl, em, hp2⟩
      rcases List.mem_append.mp hq with h1 | h1
      · rcases List.mem_cons.mp (hown q h1) with h3 | h3
        · have h4 := hget q h1
          rw [h3] at h4
          rw [show q = (h.objs.size, oI) from Prod.ext h3 (Option.some.inj (h4.symm.trans hoI))]
          exact N' _ (.head _)
        · have h3 := List.mem_singleton.mp h3
          have h4 := hget q h1
          rw [h3] at h4
          rw [show q = (l, listOf vs.toArray nn) from Prod.ext h3 (Option.some.inj (h4.symm.trans hlo))]
          exact N' _ (.tail _ (hl c'))
      · exact N' q (.tail _ h1)
    cases f with
    | ret v => exact .ret p
    | brk => exact .brk p
    | next => exact .next (fin p)
    | cont => exact .cont (fin p)
  · rintro h' tk m' news' F' N' _ ⟨c, rfl, em, hp'⟩
    rw [List.take_length] at hp'
    refine done c (m' x) h' tk hp' (fr_meq F' fun y _ => ?_) N'
    unfold upd
    by_cases e : y = x
    · subst e; rw [if_pos rfl]
    · rw [if_neg e]; exact em y (by simp [e])
set_option maxHeartbeats 3200000 in
theorem forR {σ : Type} {r : Addr} {a₀ b₀ : Int} {t₀ u₀ v₀ : Tok} {n : Nat} {m : Str → Option Value} (Ld : σ → Led) (mp : σ → Str → Option Value) (P : List Int → σ → Prop) (c₀ : σ)
    (F : Fr h₀ L h m) (N : News h₀ L h (Ld c₀)) (hm : MEq [] m (mp c₀)) (hp : P [] c₀) (hr : IsRange h r a₀ b₀ 1 t₀ u₀ v₀) (hsmall : Builtin.Range.small a₀ b₀ 1 = true) (hn : Builtin.Range.rangeSize a₀ b₀ 1 = (n : Int)) (hh : A.handled = none)
    (turn : ∀ (c : σ) (pre : List Int) (k : Int) t h tk I oI (q : Flow → Shared → Prop), k = a₀ + (pre.length : Int) → pre.length < n → (∀ p ∈ Ld c, @Ne Nat I p.1) → P pre c →
      Fr h₀ L h (upd (mp c) x (some (.int k t))) → News h₀ L h ((I, oI) :: Ld c) →
      ForNext h₀ L Ld mp P x (pre ++ [k]) I oI gs dr os q → (∀ s', Q .next s' → q .brk s') → (∀ v s', Q (.ret v) s' → q (.ret v) s') →
      wpAny (model prog w) A (execs body (envX cn cs L a ccd cl)) (LEnd q) E ⟨h, gs, dr, tk, os⟩)
    (done : ∀ (c : σ) u h tk, P (rangeKs a₀ n) c → Fr h₀ L h (upd (mp c) x u) → News h₀ L h (Ld c) → Q .next ⟨h, gs, dr, tk, os⟩) :
    wpAny (model prog w) A (pyIter (.ref r)) (fun it s₂ => LoopAtV prog w A h₀ (envX cn cs L a ccd cl) x body Q E it s₂) E ⟨h, gs, dr, tk0, os⟩ := by
  refine wpAny_pyIter_range hr hsmall ?_
  have W : Walks prog w A h.objs.size [h.objs.size] [h.objs.size] n (fun i v => i < n ∧ ∃ t, v = .int (a₀ + i * 1) t)
      (fun i hp => IsRangeIter hp h.objs.size (a₀ + (i : Nat) * 1) ((n : Int) - (i : Nat)) 1) := (Walks.range hh _ a₀ 1 n).bound
  refine ⟨h.objs.size, [h.objs.size], [h.objs.size], n, _, _, m, Ld c₀, (fun i m nx => ∃ c, nx = Ld c ∧ MEq [x] m (mp c) ∧ P ((rangeKs a₀ n).take i) c), rfl, W, ?_, ?_, ?_, (by show IsRangeIter _ _ _ _ _; rw [hn]; simpa using Heap.get?_push_size _ rfl), F.push _, (fun p hp => ⟨Heap.get?_push_of_some _ (N p hp).1, (N p hp).2⟩), ⟨c₀, rfl, fun y _ => hm y rfl, by simpa using hp⟩, ?_, ?_⟩
  · intro hm
    exact absurd F.ns.lt ((List.mem_singleton.mp hm) ▸ Nat.lt_irrefl _)
  · intro b hb
    rw [List.mem_singleton.mp hb]
    exact next_is_new F
  · intro p hp hI
    exact absurd (Heap.lt_size (N p hp).1) ((List.mem_singleton.mp hI) ▸ Nat.lt_irrefl _)
  · rintro i v m₁ news₁ s₁ own ⟨hh', tk', rfl⟩ hi ⟨_, t, rfl⟩ ⟨c, rfl, hq, hp'⟩ hoff hown hget hfp hst F₁ N₁
    have hI0 : h₀.get? h.objs.size = none := next_is_new F
    obtain ⟨oI, hoI⟩ : ∃ oI, hh'.get? h.objs.size = some oI := ⟨_, hst⟩
    have hI' := hfp _ (List.mem_singleton.mpr rfl) hI0 _ hoI
    have e1 : a₀ + (i : Int) * 1 = a₀ + (i : Int) := by omega
    rw [e1] at F₁
    have hk' : (rangeKs a₀ n)[i]? = some (a₀ + (i : Int)) := by simp [rangeKs, hi]
    have hs : (rangeKs a₀ n).take (i + 1) = (rangeKs a₀ n).take i ++ [a₀ + (i : Int)] := by simp [List.take_add_one, hk']
    have hlen : ((rangeKs a₀ n).take i).length = i := by rw [List.length_take, rangeKs_length]; omega
    have hsep : ∀ p ∈ Ld c, @Ne Nat h.objs.size p.1 := fun p hp e => hoff p hp (List.mem_singleton.mpr e.symm)
    have N₂ : News h₀ L hh' ((h.objs.size, oI) :: Ld c) := fun p hp => by
      rcases List.mem_cons.mp hp with rfl | hp
      · exact N₁ _ (List.mem_append.mpr (.inl hI'))
      · exact N₁ p (List.mem_append.mpr (.inr hp))
    refine wpAny_mono (turn c _ _ t hh' tk' _ oI (fun f s₂ => match f with | .ret v => Q (.ret v) s₂ | .brk => Q .next s₂ | _ => ForEnd h₀ L Ld mp P x ((rangeKs a₀ n).take (i + 1)) h.objs.size oI gs dr os s₂) (by rw [hlen]) (by rw [hlen]; exact hi) hsep hp' (fr_updq F₁ hq) N₂ (fun c' m' h' tk' ax b d F' N' => ⟨c', m', h', tk', rfl, by rw [hs]; exact ax, b, d, F', N'⟩) (fun _ k => k) fun _ _ k => k) (fun f s₂ p => ?_) fun _ _ e => e
    have fin : ForEnd h₀ L Ld mp P x ((rangeKs a₀ n).take (i + 1)) h.objs.size oI gs dr os s₂ → LoopStepU h₀ L [h.objs.size] own (fun m nx => ∃ c, nx = Ld c ∧ MEq [x] m (mp c) ∧ P ((rangeKs a₀ n).take (i + 1)) c) ⟨hh', gs, dr, tk', os⟩ .next s₂ := by
      rintro ⟨c', m', h', tk'', rfl, hp2, em, hne2, F', N'⟩
      refine ⟨rfl, h', tk'', m', Ld c', rfl, F', fun q hq => ?_, fun q hq hI => hne2 q hq (List.mem_singleton.mp hI).symm, c', rfl, em, hp2⟩
      rcases List.mem_append.mp hq with h1 | h1
      · have h3 := List.mem_singleton.mp (hown q h1)
        have h4 := hget q h1
        rw [h3] at h4
        rw [show q = (h.objs.size, oI) from Prod.ext h3 (Option.some.inj (h4.symm.trans hoI))]
        exact N' _ (.head _)
      · exact N' q (.tail _ h1)
    cases f with
    | ret v => exact .ret p
    | brk => exact .brk p
    | next => exact .next (fin p)
    | cont => exact .cont (fin p)
  · rintro h' tk m' news' F' N' _ ⟨c, rfl, em, hp'⟩
    have hl : (rangeKs a₀ n).take n = rangeKs a₀ n := List.take_of_length_le (Nat.le_of_eq (rangeKs_length _ _))
    rw [hl] at hp'
    refine done c (m' x) h' tk hp' (fr_meq F' fun y _ => ?_) N'
    unfold upd
    by_cases e : y = x
    · subst e; rw [if_pos rfl]
    · rw [if_neg e]; exact em y (by simp [e])
end
theorem spl_led {o dx la lh lp : Addr} {x1 x2 x3 x4 x5 : Obj} : Spl [o, dx, la, lh, lp] [(o, x1), (dx, x2), (la, x3), (lh, x4), (lp, x5)] [] :=
  .drop (by simp) (.drop (by simp) (.drop (by simp) (.drop (by simp) (.drop (by simp) .nil))))
section
variable {o dx la lh lp : Addr} {x1 x2 x3 x4 x5 : Obj}
theorem upD (h : Ord5 o dx la lh lp) : UpdF dx x2 [(o, x1), (dx, x2), (la, x3), (lh, x4), (lp, x5)] (fun q => [(o, x1), (dx, q), (la, x3), (lh, x4), (lp, x5)]) :=
  .tail (neN (Nat.ne_of_gt h.1)) (.head (List.forall_mem_cons.mpr ⟨h.2.2.2.1, List.forall_mem_cons.mpr ⟨neN (Nat.ne_of_gt (Nat.lt_trans h.1 h.2.1)), List.forall_mem_cons.mpr ⟨neN (Nat.ne_of_gt (Nat.lt_trans h.1 (Nat.lt_trans h.2.1 h.2.2.1))), List.forall_mem_nil _⟩⟩⟩))
theorem upA (h : Ord5 o dx la lh lp) : UpdF la x3 [(o, x1), (dx, x2), (la, x3), (lh, x4), (lp, x5)] (fun q => [(o, x1), (dx, x2), (la, q), (lh, x4), (lp, x5)]) :=
  .tail (Ne.symm h.2.2.2.2.1) (.tail (Ne.symm h.2.2.2.1) (.head (List.forall_mem_cons.mpr ⟨Ne.symm h.2.2.2.2.2.1, List.forall_mem_cons.mpr ⟨Ne.symm h.2.2.2.2.2.2, List.forall_mem_nil _⟩⟩)))
theorem upH (h : Ord5 o dx la lh lp) : UpdF lh x4 [(o, x1), (dx, x2), (la, x3), (lh, x4), (lp, x5)] (fun q => [(o, x1), (dx, x2), (la, x3), (lh, q), (lp, x5)]) :=
  .tail (neN (Nat.ne_of_lt h.2.1)) (.tail (neN (Nat.ne_of_lt (Nat.lt_trans h.1 h.2.1))) (.tail h.2.2.2.2.2.1 (.head (List.forall_mem_cons.mpr ⟨neN (Nat.ne_of_gt h.2.2.1), List.forall_mem_nil _⟩))))
theorem upP (h : Ord5 o dx la lh lp) : UpdF lp x5 [(o, x1), (dx, x2), (la, x3), (lh, x4), (lp, x5)] (fun q => [(o, x1), (dx, x2), (la, x3), (lh, x4), (lp, q)]) :=
  .tail (neN (Nat.ne_of_lt (Nat.lt_trans h.2.1 h.2.2.1))) (.tail (neN (Nat.ne_of_lt (Nat.lt_trans h.1 (Nat.lt_trans h.2.1 h.2.2.1)))) (.tail h.2.2.2.2.2.2 (.tail (neN (Nat.ne_of_lt h.2.2.1)) (.head (List.forall_mem_nil _)))))
end
theorem room_le {d a b r : Nat} (h : d + b < r) (e : Nat.ble a b = true) : d + a < r := Nat.lt_of_le_of_lt (Nat.add_le_add_left (Nat.le_of_ble_eq_true e) d) h
theorem bef_of_ne {act : List Int} {i j : Int} {b : Bool} (h : act.getD i.toNat 0 ≠ act.getD j.toNat 0) (hb : b = true ↔ act.getD j.toNat 0 < act.getD i.toNat 0) : bef act i j = b := by rw [bef_ne h, Bool.eq_iff_iff, hb, decide_eq_true_eq]
theorem bef_of_eq {act : List Int} {i j : Int} {b : Bool} (h : ¬ act.getD i.toNat 0 ≠ act.getD j.toNat 0) (hb : b = true ↔ i < j) : bef act i j = b := by rw [bef_eq (Classical.not_not.mp h), Bool.eq_iff_iff, hb, decide_eq_true_eq]
theorem mt_is_before : ∀ P, mtOk P "is_before" 57 = true := fun P => by kernel_rfl
theorem mt_put : ∀ P, mtOk P "put" 71 = true := fun P => by kernel_rfl
theorem mt_rise : ∀ P, mtOk P "rise" 78 = true := fun P => by kernel_rfl
theorem mt_better_child : ∀ P, mtOk P "better_child" 85 = true := fun P => by kernel_rfl
theorem mt_sink : ∀ P, mtOk P "sink" 92 = true := fun P => by kernel_rfl
theorem mt_push : ∀ P, mtOk P "push" 99 = true := fun P => by kernel_rfl
theorem mt_pop : ∀ P, mtOk P "pop" 106 = true := fun P => by kernel_rfl
theorem mt_pop_best : ∀ P, mtOk P "pop_best" 113 = true := fun P => by kernel_rfl
theorem mt_bump : ∀ P, mtOk P "bump" 120 = true := fun P => by kernel_rfl
theorem mt_decay : ∀ P, mtOk P "decay" 127 = true := fun P => by kernel_rfl
theorem mt_rescale : ∀ P, mtOk P "rescale" 132 = true := fun P => by kernel_rfl
theorem mt_rebuild : ∀ P, mtOk P "rebuild" 139 = true := fun P => by kernel_rfl
theorem mt_grow : ∀ P, mtOk P "grow" 64 = true := fun P => by kernel_rfl
theorem mt_many : ∀ P, mtOk P "many" 43 = true := fun P => by kernel_rfl
theorem mt_is_held : ∀ P, mtOk P "is_held" 50 = true := fun P => by kernel_rfl
theorem mt_size : ∀ P, mtOk P "size" 160 = true := fun P => by kernel_rfl
theorem mt_top : ∀ P, mtOk P "top" 167 = true := fun P => by kernel_rfl
theorem fn_first : ∀ P, fnOk P "_law_first" 186 = true := fun P => by kernel_rfl
theorem fn_in_order : ∀ P, fnOk P "_law_in_order" 193 = true := fun P => by kernel_rfl
theorem fn_small : ∀ P, fnOk P "_law_small" 200 = true := fun P => by kernel_rfl
theorem fn_bumped : ∀ P, fnOk P "_law_bumped" 207 = true := fun P => by kernel_rfl
theorem fn_decayed : ∀ P, fnOk P "_law_decayed" 214 = true := fun P => by kernel_rfl
theorem fn_same : ∀ P, fnOk P "_law_same" 219 = true := fun P => by kernel_rfl
theorem fn_values : ∀ P, fnOk P "_law_values" 224 = true := fun P => by kernel_rfl
theorem fn_best : ∀ P, fnOk P "_law_best" 231 = true := fun P => by kernel_rfl
local macro_rules | `(tactic| walk_at $s:str) => `(tactic| k_extra $s)
local macro_rules | `(tactic| k_room) => `(tactic| ktr_room)
local macro_rules | `(tactic| k_ne) => `(tactic| k_extra "k_ne")
example : K39 = K39 ∨ PySem.Challenge.rw_no0005_01 = PySem.Challenge.rw_no0005_01 := by
  k_fill
  exact .inl rfl
example : True := by
  k_with_none
  k_with "A" => (with_reducible assumption)
  k_with "R" => (k_dflt (exact rfl))
  k_with "F" => (k_dflt (exact fun _ => rfl))
  k_with "G" => (k_dflt (exact fun _ _ => rfl))
  k_with "steps" => (repeat' (first | walk1 | (dsimp only; walk1) | fail "no step"))
  k_with "k_ne" => (first | (k_extra "A") | (refine Ne.symm ?_; with_reducible assumption))
  k_with "ints" => (first | with_reducible assumption | exact ints_set (by k_extra "ints") _ | exact ints_app1 (by k_extra "ints") _ _ | fail "no ints")
  k_with "pre0" => (first | with_reducible assumption | (with_reducible exact le_w (by assumption) rfl) | (with_reducible exact le_we (by assumption) (by assumption) rfl) | (with_reducible exact lt_we (by assumption) (by assumption)) | omega | (simp only [List.length_set, List.length_append, List.length_cons, List.length_nil, List.length_map]; omega) | k_extra "pre")
  k_with "mono" => (intro _ _ _ hk x; (intros; refine hk _ _ ?_; first | exact x | (apply x <;> assumption)))
  k_with "open" => (
    refine' ctr_intro ?mono ?ho ?hcd ?hb ?hloc ?c2 ?c3 ?c4 ?c5 ?_;
    (case ho => (intro P; k_is)); (case hcd => (intro P; k_is)); (case hb => exact fun s => BindsTo.of_eq rfl); (case hloc => exact locs rfl); (case c2 => exact rfl); (case c3 => exact rfl); (case c4 => exact rfl); (case c5 => decide); (case mono => k_extra "mono");
    intro G h gs dr tk0 os q B F X N T l1 hD hU hret;
    unfold led at N)
  k_with "evI" => (first
    | ((with_reducible apply evI_name); (k_extra "R"); (k_extra "R"))
    | (with_reducible exact evI_const)
    | ((with_reducible apply evI_neg); (k_dflt (k_extra "evI")))
    | ((with_reducible apply evI_op); (k_dflt (k_extra "evI")); (k_dflt (k_extra "evI")); (k_dflt (k_extra "iop")))
    | ((with_reducible apply evI_sub); (k_dflt (k_extra "evV")); (k_dflt (k_extra "evI")); (k_dflt k_memK); (k_dflt (k_extra "ints")); (k_dflt (k_extra "pre0")); (k_dflt (k_extra "pre0")); (k_dflt (k_extra "pre0")); (k_extra "F"))
    | ((with_reducible apply evI_limit); (k_dflt (k_extra "evV")); (k_extra "A"); (k_dflt k_memK); (k_dflt k_memK))
    | ((with_reducible apply evI_step); (k_dflt (k_extra "evV")); (k_extra "A"); (k_dflt k_memK); (k_dflt k_memK))
    | ((with_reducible apply evI_len); (k_extra "A"); (exact topRead_of (by with_reducible assumption)); (k_extra "R"); (k_dflt (k_extra "evV")); (k_extra "G"); (k_extra "F"); (k_dflt k_memK); (k_dflt (exact len_cast (by k_extra "ints"))); (k_dflt (k_extra "len9"))))
  k_with "len9" => (rw [IntsAre.length (by k_extra "ints")]; k_extra "pre0")
  k_with "iop" => (first | exact .add | exact .sub | exact .mul (by decide) | exact .fdiv (by decide) (by decide) | exact .mod (by decide))
  k_with "evV" => (first
    | ((with_reducible apply evV_name); (k_extra "R"); (k_extra "R"))
    | ((with_reducible apply evV_heap); (k_dflt (k_extra "evV")); (k_extra "A"); (k_dflt k_memK); (k_dflt k_memK))
    | ((with_reducible apply evV_act); (k_dflt (k_extra "evV")); (k_extra "A"); (k_dflt k_memK); (k_dflt k_memK))
    | ((with_reducible apply evV_place); (k_dflt (k_extra "evV")); (k_extra "A"); (k_dflt k_memK); (k_dflt k_memK)))
  k_with "cop" => (first | exact .lt | exact .le | exact .gt | exact .ge | exact .eq | exact .ne)
  k_with "evT" => (first
    | ((with_reducible apply evT_cmp); (k_dflt (k_extra "evI")); (k_dflt (k_extra "evI")); (k_dflt (k_extra "cop")); (k_extra "R"))
    | ((with_reducible apply evT_not); (k_dflt (k_extra "evT")))
    | ((with_reducible apply evT_and); (k_dflt (k_extra "evT")); (intro hp9; k_dflt (k_extra "evT")))
    | ((with_reducible apply evT_or); (k_dflt (k_extra "evT")); (intro hp9; k_dflt (k_extra "evT"))))
  k_with "exec If" => ((with_reducible apply x_ifH); (k_extra "A"); (k_extra "A"); (k_dflt (k_extra "evTH")); all_goals (k_whole; intro hp9 h9 tk9 F9 N9; (try k_sweep)))
  k_with "exec If" => ((with_reducible apply x_if); (k_extra "A"); (k_extra "A"); (k_dflt (k_extra "evT")); all_goals (k_whole; intro hp9 tk9))
  k_with "execs cons" => (with_reducible refine x_cons ?_)
  k_with "execs cons" => ((with_reducible apply x_setI); (k_extra "A"); (k_extra "A"); (k_dflt (k_extra "evI")); (k_dflt (k_extra "evV")); (k_dflt (k_extra "evI")); (k_dflt (k_extra "updF")); (k_dflt (k_extra "ints")); (k_dflt (k_extra "pre0")); (k_dflt (k_extra "pre0")); (k_dflt (k_extra "pre0")); (k_extra "F"); (k_whole); (intro t9 h9 tk9 F9 N9); (try k_sweep))
  k_with "execs cons" => ((with_reducible apply x_asgV); (k_extra "A"); (k_extra "A"); (k_dflt (k_extra "evV")); (k_extra "R"); (k_extra "F"); (k_whole); (intro h9 tk9 F9 N9); (try k_sweep))
  k_with "execs cons" => ((with_reducible apply x_asgI); (k_extra "A"); (k_extra "A"); (k_dflt (k_extra "evI")); (k_extra "R"); (k_extra "F"); (k_whole); (intro t9 h9 tk9 F9 N9); (try k_sweep))
  k_with "execs cons" => ((with_reducible apply x_retV); (k_extra "A"); (k_extra "A"); (k_dflt (k_extra "evV")); (k_whole); (intro tk9))
  k_with "execs cons" => ((with_reducible apply x_retI); (k_extra "A"); (k_extra "A"); (k_dflt (k_extra "evI")); (k_whole); (intro t9 tk9))
  k_with "execs cons" => ((with_reducible apply x_retC); (k_extra "A"); (k_extra "A"); (k_dflt (k_extra "evI")); (k_dflt (k_extra "evI")); (k_dflt (k_extra "cop")); (k_extra "R"); (k_whole); (intro b9 tk9 hb9))
  k_with "LEnd" => (with_reducible refine lEnd_ ?_; with_reducible first | (refine hret1 _ _ ?_) | (refine hbrk _ ?_) | (k_dflt (k_extra "wend")))
  k_with "eval Call Attribute" => ((with_reducible apply call_meth); (k_extra "A"); (k_extra "A"); (k_extra "mt"); (k_extra "F"); (k_dflt (k_extra "evV")); (k_extra "A"); (k_dflt k_memK); (k_dflt k_memK); (k_extra "R"); (k_dflt (k_extra "evL")); (k_whole); k_dflt (k_extra "args"))
  k_with "evL" => (first | exact .nil | ((with_reducible apply EvL.i); (k_dflt (k_extra "evI")); (k_extra "G"); (k_dflt (k_extra "evL"))) | ((with_reducible apply EvL.v); (k_dflt (k_extra "evV")); (k_extra "G"); (k_dflt (k_extra "evL"))))
  k_with "args" => (first | (refine argK0 ?_; intro tk9) | (refine argK1 ?_; intro t9 tk9) | (refine argK2 ?_; intro t9 t8 tk9) | (refine argKv ?_; intro tk9) | (refine argKvv ?_; intro tk9) | (refine argKvi ?_; intro t9 tk9) | (refine argKvii ?_; intro t9 t8 tk9) | (refine argKvvi ?_; intro t9 tk9) | (refine argKvvv ?_; intro tk9))
  k_with "mt" => (with_reducible first | exact mt_is_before | exact mt_put | exact mt_rise | exact mt_better_child | exact mt_sink | exact mt_push | exact mt_pop | exact mt_pop_best | exact mt_bump | exact mt_decay | exact mt_rescale | exact mt_rebuild | exact mt_grow | exact mt_many | exact mt_is_held | exact mt_size | exact mt_top)
  k_with "storeName" => ((with_reducible apply x_store); (k_extra "A"); (k_extra "A"); (k_extra "R"); (k_whole); (intro h9 tk9 F9 N9); (try k_sweep))
  k_with "call builtin:list.append" => ((with_reducible apply append_U); (k_extra "A"); (k_extra "A"); (k_dflt (k_extra "updF")); (k_dflt (rw [IntsAre.length (by k_extra "ints")]; k_extra "pre0")); (k_whole); (intro h9 tk9 F9 N9); (try k_sweep))
  k_with "call builtin:list.pop" => ((with_reducible apply pop_U); (k_extra "A"); (k_extra "A"); (k_dflt (k_extra "updF")); (k_dflt (k_extra "ints")); (k_dflt (k_extra "pre0")); (k_dflt (k_extra "pre0")); (k_whole); (intro t9 h9 tk9 F9 N9 ip9); (try k_sweep))
  k_with "eval Attribute Name" => ((with_reducible apply useV); (k_extra "A"); (k_extra "A"); (k_dflt (k_extra "evV")); (k_whole); (intro tk9))
  k_with "eval BinOp" => ((with_reducible apply useI); (k_extra "A"); (k_extra "A"); (k_dflt (k_extra "evI")); (k_whole); (intro t9 tk9))
  k_with "eval Subscript" => ((with_reducible apply useI); (k_extra "A"); (k_extra "A"); (k_dflt (k_extra "evI")); (k_whole); (intro t9 tk9))
  k_with "isTrue Compare" => ((with_reducible apply useT); (k_extra "A"); (k_extra "A"); (k_dflt (k_extra "evT")); all_goals (k_whole; intro hp9 tk9))
  k_with "execs nil" => (with_reducible refine wpAny_execs_nil ?_)
  k_with "SeqK" => (with_reducible first | refine seq_next ?_ | refine seq_ret ?_ | refine seq_brk ?_ | refine seq_cont ?_)
  k_with "updF" => (first | exact upH (by with_reducible assumption) | exact upP (by with_reducible assumption) | exact upA (by with_reducible assumption) | exact upD (by with_reducible assumption) | (refine' .tail ?_ ?_; (k_extra "k_ne"); (k_extra "updF")))
  k_with "room" => (exact room_le (by with_reducible assumption) rfl)
  k_with "hH" => (first | exact fun _ h => h | exact fun _ h => .tail _ h | exact fun _ h => .tail _ (.tail _ h) | exact fun _ h => .tail _ (.tail _ (.tail _ h)) | exact fun _ h => .tail _ (.tail _ (.tail _ (.tail _ h))))
  k_with "spl" => (first | exact spl_led | exact .keep (off5_all (by k_extra "off5")) (by k_extra "spl"))
  k_with "off5" => (k_extra "A")
  k_with "evIH" => ((with_reducible apply evIH_of); (k_dflt (k_extra "evI")))
  k_with "evTH" => ((with_reducible apply evTH_cmp); (k_dflt (k_extra "evIH")); (k_dflt (k_extra "evIH")); (k_dflt (k_extra "cop")); (k_extra "R"))
  k_with "evTH" => ((with_reducible apply evTH_or); (k_dflt (k_extra "evTH")); (intro hp9; k_dflt (k_extra "evTH")))
  k_with "evTH" => ((with_reducible apply evTH_and); (k_dflt (k_extra "evTH")); (intro hp9; k_dflt (k_extra "evTH")))
  k_with "evTH" => ((with_reducible apply evTH_not); (k_dflt (k_extra "evTH")))
  k_with "evTH" => ((with_reducible apply evTH_of); (k_dflt (k_extra "evT")))
  k_with "meq" => (first
    | exact MEq.rf
    | ((with_reducible apply MEq.l); (exact rfl); (k_extra "meq"))
    | ((with_reducible apply MEq.r); (exact rfl); (k_extra "meq"))
    | ((with_reducible apply MEq.n); (exact rfl); (k_extra "meq"))
    | ((with_reducible apply MEq.g); (exact rfl); (k_extra "meq")))
  trivial
def Off5 (k o dx la lh lp : Nat) : Prop := k ≠ o ∧ k ≠ dx ∧ k ≠ la ∧ k ≠ lh ∧ k ≠ lp
theorem off5_all {k o dx la lh lp : Addr} (h : Off5 k o dx la lh lp) : ∀ a ∈ [o, dx, la, lh, lp], k ≠ a :=
  List.forall_mem_cons.mpr ⟨h.1, List.forall_mem_cons.mpr ⟨h.2.1, List.forall_mem_cons.mpr ⟨h.2.2.1, List.forall_mem_cons.mpr ⟨h.2.2.2.1, List.forall_mem_cons.mpr ⟨h.2.2.2.2, List.forall_mem_nil _⟩⟩⟩⟩⟩
structure WS where
  i : Int
  t : Tok
  j : Int
  t2 : Tok
  ov : Option Value
  va : List Value
  vh : List Value
  vp : List Value
  na : Nat
  nh : Nat
  np : Nat
  act : List Int
  hp : List Int
  pl : List Int
section
variable {o dx la lh lp : Addr} {t1 t2 t3 t4 t5 tl ts : Tok} {limit step : Int} {va vh vp : List Value} {na nh np : Nat} {act hp pl : List Int}
set_option maxHeartbeats 4000000 in
theorem c_is_before {one other : Int} {u1 u2 : Tok} (ia : IntsAre va act) (hn : act.length ≤ 10) (h1 : 0 ≤ one) (h2 : one < act.length) (h3 : 0 ≤ other) (h4 : other < act.length) :
    Ctr 2 20 57 [.ref o, .int one u1, .int other u2] (fun P => led P o dx la lh lp t1 t2 t3 t4 t5 tl ts limit step va vh vp na nh np)
      (fun P k => k (.bool (bef act one other)) (led P o dx la lh lp t1 t2 t3 t4 t5 tl ts limit step va vh vp na nh np)) := by
  k_extra "open"
  k_with "KEnd" => (refine kEnd_eq ?_ (hret _ _ _ (by assumption) (by assumption)); first | exact congrArg Value.bool (bef_of_ne (by assumption) hb9) | exact congrArg Value.bool (bef_of_eq (by assumption) hb9))
  k_extra "steps"
set_option maxHeartbeats 4000000 in
theorem c_put {spot var : Int} {u1 u2 : Tok} (hO : Ord5 o dx la lh lp) (ih : IntsAre vh hp) (ip : IntsAre vp pl) (hn : hp.length ≤ 10) (hm : pl.length ≤ 10) (h1 : 0 ≤ spot) (h2 : spot < hp.length) (h3 : 0 ≤ var) (h4 : var < pl.length) :
    Ctr 2 20 71 [.ref o, .int spot u1, .int var u2] (fun P => led P o dx la lh lp t1 t2 t3 t4 t5 tl ts limit step va vh vp na nh np)
      (fun P k => ∀ u1 u2, k .none (led P o dx la lh lp t1 t2 t3 t4 t5 tl ts limit step va (vh.set spot.toNat (.int var u2)) (vp.set var.toNat (.int spot u1)) na nh np)) := by
  k_extra "open"
  k_with "KEnd" => (exact kEnd_next (hret _ _ _ _ _ (by assumption) (by assumption)))
  k_extra "steps"
section
variable {cn : Str} {cs : Scope} {a : Addr} {ccd : Value} {cl : List (Str × Addr)} {m : Str → Option Value} {news Rr : Led} {x : Str} {ap xp pos : Pos} {e1 e2 : PySem.Expr} {n : Nat} {pl9 : Env → Sem Bool} {G : GC} {one other : Int}
theorem evTH_bef (hb : EvV (EC.mk cn cs a ccd cl G.prog G.w (ktrTop G.dp G.un G.gd cn cs G.L a ccd cl G.outer) G.h₀ G.L m news) (.Name x xp) (.ref o)) (m1 : (o, instObj 177 dx) ∈ news) (m2 : (dx, dictOf (hEs G.w.params t1 t2 t3 t4 t5 tl ts limit step la lh lp) 5) ∈ news)
    (hH : ∀ q ∈ led G.w.params o dx la lh lp t1 t2 t3 t4 t5 tl ts limit step va vh vp na nh np, q ∈ news) (hR : Spl [o, dx, la, lh, lp] news Rr)
    (g1 : EvI (EC.mk cn cs a ccd cl G.prog G.w (ktrTop G.dp G.un G.gd cn cs G.L a ccd cl G.outer) G.h₀ G.L m news) e1 one) (g2 : EvI (EC.mk cn cs a ccd cl G.prog G.w (ktrTop G.dp G.un G.gd cn cs G.L a ccd cl G.outer) G.h₀ G.L m news) e2 other)
    (ia : IntsAre va act) (hn : act.length ≤ 10) (h1 : 0 ≤ one) (h2 : one < act.length) (h3 : 0 ≤ other) (h4 : other < act.length)
    (B : Below G.A₀ G.base G.outer G.h₀) (X : (K39 G.w.params).In G.h₀) (T : Top G.p G.loose G.mean G.mg G.mb G.h₀) (hd : G.dp + 2 < recursionLimit) (hu : G.un + 20 < cLine) (hk : cs.kind = .function)
    (q1 : ∀ rest env, starEach (e1 :: rest) env = (false, eval e1 env) :: starEach rest env) (q2 : ∀ rest env, starEach (e2 :: rest) env = (false, eval e2 env) :: starEach rest env)
    (he : ∀ env, eval (.Call (.Attribute (.Name x xp) "is_before" ap) [e1, e2] [] pos) env = (do
      let ov ← eval (.Name x xp) env
      standAt ap.atName
      let (f, first) ← holding [ov] (getMethod ov "is_before" (pl9 env))
      callWith pos f first (backTo pos (starEach [e1, e2] env)) []))
    (hp : ∀ env, isTrue (.Call (.Attribute (.Name x xp) "is_before" ap) [e1, e2] [] pos) env (eval (.Call (.Attribute (.Name x xp) "is_before" ap) [e1, e2] [] pos) env) = (do let v ← eval (.Call (.Attribute (.Name x xp) "is_before" ap) [e1, e2] [] pos) env; standAt pos; holding [v] (truthy v))) :
    EvTH (EC.mk cn cs a ccd cl G.prog G.w (ktrTop G.dp G.un G.gd cn cs G.L a ccd cl G.outer) G.h₀ G.L m news) (.Call (.Attribute (.Name x xp) "is_before" ap) [e1, e2] [] pos) (bef act one other = true) :=
  evTH_meth (D := 2) (U := 20) (f := 57) (o := o) (H := fun P => led P o dx la lh lp t1 t2 t3 t4 t5 tl ts limit step va vh vp na nh np) (b := bef act one other) (sp := [.inr one, .inr other]) (fun u1 u2 => c_is_before ia hn h1 h2 h3 h4) mt_is_before B X T hd hu hk hb m1 m2 rfl (.i g1 q1 (.i g2 q2 .nil)) hH hR he hp
end
end
example : True := by
  k_with "evTH" => ((with_reducible apply evTH_bef); (k_dflt (k_extra "evV")); (k_dflt k_memK); (k_dflt k_memK); (k_dflt (k_extra "hH")); (k_dflt (k_extra "spl")); (k_dflt (k_extra "evI")); (k_dflt (k_extra "evI")); (k_dflt (k_extra "ints")); (k_dflt (k_extra "pre0")); (k_dflt (k_extra "pre0")); (k_dflt (k_extra "pre0")); (k_dflt (k_extra "pre0")); (k_dflt (k_extra "pre0")); (k_extra "A"); (k_extra "A"); (k_extra "A"); (k_dflt (k_extra "room")); (k_dflt (k_extra "room")); (k_extra "R"); (k_extra "G"); (k_extra "G"); (k_extra "F"); (k_extra "F"))
  k_with "call ref" => ((with_reducible show wpAny _ _ (call (Value.ref 71) _) _ _ _); k_dflt (refine' ctr_use (c_put ?a0 ?a1 ?a2 ?a3 ?a4 ?a5 ?a6 ?a7 ?a8) G ?F ?N ?B ?X ?T ?hk ?hH ?hR ?hd ?hu ?_; (case F => assumption); (case N => assumption); (case hH => k_extra "hH"); (case hR => k_extra "spl"); (case a0 => with_reducible assumption); (case a1 => k_extra "ints"); (case a2 => k_extra "ints"); (case a3 => k_extra "pre0"); (case a4 => k_extra "pre0"); (case a5 => k_extra "pre0"); (case a6 => k_extra "pre0"); (case a7 => k_extra "pre0"); (case a8 => k_extra "pre0"); (case B => assumption); (case X => assumption); (case T => assumption); (case hk => exact rfl); (case hd => k_extra "room"); (case hu => k_extra "room"); k_whole; intro u9 u8 h9 tk9 F9 N9 ap9; (try dsimp only [led, List.cons_append, List.nil_append] at N9); clear ap9; (try k_sweep)))
  k_with "call ref" => ((with_reducible show wpAny _ _ (call (Value.ref 71) _) _ _ _); k_dflt (refine' ctr_use0 (c_put ?a0 ?a1 ?a2 ?a3 ?a4 ?a5 ?a6 ?a7 ?a8) G ?F ?N ?B ?X ?T ?hk ?hd ?hu ?_; (case F => assumption); (case N => assumption); (case a0 => with_reducible assumption); (case a1 => k_extra "ints"); (case a2 => k_extra "ints"); (case a3 => k_extra "pre0"); (case a4 => k_extra "pre0"); (case a5 => k_extra "pre0"); (case a6 => k_extra "pre0"); (case a7 => k_extra "pre0"); (case a8 => k_extra "pre0"); (case B => assumption); (case X => assumption); (case T => assumption); (case hk => exact rfl); (case hd => k_extra "room"); (case hu => k_extra "room"); k_whole; intro u9 u8 h9 tk9 F9 N9 ap9; (try dsimp only [led, List.cons_append, List.nil_append] at N9); clear ap9; (try k_sweep)))
  trivial
theorem bchild_n {act hp : List Int} {spot : Int} (h : ¬ (hp.length : Int) ≤ 2 * spot + 1) (h3 : ¬ (2 * spot + 1 + 1 < (hp.length : Int) ∧ bef act (hp.getD (2 * spot + 1 + 1).toNat 0) (hp.getD (2 * spot + 1).toNat 0) = true)) : bchild act hp spot = 2 * spot + 1 := by
  unfold bchild; rw [if_neg h, if_neg h3]
theorem int_of {x y : Int} {t : Tok} (h : y = x) : Value.int y t = Value.int x t := h ▸ rfl
section
variable {o dx la lh lp : Addr} {t1 t2 t3 t4 t5 tl ts : Tok} {limit step : Int} {va vh vp : List Value} {na nh np : Nat} {act hp pl : List Int}
set_option maxHeartbeats 4000000 in
theorem c_better_child {spot : Int} {u1 : Tok} (ia : IntsAre va act) (ih : IntsAre vh hp) (hn : act.length ≤ 10) (hm : hp.length ≤ 10) (h1 : 0 ≤ spot) (hv : ∀ i : Int, 0 ≤ i → i < hp.length → 0 ≤ hp.getD i.toNat 0 ∧ hp.getD i.toNat 0 < act.length) :
    Ctr 4 40 85 [.ref o, .int spot u1] (fun P => led P o dx la lh lp t1 t2 t3 t4 t5 tl ts limit step va vh vp na nh np) (fun P k => ∀ t, k (.int (bchild act hp spot) t) (led P o dx la lh lp t1 t2 t3 t4 t5 tl ts limit step va vh vp na nh np)) := by
  k_extra "open"
  k_with "pre" => (first | (refine (hv _ ?_ ?_).1 <;> omega) | (refine (hv _ ?_ ?_).2 <;> omega))
  k_with "KEnd" => (refine kEnd_eq ?_ (hret t9 _ _ _ (by assumption) (by assumption)); first | exact int_of (bchild_1 (by assumption)) | exact int_of (bchild_2 (by assumption) hp9.1 hp9.2) | exact int_of (bchild_n (by assumption) hp9))
  k_extra "steps"
end
theorem fdiv2_lt {s : Int} (h : 0 < s) : (Int.fdiv (s - 1) 2).toNat < s.toNat := by rw [Int.fdiv_eq_ediv_of_nonneg _ (by omega)]; omega
def OrdC (o dx la lh lp : Addr) (t1 t2 t3 t4 t5 tl ts : Tok) (limit step : Int) (va : List Value) (na nh np : Nat) (n : Int) (act hp pl : List Int) (k : Int) (P : Params) (K : Value → Led → Prop) : Prop :=
  ∀ (vh' vp' : List Value) (hp' pl' : List Int), IntsAre vh' hp' → IntsAre vp' pl' → hp'.length = hp.length → Cons n hp' pl' → OrdFrom act hp' k → SameHeld n pl pl' → K .none (led P o dx la lh lp t1 t2 t3 t4 t5 tl ts limit step va vh' vp' na nh np)
theorem bool_f {b : Bool} (h : ¬ b = true) : b = false := by cases b <;> simp_all
section
variable {o dx la lh lp : Addr} {t1 t2 t3 t4 t5 tl ts : Tok} {limit step : Int} {va vh vp : List Value} {na nh np : Nat} {act hp pl : List Int}
theorem OrdC.mono {n k : Int} : ∀ P (K K' : Value → Led → Prop), (∀ r H', K r H' → K' r H') → OrdC o dx la lh lp t1 t2 t3 t4 t5 tl ts limit step va na nh np n act hp pl k P K → OrdC o dx la lh lp t1 t2 t3 t4 t5 tl ts limit step va na nh np n act hp pl k P K' :=
  fun _ _ _ h x a b c d e f g i j l => h _ _ (x a b c d e f g i j l)
set_option maxHeartbeats 8000000 in
theorem c_rise {n spot : Int} {u1 : Tok} (hO : Ord5 o dx la lh lp) (ia : IntsAre va act) (ih : IntsAre vh hp) (ip : IntsAre vp pl) (hc : Cons n hp pl) (hn : (act.length : Int) = n + 1) (h9 : n ≤ 9) (hm : hp.length ≤ 9) (h1 : 0 ≤ spot) (h2 : spot < hp.length) (hu : ExUp act hp spot) :
    Ctr 4 40 78 [.ref o, .int spot u1] (fun P => led P o dx la lh lp t1 t2 t3 t4 t5 tl ts limit step va vh vp na nh np)
      (OrdC o dx la lh lp t1 t2 t3 t4 t5 tl ts limit step va na nh np n act hp pl 0) := by
  have hlp := hc.lp
  have hR := RInv.start hc h1 h2 hu
  clear hc hu
  have hv0 := hR.v0
  have hv1 := hR.v1
  k_with "mono" => exact OrdC.mono
  k_extra "open"
  k_with "wend" => (refine hnext ⟨_, _, 0, 0, _, [], _, _, 0, 0, 0, [], _, _⟩ _ _ _ ⟨by k_extra "ints", by k_extra "ints", hR1.step htp (by k_extra "befT")⟩ (fdiv2_lt htp) (by k_extra "meq") F9 N9)
  k_with "pre" => (simp only [fdiv2]; omega)
  k_with "befT" => (exact Classical.not_not.mp hp9)
  k_with "execs cons" => (
    (with_reducible show wpAny _ _ (execs (Stmt.While _ _ _ _ :: _) _) _ _ _);
    k_dflt (
    refine' x_while (σ := WS) (fun c => led G.w.params o dx la lh lp t1 t2 t3 t4 t5 tl ts limit step va c.vh c.vp na nh np) (fun c => upd (upd _ "above" c.ov) "spot" (some (.int c.i c.t))) (fun c => IntsAre c.vh c.hp ∧ IntsAre c.vp c.pl ∧ RInv n act hp pl (hp.getD spot.toNat 0) c.i c.hp c.pl) (fun c => c.i.toNat) (fun c => 0 < c.i) ⟨spot, u1, 0, 0, none, [], vh, vp, 0, 0, 0, [], hp, pl⟩ (by assumption) (by assumption) (by k_extra "meq") ⟨ih, ip, hR⟩ ?_ ?_ ?_ (by passes_own);
    (intro c hP; (try dsimp only); k_extra "evTH");
    (intro c h1 tk1 q1 hP htp F9 N9 hnext hbrk hret1; (try dsimp only at F9 N9 htp); (have ih1 := hP.1); (have ip1 := hP.2.1); (have hR1 := hP.2.2); (have hA := hR1.above htp); (have hs0 := hR1.s0); (have hs1 := hR1.s1); (have hl1 := hR1.lh); (have hl2 := hR1.lp); (try k_sweep); unfold led at N9);
    rotate_left;
    (intro c h1 tk1 hP htp F9 N9; (try dsimp only at F9 N9 htp); (have ih1 := hP.1); (have ip1 := hP.2.1); (have hR1 := hP.2.2); (have hs0 := hR1.s0); (have hs1 := hR1.s1); (have hl1 := hR1.lh); (have hl2 := hR1.lp); (try k_sweep); unfold led at N9);
    rotate_right))
  k_with "KEnd" => (exact kEnd_next (hret _ _ _ _ (by k_extra "ints") (by k_extra "ints") (by rw [List.length_set]; exact hR1.lh) hR1.cons (by first | exact hR1.stop1 htp (bool_f (by assumption)) | exact hR1.stop0 htp) hR1.held _ _ _ F9 N9))
  k_extra "steps"
end
example : True := by
  k_with "call ref" => ((with_reducible show wpAny _ _ (call (Value.ref 85) _) _ _ _); k_dflt (refine' ctr_use (c_better_child ?a0 ?a1 ?a2 ?a3 ?a4 ?a5) G ?F ?N ?B ?X ?T ?hk ?hH ?hR ?hd ?hu ?_; (case F => assumption); (case N => assumption); (case hH => k_extra "hH"); (case hR => k_extra "spl"); (case a0 => k_extra "ints"); (case a1 => k_extra "ints"); (case a2 => k_extra "pre0"); (case a3 => k_extra "pre0"); (case a4 => k_extra "pre0"); (case a5 => k_extra "pre0"); (case B => assumption); (case X => assumption); (case T => assumption); (case hk => exact rfl); (case hd => k_extra "room"); (case hu => k_extra "room"); k_whole; intro t8 h9 tk9 F9 N9 ap9; (try dsimp only [led, List.cons_append, List.nil_append] at N9); clear ap9; (try k_sweep)))
  k_with "call ref" => ((with_reducible show wpAny _ _ (call (Value.ref 85) _) _ _ _); k_dflt (refine' ctr_use0 (c_better_child ?a0 ?a1 ?a2 ?a3 ?a4 ?a5) G ?F ?N ?B ?X ?T ?hk ?hd ?hu ?_; (case F => assumption); (case N => assumption); (case a0 => k_extra "ints"); (case a1 => k_extra "ints"); (case a2 => k_extra "pre0"); (case a3 => k_extra "pre0"); (case a4 => k_extra "pre0"); (case a5 => k_extra "pre0"); (case B => assumption); (case X => assumption); (case T => assumption); (case hk => exact rfl); (case hd => k_extra "room"); (case hu => k_extra "room"); k_whole; intro t8 h9 tk9 F9 N9 ap9; (try dsimp only [led, List.cons_append, List.nil_append] at N9); clear ap9; (try k_sweep)))
  trivial
theorem SInv.stop {n : Int} {act hp0 pl0 hp1 pl1 : List Int} {k var spot below : Int} (h : SInv n act hp0 pl0 k var spot below hp1 pl1) (hb : ¬ (0 ≤ below ∧ bef act (hp1.getD below.toNat 0) var = true)) : OrdFrom act (hp1.set spot.toNat var) k := by
  by_cases hs : 0 ≤ below
  · exact h.stop1 hs (bool_f fun q => hb ⟨hs, q⟩)
  · exact h.stop0 hs
section
variable {o dx la lh lp : Addr} {t1 t2 t3 t4 t5 tl ts : Tok} {limit step : Int} {va vh vp : List Value} {na nh np : Nat} {act hp pl : List Int}
set_option maxHeartbeats 8000000 in
theorem c_sink {n spot : Int} {u1 : Tok} (hO : Ord5 o dx la lh lp) (ia : IntsAre va act) (ih : IntsAre vh hp) (ip : IntsAre vp pl) (hc : Cons n hp pl) (hn : (act.length : Int) = n + 1) (h9 : n ≤ 9) (hm : hp.length ≤ 9) (h1 : 0 ≤ spot) (h2 : spot < hp.length) (hu : OrdFrom act hp (spot + 1)) :
    Ctr 6 60 92 [.ref o, .int spot u1] (fun P => led P o dx la lh lp t1 t2 t3 t4 t5 tl ts limit step va vh vp na nh np)
      (OrdC o dx la lh lp t1 t2 t3 t4 t5 tl ts limit step va na nh np n act hp pl spot) := by
  have hlp := hc.lp
  have hR := SInv.start hc h1 h2 hu
  have hr := hc.range hn
  clear hc hu
  have hv0 := hR.v0
  have hv1 := hR.v1
  k_with "mono" => exact OrdC.mono
  k_extra "open"
  k_with "pre" => first | exact hr | exact hR1.range hn htp.1
  k_with "wend" => (refine hnext ⟨c.j, _, bchild act (c.hp.set c.i.toNat (c.hp.getD c.j.toNat 0)) c.j, _, none, [], _, _, 0, 0, 0, [], c.hp.set c.i.toNat (c.hp.getD c.j.toNat 0), c.pl.set (c.hp.getD c.j.toNat 0).toNat c.i⟩ _ _ _ ⟨by k_extra "ints", by k_extra "ints", hR1.step htp.1 htp.2⟩ (show ((hp.length : Int) - c.j).toNat < ((hp.length : Int) - c.i).toNat by omega) (by k_extra "meq") F9 N9)
  k_with "execs cons" => (
    (with_reducible show wpAny _ _ (execs (Stmt.While _ _ _ _ :: _) _) _ _ _);
    k_dflt (
    refine' x_while (σ := WS) (fun c => led G.w.params o dx la lh lp t1 t2 t3 t4 t5 tl ts limit step va c.vh c.vp na nh np) (fun c => upd (upd _ "below" (some (.int c.j c.t2))) "spot" (some (.int c.i c.t))) (fun c => IntsAre c.vh c.hp ∧ IntsAre c.vp c.pl ∧ SInv n act hp pl spot (hp.getD spot.toNat 0) c.i c.j c.hp c.pl) (fun c => ((hp.length : Int) - c.i).toNat) (fun c => 0 ≤ c.j ∧ bef act (c.hp.getD c.j.toNat 0) (hp.getD spot.toNat 0) = true) ⟨spot, u1, _, _, none, [], vh, vp, 0, 0, 0, [], hp, pl⟩ (by assumption) (by assumption) (by k_extra "meq") ⟨ih, ip, hR⟩ ?_ ?_ ?_ (by passes_own);
    (intro c hP; (try dsimp only); (have ih1 := hP.1); (have hA := fun h => hP.2.2.below h); (have hs0 := hP.2.2.s0); (have hl1 := hP.2.2.lh); k_extra "evTH");
    (intro c h1 tk1 q1 hP htp F9 N9 hnext hbrk hret1; (try dsimp only at F9 N9 htp); (have ih1 := hP.1); (have ip1 := hP.2.1); (have hR1 := hP.2.2); (have hA := hR1.below htp.1); (have hs0 := hR1.s0); (have hs1 := hR1.s1); (have hl1 := hR1.lh); (have hl2 := hR1.lp); (try k_sweep); unfold led at N9);
    rotate_left;
    (intro c h1 tk1 hP htp F9 N9; (try dsimp only at F9 N9 htp); (have ih1 := hP.1); (have ip1 := hP.2.1); (have hR1 := hP.2.2); (have hs0 := hR1.s0); (have hs1 := hR1.s1); (have hl1 := hR1.lh); (have hl2 := hR1.lp); (try k_sweep); unfold led at N9);
    rotate_right))
  k_with "KEnd" => (exact kEnd_next (hret _ _ _ _ (by k_extra "ints") (by k_extra "ints") (by rw [List.length_set]; exact hR1.lh) hR1.cons (hR1.stop htp) hR1.held _ _ _ F9 N9))
  k_extra "steps"
end
example : True := by
  k_with "call ref" => ((with_reducible show wpAny _ _ (call (Value.ref 78) _) _ _ _); k_dflt (refine' ctr_use (c_rise ?a0 ?a1 ?a2 ?a3 ?a4 ?a5 ?a6 ?a7 ?a8 ?a9 ?a10) G ?F ?N ?B ?X ?T ?hk ?hH ?hR ?hd ?hu ?_; (case F => assumption); (case N => assumption); (case hH => k_extra "hH"); (case hR => k_extra "spl"); (case a0 => with_reducible assumption); (case a1 => k_extra "ints"); (case a2 => k_extra "ints"); (case a3 => k_extra "ints"); (case a4 => k_extra "pre0"); (case a5 => k_extra "pre0"); (case a6 => k_extra "pre0"); (case a7 => k_extra "pre0"); (case a8 => k_extra "pre0"); (case a9 => k_extra "pre0"); (case a10 => k_extra "pre0"); (case B => assumption); (case X => assumption); (case T => assumption); (case hk => exact rfl); (case hd => k_extra "room"); (case hu => k_extra "room"); k_whole; intro vh9 vp9 hp9' pl9 ih9 ip9 ln9 cs9 or9 sh9 h9 tk9 F9 N9 ap9; (try dsimp only [led, List.cons_append, List.nil_append] at N9); clear ap9; (try k_sweep)))
  k_with "call ref" => ((with_reducible show wpAny _ _ (call (Value.ref 78) _) _ _ _); k_dflt (refine' ctr_use0 (c_rise ?a0 ?a1 ?a2 ?a3 ?a4 ?a5 ?a6 ?a7 ?a8 ?a9 ?a10) G ?F ?N ?B ?X ?T ?hk ?hd ?hu ?_; (case F => assumption); (case N => assumption); (case a0 => with_reducible assumption); (case a1 => k_extra "ints"); (case a2 => k_extra "ints"); (case a3 => k_extra "ints"); (case a4 => k_extra "pre0"); (case a5 => k_extra "pre0"); (case a6 => k_extra "pre0"); (case a7 => k_extra "pre0"); (case a8 => k_extra "pre0"); (case a9 => k_extra "pre0"); (case a10 => k_extra "pre0"); (case B => assumption); (case X => assumption); (case T => assumption); (case hk => exact rfl); (case hd => k_extra "room"); (case hu => k_extra "room"); k_whole; intro vh9 vp9 hp9' pl9 ih9 ip9 ln9 cs9 or9 sh9 h9 tk9 F9 N9 ap9; (try dsimp only [led, List.cons_append, List.nil_append] at N9); clear ap9; (try k_sweep)))
  trivial
theorem dec_of {b : Bool} {p : Prop} [Decidable p] (h : b = true ↔ p) : decide p = b := by rw [Bool.eq_iff_iff, h, decide_eq_true_eq]
section
variable {o dx la lh lp : Addr} {t1 t2 t3 t4 t5 tl ts : Tok} {limit step : Int} {va vh vp : List Value} {na nh np : Nat} {act hp pl : List Int}
theorem c_is_held {var : Int} {u1 : Tok} (ip : IntsAre vp pl) (hm : pl.length ≤ 100) (h1 : 0 ≤ var) (h2 : var < pl.length) :
    Ctr 2 20 50 [.ref o, .int var u1] (fun P => led P o dx la lh lp t1 t2 t3 t4 t5 tl ts limit step va vh vp na nh np) (fun P k => k (.bool (decide (0 ≤ pl.getD var.toNat 0))) (led P o dx la lh lp t1 t2 t3 t4 t5 tl ts limit step va vh vp na nh np)) := by
  k_extra "open"
  k_with "KEnd" => (exact kEnd_eq (congrArg Value.bool (dec_of hb9)) (hret _ _ _ F N))
  k_extra "steps"
section
variable {cn : Str} {cs : Scope} {a : Addr} {ccd : Value} {cl : List (Str × Addr)} {m : Str → Option Value} {news Rr : Led} {x : Str} {ap xp pos : Pos} {e1 : PySem.Expr} {n : Nat} {pl9 : Env → Sem Bool} {G : GC} {var : Int}
theorem EvTH.iff {c : EC} {e : PySem.Expr} {p q : Prop} (h : EvTH c e p) (i : p ↔ q) : EvTH c e q := propext i ▸ h
theorem evTH_held (hb : EvV (EC.mk cn cs a ccd cl G.prog G.w (ktrTop G.dp G.un G.gd cn cs G.L a ccd cl G.outer) G.h₀ G.L m news) (.Name x xp) (.ref o)) (m1 : (o, instObj 177 dx) ∈ news) (m2 : (dx, dictOf (hEs G.w.params t1 t2 t3 t4 t5 tl ts limit step la lh lp) 5) ∈ news)
    (hH : ∀ q ∈ led G.w.params o dx la lh lp t1 t2 t3 t4 t5 tl ts limit step va vh vp na nh np, q ∈ news) (hR : Spl [o, dx, la, lh, lp] news Rr)
    (g1 : EvI (EC.mk cn cs a ccd cl G.prog G.w (ktrTop G.dp G.un G.gd cn cs G.L a ccd cl G.outer) G.h₀ G.L m news) e1 var)
    (ip : IntsAre vp pl) (hm : pl.length ≤ 100) (h1 : 0 ≤ var) (h2 : var < pl.length)
    (B : Below G.A₀ G.base G.outer G.h₀) (X : (K39 G.w.params).In G.h₀) (T : Top G.p G.loose G.mean G.mg G.mb G.h₀) (hd : G.dp + 2 < recursionLimit) (hu : G.un + 20 < cLine) (hk : cs.kind = .function)
    (q1 : ∀ rest env, starEach (e1 :: rest) env = (false, eval e1 env) :: starEach rest env)
    (he : ∀ env, eval (.Call (.Attribute (.Name x xp) "is_held" ap) [e1] [] pos) env = (do
      let ov ← eval (.Name x xp) env
      standAt ap.atName
      let (f, first) ← holding [ov] (getMethod ov "is_held" (pl9 env))
      callWith pos f first (backTo pos (starEach [e1] env)) []))
    (hp : ∀ env, isTrue (.Call (.Attribute (.Name x xp) "is_held" ap) [e1] [] pos) env (eval (.Call (.Attribute (.Name x xp) "is_held" ap) [e1] [] pos) env) = (do let v ← eval (.Call (.Attribute (.Name x xp) "is_held" ap) [e1] [] pos) env; standAt pos; holding [v] (truthy v))) :
    EvTH (EC.mk cn cs a ccd cl G.prog G.w (ktrTop G.dp G.un G.gd cn cs G.L a ccd cl G.outer) G.h₀ G.L m news) (.Call (.Attribute (.Name x xp) "is_held" ap) [e1] [] pos) (0 ≤ pl.getD var.toNat 0) :=
  (evTH_meth (D := 2) (U := 20) (f := 50) (o := o) (H := fun P => led P o dx la lh lp t1 t2 t3 t4 t5 tl ts limit step va vh vp na nh np) (b := decide (0 ≤ pl.getD var.toNat 0)) (sp := [.inr var]) (fun _ => c_is_held ip hm h1 h2) mt_is_held B X T hd hu hk hb m1 m2 rfl (.i g1 q1 .nil) hH hR he hp).iff (by rw [decide_eq_true_eq])
end
def PushC (o dx la lh lp : Addr) (t1 t2 t3 t4 t5 tl ts : Tok) (limit step : Int) (va : List Value) (na np : Nat) (n : Int) (act pl : List Int) (var : Int) (P : Params) (K : Value → Led → Prop) : Prop :=
  ∀ (vh' vp' : List Value) (nh' : Nat) (hp' pl' : List Int), IntsAre vh' hp' → IntsAre vp' pl' → Cons n hp' pl' → OrdFrom act hp' 0 → (∀ v : Int, 0 ≤ v → v ≤ n → (0 ≤ at' pl' v ↔ (0 ≤ at' pl v ∨ v = var))) → K .none (led P o dx la lh lp t1 t2 t3 t4 t5 tl ts limit step va vh' vp' na nh' np)
theorem PushC.mono {n var : Int} : ∀ P (K K' : Value → Led → Prop), (∀ r H', K r H' → K' r H') → PushC o dx la lh lp t1 t2 t3 t4 t5 tl ts limit step va na np n act pl var P K → PushC o dx la lh lp t1 t2 t3 t4 t5 tl ts limit step va na np n act pl var P K' :=
  fun _ _ _ h x a b c d e f g i j l => h _ _ (x a b c d e f g i j l)
end
example : True := by
  k_with "evTH" => ((with_reducible apply evTH_held); (k_dflt (k_extra "evV")); (k_dflt k_memK); (k_dflt k_memK); (k_dflt (k_extra "hH")); (k_dflt (k_extra "spl")); (k_dflt (k_extra "evI")); (k_dflt (k_extra "ints")); (k_dflt (k_extra "pre0")); (k_dflt (k_extra "pre0")); (k_dflt (k_extra "pre0")); (k_extra "A"); (k_extra "A"); (k_extra "A"); (k_dflt (k_extra "room")); (k_dflt (k_extra "room")); (k_extra "R"); (k_extra "G"); (k_extra "F"); (k_extra "F"))
  trivial
section
variable {o dx la lh lp : Addr} {t1 t2 t3 t4 t5 tl ts : Tok} {limit step : Int} {va vh vp : List Value} {na nh np : Nat} {act hp pl : List Int}
set_option maxHeartbeats 8000000 in
theorem c_push {n var : Int} {u1 : Tok} (hO : Ord5 o dx la lh lp) (ia : IntsAre va act) (ih : IntsAre vh hp) (ip : IntsAre vp pl) (hc : Cons n hp pl) (hn : (act.length : Int) = n + 1) (h9 : n ≤ 9) (h1 : 1 ≤ var) (h2 : var ≤ n) (hu : OrdFrom act hp 0) :
    Ctr 6 60 99 [.ref o, .int var u1] (fun P => led P o dx la lh lp t1 t2 t3 t4 t5 tl ts limit step va vh vp na nh np)
      (PushC o dx la lh lp t1 t2 t3 t4 t5 tl ts limit step va na np n act pl var) := by
  have hlp := hc.lp
  have hle := hc.len_le
  have hpl := hc.push_len h1 h2
  have hcp := hc.push h1 h2
  have hup := ExUp.push (var := var) hu
  have e9 : (hp.length : Int) = ((hp ++ [var]).length : Int) - 1 := by rw [List.length_append, List.length_singleton]; omega
  rw [e9] at hcp hup
  k_with "mono" => exact PushC.mono
  k_extra "open"
  k_with "pre" => (first | exact hcp (by assumption) | exact hup)
  k_with "KEnd" => (first
    | exact kEnd_ret (hret _ _ _ _ _ ih ip hc hu (fun v _ _ => ⟨Or.inl, fun hh => hh.elim id fun e => e ▸ hp9⟩) _ _ _ F9 N9)
    | exact kEnd_next (hret _ _ _ _ _ ih9 ip9 cs9 or9 (SameHeld.push h1 h2 hlp (by assumption) (by omega)) _ _ _ F9 N9))
  k_extra "steps"
end
example : True := by
  k_with "call ref" => ((with_reducible show wpAny _ _ (call (Value.ref 92) _) _ _ _); k_dflt (refine' ctr_use (c_sink ?a0 ?a1 ?a2 ?a3 ?a4 ?a5 ?a6 ?a7 ?a8 ?a9 ?a10) G ?F ?N ?B ?X ?T ?hk ?hH ?hR ?hd ?hu ?_; (case F => assumption); (case N => assumption); (case hH => k_extra "hH"); (case hR => k_extra "spl"); (case a0 => with_reducible assumption); (case a1 => k_extra "ints"); (case a2 => k_extra "ints"); (case a3 => k_extra "ints"); (case a4 => k_extra "pre0"); (case a5 => k_extra "pre0"); (case a6 => k_extra "pre0"); (case a7 => k_extra "pre0"); (case a8 => k_extra "pre0"); (case a9 => k_extra "pre0"); (case a10 => k_extra "pre0"); (case B => assumption); (case X => assumption); (case T => assumption); (case hk => exact rfl); (case hd => k_extra "room"); (case hu => k_extra "room"); k_whole; intro vh9 vp9 hp9' pl9 ih9 ip9 ln9 cs9 or9 sh9 h9 tk9 F9 N9 ap9; (try dsimp only [led, List.cons_append, List.nil_append] at N9); clear ap9; (try k_sweep)))
  k_with "call ref" => ((with_reducible show wpAny _ _ (call (Value.ref 92) _) _ _ _); k_dflt (refine' ctr_use0 (c_sink ?a0 ?a1 ?a2 ?a3 ?a4 ?a5 ?a6 ?a7 ?a8 ?a9 ?a10) G ?F ?N ?B ?X ?T ?hk ?hd ?hu ?_; (case F => assumption); (case N => assumption); (case a0 => with_reducible assumption); (case a1 => k_extra "ints"); (case a2 => k_extra "ints"); (case a3 => k_extra "ints"); (case a4 => k_extra "pre0"); (case a5 => k_extra "pre0"); (case a6 => k_extra "pre0"); (case a7 => k_extra "pre0"); (case a8 => k_extra "pre0"); (case a9 => k_extra "pre0"); (case a10 => k_extra "pre0"); (case B => assumption); (case X => assumption); (case T => assumption); (case hk => exact rfl); (case hd => k_extra "room"); (case hu => k_extra "room"); k_whole; intro vh9 vp9 hp9' pl9 ih9 ip9 ln9 cs9 or9 sh9 h9 tk9 F9 N9 ap9; (try dsimp only [led, List.cons_append, List.nil_append] at N9); clear ap9; (try k_sweep)))
  trivial
def PopC (o dx la lh lp : Addr) (t1 t2 t3 t4 t5 tl ts : Tok) (limit step : Int) (va : List Value) (na np : Nat) (n : Int) (act hp pl : List Int) (P : Params) (K : Value → Led → Prop) : Prop :=
  ∀ (t : Tok) (vh' vp' : List Value) (nh' : Nat) (hp' pl' : List Int), IntsAre vh' hp' → IntsAre vp' pl' → Cons n hp' pl' → OrdFrom act hp' 0 → (∀ v : Int, 0 ≤ v → v ≤ n → (0 ≤ at' pl' v ↔ (0 ≤ at' pl v ∧ v ≠ hp.getD (Int.toNat 0) 0))) → K (.int (hp.getD (Int.toNat 0) 0) t) (led P o dx la lh lp t1 t2 t3 t4 t5 tl ts limit step va vh' vp' na nh' np)
section
variable {o dx la lh lp lk : Addr} {t1 t2 t3 t4 t5 tl ts : Tok} {limit step : Int} {va vh vp vk : List Value} {na nh np nk : Nat} {act hp pl known : List Int}
theorem PopC.mono {n : Int} : ∀ P (K K' : Value → Led → Prop), (∀ r H', K r H' → K' r H') → PopC o dx la lh lp t1 t2 t3 t4 t5 tl ts limit step va na np n act hp pl P K → PopC o dx la lh lp t1 t2 t3 t4 t5 tl ts limit step va na np n act hp pl P K' :=
  fun _ _ _ h x a b c d e f g i j l m => h _ _ (x a b c d e f g i j l m)
set_option maxHeartbeats 8000000 in
theorem c_pop {n : Int} (hO : Ord5 o dx la lh lp) (ia : IntsAre va act) (ih : IntsAre vh hp) (ip : IntsAre vp pl) (hc : Cons n hp pl) (hn : (act.length : Int) = n + 1) (h9 : n ≤ 9) (hu : OrdFrom act hp 0) :
    Ctr 8 80 106 [.ref o] (fun P => led P o dx la lh lp t1 t2 t3 t4 t5 tl ts limit step va vh vp na nh np)
      (PopC o dx la lh lp t1 t2 t3 t4 t5 tl ts limit step va na np n act hp pl) := by
  have hlp := hc.lp
  have hle := hc.len_le
  have hlv := ih.length
  have hfi := hc.first
  have hla := hc.lastD
  have hd1 : (hp.dropLast.length : Int) ≤ n := by rw [List.length_dropLast]; omega
  k_with "mono" => exact PopC.mono
  k_extra "open"
  k_with "pre" => (first | exact (hc.pop1 hu (by assumption)).1 | exact (hc.pop1 hu (by assumption)).2)
  k_with "KEnd" => (first
    | exact kEnd_eq (int_of (hc.popE (by assumption)).1) (hret t9 _ _ _ _ _ ih ip hc hu (hc.popE (by assumption)).2 _ _ _ (by assumption) (by assumption))
    | exact kEnd_ret (hret _ _ _ _ _ _ ih9 ip9 cs9 or9 (hc.popH (by assumption) (by assumption) (by assumption)) _ _ _ F9 N9)
    | exact kEnd_ret (hret _ _ _ _ _ _ (by k_extra "ints") (by k_extra "ints") (hc.pop0 (Eq.refl act) (by assumption) (by assumption)).1 (hc.pop0 (Eq.refl act) (by assumption) (by assumption)).2.1 (hc.pop0 (Eq.refl act) (by assumption) (by assumption)).2.2 _ _ _ F9 N9))
  k_extra "steps"
end
section
variable {o dx la lh lp lk : Addr} {t1 t2 t3 t4 t5 tl ts : Tok} {limit step : Int} {va vh vp vk : List Value} {na nh np nk : Nat} {act hp pl known : List Int}
set_option maxHeartbeats 8000000 in
theorem c_rebuild {n : Int} (hO : Ord5 o dx la lh lp) (ia : IntsAre va act) (ih : IntsAre vh hp) (ip : IntsAre vp pl) (hc : Cons n hp pl) (hn : (act.length : Int) = n + 1) (h9 : n ≤ 9) :
    Ctr 8 80 139 [.ref o] (fun P => led P o dx la lh lp t1 t2 t3 t4 t5 tl ts limit step va vh vp na nh np)
      (OrdC o dx la lh lp t1 t2 t3 t4 t5 tl ts limit step va na nh np n act hp pl 0) := by
  have hR := BInv.start (act := act) hc
  have hle := hc.len_le
  k_with "mono" => exact OrdC.mono
  k_extra "open"
  k_with "pre" => (first | exact hR1.cons | exact hR1.ord)
  k_with "wend" => (refine hnext ⟨c.i - 1, _, 0, 0, none, [], _, _, 0, 0, 0, [], hp9', pl9⟩ _ _ _ ⟨ih9, ip9, hR1.step htp ln9 cs9 or9 sh9⟩ (show (c.i - 1 + 1).toNat < (c.i + 1).toNat by (have : 0 ≤ c.i := htp; omega)) (by k_extra "meq") F9 N9)
  k_with "execs cons" => (
    (with_reducible show wpAny _ _ (execs (Stmt.While _ _ _ _ :: _) _) _ _ _);
    k_dflt (
    refine' x_while (σ := WS) (fun c => led G.w.params o dx la lh lp t1 t2 t3 t4 t5 tl ts limit step va c.vh c.vp na nh np) (fun c => upd _ "spot" (some (.int c.i c.t))) (fun c => IntsAre c.vh c.hp ∧ IntsAre c.vp c.pl ∧ BInv n act hp pl c.i c.hp c.pl) (fun c => (c.i + 1).toNat) (fun c => 0 ≤ c.i) ⟨_, _, 0, 0, none, [], vh, vp, 0, 0, 0, [], hp, pl⟩ (by assumption) (by assumption) (by k_extra "meq") ⟨ih, ip, hR⟩ ?_ ?_ ?_ (by passes_own);
    (intro c hP; (try dsimp only); k_extra "evTH");
    (intro c h1 tk1 q1 hP htp F9 N9 hnext hbrk hret1; (try dsimp only at F9 N9 htp); (have ih1 := hP.1); (have ip1 := hP.2.1); (have hR1 := hP.2.2); (have hs0 := hR1.s0); (have hs1 := hR1.s1); (have hl1 := hR1.lh); (try k_sweep); unfold led at N9);
    rotate_left;
    (intro c h1 tk1 hP htp F9 N9; (try dsimp only at F9 N9 htp); (have ih1 := hP.1); (have ip1 := hP.2.1); (have hR1 := hP.2.2); (try k_sweep); unfold led at N9);
    rotate_right))
  k_with "KEnd" => (exact kEnd_next (hret _ _ _ _ ih1 ip1 hR1.lh hR1.cons (hR1.stop htp) hR1.held _ _ _ F9 N9))
  k_extra "steps"
end
example : True := by
  k_with "call ref" => ((with_reducible show wpAny _ _ (call (Value.ref 106) _) _ _ _); k_dflt (refine' ctr_use (c_pop ?a0 ?a1 ?a2 ?a3 ?a4 ?a5 ?a6 ?a7) G ?F ?N ?B ?X ?T ?hk ?hH ?hR ?hd ?hu ?_; (case F => assumption); (case N => assumption); (case hH => k_extra "hH"); (case hR => k_extra "spl"); (case a0 => with_reducible assumption); (case a1 => k_extra "ints"); (case a2 => k_extra "ints"); (case a3 => k_extra "ints"); (case a4 => k_extra "pre0"); (case a5 => k_extra "pre0"); (case a6 => k_extra "pre0"); (case a7 => k_extra "pre0"); (case B => assumption); (case X => assumption); (case T => assumption); (case hk => exact rfl); (case hd => k_extra "room"); (case hu => k_extra "room"); k_whole; intro t8 vh9 vp9 nh9 hp9' pl9 ih9 ip9 cs9 or9 sh9 h9 tk9 F9 N9 ap9; (try dsimp only [led, List.cons_append, List.nil_append] at N9); clear ap9; (try k_sweep)))
  k_with "call ref" => ((with_reducible show wpAny _ _ (call (Value.ref 106) _) _ _ _); k_dflt (refine' ctr_use0 (c_pop ?a0 ?a1 ?a2 ?a3 ?a4 ?a5 ?a6 ?a7) G ?F ?N ?B ?X ?T ?hk ?hd ?hu ?_; (case F => assumption); (case N => assumption); (case a0 => with_reducible assumption); (case a1 => k_extra "ints"); (case a2 => k_extra "ints"); (case a3 => k_extra "ints"); (case a4 => k_extra "pre0"); (case a5 => k_extra "pre0"); (case a6 => k_extra "pre0"); (case a7 => k_extra "pre0"); (case B => assumption); (case X => assumption); (case T => assumption); (case hk => exact rfl); (case hd => k_extra "room"); (case hu => k_extra "room"); k_whole; intro t8 vh9 vp9 nh9 hp9' pl9 ih9 ip9 cs9 or9 sh9 h9 tk9 F9 N9 ap9; (try dsimp only [led, List.cons_append, List.nil_append] at N9); clear ap9; (try k_sweep)))
  trivial
def BestC (o dx la lh lp lk : Addr) (t1 t2 t3 t4 t5 tl ts : Tok) (limit step : Int) (va vk : List Value) (na np nk : Nat) (n : Int) (act known pl : List Int) (P : Params) (K : Value → Led → Prop) : Prop :=
  ∀ (b : Int) (t : Tok) (vh' vp' : List Value) (nh' : Nat) (hp' pl' : List Int), IntsAre vh' hp' → IntsAre vp' pl' → Cons n hp' pl' → OrdFrom act hp' 0 → PB act known (heldL n pl) b (heldL n pl') → K (.int b t) ((lk, listOf vk.toArray nk) :: led P o dx la lh lp t1 t2 t3 t4 t5 tl ts limit step va vh' vp' na nh' np)
section
variable {o dx la lh lp lk : Addr} {t1 t2 t3 t4 t5 tl ts : Tok} {limit step : Int} {va vh vp vk : List Value} {na nh np nk : Nat} {act hp pl known : List Int}
theorem BestC.mono {n : Int} : ∀ P (K K' : Value → Led → Prop), (∀ r H', K r H' → K' r H') → BestC o dx la lh lp lk t1 t2 t3 t4 t5 tl ts limit step va vk na np nk n act known pl P K → BestC o dx la lh lp lk t1 t2 t3 t4 t5 tl ts limit step va vk na np nk n act known pl P K' :=
  fun _ _ _ h x a b c d e f g i j l m o => h _ _ (x a b c d e f g i j l m o)
theorem PInv.stop {n : Int} {act known H0 hp pl : List Int} {var : Int} (h : PInv n act known H0 var hp pl) (hb : ¬ (0 < var ∧ known.getD var.toNat 0 ≠ 0)) : PB act known H0 var (heldL n pl) := by
  by_cases h0 : 0 < var
  · exact h.stop1 h0 (Classical.not_not.mp fun q => hb ⟨h0, q⟩)
  · exact h.stop0 h0
set_option maxHeartbeats 8000000 in
theorem c_pop_best {n : Int} (hO : Ord5 o dx la lh lp) (hK : Off5 lk o dx la lh lp) (ia : IntsAre va act) (ih : IntsAre vh hp) (ip : IntsAre vp pl) (ik : IntsAre vk known) (hc : Cons n hp pl) (hn : (act.length : Int) = n + 1) (h9 : n ≤ 9) (hu : OrdFrom act hp 0) (hkn : (known.length : Int) = n + 1) :
    Ctr 10 100 113 [.ref o, .ref lk] (fun P => (lk, listOf vk.toArray nk) :: led P o dx la lh lp t1 t2 t3 t4 t5 tl ts limit step va vh vp na nh np)
      (BestC o dx la lh lp lk t1 t2 t3 t4 t5 tl ts limit step va vk na np nk n act known pl) := by
  k_with "mono" => exact BestC.mono
  k_extra "open"
  k_with "pre" => (first | exact hR1.cons | exact hR1.ord)
  k_with "wend" => (refine hnext ⟨_, _, 0, 0, none, [], _, _, 0, _, 0, [], hp9', pl9⟩ _ _ _ ⟨ih9, ip9, PInv.step hR1 htp.1 htp.2 cs9 or9 sh9⟩ (PInv.less hR1 htp.1 sh9) (by k_extra "meq") F9 N9)
  k_with "execs cons" => (
    (with_reducible show wpAny _ _ (execs (Stmt.While _ _ _ _ :: _) _) _ _ _);
    k_dflt (
    refine' x_while (σ := WS) (fun c => (lk, listOf vk.toArray nk) :: led G.w.params o dx la lh lp t1 t2 t3 t4 t5 tl ts limit step va c.vh c.vp na c.nh np) (fun c => upd _ "var" (some (.int c.i c.t))) (fun c => IntsAre c.vh c.hp ∧ IntsAre c.vp c.pl ∧ PInv n act known (heldL n pl) c.i c.hp c.pl) (fun c => pmeas n c.i c.pl) (fun c => 0 < c.i ∧ known.getD c.i.toNat 0 ≠ 0) ⟨_, _, 0, 0, none, [], vh9, vp9, 0, nh9, 0, [], hp9', pl9⟩ (by assumption) (by assumption) (by k_extra "meq") ⟨ih9, ip9, PInv.start hc hu cs9 or9 rfl sh9⟩ ?_ ?_ ?_ (by passes_own);
    (intro c hP; (try dsimp only); (have hv0 := hP.2.2.v0); (have hv1 := hP.2.2.v1); k_extra "evTH");
    (intro c h1 tk1 q1 hP htp F9 N9 hnext hbrk hret1; (try dsimp only at F9 N9 htp); (have ih1 := hP.1); (have ip1 := hP.2.1); (have hR1 := hP.2.2); (try k_sweep); unfold led at N9);
    rotate_left;
    (intro c h1 tk1 hP htp F9 N9; (try dsimp only at F9 N9 htp); (have ih1 := hP.1); (have ip1 := hP.2.1); (have hR1 := hP.2.2); (try k_sweep); unfold led at N9);
    rotate_right))
  k_with "KEnd" => (exact kEnd_ret (hret _ _ _ _ _ _ _ ih1 ip1 hR1.cons hR1.ord (hR1.stop htp) _ _ _ F9 N9))
  k_extra "steps"
end
example : True := by
  k_with "call ref" => ((with_reducible show wpAny _ _ (call (Value.ref 99) _) _ _ _); k_dflt (refine' ctr_use (c_push ?a0 ?a1 ?a2 ?a3 ?a4 ?a5 ?a6 ?a7 ?a8 ?a9) G ?F ?N ?B ?X ?T ?hk ?hH ?hR ?hd ?hu ?_; (case F => assumption); (case N => assumption); (case hH => k_extra "hH"); (case hR => k_extra "spl"); (case a0 => with_reducible assumption); (case a1 => k_extra "ints"); (case a2 => k_extra "ints"); (case a3 => k_extra "ints"); (case a4 => k_extra "pre0"); (case a5 => k_extra "pre0"); (case a6 => k_extra "pre0"); (case a7 => k_extra "pre0"); (case a8 => k_extra "pre0"); (case a9 => k_extra "pre0"); (case B => assumption); (case X => assumption); (case T => assumption); (case hk => exact rfl); (case hd => k_extra "room"); (case hu => k_extra "room"); k_whole; intro vh9 vp9 nh9 hp9' pl9 ih9 ip9 cs9 or9 sh9 h9 tk9 F9 N9 ap9; (try dsimp only [led, List.cons_append, List.nil_append] at N9); clear ap9; (try k_sweep)))
  k_with "call ref" => ((with_reducible show wpAny _ _ (call (Value.ref 99) _) _ _ _); k_dflt (refine' ctr_use0 (c_push ?a0 ?a1 ?a2 ?a3 ?a4 ?a5 ?a6 ?a7 ?a8 ?a9) G ?F ?N ?B ?X ?T ?hk ?hd ?hu ?_; (case F => assumption); (case N => assumption); (case a0 => with_reducible assumption); (case a1 => k_extra "ints"); (case a2 => k_extra "ints"); (case a3 => k_extra "ints"); (case a4 => k_extra "pre0"); (case a5 => k_extra "pre0"); (case a6 => k_extra "pre0"); (case a7 => k_extra "pre0"); (case a8 => k_extra "pre0"); (case a9 => k_extra "pre0"); (case B => assumption); (case X => assumption); (case T => assumption); (case hk => exact rfl); (case hd => k_extra "room"); (case hu => k_extra "room"); k_whole; intro vh9 vp9 nh9 hp9' pl9 ih9 ip9 cs9 or9 sh9 h9 tk9 F9 N9 ap9; (try dsimp only [led, List.cons_append, List.nil_append] at N9); clear ap9; (try k_sweep)))
  trivial
section
variable {o dx la lh lp lk : Addr} {t1 t2 t3 t4 t5 tl ts : Tok} {limit step : Int} {va vh vp vk : List Value} {na nh np nk : Nat} {act hp pl known : List Int}
theorem c_many (ia : IntsAre va act) (hm : act.length ≤ 100) : Ctr 2 20 43 [.ref o] (fun P => led P o dx la lh lp t1 t2 t3 t4 t5 tl ts limit step va vh vp na nh np) (fun P k => ∀ t, k (.int ((act.length : Int) - 1) t) (led P o dx la lh lp t1 t2 t3 t4 t5 tl ts limit step va vh vp na nh np)) := by
  k_extra "open"
  k_with "KEnd" => (exact kEnd_ret (hret _ _ _ _ F N))
  k_extra "steps"
theorem c_size (ih : IntsAre vh hp) (hm : hp.length ≤ 100) : Ctr 2 20 160 [.ref o] (fun P => led P o dx la lh lp t1 t2 t3 t4 t5 tl ts limit step va vh vp na nh np) (fun P k => ∀ t, k (.int (hp.length : Int) t) (led P o dx la lh lp t1 t2 t3 t4 t5 tl ts limit step va vh vp na nh np)) := by
  k_extra "open"
  k_with "KEnd" => (exact kEnd_ret (hret _ _ _ _ F N))
  k_extra "steps"
theorem top_e {hp : List Int} (h : ¬ 0 < (hp.length : Int)) : hp.getD (Int.toNat 0) 0 = 0 := by
  have : hp = [] := List.eq_nil_of_length_eq_zero (by omega)
  subst this; rfl
theorem c_top (ih : IntsAre vh hp) (hm : hp.length ≤ 100) : Ctr 2 20 167 [.ref o] (fun P => led P o dx la lh lp t1 t2 t3 t4 t5 tl ts limit step va vh vp na nh np) (fun P k => ∀ t, k (.int (hp.getD (Int.toNat 0) 0) t) (led P o dx la lh lp t1 t2 t3 t4 t5 tl ts limit step va vh vp na nh np)) := by
  k_extra "open"
  k_with "KEnd" => (first | exact kEnd_ret (hret _ _ _ _ F N) | exact kEnd_eq (int_of (top_e hp9)) (hret _ _ _ _ F N))
  k_extra "steps"
section
variable {cn : Str} {cs : Scope} {a : Addr} {ccd : Value} {cl : List (Str × Addr)} {m : Str → Option Value} {news Rr : Led} {x : Str} {ap xp pos : Pos} {n : Nat} {pl9 : Env → Sem Bool} {G : GC}
theorem evIH_many (hb : EvV (EC.mk cn cs a ccd cl G.prog G.w (ktrTop G.dp G.un G.gd cn cs G.L a ccd cl G.outer) G.h₀ G.L m news) (.Name x xp) (.ref o)) (m1 : (o, instObj 177 dx) ∈ news) (m2 : (dx, dictOf (hEs G.w.params t1 t2 t3 t4 t5 tl ts limit step la lh lp) 5) ∈ news)
    (hH : ∀ q ∈ led G.w.params o dx la lh lp t1 t2 t3 t4 t5 tl ts limit step va vh vp na nh np, q ∈ news) (hR : Spl [o, dx, la, lh, lp] news Rr) (ia : IntsAre va act) (hm : act.length ≤ 100)
    (B : Below G.A₀ G.base G.outer G.h₀) (X : (K39 G.w.params).In G.h₀) (T : Top G.p G.loose G.mean G.mg G.mb G.h₀) (hd : G.dp + 2 < recursionLimit) (hu : G.un + 20 < cLine) (hk : cs.kind = .function)
    (he : ∀ env, eval (.Call (.Attribute (.Name x xp) "many" ap) [] [] pos) env = (do
      let ov ← eval (.Name x xp) env
      standAt ap.atName
      let (f, first) ← holding [ov] (getMethod ov "many" (pl9 env))
      callWith pos f first (backTo pos (starEach [] env)) [])) :
    EvIH (EC.mk cn cs a ccd cl G.prog G.w (ktrTop G.dp G.un G.gd cn cs G.L a ccd cl G.outer) G.h₀ G.L m news) (.Call (.Attribute (.Name x xp) "many" ap) [] [] pos) ((act.length : Int) - 1) :=
  evIH_meth0 (D := 2) (U := 20) (f := 43) (H := fun P => led P o dx la lh lp t1 t2 t3 t4 t5 tl ts limit step va vh vp na nh np) (i := (act.length : Int) - 1) (c_many ia hm) mt_many hb m1 m2 rfl hH hR B X T hd hu hk he
theorem evIH_size (hb : EvV (EC.mk cn cs a ccd cl G.prog G.w (ktrTop G.dp G.un G.gd cn cs G.L a ccd cl G.outer) G.h₀ G.L m news) (.Name x xp) (.ref o)) (m1 : (o, instObj 177 dx) ∈ news) (m2 : (dx, dictOf (hEs G.w.params t1 t2 t3 t4 t5 tl ts limit step la lh lp) 5) ∈ news)
    (hH : ∀ q ∈ led G.w.params o dx la lh lp t1 t2 t3 t4 t5 tl ts limit step va vh vp na nh np, q ∈ news) (hR : Spl [o, dx, la, lh, lp] news Rr) (ih : IntsAre vh hp) (hm : hp.length ≤ 100)
    (B : Below G.A₀ G.base G.outer G.h₀) (X : (K39 G.w.params).In G.h₀) (T : Top G.p G.loose G.mean G.mg G.mb G.h₀) (hd : G.dp + 2 < recursionLimit) (hu : G.un + 20 < cLine) (hk : cs.kind = .function)
    (he : ∀ env, eval (.Call (.Attribute (.Name x xp) "size" ap) [] [] pos) env = (do
      let ov ← eval (.Name x xp) env
      standAt ap.atName
      let (f, first) ← holding [ov] (getMethod ov "size" (pl9 env))
      callWith pos f first (backTo pos (starEach [] env)) [])) :
    EvIH (EC.mk cn cs a ccd cl G.prog G.w (ktrTop G.dp G.un G.gd cn cs G.L a ccd cl G.outer) G.h₀ G.L m news) (.Call (.Attribute (.Name x xp) "size" ap) [] [] pos) ((hp.length : Int)) :=
  evIH_meth0 (D := 2) (U := 20) (f := 160) (H := fun P => led P o dx la lh lp t1 t2 t3 t4 t5 tl ts limit step va vh vp na nh np) (i := (hp.length : Int)) (c_size ih hm) mt_size hb m1 m2 rfl hH hR B X T hd hu hk he
theorem evIH_top (hb : EvV (EC.mk cn cs a ccd cl G.prog G.w (ktrTop G.dp G.un G.gd cn cs G.L a ccd cl G.outer) G.h₀ G.L m news) (.Name x xp) (.ref o)) (m1 : (o, instObj 177 dx) ∈ news) (m2 : (dx, dictOf (hEs G.w.params t1 t2 t3 t4 t5 tl ts limit step la lh lp) 5) ∈ news)
    (hH : ∀ q ∈ led G.w.params o dx la lh lp t1 t2 t3 t4 t5 tl ts limit step va vh vp na nh np, q ∈ news) (hR : Spl [o, dx, la, lh, lp] news Rr) (ih : IntsAre vh hp) (hm : hp.length ≤ 100)
    (B : Below G.A₀ G.base G.outer G.h₀) (X : (K39 G.w.params).In G.h₀) (T : Top G.p G.loose G.mean G.mg G.mb G.h₀) (hd : G.dp + 2 < recursionLimit) (hu : G.un + 20 < cLine) (hk : cs.kind = .function)
    (he : ∀ env, eval (.Call (.Attribute (.Name x xp) "top" ap) [] [] pos) env = (do
      let ov ← eval (.Name x xp) env
      standAt ap.atName
      let (f, first) ← holding [ov] (getMethod ov "top" (pl9 env))
      callWith pos f first (backTo pos (starEach [] env)) [])) :
    EvIH (EC.mk cn cs a ccd cl G.prog G.w (ktrTop G.dp G.un G.gd cn cs G.L a ccd cl G.outer) G.h₀ G.L m news) (.Call (.Attribute (.Name x xp) "top" ap) [] [] pos) (hp.getD (Int.toNat 0) 0) :=
  evIH_meth0 (D := 2) (U := 20) (f := 167) (H := fun P => led P o dx la lh lp t1 t2 t3 t4 t5 tl ts limit step va vh vp na nh np) (i := hp.getD (Int.toNat 0) 0) (c_top ih hm) mt_top hb m1 m2 rfl hH hR B X T hd hu hk he
end
end
example : True := by
  k_with "evIH" => ((with_reducible apply evIH_many); (k_dflt (k_extra "evV")); (k_dflt k_memK); (k_dflt k_memK); (k_dflt (k_extra "hH")); (k_dflt (k_extra "spl")); (k_dflt (k_extra "ints")); (k_dflt (k_extra "pre0")); (k_extra "A"); (k_extra "A"); (k_extra "A"); (k_dflt (k_extra "room")); (k_dflt (k_extra "room")); (k_extra "R"); (k_extra "F"))
  k_with "evIH" => ((with_reducible apply evIH_size); (k_dflt (k_extra "evV")); (k_dflt k_memK); (k_dflt k_memK); (k_dflt (k_extra "hH")); (k_dflt (k_extra "spl")); (k_dflt (k_extra "ints")); (k_dflt (k_extra "pre0")); (k_extra "A"); (k_extra "A"); (k_extra "A"); (k_dflt (k_extra "room")); (k_dflt (k_extra "room")); (k_extra "R"); (k_extra "F"))
  k_with "evIH" => ((with_reducible apply evIH_top); (k_dflt (k_extra "evV")); (k_dflt k_memK); (k_dflt k_memK); (k_dflt (k_extra "hH")); (k_dflt (k_extra "spl")); (k_dflt (k_extra "ints")); (k_dflt (k_extra "pre0")); (k_extra "A"); (k_extra "A"); (k_extra "A"); (k_dflt (k_extra "room")); (k_dflt (k_extra "room")); (k_extra "R"); (k_extra "F"))
  k_with "call ref" => ((with_reducible show wpAny _ _ (call (Value.ref 43) _) _ _ _); k_dflt (refine' ctr_use (c_many ?a0 ?a1) G ?F ?N ?B ?X ?T ?hk ?hH ?hR ?hd ?hu ?_; (case F => assumption); (case N => assumption); (case hH => k_extra "hH"); (case hR => k_extra "spl"); (case a0 => k_extra "ints"); (case a1 => k_extra "pre0"); (case B => assumption); (case X => assumption); (case T => assumption); (case hk => exact rfl); (case hd => k_extra "room"); (case hu => k_extra "room"); k_whole; intro t8 h9 tk9 F9 N9 ap9; (try dsimp only [led, List.cons_append, List.nil_append] at N9); clear ap9; (try k_sweep)))
  k_with "call ref" => ((with_reducible show wpAny _ _ (call (Value.ref 43) _) _ _ _); k_dflt (refine' ctr_use0 (c_many ?a0 ?a1) G ?F ?N ?B ?X ?T ?hk ?hd ?hu ?_; (case F => assumption); (case N => assumption); (case a0 => k_extra "ints"); (case a1 => k_extra "pre0"); (case B => assumption); (case X => assumption); (case T => assumption); (case hk => exact rfl); (case hd => k_extra "room"); (case hu => k_extra "room"); k_whole; intro t8 h9 tk9 F9 N9 ap9; (try dsimp only [led, List.cons_append, List.nil_append] at N9); clear ap9; (try k_sweep)))
  trivial
def GrowC (o dx la lh lp : Addr) (t1 t2 t3 t4 t5 tl ts : Tok) (limit step : Int) (n0 N : Int) (act pl : List Int) (P : Params) (K : Value → Led → Prop) : Prop :=
  ∀ (va' vh' vp' : List Value) (na' nh' np' : Nat) (hp' pl' : List Int), IntsAre va' (act ++ List.replicate (N - n0).toNat 0) → IntsAre vh' hp' → IntsAre vp' pl' → GInv n0 N act pl N (act ++ List.replicate (N - n0).toNat 0) hp' pl' → K .none (led P o dx la lh lp t1 t2 t3 t4 t5 tl ts limit step va' vh' vp' na' nh' np')
section
variable {o dx la lh lp lk : Addr} {t1 t2 t3 t4 t5 tl ts : Tok} {limit step : Int} {va vh vp vk : List Value} {na nh np nk : Nat} {act hp pl known : List Int}
theorem GrowC.mono {n0 n : Int} : ∀ P (K K' : Value → Led → Prop), (∀ r H', K r H' → K' r H') → GrowC o dx la lh lp t1 t2 t3 t4 t5 tl ts limit step n0 n act pl P K → GrowC o dx la lh lp t1 t2 t3 t4 t5 tl ts limit step n0 n act pl P K' :=
  fun _ _ _ h x a b c d e f g i j l m o => h _ _ (x a b c d e f g i j l m o)
set_option maxHeartbeats 8000000 in
theorem c_grow {n0 N : Int} {u1 : Tok} (hO : Ord5 o dx la lh lp) (ia : IntsAre va act) (ih : IntsAre vh hp) (ip : IntsAre vp pl) (hc : Cons n0 hp pl) (hn : (act.length : Int) = n0 + 1) (h9 : N ≤ 9) (hN : n0 ≤ N) (hu : OrdFrom act hp 0) :
    Ctr 8 80 64 [.ref o, .int N u1] (fun P => led P o dx la lh lp t1 t2 t3 t4 t5 tl ts limit step va vh vp na nh np)
      (GrowC o dx la lh lp t1 t2 t3 t4 t5 tl ts limit step n0 N act pl) := by
  have hR := GInv.start hc hn hu hN
  have hn0 := hc.n0
  k_with "mono" => exact GrowC.mono
  k_extra "open"
  rename News _ _ _ _ => N9
  rename Fr _ _ _ _ => F9
  k_with "wend" => (refine hnext ⟨c.i + 1, 0, 0, 0, none, _, _, _, _, _, _, _, hp9', pl9⟩ _ _ _ ⟨by k_extra "ints", ih9, ip9, GInv.step hR1 htp cs9 or9 (fun v a b => by have := sh9 v a b; rw [List.length_append, List.length_singleton] at this; exact this)⟩ (show (N - (c.i + 1)).toNat < (N - c.i).toNat by (have : (c.act.length : Int) - 1 < N := htp; omega)) (by k_extra "meq") F9 N9)
  k_with "execs cons" => (
    (with_reducible show wpAny _ _ (execs (Stmt.While _ _ _ _ :: _) _) _ _ _);
    k_dflt (
    refine' x_while (σ := WS) (fun c => led G.w.params o dx la lh lp t1 t2 t3 t4 t5 tl ts limit step c.va c.vh c.vp c.na c.nh c.np) (fun c => _) (fun c => IntsAre c.va c.act ∧ IntsAre c.vh c.hp ∧ IntsAre c.vp c.pl ∧ GInv n0 N act pl c.i c.act c.hp c.pl) (fun c => (N - c.i).toNat) (fun c => (c.act.length : Int) - 1 < N) ⟨n0, 0, 0, 0, none, va, vh, vp, na, nh, np, act, hp, pl⟩ (by assumption) (by assumption) (by k_extra "meq") ⟨ia, ih, ip, hR⟩ ?_ ?_ ?_ (by passes_own);
    (intro c hP; (try dsimp only); (have ia1 := hP.1); (have hR1 := hP.2.2.2); (have hs1 := hR1.hi); (have hs2 := hR1.la); k_extra "evTH");
    (intro c h1 tk1 q1 hP htp F9 N9 hnext hbrk hret1; (try dsimp only at F9 N9 htp); (have ia1 := hP.1); (have ih1 := hP.2.1); (have ip1 := hP.2.2.1); (have hR1 := hP.2.2.2); (have hs0 := hR1.lo); (have hs1 := hR1.hi); (have hs2 := hR1.la); (have hs3 := hR1.gcons.1); (have hs4 := hR1.gcons.2); (have hs5 := hR1.cons.lp); (have hs6 := hR1.cons.len_le); (try k_sweep); unfold led at N9);
    rotate_left;
    (intro c h1 tk1 hP htp F9 N9; (try dsimp only at F9 N9 htp); (have ia1 := hP.1); (have ih1 := hP.2.1); (have ip1 := hP.2.2.1); (have hR1 := hP.2.2.2); (have hs1 := hR1.hi); (have hs2 := hR1.la); (try k_sweep); unfold led at N9);
    rotate_right))
  k_with "KEnd" => ((have e9 : c.i = N := by omega); (have hR2 := hR1); rw [e9] at hR2; (have e8 := hR2.ac); rw [e8] at hR2 ia1; exact kEnd_next (hret _ _ _ _ _ _ _ _ ia1 ih1 ip1 hR2 _ _ _ F9 N9))
  k_extra "steps"
end
abbrev mC (scope : Scope) (binds : List (Str × Value)) : Str → Option Value := bindL (fun x => scope.names.lookup x) binds fun _ => none
abbrev gA1 (y : Str) (qual : Str) (scope : Scope) (f : Addr) (cd : Value) (G : GC) : Around := ktrTop G.dp G.un G.gd qual scope G.L f cd [(y, G.L + 1)] G.outer
abbrev gE1 (y : Str) (qual : Str) (scope : Scope) (f : Addr) (cd : Value) (G : GC) : Env := envX qual scope G.L f cd [(y, G.L + 1)]
theorem ctr_introC {D U : Nat} {f : Addr} {vs : List Value} {H : Params → Led} {C : Params → Cps} {name qual : Str} {params : Arguments} {body : List Stmt} {scope : Scope} {dV kV doc pm cdv ct oc : Value} {an od : Option Addr} {osl : Array (Option Value)} {y : Str}
    (mono : ∀ P (k k' : Value → Led → Prop), (∀ r H', k r H' → k' r H') → C P k → C P k')
    (ho : ∀ P, (K39 P).lookup f = some ⟨oc, od, .func (fnOf name qual params body scope dV kV doc pm an cdv ct), osl⟩) (hcd : ∀ P, codeIn (K39 P) cdv qual = true)
    (hbind : ∀ s, BindsTo s (fnOf name qual params body scope dV kV doc pm an cdv ct) ⟨vs, []⟩ (bnd params vs)) (hkind : ((bnd params vs).all fun y => scope.names.lookup y.1 == some .local || scope.names.lookup y.1 == some .cell) = true)
    (hnd : ((cellsFrom 0 scope.names []).map (·.1)).Nodup) (hcl : ∀ L, cellsFrom (L + 1) scope.names [] = [(y, L + 1)])
    (hco : scope.isCoroutine = false) (hgen : scope.isGenerator = false) (hk : scope.kind = .function)
    (h : ∀ (G : GC) (h : Heap) (gs : Array GenState) (dr : Drawn) (tk0 : Nat) (os : OsState) (q : Value → Shared → Prop) (oc : Obj), Below G.A₀ G.base G.outer G.h₀ → Fr G.h₀ G.L h (mC scope (bnd params vs)) → (K39 G.w.params).In G.h₀ → News G.h₀ G.L h ((G.L + 1, oc) :: H G.w.params) →
      oc.data = .cell (bindC (fun x => scope.names.lookup x) (bnd params vs) (fun _ => none) y) → Top G.p G.loose G.mean G.mg G.mb G.h₀ →
      (∀ q ∈ H G.w.params, q.1 < G.L) → G.dp + D < recursionLimit → G.un + U < cLine →
      C G.w.params (fun r H' => ∀ m' h' tk', Fr G.h₀ G.L h' m' → News G.h₀ G.L h' H' → q r ⟨h', gs, dr, tk', os⟩) →
      wpAny (gM G) (gA1 y qual scope f cdv G) (execs body (gE1 y qual scope f cdv G)) (KEnd q) NoE ⟨h, gs, dr, tk0, os⟩) : Ctr (D + 1) (U + 8) f vs H C := by
  intro G cn cs a ccd cl m Rr h0 gs dr tk0 os Q E B F X N NR dj T hkc hD hU hret
  refine wpAny_call ?_
  refine enterC B F X N NR dj T rfl rfl hkc (ho _) (hcd _) ?_ (hbind _) hkind hnd ?_ hco hgen hk
  · show G.dp < recursionLimit
    omega
  intro g L' h₁ tk cells FG F' N' Y B' X' T' l1
  rw [hcl L'] at Y
  obtain ⟨oc, e, d1⟩ := CellsAre.one Y
  subst e
  have key := h ⟨G.prog, G.w, G.p, G.loose, G.mean, G.mg, G.mb, G.dp + 1, G.un + 3, G.gd, envX cn cs G.L a ccd cl :: G.outer, ktrTop G.dp G.un G.gd cn cs G.L a ccd cl G.outer, G.base, g, L'⟩ h₁ gs dr tk os (fun v s' => LeaveF G.h₀ G.L m g Rr (fun r s' => match r with | .ok (.ret v) => Q v s' | .ok _ => False | .error e => E e s') v s') oc B' F' X' N' d1 T' l1 (by show G.dp + 1 + D < recursionLimit; omega) (by show G.un + 3 + U < cLine; omega) (mono _ _ _ (fun r H' k m' h' tk' F1 N1 => ⟨L', m', H', F1, N1, fun F2 N2 NR2 dj2 => k _ _ F2 (news_app NR2 N2) dj2⟩) hret)
  refine wpAny_noRaise ?_
  have e1 : envOfC qual scope L' f cdv = envX qual scope L' f cdv [(y, L' + 1)] := by
    show envX qual scope L' f cdv (cellsFrom (L' + 1) scope.names []) = _
    rw [hcl L']
  rw [e1]
  exact key
theorem off5_lt {P : Params} {o dx la lh lp L : Addr} {t1 t2 t3 t4 t5 tl ts : Tok} {limit step : Int} {va vh vp : List Value} {na nh np : Nat} (h : ∀ q ∈ led P o dx la lh lp t1 t2 t3 t4 t5 tl ts limit step va vh vp na nh np, q.1 < L) : Off5 (L + 1) o dx la lh lp :=
  ⟨Nat.ne_of_gt (Nat.lt_succ_of_lt (h _ (.head _))), Nat.ne_of_gt (Nat.lt_succ_of_lt (h _ (.tail _ (.head _)))), Nat.ne_of_gt (Nat.lt_succ_of_lt (h _ (.tail _ (.tail _ (.head _))))), Nat.ne_of_gt (Nat.lt_succ_of_lt (h _ (.tail _ (.tail _ (.tail _ (.head _)))))), Nat.ne_of_gt (Nat.lt_succ_of_lt (h _ (.tail _ (.tail _ (.tail _ (.tail _ (.head _))))))) ⟩
noncomputable def stOk (P : Params) (name : Str) : Bool := (match findIn (K39 P) (.ref 177) "__setattr__" with | some (some (.builtin b)) => b == "object.__setattr__" | _ => false) && plainOver (K39 P) 177 && (match takerIn (K39 P) 177 name with | some none => true | _ => false) && hasDictIn (K39 P) 177
theorem stOk_spec {P : Params} {name : Str} (h : stOk P name = true) : findIn (K39 P) (.ref 177) "__setattr__" = some (some (.builtin "object.__setattr__")) ∧ plainOver (K39 P) 177 = true ∧ takerIn (K39 P) 177 name = some none ∧ hasDictIn (K39 P) 177 = true := by
  unfold stOk at h
  simp only [Bool.and_eq_true] at h
  refine ⟨?_, h.1.1.2, ?_, h.2⟩
  · have := h.1.1.1
    split at this
    · rename_i e
      rw [e, beq_iff_eq.mp this]
    · cases this
  · have := h.1.2
    split at this
    · assumption
    · cases this
theorem st_step : ∀ P, stOk P "step" = true := fun P => by kernel_rfl
theorem st_act : ∀ P, stOk P "activity" = true := fun P => by kernel_rfl
section
variable {prog : Program} {w : World} {A : Around} {E : Value → Shared → Prop} {h₀ : Heap} {L : Addr} {m : Str → Option Value} {news : Led} {h : Heap} {gs : Array GenState} {dr : Drawn} {tk0 : Nat} {os : OsState} {Q : Unit → Shared → Prop} {g : Obj → Led}
  {o dx la lh lp : Addr} {t1 t2 t3 t4 t5 tl ts : Tok} {limit step : Int}
theorem set_step {ts' : Tok} {step' : Int} (F : Fr h₀ L h m) (N : News h₀ L h news) (X : (K39 w.params).In h₀) (h1 : (o, instObj 177 dx) ∈ news) (h2 : (dx, dictOf (hEs w.params t1 t2 t3 t4 t5 tl ts limit step la lh lp) 5) ∈ news)
    (U : UpdF dx (dictOf (hEs w.params t1 t2 t3 t4 t5 tl ts limit step la lh lp) 5) news g)
    (k : ∀ h' tk, Fr h₀ L h' m → News h₀ L h' (g (dictOf (hEs w.params t1 t2 t3 t4 t5 tl ts' limit step' la lh lp) 5)) → Q () ⟨h', gs, dr, tk, os⟩) :
    wpAny (model prog w) A (setAttr (.ref o) "step" (.int step' ts')) Q E ⟨h, gs, dr, tk0, os⟩ := by
  obtain ⟨a, b, c, d⟩ := stOk_spec (st_step w.params)
  exact set_dict (s := ⟨h, gs, dr, tk0, os⟩) F X N (InstAt.of_news N h1 h2) rfl a b c d rfl rfl (updF_upd U _) (Nat.le_of_ble_eq_true rfl) fun h' F' N' => k h' _ F' N'
theorem set_act {la' : Addr} (F : Fr h₀ L h m) (N : News h₀ L h news) (X : (K39 w.params).In h₀) (h1 : (o, instObj 177 dx) ∈ news) (h2 : (dx, dictOf (hEs w.params t1 t2 t3 t4 t5 tl ts limit step la lh lp) 5) ∈ news)
    (U : UpdF dx (dictOf (hEs w.params t1 t2 t3 t4 t5 tl ts limit step la lh lp) 5) news g)
    (k : ∀ h' tk, Fr h₀ L h' m → News h₀ L h' (g (dictOf (hEs w.params t1 t2 t3 t4 t5 tl ts limit step la' lh lp) 5)) → Q () ⟨h', gs, dr, tk, os⟩) :
    wpAny (model prog w) A (setAttr (.ref o) "activity" (.ref la')) Q E ⟨h, gs, dr, tk0, os⟩ := by
  obtain ⟨a, b, c, d⟩ := stOk_spec (st_act w.params)
  exact set_dict (s := ⟨h, gs, dr, tk0, os⟩) F X N (InstAt.of_news N h1 h2) rfl a b c d rfl rfl (updF_upd U _) (Nat.le_of_ble_eq_true rfl) fun h' F' N' => k h' _ F' N'
end
theorem gl_first : ∀ P, nsIn (K39 P) mainGlobals "FIRST_STEP" = some (some (.int 1024 196)) := fun P => by kernel_rfl
theorem gl_shrink : ∀ P, nsIn (K39 P) mainGlobals "SHRINK" = some (some (.int 20 198)) := fun P => by kernel_rfl
section
variable {cn : Str} {cs : Scope} {a : Addr} {ccd : Value} {cl : List (Str × Addr)} {prog : Program} {w : World} {A : Around} {h₀ : Heap} {L : Addr} {m : Str → Option Value} {news : Led} {h : Heap} {gs : Array GenState} {dr : Drawn} {tk0 : Nat} {os : OsState} {E : Value → Shared → Prop}
  {x : Str} {pos xp p1 p2 : Pos} {i : Int} {t : Tok} {v₀ : Option Value} {e : PySem.Expr} {D c : Addr} {oC oD : Obj} {g : Obj → Led} {p : Program} {loose : List Str} {mg mb : Str → Option Value}
theorem evI_glob (X : (K39 w.params).In h₀) (T : TopRead p loose mg mb h₀) (hg : ∀ P, nsIn (K39 P) mainGlobals x = some (some (.int i t))) (hx : nmOk cs .globalImplicit x = true) : EvI (EC.mk cn cs a ccd cl prog w A h₀ L m news) (.Name x pos) i := fun Q E s F N k => by
  obtain ⟨d1, d2, d3⟩ := nmOk_spec hx
  exact nameX_K F X T (hg _) (k t s.toks) d1 d2 d3
theorem x_asgIC {Q : Flow → Shared → Prop} {rest : List Stmt} (F : Fr h₀ L h m) (N : News h₀ L h news) (V : EvI (EC.mk cn cs a ccd cl prog w A h₀ L m news) e i) (hc : cl.lookup x = some c) (U : UpdF c oC news g) (hd : oC.data = .cell v₀) (hx : nmOk cs .cell x = true) (hs : ∀ env, swapsWith e (some (.Name x p1)) pos.line env = pure false)
    (k : ∀ t h' tk o', Fr h₀ L h' m → News h₀ L h' (g o') → o'.data = .cell (some (.int i t)) → wpAny (model prog w) A (execs rest (envX cn cs L a ccd cl)) Q E ⟨h', gs, dr, tk, os⟩) :
    wpAny (model prog w) A (execs (.Assign [.Name x p1] e pos :: rest) (envX cn cs L a ccd cl)) Q E ⟨h, gs, dr, tk0, os⟩ := by
  obtain ⟨d1, d2, _⟩ := nmOk_spec hx
  exact wpAny_execs_cons (wpAny_Assign_Name (V _ _ _ F N fun t tk => storeX_C F N hc U hd (fun h' o' F' N' d => k t h' _ o' F' N' d) d1 d2) (hs _))
variable {o dx la lh lp : Addr} {t1 t2 t3 t4 t5 tl ts : Tok} {limit step : Int} {va vh vp ys : List Value} {na nh np : Nat} {x1 x2 x3 x4 x5 : Obj}
theorem upC (h : Off5 c o dx la lh lp) : UpdF c oC [(c, oC), (o, x1), (dx, x2), (la, x3), (lh, x4), (lp, x5)] (fun q => [(c, q), (o, x1), (dx, x2), (la, x3), (lh, x4), (lp, x5)]) :=
  .head (List.forall_mem_cons.mpr ⟨Ne.symm h.1, List.forall_mem_cons.mpr ⟨Ne.symm h.2.1, List.forall_mem_cons.mpr ⟨Ne.symm h.2.2.1, List.forall_mem_cons.mpr ⟨Ne.symm h.2.2.2.1, List.forall_mem_cons.mpr ⟨Ne.symm h.2.2.2.2, List.forall_mem_nil _⟩⟩⟩⟩⟩)
theorem rs_act {nn : Nat} {Q : Unit → Shared → Prop} (hO : Ord5 o dx la lh lp) (hK : Off5 c o dx la lh lp) (X : (K39 w.params).In h₀) (F : Fr h₀ L h m) (N : News h₀ L h ((D, oD) :: (c, oC) :: led w.params o dx la lh lp t1 t2 t3 t4 t5 tl ts limit step va vh vp na nh np)) (e1 : oD = listOf ys.toArray nn)
    (e : c ≠ D ∧ o ≠ D ∧ dx ≠ D ∧ la ≠ D ∧ lh ≠ D ∧ lp ≠ D)
    (k : ∀ h' tk, Fr h₀ L h' m → Ord5 o dx D lh lp → Off5 c o dx D lh lp → News h₀ L h' ((c, oC) :: led w.params o dx D lh lp t1 t2 t3 t4 t5 tl ts limit step ys vh vp nn nh np) → Q () ⟨h', gs, dr, tk, os⟩) :
    wpAny (model prog w) A (setAttr (.ref o) "activity" (.ref D)) Q E ⟨h, gs, dr, tk0, os⟩ := by
  subst e1
  unfold led at N
  obtain ⟨e1, e2, e3, e4, e5, e6⟩ := e
  refine set_act F N X (.tail _ (.tail _ (.head _))) (.tail _ (.tail _ (.tail _ (.head _)))) (.tail (Ne.symm e3) (.tail hK.2.1 (upD hO))) fun h' tk F' N' => k h' tk F' ⟨hO.1, hO.2.1, hO.2.2.1, Ne.symm e3, Ne.symm e2, Ne.symm e5, Ne.symm e6⟩ ⟨hK.1, hK.2.1, e1, hK.2.2.2⟩ (news_sub N' ?_)
  unfold led
  k_allIn
end
section
variable {c o dx la lh lp : Addr} {x0 x1 x2 x3 x4 x5 : Obj}
theorem upD1 (hK : Off5 c o dx la lh lp) (h : Ord5 o dx la lh lp) : UpdF dx x2 [(c, x0), (o, x1), (dx, x2), (la, x3), (lh, x4), (lp, x5)] (fun q => [(c, x0), (o, x1), (dx, q), (la, x3), (lh, x4), (lp, x5)]) := .tail hK.2.1 (upD h)
theorem upA1 (hK : Off5 c o dx la lh lp) (h : Ord5 o dx la lh lp) : UpdF la x3 [(c, x0), (o, x1), (dx, x2), (la, x3), (lh, x4), (lp, x5)] (fun q => [(c, x0), (o, x1), (dx, x2), (la, q), (lh, x4), (lp, x5)]) := .tail hK.2.2.1 (upA h)
end
section
variable {cn : Str} {cs : Scope} {a : Addr} {ccd : Value} {cl : List (Str × Addr)} {prog : Program} {w : World} {A : Around} {h₀ : Heap} {L : Addr} {m : Str → Option Value} {news : Led} {h : Heap} {gs : Array GenState} {dr : Drawn} {tk0 : Nat} {os : OsState} {E : Value → Shared → Prop}
  {x : Str} {pos xp p1 p2 : Pos} {i : Int} {e : PySem.Expr} {g : Obj → Led}
  {o dx la lh lp : Addr} {t1 t2 t3 t4 t5 tl ts : Tok} {limit step : Int}
theorem x_setStep {Q : Flow → Shared → Prop} {rest : List Stmt} (F : Fr h₀ L h m) (N : News h₀ L h news) (X : (K39 w.params).In h₀) (V : EvI (EC.mk cn cs a ccd cl prog w A h₀ L m news) e i) (hb : EvV (EC.mk cn cs a ccd cl prog w A h₀ L m news) (.Name x xp) (.ref o))
    (h1 : (o, instObj 177 dx) ∈ news) (h2 : (dx, dictOf (hEs w.params t1 t2 t3 t4 t5 tl ts limit step la lh lp) 5) ∈ news)
    (U : UpdF dx (dictOf (hEs w.params t1 t2 t3 t4 t5 tl ts limit step la lh lp) 5) news g) (hs : ∀ env, swapsWith e (some (.Attribute (.Name x xp) "step" p1)) pos.line env = pure false)
    (k : ∀ t h' tk, Fr h₀ L h' m → News h₀ L h' (g (dictOf (hEs w.params t1 t2 t3 t4 t5 tl t limit i la lh lp) 5)) → wpAny (model prog w) A (execs rest (envX cn cs L a ccd cl)) Q E ⟨h', gs, dr, tk, os⟩) :
    wpAny (model prog w) A (execs (.Assign [.Attribute (.Name x xp) "step" p1] e pos :: rest) (envX cn cs L a ccd cl)) Q E ⟨h, gs, dr, tk0, os⟩ :=
  wpAny_execs_cons (plainObj_wpAny_Assign_Attribute (V _ _ _ F N fun t tk => hb _ _ _ F N fun tk2 => set_step F N X h1 h2 U fun h' tk' F' N' => k t h' tk' F' N') (hs _))
end
section
variable {c : EC} {pos : Pos} {e l r : PySem.Expr} {p q : Prop} {rs : List PySem.Expr}
theorem evT_orc (h1 : EvT c l p) (h2 : ¬ p → EvT c (.BoolOp .Or (r :: rs) pos) q) : EvT c (.BoolOp .Or (l :: r :: rs) pos) (p ∨ q) := fun _ _ _ F N k k' =>
  isTrue_or (h1 _ _ _ F N (fun hp tk => k (.inl hp) _) fun hp tk => h2 hp _ _ _ F N (fun hq tk2 => k (.inr hq) _) fun hq tk2 => k' (fun n => n.elim hp hq) _)
theorem evTH_orc (h1 : EvTH c l p) (h2 : ¬ p → EvTH c (.BoolOp .Or (r :: rs) pos) q) : EvTH c (.BoolOp .Or (l :: r :: rs) pos) (p ∨ q) := fun _ _ _ _ _ _ _ F N k k' =>
  isTrue_or (h1 _ _ _ _ _ _ _ F N (fun hp h' tk F' N' => k (.inl hp) h' tk F' N') fun hp h' tk F' N' => h2 hp _ _ _ _ _ _ _ F' N' (fun hq h2 tk2 F2 N2 => k (.inr hq) _ _ F2 N2) fun hq h2 tk2 F2 N2 => k' (fun n => n.elim hp hq) _ _ F2 N2)
end
theorem min_none : ∀ P, nsIn (K39 P) mainGlobals "min" = some none := fun P => by kernel_rfl
theorem max_none : ∀ P, nsIn (K39 P) mainGlobals "max" = some none := fun P => by kernel_rfl
theorem list_none : ∀ P, nsIn (K39 P) mainGlobals "list" = some none := fun P => by kernel_rfl
section
variable {c : EC} {pos : Pos} {l r1 r2 : PySem.Expr} {p q : Prop} {i j k : Int}
theorem evT_chain {o1 o2 : CmpOp} (h1 : EvI c l i) (h2 : EvI c r1 j) (h3 : EvI c r2 k) (c1 : COp o1 i j p) (c2 : COp o2 j k q) (hm : lastMarks [o1, o2] [r1, r2] = false) : EvT c (.Compare l [o1, o2] [r1, r2] pos) (p ∧ q) := fun _ _ _ F N k1 k2 => by
  refine isTrue_chain (h1 _ _ _ F N fun t tk => ?_) hm
  refine test_link (h2 _ _ _ F N fun t2 tk2 => cmp_op c1 fun b e1 e2 => wpAny_truthy_bool ?_)
  cases b with
  | false =>
    rw [if_neg (by simp)]
    exact k2 (fun n => e2 rfl n.1) _
  | true =>
    rw [if_pos rfl]
    refine test_last (h3 _ _ _ F N fun t3 tk3 => cmp_op c2 fun b e3 e4 => wpAny_truthy_bool ?_)
    cases b with
    | true => exact k1 ⟨e1 rfl, e3 rfl⟩ _
    | false => exact k2 (fun n => e4 rfl n.2) _
end
section
variable {cn : Str} {cs : Scope} {a : Addr} {ccd : Value} {cl : List (Str × Addr)} {prog : Program} {w : World} {A : Around} {h₀ : Heap} {L : Addr} {m : Str → Option Value} {news : Led} {h : Heap} {gs : Array GenState} {dr : Drawn} {tk0 : Nat} {os : OsState} {E : Value → Shared → Prop}
  {x : Str} {pos xp cp p1 : Pos} {j : Int} {e r : PySem.Expr} {D : Addr} {vs : List Value} {ns : List Int} {n : Nat} {p : Program} {loose : List Str} {mg mb : Str → Option Value}
theorem evTH_minlt (hh : A.handled = none) (X : (K39 w.params).In h₀) (T : TopRead p loose mg mb h₀) (hx : nmOk cs .globalImplicit "min" = true)
    (he : EvV (EC.mk cn cs a ccd cl prog w A h₀ L m news) e (.ref D)) (hr : EvI (EC.mk cn cs a ccd cl prog w A h₀ L m news) r j) (hq : ∀ rest env, starEach (e :: rest) env = (false, eval e env) :: starEach rest env)
    (hc : ∀ env, eval (.Call (.Name "min" xp) [e] [] cp) env = (do callWith cp (← eval (.Name "min" xp) env) [] (backTo cp (starEach [e] env)) (backToKw cp (keywordEach [] env))))
    (hm : (D, listOf vs.toArray n) ∈ news) (hi : IntsAre vs ns) (h0 : 0 < ns.length) (hb : ∀ a ∈ ns, j ≤ a) (hk : behindInMarks .Lt r = false) :
    EvTH (EC.mk cn cs a ccd cl prog w A h₀ L m news) (.Compare (.Call (.Name "min" xp) [e] [] cp) [.Lt] [r] pos) False := fun _ _ _ _ _ _ _ F N _ k => by
  obtain ⟨d1, d2, d3⟩ := nmOk_spec hx
  refine wpAny_isTrue_Compare1 (Call_ (nameX_B (v := .builtin "min") F X T (min_none _) boot_min (by decide) ?_ d1 d2 d3) (hc _)) hk
  refine callWith_builtin1 ?_ (hq _ _) rfl
  refine args_cons (he _ _ _ F N fun tk => ?_) (hq _ _)
  refine args_nil (min_list_N hh F N (News.isList N hm) hi h0 fun h' M t tk F' N' hM _ => hr _ _ _ F' N' fun t2 tk2 => cmp_op .lt fun b e1 _ => wpAny_truthy_bool ?_)
  cases b with
  | true => exact absurd (e1 rfl) (Int.not_lt.mpr (hb M hM))
  | false => exact k (fun h => h) _ _ F' N'
theorem evTH_maxgt (hh : A.handled = none) (X : (K39 w.params).In h₀) (T : TopRead p loose mg mb h₀) (hx : nmOk cs .globalImplicit "max" = true)
    (he : EvV (EC.mk cn cs a ccd cl prog w A h₀ L m news) e (.ref D)) (hr : EvI (EC.mk cn cs a ccd cl prog w A h₀ L m news) r j) (hq : ∀ rest env, starEach (e :: rest) env = (false, eval e env) :: starEach rest env)
    (hc : ∀ env, eval (.Call (.Name "max" xp) [e] [] cp) env = (do callWith cp (← eval (.Name "max" xp) env) [] (backTo cp (starEach [e] env)) (backToKw cp (keywordEach [] env))))
    (hm : (D, listOf vs.toArray n) ∈ news) (hi : IntsAre vs ns) (h0 : 0 < ns.length) (hb : ∀ a ∈ ns, a ≤ j) (hk : behindInMarks .Gt r = false) :
    EvTH (EC.mk cn cs a ccd cl prog w A h₀ L m news) (.Compare (.Call (.Name "max" xp) [e] [] cp) [.Gt] [r] pos) False := fun _ _ _ _ _ _ _ F N _ k => by
  obtain ⟨d1, d2, d3⟩ := nmOk_spec hx
  refine wpAny_isTrue_Compare1 (Call_ (nameX_B (v := .builtin "max") F X T (max_none _) boot_max (by decide) ?_ d1 d2 d3) (hc _)) hk
  refine callWith_builtin1 ?_ (hq _ _) rfl
  refine args_cons (he _ _ _ F N fun tk => ?_) (hq _ _)
  refine args_nil (max_list_N hh F N (News.isList N hm) hi h0 fun h' M t tk F' N' hM _ => hr _ _ _ F' N' fun t2 tk2 => cmp_op .gt fun b e1 _ => wpAny_truthy_bool ?_)
  cases b with
  | true => exact absurd (e1 rfl) (Int.not_lt.mpr (hb M hM))
  | false => exact k (fun h => h) _ _ F' N'
theorem x_copy {Q : Flow → Shared → Prop} {rest : List Stmt} (F : Fr h₀ L h m) (N : News h₀ L h news) (X : (K39 w.params).In h₀) (T : TopRead p loose mg mb h₀) (hx : nmOk cs .local x = true) (hl : nmOk cs .globalImplicit "list" = true)
    (he : EvV (EC.mk cn cs a ccd cl prog w A h₀ L m news) e (.ref D)) (hq : ∀ rest env, starEach (e :: rest) env = (false, eval e env) :: starEach rest env)
    (hc : ∀ env, eval (.Call (.Name "list" xp) [e] [] cp) env = (do callWith cp (← eval (.Name "list" xp) env) [] (backTo cp (starEach [e] env)) (backToKw cp (keywordEach [] env))))
    (hm : (D, listOf vs.toArray n) ∈ news) (h100 : vs.length ≤ 100) (hs : ∀ env, swapsWith (.Call (.Name "list" xp) [e] [] cp) (some (.Name x p1)) pos.line env = pure false)
    (k : ∀ D' c' h' tk, (∀ q ∈ news, q.1 < D') → Fr h₀ L h' (upd m x (some (.ref D'))) → News h₀ L h' ((D', listOf vs.toArray c') :: news) → wpAny (model prog w) A (execs rest (envX cn cs L a ccd cl)) Q E ⟨h', gs, dr, tk, os⟩) :
    wpAny (model prog w) A (execs (.Assign [.Name x p1] (.Call (.Name "list" xp) [e] [] cp) pos :: rest) (envX cn cs L a ccd cl)) Q E ⟨h, gs, dr, tk0, os⟩ := by
  obtain ⟨d1, d2, d3⟩ := nmOk_spec hl
  obtain ⟨f1, f2, _⟩ := nmOk_spec hx
  refine wpAny_execs_cons (wpAny_Assign_Name (Call_ (nameX_B (v := .type "list") F X T (list_none _) boot_list (by decide) ?_ d1 d2 d3) (hc _)) (hs _))
  refine callWith_type1 ?_ (hq _ _) rfl
  refine args_cons (he _ _ _ F N fun tk => ?_) (hq _ _)
  refine args_nil (list_copyK F N (News.isList N hm) (fun D' c' h' F' N' hlt => storeX_L F' N' (fun h2 F2 N2 => k D' c' h2 _ hlt F2 N2) f1 f2) (by rw [PySem.sizeLine_eq, List.size_toArray]; omega))
theorem off5_new {P : Params} {o dx la lh lp D' : Addr} {t1 t2 t3 t4 t5 tl ts : Tok} {limit step : Int} {va vh vp : List Value} {na nh np : Nat} (h : ∀ q ∈ led P o dx la lh lp t1 t2 t3 t4 t5 tl ts limit step va vh vp na nh np, q.1 < D') : Off5 D' o dx la lh lp :=
  ⟨Nat.ne_of_gt (h _ (.head _)), Nat.ne_of_gt (h _ (.tail _ (.head _))), Nat.ne_of_gt (h _ (.tail _ (.tail _ (.head _)))), Nat.ne_of_gt (h _ (.tail _ (.tail _ (.tail _ (.head _))))), Nat.ne_of_gt (h _ (.tail _ (.tail _ (.tail _ (.tail _ (.head _))))))⟩
end
section
variable {a b o dx la lh lp : Addr} {y z x1 x2 x3 x4 x5 : Obj}
theorem spl_keep5 {as : List Addr} (h : ∀ c ∈ as, Off5 c o dx la lh lp) : Spl as [(o, x1), (dx, x2), (la, x3), (lh, x4), (lp, x5)] [(o, x1), (dx, x2), (la, x3), (lh, x4), (lp, x5)] :=
  .keep (fun c hc => Ne.symm (h c hc).1) (.keep (fun c hc => Ne.symm (h c hc).2.1) (.keep (fun c hc => Ne.symm (h c hc).2.2.1) (.keep (fun c hc => Ne.symm (h c hc).2.2.2.1) (.keep (fun c hc => Ne.symm (h c hc).2.2.2.2) .nil))))
theorem spl2 (hK : Off5 a o dx la lh lp) (hL : Off5 b o dx la lh lp) : Spl [a, b] [(b, y), (a, z), (o, x1), (dx, x2), (la, x3), (lh, x4), (lp, x5)] [(o, x1), (dx, x2), (la, x3), (lh, x4), (lp, x5)] :=
  .drop (.tail _ (.head _)) (.drop (.head _) (spl_keep5 (List.forall_mem_cons.mpr ⟨hK, List.forall_mem_cons.mpr ⟨hL, List.forall_mem_nil _⟩⟩)))
end
theorem off5_ap {P : Params} {c o dx la lh lp : Addr} {x : Obj} {R : Led} {t1 t2 t3 t4 t5 tl ts : Tok} {limit step : Int} {va vh vp : List Value} {na nh np : Nat} (h : Apart (led P o dx la lh lp t1 t2 t3 t4 t5 tl ts limit step va vh vp na nh np) ((c, x) :: R)) : Off5 c o dx la lh lp :=
  have k := h _ (.head _)
  ⟨k _ (.head _), k _ (.tail _ (.head _)), k _ (.tail _ (.tail _ (.head _))), k _ (.tail _ (.tail _ (.tail _ (.head _)))), k _ (.tail _ (.tail _ (.tail _ (.tail _ (.head _)))))⟩
def EvBH (c : EC) (e : PySem.Expr) (p : Prop) : Prop := ∀ (Q : Value → Shared → Prop) (E : Value → Shared → Prop) (h : Heap) (gs : Array GenState) (dr : Drawn) (tk0 : Nat) (os : OsState), Fr c.h₀ c.L h c.m → News c.h₀ c.L h c.news →
  (∀ b : Bool, (b = true ↔ p) → ∀ h' tk, Fr c.h₀ c.L h' c.m → News c.h₀ c.L h' c.news → Q (.bool b) ⟨h', gs, dr, tk, os⟩) → wpAny (model c.prog c.w) c.A (eval e c.env) Q E ⟨h, gs, dr, tk0, os⟩
section
variable {c : EC} {pos : Pos} {l r e1 e2 : PySem.Expr} {rs : List PySem.Expr} {p q : Prop} {i j : Int}
theorem evBH_cmp {op : CmpOp} (h1 : EvIH c l i) (h2 : EvIH c r j) (ho : COp op i j p) (hm : behindInMarks op r = false) : EvBH c (.Compare l [op] [r] pos) p := fun _ _ _ _ _ _ _ F N k => by
  refine wpAny_Compare1 (h1 _ _ _ _ _ _ _ F N fun t h' tk F' N' => h2 _ _ _ _ _ _ _ F' N' fun t2 h2 tk2 F2 N2 => cmp_op ho fun b k1 k2 => k b ⟨k1, fun hp => ?_⟩ _ _ F2 N2) hm
  cases b with
  | true => rfl
  | false => exact absurd hp (k2 rfl)
theorem evBH_and (h1 : EvBH c l p) (h2 : p → EvBH c r q) : EvBH c (.BoolOp .And [l, r] pos) (p ∧ q) := fun _ _ _ _ _ _ _ F N k => by
  refine BoolOp_and (h1 _ _ _ _ _ _ _ F N fun b hb h' tk F' N' => wpAny_truthy_bool ?_)
  cases b with
  | true =>
    rw [if_pos rfl]
    exact BoolOp_one (h2 (hb.mp rfl) _ _ _ _ _ _ _ F' N' fun b2 hb2 h2 tk2 F2 N2 => k b2 ⟨fun e => ⟨hb.mp rfl, hb2.mp e⟩, fun hpq => hb2.mpr hpq.2⟩ _ _ F2 N2)
  | false =>
    rw [if_neg (by simp)]
    exact k false ⟨fun e => (Bool.noConfusion e), fun hpq => hb.mpr hpq.1⟩ _ _ F' N'
theorem evBH_andc (h1 : EvBH c l p) (h2 : p → EvBH c (.BoolOp .And (r :: rs) pos) q) : EvBH c (.BoolOp .And (l :: r :: rs) pos) (p ∧ q) := fun _ _ _ _ _ _ _ F N k => by
  refine BoolOp_and (h1 _ _ _ _ _ _ _ F N fun b hb h' tk F' N' => wpAny_truthy_bool ?_)
  cases b with
  | true =>
    rw [if_pos rfl]
    exact h2 (hb.mp rfl) _ _ _ _ _ _ _ F' N' fun b2 hb2 h2 tk2 F2 N2 => k b2 ⟨fun e => ⟨hb.mp rfl, hb2.mp e⟩, fun hpq => hb2.mpr hpq.2⟩ _ _ F2 N2
  | false =>
    rw [if_neg (by simp)]
    exact k false ⟨fun e => (Bool.noConfusion e), fun hpq => hb.mpr hpq.1⟩ _ _ F' N'
end
section
variable {cn : Str} {cs : Scope} {a : Addr} {ccd : Value} {cl : List (Str × Addr)} {prog : Program} {w : World} {A : Around} {h₀ : Heap} {L : Addr} {m : Str → Option Value} {news : Led} {h : Heap} {gs : Array GenState} {dr : Drawn} {tk0 : Nat} {os : OsState} {E : Value → Shared → Prop}
  {xp cp p1 pos : Pos} {e e2 : PySem.Expr} {D D2 : Addr} {vs vs2 : List Value} {ns ns2 : List Int} {n n2 : Nat} {p : Program} {loose : List Str} {mg mb : Str → Option Value}
theorem evBH_listeq (hu : A.units + 64 < cLine) (X : (K39 w.params).In h₀) (T : TopRead p loose mg mb h₀) (hl : nmOk cs .globalImplicit "list" = true)
    (he : EvV (EC.mk cn cs a ccd cl prog w A h₀ L m news) e (.ref D)) (he2 : ∀ nw, EvV (EC.mk cn cs a ccd cl prog w A h₀ L m nw) e2 (.ref D2)) (hq : ∀ rest env, starEach (e :: rest) env = (false, eval e env) :: starEach rest env)
    (hc : ∀ env, eval (.Call (.Name "list" xp) [e] [] cp) env = (do callWith cp (← eval (.Name "list" xp) env) [] (backTo cp (starEach [e] env)) (backToKw cp (keywordEach [] env))))
    (hm : (D, listOf vs.toArray n) ∈ news) (hm2 : (D2, listOf vs2.toArray n2) ∈ news) (hi : IntsAre vs ns) (hi2 : IntsAre vs2 ns2) (h100 : vs.length ≤ 100) (hk : behindInMarks .Eq e2 = false) :
    EvBH (EC.mk cn cs a ccd cl prog w A h₀ L m news) (.Compare (.Call (.Name "list" xp) [e] [] cp) [.Eq] [e2] pos) (ns = ns2) := fun _ _ _ _ _ _ _ F N k => by
  obtain ⟨d1, d2, d3⟩ := nmOk_spec hl
  refine wpAny_Compare1 (Call_ (nameX_B (v := .type "list") F X T (list_none _) boot_list (by decide) ?_ d1 d2 d3) (hc _)) hk
  refine callWith_type1 ?_ (hq _ _) rfl
  refine args_cons (he _ _ _ F N fun tk => ?_) (hq _ _)
  refine args_nil (list_copyK F N (News.isList N hm) (fun D' c' h' F' N' _ => he2 ((D', listOf vs.toArray c') :: news) _ _ _ F' N' fun tk2 => ?_) (by rw [PySem.sizeLine_eq, List.size_toArray]; omega))
  exact ke_eq_ints (News.isList N' (.head _)) (News.isList N' (.tail _ hm2)) hi hi2 hu (k _ decide_eq_true_iff _ _ F' (news_sub N' fun _ h => .tail _ h))
theorem x_retB {q : Prop} {Q : Flow → Shared → Prop} {rest : List Stmt} (F : Fr h₀ L h m) (N : News h₀ L h news) (V : EvBH (EC.mk cn cs a ccd cl prog w A h₀ L m news) e q)
    (k : ∀ (b : Bool) h' tk, (b = true ↔ q) → Fr h₀ L h' m → News h₀ L h' news → Q (.ret (.bool b)) ⟨h', gs, dr, tk, os⟩) :
    wpAny (model prog w) A (execs (.Return (some e) pos :: rest) (envX cn cs L a ccd cl)) Q E ⟨h, gs, dr, tk0, os⟩ :=
  wpAny_execs_cons (wpAny_Return_some (V _ _ _ _ _ _ _ F N fun b hb h' tk F' N' => k b h' tk hb F' N'))
end
theorem evBH_fun {D U : Nat} {f : Addr} {H : Params → Led} {cn : Str} {cs : Scope} {a : Addr} {ccd : Value} {cl : List (Str × Addr)} {m : Str → Option Value} {news Rr : Led} {g : Str} {xp pos : Pos} {xs : List PySem.Expr} {sp : List (Value ⊕ Int)} {b : Bool} {G : GC}
    (K : ArgK sp (fun vs => Ctr D U f vs H (fun P k => k (.bool b) (H P)))) (hg : ∀ P, fnOk P g f = true)
    (B : Below G.A₀ G.base G.outer G.h₀) (X : (K39 G.w.params).In G.h₀) (T : Top G.p G.loose G.mean G.mg G.mb G.h₀) (hd : G.dp + D < recursionLimit) (hu : G.un + U < cLine) (hk : cs.kind = .function) (hx : nmOk cs .globalImplicit g = true)
    (ha : EvL (EC.mk cn cs a ccd cl G.prog G.w (ktrTop G.dp G.un G.gd cn cs G.L a ccd cl G.outer) G.h₀ G.L m news) xs sp)
    (hH : ∀ q ∈ H G.w.params, q ∈ news) (hR : Spl ((H G.w.params).map (·.1)) news Rr)
    (he : ∀ env, eval (.Call (.Name g xp) xs [] pos) env = (do callWith pos (← eval (.Name g xp) env) [] (backTo pos (starEach xs env)) (backToKw pos (keywordEach [] env)))) :
    EvBH (EC.mk cn cs a ccd cl G.prog G.w (ktrTop G.dp G.un G.gd cn cs G.L a ccd cl G.outer) G.h₀ G.L m news) (.Call (.Name g xp) xs [] pos) (b = true) := fun Q E h gs dr tk0 os F N k => by
  refine call_fun F N X (topRead_of T) hg hx he ha (argK_mono (fun vs hK tk => ?_) K)
  refine ctr_use hK G F N B X T hk hH hR hd hu fun h' tk' F' N' _ => ?_
  have N2 : News G.h₀ G.L h' news := fun p hp => by
    rcases hR.all p hp with hq | hq
    · obtain ⟨z, hz, e⟩ := List.mem_map.mp hq
      have e1 := (N p hp).1
      have e2 := (N z (hH z hz)).1
      rw [e, e1] at e2
      have : z = p := Prod.ext e (Option.some.inj e2).symm
      exact this ▸ N' z (List.mem_append.mpr (.inr hz))
    · exact N' p (List.mem_append.mpr (.inl hq))
  exact k b Iff.rfl h' tk' F' N2
theorem evTH_call {c : EC} {fe : PySem.Expr} {xs : List PySem.Expr} {pos : Pos} {p : Prop} (h : EvBH c (.Call fe xs [] pos) p)
    (hp : ∀ env, isTrue (.Call fe xs [] pos) env (eval (.Call fe xs [] pos) env) = (do let v ← eval (.Call fe xs [] pos) env; standAt pos; holding [v] (truthy v))) : EvTH c (.Call fe xs [] pos) p := fun Q E h0 gs dr tk0 os F N k k' => by
  refine isTrue_plain (h _ _ _ _ _ _ _ F N fun b hb h' tk F' N' => wpAny_truthy_bool ?_) (hp _)
  cases b with
  | true => exact k (hb.mp rfl) _ _ F' N'
  | false => exact k' (fun q => Bool.noConfusion (hb.mpr q)) _ _ F' N'
theorem range_none : ∀ P, nsIn (K39 P) mainGlobals "range" = some none := fun P => by kernel_rfl
section
variable {cn : Str} {cs : Scope} {a : Addr} {ccd : Value} {cl : List (Str × Addr)} {prog : Program} {w : World} {A : Around} {h₀ : Heap} {L : Addr} {m : Str → Option Value} {h : Heap} {gs : Array GenState} {dr : Drawn} {tk0 : Nat} {os : OsState} {E : Value → Shared → Prop} {Q : Flow → Shared → Prop} {body rest : List Stmt}
  {x : Str} {xp cp px pos : Pos} {e e1 e2 : PySem.Expr} {p : Program} {loose : List Str} {mg mb : Str → Option Value} {a₀ b₀ : Int}
theorem x_forR2 {σ : Type} (Ld : σ → Led) (mp : σ → Str → Option Value) (P : List Int → σ → Prop) (c₀ : σ) (F : Fr h₀ L h m) (N : News h₀ L h (Ld c₀)) (hm : MEq [] m (mp c₀)) (hp : P [] c₀) (hh : A.handled = none) (X : (K39 w.params).In h₀) (T : TopRead p loose mg mb h₀)
    (hrx : nmOk cs .globalImplicit "range" = true) (hx : nmOk cs .local x = true) (h1 : EvI (EC.mk cn cs a ccd cl prog w A h₀ L m (Ld c₀)) e1 a₀) (h2 : EvI (EC.mk cn cs a ccd cl prog w A h₀ L m (Ld c₀)) e2 b₀) (q1 : ∀ rest env, starEach (e1 :: rest) env = (false, eval e1 env) :: starEach rest env) (q2 : ∀ rest env, starEach (e2 :: rest) env = (false, eval e2 env) :: starEach rest env)
    (hc : ∀ env, eval (.Call (.Name "range" xp) [e1, e2] [] cp) env = (do callWith cp (← eval (.Name "range" xp) env) [] (backTo cp (starEach [e1, e2] env)) (backToKw cp (keywordEach [] env))))
    (hs : ∀ env y, foldedSetIterable (.Call (.Name "range" xp) [e1, e2] [] cp) env y = pure y) (sm : Builtin.Range.small a₀ b₀ 1 = true) (hE : PassesOwn (model prog w) A (envX cn cs L a ccd cl) E)
    (turn : ∀ (c : σ) (pre : List Int) (k : Int) t h tk I oI (q : Flow → Shared → Prop), k = a₀ + (pre.length : Int) → pre.length < (b₀ - a₀).toNat → (∀ p ∈ Ld c, @Ne Nat I p.1) → P pre c →
      Fr h₀ L h (upd (mp c) x (some (.int k t))) → News h₀ L h ((I, oI) :: Ld c) →
      ForNext h₀ L Ld mp P x (pre ++ [k]) I oI gs dr os q → (∀ s', SeqK (model prog w) A rest (envX cn cs L a ccd cl) Q E .next s' → q .brk s') → (∀ v s', Q (.ret v) s' → q (.ret v) s') →
      wpAny (model prog w) A (execs body (envX cn cs L a ccd cl)) (LEnd q) E ⟨h, gs, dr, tk, os⟩)
    (done : ∀ (c : σ) u h tk, P (rangeKs a₀ (b₀ - a₀).toNat) c → Fr h₀ L h (upd (mp c) x u) → News h₀ L h (Ld c) → wpAny (model prog w) A (execs rest (envX cn cs L a ccd cl)) Q E ⟨h, gs, dr, tk, os⟩) :
    wpAny (model prog w) A (execs (.For (.Name x px) (.Call (.Name "range" xp) [e1, e2] [] cp) body [] pos :: rest) (envX cn cs L a ccd cl)) Q E ⟨h, gs, dr, tk0, os⟩ := by
  obtain ⟨d1, d2, d3⟩ := nmOk_spec hrx
  obtain ⟨f1, f2, _⟩ := nmOk_spec hx
  refine x_cons (For_invVF (env := envX cn cs L a ccd cl) F f2 (by rw [show (envX cn cs L a ccd cl).scope.kind = .function from d1]; rfl) ?_ (hs _) hE)
  refine Call_ (nameX_B (v := .type "range") F X T (range_none _) boot_range (by decide) ?_ d1 d2 d3) (hc _)
  refine Pv.callWith_type1 ?_ (q1 _ _) (by rw [q2]; rfl)
  refine args_cons (h1 _ _ _ F N fun t tk => args_cons (h2 _ _ _ F N fun t2 tk2 => args_nil (PySem.call_range_2 ?_)) (q2 _ _)) (q1 _ _)
  exact forR Ld mp P c₀ (F.push _) (fun p hp => ⟨Heap.get?_push_of_some _ (N p hp).1, (N p hp).2⟩) hm hp (Heap.get?_push_size _ rfl) sm (rangeSize_nat _ _) hh turn done
theorem x_forR1 {σ : Type} (Ld : σ → Led) (mp : σ → Str → Option Value) (P : List Int → σ → Prop) (c₀ : σ) (F : Fr h₀ L h m) (N : News h₀ L h (Ld c₀)) (hm : MEq [] m (mp c₀)) (hp : P [] c₀) (hh : A.handled = none) (X : (K39 w.params).In h₀) (T : TopRead p loose mg mb h₀)
    (hrx : nmOk cs .globalImplicit "range" = true) (hx : nmOk cs .local x = true) (h2 : EvI (EC.mk cn cs a ccd cl prog w A h₀ L m (Ld c₀)) e2 b₀) (q2 : ∀ rest env, starEach (e2 :: rest) env = (false, eval e2 env) :: starEach rest env)
    (hc : ∀ env, eval (.Call (.Name "range" xp) [e2] [] cp) env = (do callWith cp (← eval (.Name "range" xp) env) [] (backTo cp (starEach [e2] env)) (backToKw cp (keywordEach [] env))))
    (hs : ∀ env y, foldedSetIterable (.Call (.Name "range" xp) [e2] [] cp) env y = pure y) (sm : Builtin.Range.small 0 b₀ 1 = true) (hE : PassesOwn (model prog w) A (envX cn cs L a ccd cl) E)
    (turn : ∀ (c : σ) (pre : List Int) (k : Int) t h tk I oI (q : Flow → Shared → Prop), k = 0 + (pre.length : Int) → pre.length < (b₀ - 0).toNat → (∀ p ∈ Ld c, @Ne Nat I p.1) → P pre c →
      Fr h₀ L h (upd (mp c) x (some (.int k t))) → News h₀ L h ((I, oI) :: Ld c) →
      ForNext h₀ L Ld mp P x (pre ++ [k]) I oI gs dr os q → (∀ s', SeqK (model prog w) A rest (envX cn cs L a ccd cl) Q E .next s' → q .brk s') → (∀ v s', Q (.ret v) s' → q (.ret v) s') →
      wpAny (model prog w) A (execs body (envX cn cs L a ccd cl)) (LEnd q) E ⟨h, gs, dr, tk, os⟩)
    (done : ∀ (c : σ) u h tk, P (rangeKs 0 (b₀ - 0).toNat) c → Fr h₀ L h (upd (mp c) x u) → News h₀ L h (Ld c) → wpAny (model prog w) A (execs rest (envX cn cs L a ccd cl)) Q E ⟨h, gs, dr, tk, os⟩) :
    wpAny (model prog w) A (execs (.For (.Name x px) (.Call (.Name "range" xp) [e2] [] cp) body [] pos :: rest) (envX cn cs L a ccd cl)) Q E ⟨h, gs, dr, tk0, os⟩ := by
  obtain ⟨d1, d2, d3⟩ := nmOk_spec hrx
  obtain ⟨f1, f2, _⟩ := nmOk_spec hx
  refine x_cons (For_invVF (env := envX cn cs L a ccd cl) F f2 (by rw [show (envX cn cs L a ccd cl).scope.kind = .function from d1]; rfl) ?_ (hs _) hE)
  refine Call_ (nameX_B (v := .type "range") F X T (range_none _) boot_range (by decide) ?_ d1 d2 d3) (hc _)
  refine Pv.callWith_type1 ?_ (q2 _ _) rfl
  refine args_cons (h2 _ _ _ F N fun t2 tk2 => args_nil (PySem.call_range_1 ?_)) (q2 _ _)
  exact forR Ld mp P c₀ (F.push _) (fun p hp => ⟨Heap.get?_push_of_some _ (N p hp).1, (N p hp).2⟩) hm hp (Heap.get?_push_size _ rfl) sm (rangeSize_nat _ _) hh turn done
end
example : True := by
  k_with_none
  k_with "A" => (with_reducible assumption)
  k_with "R" => (k_dflt (exact rfl))
  k_with "F" => (k_dflt (exact fun _ => rfl))
  k_with "G" => (k_dflt (exact fun _ _ => rfl))
  k_with "steps" => (repeat' (first | walk1 | (dsimp only; walk1) | fail "no step"))
  k_with "k_ne" => (first | (k_extra "A") | (refine Ne.symm ?_; with_reducible assumption))
  k_with "ints" => (first | with_reducible assumption | exact ints_set (by k_extra "ints") _ | exact ints_app1 (by k_extra "ints") _ _ | fail "no ints")
  k_with "pre0" => (first | with_reducible assumption | (with_reducible exact le_w (by assumption) rfl) | (with_reducible exact le_we (by assumption) (by assumption) rfl) | (with_reducible exact lt_we (by assumption) (by assumption)) | omega | (simp only [List.length_set, List.length_append, List.length_cons, List.length_nil, List.length_map]; omega) | k_extra "pre")
  k_with "mono" => (intro _ _ _ hk x; (intros; refine hk _ _ ?_; first | exact x | (apply x <;> assumption)))
  k_with "open" => (
    refine' ctr_intro ?mono ?ho ?hcd ?hb ?hloc ?c2 ?c3 ?c4 ?c5 ?_;
    (case ho => (intro P; k_is)); (case hcd => (intro P; k_is)); (case hb => exact fun s => BindsTo.of_eq rfl); (case hloc => exact locs rfl); (case c2 => exact rfl); (case c3 => exact rfl); (case c4 => exact rfl); (case c5 => decide); (case mono => k_extra "mono");
    intro G h gs dr tk0 os q B F X N T l1 hD hU hret;
    unfold led at N)
  k_with "evI" => (first
    | ((with_reducible apply evI_name); (k_extra "R"); (k_extra "R"))
    | (with_reducible exact evI_const)
    | ((with_reducible apply evI_neg); (k_dflt (k_extra "evI")))
    | ((with_reducible apply evI_op); (k_dflt (k_extra "evI")); (k_dflt (k_extra "evI")); (k_dflt (k_extra "iop")))
    | ((with_reducible apply evI_sub); (k_dflt (k_extra "evV")); (k_dflt (k_extra "evI")); (k_dflt k_memK); (k_dflt (k_extra "ints")); (k_dflt (k_extra "pre0")); (k_dflt (k_extra "pre0")); (k_dflt (k_extra "pre0")); (k_extra "F"))
    | ((with_reducible apply evI_limit); (k_dflt (k_extra "evV")); (k_extra "A"); (k_dflt k_memK); (k_dflt k_memK))
    | ((with_reducible apply evI_step); (k_dflt (k_extra "evV")); (k_extra "A"); (k_dflt k_memK); (k_dflt k_memK))
    | ((with_reducible apply evI_len); (k_extra "A"); (exact topRead_of (by with_reducible assumption)); (k_extra "R"); (k_dflt (k_extra "evV")); (k_extra "G"); (k_extra "F"); (k_dflt k_memK); (k_dflt (exact len_cast (by k_extra "ints"))); (k_dflt (k_extra "len9"))))
  k_with "len9" => (rw [IntsAre.length (by k_extra "ints")]; k_extra "pre0")
  k_with "iop" => (first | exact .add | exact .sub | exact .mul (by decide) | exact .fdiv (by decide) (by decide) | exact .mod (by decide))
  k_with "evV" => (first
    | ((with_reducible apply evV_name); (k_extra "R"); (k_extra "R"))
    | ((with_reducible apply evV_heap); (k_dflt (k_extra "evV")); (k_extra "A"); (k_dflt k_memK); (k_dflt k_memK))
    | ((with_reducible apply evV_act); (k_dflt (k_extra "evV")); (k_extra "A"); (k_dflt k_memK); (k_dflt k_memK))
    | ((with_reducible apply evV_place); (k_dflt (k_extra "evV")); (k_extra "A"); (k_dflt k_memK); (k_dflt k_memK)))
  k_with "cop" => (first | exact .lt | exact .le | exact .gt | exact .ge | exact .eq | exact .ne)
  k_with "evT" => (first
    | ((with_reducible apply evT_cmp); (k_dflt (k_extra "evI")); (k_dflt (k_extra "evI")); (k_dflt (k_extra "cop")); (k_extra "R"))
    | ((with_reducible apply evT_not); (k_dflt (k_extra "evT")))
    | ((with_reducible apply evT_and); (k_dflt (k_extra "evT")); (intro hp9; k_dflt (k_extra "evT")))
    | ((with_reducible apply evT_or); (k_dflt (k_extra "evT")); (intro hp9; k_dflt (k_extra "evT"))))
  k_with "exec If" => ((with_reducible apply x_ifH); (k_extra "A"); (k_extra "A"); (k_dflt (k_extra "evTH")); all_goals (k_whole; intro hp9 h9 tk9 F9 N9; (try k_sweep)))
  k_with "exec If" => ((with_reducible apply x_if); (k_extra "A"); (k_extra "A"); (k_dflt (k_extra "evT")); all_goals (k_whole; intro hp9 tk9))
  k_with "execs cons" => (with_reducible refine x_cons ?_)
  k_with "execs cons" => ((with_reducible apply x_setI); (k_extra "A"); (k_extra "A"); (k_dflt (k_extra "evI")); (k_dflt (k_extra "evV")); (k_dflt (k_extra "evI")); (k_dflt (k_extra "updF")); (k_dflt (k_extra "ints")); (k_dflt (k_extra "pre0")); (k_dflt (k_extra "pre0")); (k_dflt (k_extra "pre0")); (k_extra "F"); (k_whole); (intro t9 h9 tk9 F9 N9); (try k_sweep))
  k_with "execs cons" => ((with_reducible apply x_asgV); (k_extra "A"); (k_extra "A"); (k_dflt (k_extra "evV")); (k_extra "R"); (k_extra "F"); (k_whole); (intro h9 tk9 F9 N9); (try k_sweep))
  k_with "execs cons" => ((with_reducible apply x_asgI); (k_extra "A"); (k_extra "A"); (k_dflt (k_extra "evI")); (k_extra "R"); (k_extra "F"); (k_whole); (intro t9 h9 tk9 F9 N9); (try k_sweep))
  k_with "execs cons" => ((with_reducible apply x_retV); (k_extra "A"); (k_extra "A"); (k_dflt (k_extra "evV")); (k_whole); (intro tk9))
  k_with "execs cons" => ((with_reducible apply x_retI); (k_extra "A"); (k_extra "A"); (k_dflt (k_extra "evI")); (k_whole); (intro t9 tk9))
  k_with "execs cons" => ((with_reducible apply x_retC); (k_extra "A"); (k_extra "A"); (k_dflt (k_extra "evI")); (k_dflt (k_extra "evI")); (k_dflt (k_extra "cop")); (k_extra "R"); (k_whole); (intro b9 tk9 hb9))
  k_with "LEnd" => (with_reducible refine lEnd_ ?_; with_reducible first | (refine hret1 _ _ ?_) | (refine hbrk _ ?_) | (k_dflt (k_extra "wend")))
  k_with "eval Call Attribute" => ((with_reducible apply call_meth); (k_extra "A"); (k_extra "A"); (k_extra "mt"); (k_extra "F"); (k_dflt (k_extra "evV")); (k_extra "A"); (k_dflt k_memK); (k_dflt k_memK); (k_extra "R"); (k_dflt (k_extra "evL")); (k_whole); k_dflt (k_extra "args"))
  k_with "evL" => (first | exact .nil | ((with_reducible apply EvL.i); (k_dflt (k_extra "evI")); (k_extra "G"); (k_dflt (k_extra "evL"))) | ((with_reducible apply EvL.v); (k_dflt (k_extra "evV")); (k_extra "G"); (k_dflt (k_extra "evL"))))
  k_with "args" => (first | (refine argK0 ?_; intro tk9) | (refine argK1 ?_; intro t9 tk9) | (refine argK2 ?_; intro t9 t8 tk9) | (refine argKv ?_; intro tk9) | (refine argKvv ?_; intro tk9) | (refine argKvi ?_; intro t9 tk9) | (refine argKvii ?_; intro t9 t8 tk9) | (refine argKvvi ?_; intro t9 tk9) | (refine argKvvv ?_; intro tk9))
  k_with "mt" => (with_reducible first | exact mt_is_before | exact mt_put | exact mt_rise | exact mt_better_child | exact mt_sink | exact mt_push | exact mt_pop | exact mt_pop_best | exact mt_bump | exact mt_decay | exact mt_rescale | exact mt_rebuild | exact mt_grow | exact mt_many | exact mt_is_held | exact mt_size | exact mt_top)
  k_with "storeName" => ((with_reducible apply x_store); (k_extra "A"); (k_extra "A"); (k_extra "R"); (k_whole); (intro h9 tk9 F9 N9); (try k_sweep))
  k_with "call builtin:list.append" => ((with_reducible apply append_U); (k_extra "A"); (k_extra "A"); (k_dflt (k_extra "updF")); (k_dflt (rw [IntsAre.length (by k_extra "ints")]; k_extra "pre0")); (k_whole); (intro h9 tk9 F9 N9); (try k_sweep))
  k_with "call builtin:list.pop" => ((with_reducible apply pop_U); (k_extra "A"); (k_extra "A"); (k_dflt (k_extra "updF")); (k_dflt (k_extra "ints")); (k_dflt (k_extra "pre0")); (k_dflt (k_extra "pre0")); (k_whole); (intro t9 h9 tk9 F9 N9 ip9); (try k_sweep))
  k_with "eval Attribute Name" => ((with_reducible apply useV); (k_extra "A"); (k_extra "A"); (k_dflt (k_extra "evV")); (k_whole); (intro tk9))
  k_with "eval BinOp" => ((with_reducible apply useI); (k_extra "A"); (k_extra "A"); (k_dflt (k_extra "evI")); (k_whole); (intro t9 tk9))
  k_with "eval Subscript" => ((with_reducible apply useI); (k_extra "A"); (k_extra "A"); (k_dflt (k_extra "evI")); (k_whole); (intro t9 tk9))
  k_with "isTrue Compare" => ((with_reducible apply useT); (k_extra "A"); (k_extra "A"); (k_dflt (k_extra "evT")); all_goals (k_whole; intro hp9 tk9))
  k_with "execs nil" => (with_reducible refine wpAny_execs_nil ?_)
  k_with "SeqK" => (with_reducible first | refine seq_next ?_ | refine seq_ret ?_ | refine seq_brk ?_ | refine seq_cont ?_)
  k_with "updF" => (first | exact upH (by with_reducible assumption) | exact upP (by with_reducible assumption) | exact upA (by with_reducible assumption) | exact upD (by with_reducible assumption) | (refine' .tail ?_ ?_; (k_extra "k_ne"); (k_extra "updF")))
  k_with "room" => (exact room_le (by with_reducible assumption) rfl)
  k_with "hH" => (first | exact fun _ h => h | exact fun _ h => .tail _ h | exact fun _ h => .tail _ (.tail _ h) | exact fun _ h => .tail _ (.tail _ (.tail _ h)) | exact fun _ h => .tail _ (.tail _ (.tail _ (.tail _ h))))
  k_with "spl" => (first | exact spl_led | exact .keep (off5_all (by k_extra "off5")) (by k_extra "spl"))
  k_with "off5" => (k_extra "A")
  k_with "evIH" => ((with_reducible apply evIH_of); (k_dflt (k_extra "evI")))
  k_with "evTH" => ((with_reducible apply evTH_cmp); (k_dflt (k_extra "evIH")); (k_dflt (k_extra "evIH")); (k_dflt (k_extra "cop")); (k_extra "R"))
  k_with "evTH" => ((with_reducible apply evTH_or); (k_dflt (k_extra "evTH")); (intro hp9; k_dflt (k_extra "evTH")))
  k_with "evTH" => ((with_reducible apply evTH_and); (k_dflt (k_extra "evTH")); (intro hp9; k_dflt (k_extra "evTH")))
  k_with "evTH" => ((with_reducible apply evTH_not); (k_dflt (k_extra "evTH")))
  k_with "evTH" => ((with_reducible apply evTH_of); (k_dflt (k_extra "evT")))
  k_with "meq" => (first
    | exact MEq.rf
    | ((with_reducible apply MEq.l); (exact rfl); (k_extra "meq"))
    | ((with_reducible apply MEq.r); (exact rfl); (k_extra "meq"))
    | ((with_reducible apply MEq.n); (exact rfl); (k_extra "meq"))
    | ((with_reducible apply MEq.g); (exact rfl); (k_extra "meq")))
  k_with "openC" => (
    refine' ctr_introC ?mono ?ho ?hcd ?hb ?hkind ?c1 ?c2 ?c3 ?c4 ?c5 ?_;
    (case ho => (intro P; k_is)); (case hcd => (intro P; k_is)); (case hb => exact fun s => BindsTo.of_eq rfl); (case hkind => exact rfl); (case c1 => decide +kernel); (case c2 => exact fun _ => rfl); (case c3 => exact rfl); (case c4 => exact rfl); (case c5 => exact rfl); (case mono => k_extra "mono");
    intro G h gs dr tk0 os q oc B F X N d1 T l1 hD hU hret;
    (have hK := off5_lt l1); (have k1 := hK.1); (have k2 := hK.2.1); (have k3 := hK.2.2.1); (have k4 := hK.2.2.2.1); (have k5 := hK.2.2.2.2); clear l1;
    unfold led at N)
  k_with "evI" => ((with_reducible apply evI_cell); (k_extra "R"); (k_dflt k_memK); (k_extra "A"); (k_extra "R"))
  k_with "evV" => ((with_reducible apply evV_cell); (k_extra "R"); (k_dflt k_memK); (k_extra "A"); (k_extra "R"))
  k_with "setAttr ref" => (first
    | ((with_reducible apply set_step); (k_extra "A"); (k_extra "A"); (k_extra "A"); (k_dflt k_memK); (k_dflt k_memK); (k_dflt (k_extra "updF")); (k_whole); (intro h9 tk9 F9 N9); (try k_sweep))
    | ((with_reducible apply set_act); (k_extra "A"); (k_extra "A"); (k_extra "A"); (k_dflt k_memK); (k_dflt k_memK); (k_dflt (k_extra "updF")); (k_whole); (intro h9 tk9 F9 N9); (try k_sweep)))
  k_with "evI" => ((with_reducible apply evI_glob); (k_extra "A"); (exact topRead_of (by with_reducible assumption)); (with_reducible first | exact gl_first | exact gl_shrink); (k_extra "R"))
  k_with "execs cons" => ((with_reducible apply x_asgIC); (k_extra "A"); (k_extra "A"); (k_dflt (k_extra "evI")); (k_extra "R"); (k_dflt (k_extra "updC")); (k_extra "A"); (k_extra "R"); (k_extra "F"); (k_whole); (intro t9 h9 tk9 o9 F9 N9 d9); (try k_sweep))
  k_with "updC" => (exact upC (by with_reducible assumption))
  k_with "updF" => (first | exact upD1 (by with_reducible assumption) (by with_reducible assumption) | exact upA1 (by with_reducible assumption) (by with_reducible assumption))
  k_with "execs cons" => ((with_reducible apply x_setStep); (k_extra "A"); (k_extra "A"); (k_extra "A"); (k_dflt (k_extra "evI")); (k_dflt (k_extra "evV")); (k_dflt k_memK); (k_dflt k_memK); (k_dflt (k_extra "updF")); (k_extra "F"); (k_whole); (intro t9 h9 tk9 F9 N9); (try k_sweep))
  k_with "call ref" => ((with_reducible show wpAny _ _ (call (Value.ref 139) _) _ _ _); k_dflt (refine' ctr_use (c_rebuild ?a0 ?a1 ?a2 ?a3 ?a4 ?a5 ?a6) G ?F ?N ?B ?X ?T ?hk ?hH ?hR ?hd ?hu ?_; (case F => assumption); (case N => assumption); (case hH => k_extra "hH"); (case hR => k_extra "spl"); (case a0 => with_reducible assumption); (case a1 => k_extra "ints"); (case a2 => k_extra "ints"); (case a3 => k_extra "ints"); (case a4 => k_extra "pre0"); (case a5 => k_extra "pre0"); (case a6 => k_extra "pre0"); (case B => assumption); (case X => assumption); (case T => assumption); (case hk => exact rfl); (case hd => k_extra "room"); (case hu => k_extra "room"); k_whole; intro vh9 vp9 hp9' pl9 ih9 ip9 ln9 cs9 or9 sh9 h9 tk9 F9 N9 ap9; (try dsimp only [led, List.cons_append, List.nil_append] at N9); clear ap9; (try k_sweep)))
  k_with "call ref" => ((with_reducible show wpAny _ _ (call (Value.ref 139) _) _ _ _); k_dflt (refine' ctr_use0 (c_rebuild ?a0 ?a1 ?a2 ?a3 ?a4 ?a5 ?a6) G ?F ?N ?B ?X ?T ?hk ?hd ?hu ?_; (case F => assumption); (case N => assumption); (case a0 => with_reducible assumption); (case a1 => k_extra "ints"); (case a2 => k_extra "ints"); (case a3 => k_extra "ints"); (case a4 => k_extra "pre0"); (case a5 => k_extra "pre0"); (case a6 => k_extra "pre0"); (case B => assumption); (case X => assumption); (case T => assumption); (case hk => exact rfl); (case hd => k_extra "room"); (case hu => k_extra "room"); k_whole; intro vh9 vp9 hp9' pl9 ih9 ip9 ln9 cs9 or9 sh9 h9 tk9 F9 N9 ap9; (try dsimp only [led, List.cons_append, List.nil_append] at N9); clear ap9; (try k_sweep)))
  trivial
theorem by_ub {g : Int} (h0 : 0 ≤ g) (h : g ≤ 10000000) : Int.fdiv g 1024 + 1 ≤ 10000001 := by rw [Int.fdiv_eq_ediv_of_nonneg _ (by omega)]; omega
theorem by_pos {g : Int} (h : 0 ≤ g) : 0 < Int.fdiv g 1024 + 1 := by rw [Int.fdiv_eq_ediv_of_nonneg _ (by omega)]; omega
def ResC (o dx lh lp : Addr) (t1 t2 t3 t4 t5 tl : Tok) (limit : Int) (nh np : Nat) (n : Int) (act pl : List Int) (step : Int) (P : Params) (K : Value → Led → Prop) : Prop :=
  ∀ (la' : Addr) (ts' : Tok) (va' vh' vp' : List Value) (na' : Nat) (hp' pl' : List Int), Ord5 o dx la' lh lp → IntsAre va' (rAct act step) → IntsAre vh' hp' → IntsAre vp' pl' → Cons n hp' pl' → OrdFrom (rAct act step) hp' 0 → SameHeld n pl pl' → K .none (led P o dx la' lh lp t1 t2 t3 t4 t5 tl ts' limit (rStep act step) va' vh' vp' na' nh np)
section
variable {o dx la lh lp lk : Addr} {t1 t2 t3 t4 t5 tl ts : Tok} {limit step : Int} {va vh vp vk : List Value} {na nh np nk : Nat} {act hp pl known : List Int}
theorem ResC.mono {n : Int} : ∀ P (K K' : Value → Led → Prop), (∀ r H', K r H' → K' r H') → ResC o dx lh lp t1 t2 t3 t4 t5 tl limit nh np n act pl step P K → ResC o dx lh lp t1 t2 t3 t4 t5 tl limit nh np n act pl step P K' :=
  fun _ _ _ h x a b c d e f g i j l m n' p q r => h _ _ (x a b c d e f g i j l m n' p q r)
theorem rs_act_e {g : Int} (h : g = act.foldl max step) : rAct act step = act.map (fun k => k.fdiv (g.fdiv 1024 + 1)) := by subst h; rfl
theorem rs_step1 {g : Int} (h : g = act.foldl max step) (e : step.fdiv (g.fdiv 1024 + 1) = 0) : rStep act step = 1 := by subst h; exact if_pos e
theorem rs_step0 {g : Int} (h : g = act.foldl max step) (e : ¬ step.fdiv (g.fdiv 1024 + 1) = 0) : rStep act step = step.fdiv (g.fdiv 1024 + 1) := by subst h; exact if_neg e
set_option maxHeartbeats 8000000 in
theorem c_rescale {n : Int} (hO : Ord5 o dx la lh lp) (ia : IntsAre va act) (ih : IntsAre vh hp) (ip : IntsAre vp pl) (hc : Cons n hp pl) (hn : (act.length : Int) = n + 1) (h9 : n ≤ 9) (hs : 0 < step) (hsb : step ≤ 10000000) (hab : ∀ a ∈ act, a ≤ 10000000) :
    Ctr 12 120 132 [.ref o] (fun P => led P o dx la lh lp t1 t2 t3 t4 t5 tl ts limit step va vh vp na nh np)
      (ResC o dx lh lp t1 t2 t3 t4 t5 tl limit nh np n act pl step) := by
  k_with "mono" => exact ResC.mono
  k_extra "openC"
  k_with "wend" => (refine' hnext (_, _) _ _ _ ?hp1 ?hm1 ?hs1 F9 N9; (case hs1 => with_reducible assumption); (case hm1 => k_extra "meq"); (case hp1 => (dsimp only; rw [List.foldl_append, ← hP]; simp only [List.foldl_cons, List.foldl_nil]; omega)))
  k_with "pyIter ref" => (k_dflt (
    (with_reducible show wpAny _ _ (pyIter _) (fun it s₂ => LoopAtV _ _ _ _ _ _ _ _ _ it s₂) _ _); (try dsimp only);
    refine' forL (σ := Int × Tok) (vs := va) (ns := act) (nn := na) (fun c => (G.L + 1, oc) :: led G.w.params o dx la lh lp t1 t2 t3 t4 t5 tl ts limit step va vh vp na nh np) (fun c => upd _ "greatest" (some (.int c.1 c.2))) (fun pre c => c.1 = pre.foldl max step) (step, _) (by assumption) (by assumption) (by k_extra "meq") rfl (by (intro c9; unfold led; k_memK)) ia rfl ?_ ?_;
    (intro c pre post k t h1 tk1 I oI q1 hns hsep hP F9 N9 hnext hbrk hret1; (try dsimp only at F9 N9 hP); (try k_sweep); unfold led at N9);
    rotate_left;
    (intro c u h1 tk1 hP F9 N9; (try dsimp only at F9 N9 hP); (have hg := foldl_max_le act step); rw [← hP] at hg; (have hgb := foldl_max_ub act step hsb hab); rw [← hP] at hgb; (have hby := by_pos (g := c.1) (by omega)); (have hby2 := by_ub (g := c.1) (by omega) hgb); (try k_sweep); unfold led at N9);
    rotate_right))
  k_with "setAttr ref" => ((with_reducible show wpAny _ _ (setAttr (Value.ref o) (Str.ofString "activity") (Value.ref _)) _ _ _); (try dsimp only); k_dflt ((rename News _ _ _ _ => N8); (rename Ne _ _ ∧ _ ∧ _ ∧ _ ∧ _ ∧ _ => e8); refine' rs_act hO hK X (by with_reducible assumption) N8 rfl e8 ?_; k_whole; clear N8 e8 hK hO; intro h9 tk9 F9 hO hK N9; (try k_sweep); unfold led at N9))
  k_with "KEnd" => (refine kEnd_next ?_; unfold ResC at hret; first
    | (rw [rs_act_e hP, rs_step1 hP hp9] at hret; exact hret _ _ _ _ _ _ _ _ (by assumption) (by assumption) ih9 ip9 cs9 or9 sh9 _ _ _ F9 (news_sub N9 fun _ h => .tail _ h))
    | (rw [rs_act_e hP, rs_step0 hP hp9] at hret; exact hret _ _ _ _ _ _ _ _ (by assumption) (by assumption) ih9 ip9 cs9 or9 sh9 _ _ _ F9 (news_sub N9 fun _ h => .tail _ h)))
  k_extra "steps"
end
example : True := by
  k_with_none
  k_with "A" => (with_reducible assumption)
  k_with "R" => (k_dflt (exact rfl))
  k_with "F" => (k_dflt (exact fun _ => rfl))
  k_with "G" => (k_dflt (exact fun _ _ => rfl))
  k_with "steps" => (repeat' (first | walk1 | (dsimp only; walk1) | fail "no step"))
  k_with "k_ne" => (first | (k_extra "A") | (refine Ne.symm ?_; with_reducible assumption))
  k_with "ints" => (first | with_reducible assumption | exact ints_set (by k_extra "ints") _ | exact ints_app1 (by k_extra "ints") _ _ | fail "no ints")
  k_with "pre0" => (first | with_reducible assumption | (with_reducible exact le_w (by assumption) rfl) | (with_reducible exact le_we (by assumption) (by assumption) rfl) | (with_reducible exact lt_we (by assumption) (by assumption)) | omega | (simp only [List.length_set, List.length_append, List.length_cons, List.length_nil, List.length_map]; omega) | k_extra "pre")
  k_with "mono" => (intro _ _ _ hk x; (intros; refine hk _ _ ?_; first | exact x | (apply x <;> assumption)))
  k_with "open" => (
    refine' ctr_intro ?mono ?ho ?hcd ?hb ?hloc ?c2 ?c3 ?c4 ?c5 ?_;
    (case ho => (intro P; k_is)); (case hcd => (intro P; k_is)); (case hb => exact fun s => BindsTo.of_eq rfl); (case hloc => exact locs rfl); (case c2 => exact rfl); (case c3 => exact rfl); (case c4 => exact rfl); (case c5 => decide); (case mono => k_extra "mono");
    intro G h gs dr tk0 os q B F X N T l1 hD hU hret;
    unfold led at N)
  k_with "evI" => (first
    | ((with_reducible apply evI_name); (k_extra "R"); (k_extra "R"))
    | (with_reducible exact evI_const)
    | ((with_reducible apply evI_neg); (k_dflt (k_extra "evI")))
    | ((with_reducible apply evI_op); (k_dflt (k_extra "evI")); (k_dflt (k_extra "evI")); (k_dflt (k_extra "iop")))
    | ((with_reducible apply evI_sub); (k_dflt (k_extra "evV")); (k_dflt (k_extra "evI")); (k_dflt k_memK); (k_dflt (k_extra "ints")); (k_dflt (k_extra "pre0")); (k_dflt (k_extra "pre0")); (k_dflt (k_extra "pre0")); (k_extra "F"))
    | ((with_reducible apply evI_limit); (k_dflt (k_extra "evV")); (k_extra "A"); (k_dflt k_memK); (k_dflt k_memK))
    | ((with_reducible apply evI_step); (k_dflt (k_extra "evV")); (k_extra "A"); (k_dflt k_memK); (k_dflt k_memK))
    | ((with_reducible apply evI_len); (k_extra "A"); (exact topRead_of (by with_reducible assumption)); (k_extra "R"); (k_dflt (k_extra "evV")); (k_extra "G"); (k_extra "F"); (k_dflt k_memK); (k_dflt (exact len_cast (by k_extra "ints"))); (k_dflt (k_extra "len9"))))
  k_with "len9" => (rw [IntsAre.length (by k_extra "ints")]; k_extra "pre0")
  k_with "iop" => (first | exact .add | exact .sub | exact .mul (by decide) | exact .fdiv (by decide) (by decide) | exact .mod (by decide))
  k_with "evV" => (first
    | ((with_reducible apply evV_name); (k_extra "R"); (k_extra "R"))
    | ((with_reducible apply evV_heap); (k_dflt (k_extra "evV")); (k_extra "A"); (k_dflt k_memK); (k_dflt k_memK))
    | ((with_reducible apply evV_act); (k_dflt (k_extra "evV")); (k_extra "A"); (k_dflt k_memK); (k_dflt k_memK))
    | ((with_reducible apply evV_place); (k_dflt (k_extra "evV")); (k_extra "A"); (k_dflt k_memK); (k_dflt k_memK)))
  k_with "cop" => (first | exact .lt | exact .le | exact .gt | exact .ge | exact .eq | exact .ne)
  k_with "evT" => (first
    | ((with_reducible apply evT_cmp); (k_dflt (k_extra "evI")); (k_dflt (k_extra "evI")); (k_dflt (k_extra "cop")); (k_extra "R"))
    | ((with_reducible apply evT_not); (k_dflt (k_extra "evT")))
    | ((with_reducible apply evT_and); (k_dflt (k_extra "evT")); (intro hp9; k_dflt (k_extra "evT")))
    | ((with_reducible apply evT_or); (k_dflt (k_extra "evT")); (intro hp9; k_dflt (k_extra "evT"))))
  k_with "exec If" => ((with_reducible apply x_ifH); (k_extra "A"); (k_extra "A"); (k_dflt (k_extra "evTH")); all_goals (k_whole; intro hp9 h9 tk9 F9 N9; (try k_sweep)))
  k_with "exec If" => ((with_reducible apply x_if); (k_extra "A"); (k_extra "A"); (k_dflt (k_extra "evT")); all_goals (k_whole; intro hp9 tk9))
  k_with "execs cons" => (with_reducible refine x_cons ?_)
  k_with "execs cons" => ((with_reducible apply x_setI); (k_extra "A"); (k_extra "A"); (k_dflt (k_extra "evI")); (k_dflt (k_extra "evV")); (k_dflt (k_extra "evI")); (k_dflt (k_extra "updF")); (k_dflt (k_extra "ints")); (k_dflt (k_extra "pre0")); (k_dflt (k_extra "pre0")); (k_dflt (k_extra "pre0")); (k_extra "F"); (k_whole); (intro t9 h9 tk9 F9 N9); (try k_sweep))
  k_with "execs cons" => ((with_reducible apply x_asgV); (k_extra "A"); (k_extra "A"); (k_dflt (k_extra "evV")); (k_extra "R"); (k_extra "F"); (k_whole); (intro h9 tk9 F9 N9); (try k_sweep))
  k_with "execs cons" => ((with_reducible apply x_asgI); (k_extra "A"); (k_extra "A"); (k_dflt (k_extra "evI")); (k_extra "R"); (k_extra "F"); (k_whole); (intro t9 h9 tk9 F9 N9); (try k_sweep))
  k_with "execs cons" => ((with_reducible apply x_retV); (k_extra "A"); (k_extra "A"); (k_dflt (k_extra "evV")); (k_whole); (intro tk9))
  k_with "execs cons" => ((with_reducible apply x_retI); (k_extra "A"); (k_extra "A"); (k_dflt (k_extra "evI")); (k_whole); (intro t9 tk9))
  k_with "execs cons" => ((with_reducible apply x_retC); (k_extra "A"); (k_extra "A"); (k_dflt (k_extra "evI")); (k_dflt (k_extra "evI")); (k_dflt (k_extra "cop")); (k_extra "R"); (k_whole); (intro b9 tk9 hb9))
  k_with "LEnd" => (with_reducible refine lEnd_ ?_; with_reducible first | (refine hret1 _ _ ?_) | (refine hbrk _ ?_) | (k_dflt (k_extra "wend")))
  k_with "eval Call Attribute" => ((with_reducible apply call_meth); (k_extra "A"); (k_extra "A"); (k_extra "mt"); (k_extra "F"); (k_dflt (k_extra "evV")); (k_extra "A"); (k_dflt k_memK); (k_dflt k_memK); (k_extra "R"); (k_dflt (k_extra "evL")); (k_whole); k_dflt (k_extra "args"))
  k_with "evL" => (first | exact .nil | ((with_reducible apply EvL.i); (k_dflt (k_extra "evI")); (k_extra "G"); (k_dflt (k_extra "evL"))) | ((with_reducible apply EvL.v); (k_dflt (k_extra "evV")); (k_extra "G"); (k_dflt (k_extra "evL"))))
  k_with "args" => (first | (refine argK0 ?_; intro tk9) | (refine argK1 ?_; intro t9 tk9) | (refine argK2 ?_; intro t9 t8 tk9) | (refine argKv ?_; intro tk9) | (refine argKvv ?_; intro tk9) | (refine argKvi ?_; intro t9 tk9) | (refine argKvii ?_; intro t9 t8 tk9) | (refine argKvvi ?_; intro t9 tk9) | (refine argKvvv ?_; intro tk9))
  k_with "mt" => (with_reducible first | exact mt_is_before | exact mt_put | exact mt_rise | exact mt_better_child | exact mt_sink | exact mt_push | exact mt_pop | exact mt_pop_best | exact mt_bump | exact mt_decay | exact mt_rescale | exact mt_rebuild | exact mt_grow | exact mt_many | exact mt_is_held | exact mt_size | exact mt_top)
  k_with "storeName" => ((with_reducible apply x_store); (k_extra "A"); (k_extra "A"); (k_extra "R"); (k_whole); (intro h9 tk9 F9 N9); (try k_sweep))
  k_with "call builtin:list.append" => ((with_reducible apply append_U); (k_extra "A"); (k_extra "A"); (k_dflt (k_extra "updF")); (k_dflt (rw [IntsAre.length (by k_extra "ints")]; k_extra "pre0")); (k_whole); (intro h9 tk9 F9 N9); (try k_sweep))
  k_with "call builtin:list.pop" => ((with_reducible apply pop_U); (k_extra "A"); (k_extra "A"); (k_dflt (k_extra "updF")); (k_dflt (k_extra "ints")); (k_dflt (k_extra "pre0")); (k_dflt (k_extra "pre0")); (k_whole); (intro t9 h9 tk9 F9 N9 ip9); (try k_sweep))
  k_with "eval Attribute Name" => ((with_reducible apply useV); (k_extra "A"); (k_extra "A"); (k_dflt (k_extra "evV")); (k_whole); (intro tk9))
  k_with "eval BinOp" => ((with_reducible apply useI); (k_extra "A"); (k_extra "A"); (k_dflt (k_extra "evI")); (k_whole); (intro t9 tk9))
  k_with "eval Subscript" => ((with_reducible apply useI); (k_extra "A"); (k_extra "A"); (k_dflt (k_extra "evI")); (k_whole); (intro t9 tk9))
  k_with "isTrue Compare" => ((with_reducible apply useT); (k_extra "A"); (k_extra "A"); (k_dflt (k_extra "evT")); all_goals (k_whole; intro hp9 tk9))
  k_with "execs nil" => (with_reducible refine wpAny_execs_nil ?_)
  k_with "SeqK" => (with_reducible first | refine seq_next ?_ | refine seq_ret ?_ | refine seq_brk ?_ | refine seq_cont ?_)
  k_with "updF" => (first | exact upH (by with_reducible assumption) | exact upP (by with_reducible assumption) | exact upA (by with_reducible assumption) | exact upD (by with_reducible assumption) | (refine' .tail ?_ ?_; (k_extra "k_ne"); (k_extra "updF")))
  k_with "room" => (exact room_le (by with_reducible assumption) rfl)
  k_with "hH" => (first | exact fun _ h => h | exact fun _ h => .tail _ h | exact fun _ h => .tail _ (.tail _ h) | exact fun _ h => .tail _ (.tail _ (.tail _ h)) | exact fun _ h => .tail _ (.tail _ (.tail _ (.tail _ h))))
  k_with "spl" => (first | exact spl_led | exact .keep (off5_all (by k_extra "off5")) (by k_extra "spl"))
  k_with "off5" => (k_extra "A")
  k_with "evIH" => ((with_reducible apply evIH_of); (k_dflt (k_extra "evI")))
  k_with "evTH" => ((with_reducible apply evTH_cmp); (k_dflt (k_extra "evIH")); (k_dflt (k_extra "evIH")); (k_dflt (k_extra "cop")); (k_extra "R"))
  k_with "evTH" => ((with_reducible apply evTH_or); (k_dflt (k_extra "evTH")); (intro hp9; k_dflt (k_extra "evTH")))
  k_with "evTH" => ((with_reducible apply evTH_and); (k_dflt (k_extra "evTH")); (intro hp9; k_dflt (k_extra "evTH")))
  k_with "evTH" => ((with_reducible apply evTH_not); (k_dflt (k_extra "evTH")))
  k_with "evTH" => ((with_reducible apply evTH_of); (k_dflt (k_extra "evT")))
  k_with "meq" => (first
    | exact MEq.rf
    | ((with_reducible apply MEq.l); (exact rfl); (k_extra "meq"))
    | ((with_reducible apply MEq.r); (exact rfl); (k_extra "meq"))
    | ((with_reducible apply MEq.n); (exact rfl); (k_extra "meq"))
    | ((with_reducible apply MEq.g); (exact rfl); (k_extra "meq")))
  k_with "openC" => (
    refine' ctr_introC ?mono ?ho ?hcd ?hb ?hkind ?c1 ?c2 ?c3 ?c4 ?c5 ?_;
    (case ho => (intro P; k_is)); (case hcd => (intro P; k_is)); (case hb => exact fun s => BindsTo.of_eq rfl); (case hkind => exact rfl); (case c1 => decide +kernel); (case c2 => exact fun _ => rfl); (case c3 => exact rfl); (case c4 => exact rfl); (case c5 => exact rfl); (case mono => k_extra "mono");
    intro G h gs dr tk0 os q oc B F X N d1 T l1 hD hU hret;
    (have hK := off5_lt l1); (have k1 := hK.1); (have k2 := hK.2.1); (have k3 := hK.2.2.1); (have k4 := hK.2.2.2.1); (have k5 := hK.2.2.2.2); clear l1;
    unfold led at N)
  k_with "evI" => ((with_reducible apply evI_cell); (k_extra "R"); (k_dflt k_memK); (k_extra "A"); (k_extra "R"))
  k_with "evV" => ((with_reducible apply evV_cell); (k_extra "R"); (k_dflt k_memK); (k_extra "A"); (k_extra "R"))
  k_with "setAttr ref" => (first
    | ((with_reducible apply set_step); (k_extra "A"); (k_extra "A"); (k_extra "A"); (k_dflt k_memK); (k_dflt k_memK); (k_dflt (k_extra "updF")); (k_whole); (intro h9 tk9 F9 N9); (try k_sweep))
    | ((with_reducible apply set_act); (k_extra "A"); (k_extra "A"); (k_extra "A"); (k_dflt k_memK); (k_dflt k_memK); (k_dflt (k_extra "updF")); (k_whole); (intro h9 tk9 F9 N9); (try k_sweep)))
  k_with "evI" => ((with_reducible apply evI_glob); (k_extra "A"); (exact topRead_of (by with_reducible assumption)); (with_reducible first | exact gl_first | exact gl_shrink); (k_extra "R"))
  k_with "execs cons" => ((with_reducible apply x_asgIC); (k_extra "A"); (k_extra "A"); (k_dflt (k_extra "evI")); (k_extra "R"); (k_dflt (k_extra "updC")); (k_extra "A"); (k_extra "R"); (k_extra "F"); (k_whole); (intro t9 h9 tk9 o9 F9 N9 d9); (try k_sweep))
  k_with "updC" => (exact upC (by with_reducible assumption))
  k_with "updF" => (first | exact upD1 (by with_reducible assumption) (by with_reducible assumption) | exact upA1 (by with_reducible assumption) (by with_reducible assumption))
  k_with "execs cons" => ((with_reducible apply x_setStep); (k_extra "A"); (k_extra "A"); (k_extra "A"); (k_dflt (k_extra "evI")); (k_dflt (k_extra "evV")); (k_dflt k_memK); (k_dflt k_memK); (k_dflt (k_extra "updF")); (k_extra "F"); (k_whole); (intro t9 h9 tk9 F9 N9); (try k_sweep))
  k_with "evTH" => ((with_reducible apply evTH_bef); (k_dflt (k_extra "evV")); (k_dflt k_memK); (k_dflt k_memK); (k_dflt (k_extra "hH")); (k_dflt (k_extra "spl")); (k_dflt (k_extra "evI")); (k_dflt (k_extra "evI")); (k_dflt (k_extra "ints")); (k_dflt (k_extra "pre0")); (k_dflt (k_extra "pre0")); (k_dflt (k_extra "pre0")); (k_dflt (k_extra "pre0")); (k_dflt (k_extra "pre0")); (k_extra "A"); (k_extra "A"); (k_extra "A"); (k_dflt (k_extra "room")); (k_dflt (k_extra "room")); (k_extra "R"); (k_extra "G"); (k_extra "G"); (k_extra "F"); (k_extra "F"))
  k_with "call ref" => ((with_reducible show wpAny _ _ (call (Value.ref 71) _) _ _ _); k_dflt (refine' ctr_use (c_put ?a0 ?a1 ?a2 ?a3 ?a4 ?a5 ?a6 ?a7 ?a8) G ?F ?N ?B ?X ?T ?hk ?hH ?hR ?hd ?hu ?_; (case F => assumption); (case N => assumption); (case hH => k_extra "hH"); (case hR => k_extra "spl"); (case a0 => with_reducible assumption); (case a1 => k_extra "ints"); (case a2 => k_extra "ints"); (case a3 => k_extra "pre0"); (case a4 => k_extra "pre0"); (case a5 => k_extra "pre0"); (case a6 => k_extra "pre0"); (case a7 => k_extra "pre0"); (case a8 => k_extra "pre0"); (case B => assumption); (case X => assumption); (case T => assumption); (case hk => exact rfl); (case hd => k_extra "room"); (case hu => k_extra "room"); k_whole; intro u9 u8 h9 tk9 F9 N9 ap9; (try dsimp only [led, List.cons_append, List.nil_append] at N9); clear ap9; (try k_sweep)))
  k_with "call ref" => ((with_reducible show wpAny _ _ (call (Value.ref 71) _) _ _ _); k_dflt (refine' ctr_use0 (c_put ?a0 ?a1 ?a2 ?a3 ?a4 ?a5 ?a6 ?a7 ?a8) G ?F ?N ?B ?X ?T ?hk ?hd ?hu ?_; (case F => assumption); (case N => assumption); (case a0 => with_reducible assumption); (case a1 => k_extra "ints"); (case a2 => k_extra "ints"); (case a3 => k_extra "pre0"); (case a4 => k_extra "pre0"); (case a5 => k_extra "pre0"); (case a6 => k_extra "pre0"); (case a7 => k_extra "pre0"); (case a8 => k_extra "pre0"); (case B => assumption); (case X => assumption); (case T => assumption); (case hk => exact rfl); (case hd => k_extra "room"); (case hu => k_extra "room"); k_whole; intro u9 u8 h9 tk9 F9 N9 ap9; (try dsimp only [led, List.cons_append, List.nil_append] at N9); clear ap9; (try k_sweep)))
  k_with "evTH" => ((with_reducible apply evTH_held); (k_dflt (k_extra "evV")); (k_dflt k_memK); (k_dflt k_memK); (k_dflt (k_extra "hH")); (k_dflt (k_extra "spl")); (k_dflt (k_extra "evI")); (k_dflt (k_extra "ints")); (k_dflt (k_extra "pre0")); (k_dflt (k_extra "pre0")); (k_dflt (k_extra "pre0")); (k_extra "A"); (k_extra "A"); (k_extra "A"); (k_dflt (k_extra "room")); (k_dflt (k_extra "room")); (k_extra "R"); (k_extra "G"); (k_extra "F"); (k_extra "F"))
  k_with "evIH" => ((with_reducible apply evIH_many); (k_dflt (k_extra "evV")); (k_dflt k_memK); (k_dflt k_memK); (k_dflt (k_extra "hH")); (k_dflt (k_extra "spl")); (k_dflt (k_extra "ints")); (k_dflt (k_extra "pre0")); (k_extra "A"); (k_extra "A"); (k_extra "A"); (k_dflt (k_extra "room")); (k_dflt (k_extra "room")); (k_extra "R"); (k_extra "F"))
  k_with "evIH" => ((with_reducible apply evIH_size); (k_dflt (k_extra "evV")); (k_dflt k_memK); (k_dflt k_memK); (k_dflt (k_extra "hH")); (k_dflt (k_extra "spl")); (k_dflt (k_extra "ints")); (k_dflt (k_extra "pre0")); (k_extra "A"); (k_extra "A"); (k_extra "A"); (k_dflt (k_extra "room")); (k_dflt (k_extra "room")); (k_extra "R"); (k_extra "F"))
  k_with "evIH" => ((with_reducible apply evIH_top); (k_dflt (k_extra "evV")); (k_dflt k_memK); (k_dflt k_memK); (k_dflt (k_extra "hH")); (k_dflt (k_extra "spl")); (k_dflt (k_extra "ints")); (k_dflt (k_extra "pre0")); (k_extra "A"); (k_extra "A"); (k_extra "A"); (k_dflt (k_extra "room")); (k_dflt (k_extra "room")); (k_extra "R"); (k_extra "F"))
  k_with "call ref" => ((with_reducible show wpAny _ _ (call (Value.ref 43) _) _ _ _); k_dflt (refine' ctr_use (c_many ?a0 ?a1) G ?F ?N ?B ?X ?T ?hk ?hH ?hR ?hd ?hu ?_; (case F => assumption); (case N => assumption); (case hH => k_extra "hH"); (case hR => k_extra "spl"); (case a0 => k_extra "ints"); (case a1 => k_extra "pre0"); (case B => assumption); (case X => assumption); (case T => assumption); (case hk => exact rfl); (case hd => k_extra "room"); (case hu => k_extra "room"); k_whole; intro t8 h9 tk9 F9 N9 ap9; (try dsimp only [led, List.cons_append, List.nil_append] at N9); clear ap9; (try k_sweep)))
  k_with "call ref" => ((with_reducible show wpAny _ _ (call (Value.ref 43) _) _ _ _); k_dflt (refine' ctr_use0 (c_many ?a0 ?a1) G ?F ?N ?B ?X ?T ?hk ?hd ?hu ?_; (case F => assumption); (case N => assumption); (case a0 => k_extra "ints"); (case a1 => k_extra "pre0"); (case B => assumption); (case X => assumption); (case T => assumption); (case hk => exact rfl); (case hd => k_extra "room"); (case hu => k_extra "room"); k_whole; intro t8 h9 tk9 F9 N9 ap9; (try dsimp only [led, List.cons_append, List.nil_append] at N9); clear ap9; (try k_sweep)))
  k_with "call ref" => ((with_reducible show wpAny _ _ (call (Value.ref 78) _) _ _ _); k_dflt (refine' ctr_use (c_rise ?a0 ?a1 ?a2 ?a3 ?a4 ?a5 ?a6 ?a7 ?a8 ?a9 ?a10) G ?F ?N ?B ?X ?T ?hk ?hH ?hR ?hd ?hu ?_; (case F => assumption); (case N => assumption); (case hH => k_extra "hH"); (case hR => k_extra "spl"); (case a0 => with_reducible assumption); (case a1 => k_extra "ints"); (case a2 => k_extra "ints"); (case a3 => k_extra "ints"); (case a4 => k_extra "pre0"); (case a5 => k_extra "pre0"); (case a6 => k_extra "pre0"); (case a7 => k_extra "pre0"); (case a8 => k_extra "pre0"); (case a9 => k_extra "pre0"); (case a10 => k_extra "pre0"); (case B => assumption); (case X => assumption); (case T => assumption); (case hk => exact rfl); (case hd => k_extra "room"); (case hu => k_extra "room"); k_whole; intro vh9 vp9 hp9' pl9 ih9 ip9 ln9 cs9 or9 sh9 h9 tk9 F9 N9 ap9; (try dsimp only [led, List.cons_append, List.nil_append] at N9); clear ap9; (try k_sweep)))
  k_with "call ref" => ((with_reducible show wpAny _ _ (call (Value.ref 78) _) _ _ _); k_dflt (refine' ctr_use0 (c_rise ?a0 ?a1 ?a2 ?a3 ?a4 ?a5 ?a6 ?a7 ?a8 ?a9 ?a10) G ?F ?N ?B ?X ?T ?hk ?hd ?hu ?_; (case F => assumption); (case N => assumption); (case a0 => with_reducible assumption); (case a1 => k_extra "ints"); (case a2 => k_extra "ints"); (case a3 => k_extra "ints"); (case a4 => k_extra "pre0"); (case a5 => k_extra "pre0"); (case a6 => k_extra "pre0"); (case a7 => k_extra "pre0"); (case a8 => k_extra "pre0"); (case a9 => k_extra "pre0"); (case a10 => k_extra "pre0"); (case B => assumption); (case X => assumption); (case T => assumption); (case hk => exact rfl); (case hd => k_extra "room"); (case hu => k_extra "room"); k_whole; intro vh9 vp9 hp9' pl9 ih9 ip9 ln9 cs9 or9 sh9 h9 tk9 F9 N9 ap9; (try dsimp only [led, List.cons_append, List.nil_append] at N9); clear ap9; (try k_sweep)))
  k_with "call ref" => ((with_reducible show wpAny _ _ (call (Value.ref 132) _) _ _ _); k_dflt (refine' ctr_use (c_rescale ?a0 ?a1 ?a2 ?a3 ?a4 ?a5 ?a6 ?a7 ?a8 ?a9) G ?F ?N ?B ?X ?T ?hk ?hH ?hR ?hd ?hu ?_; (case F => assumption); (case N => assumption); (case hH => k_extra "hH"); (case hR => k_extra "spl"); (case a0 => with_reducible assumption); (case a1 => k_extra "ints"); (case a2 => k_extra "ints"); (case a3 => k_extra "ints"); (case a4 => k_extra "pre0"); (case a5 => k_extra "pre0"); (case a6 => k_extra "pre0"); (case a7 => k_extra "pre0"); (case a8 => k_extra "pre0"); (case a9 => k_extra "pre0"); (case B => assumption); (case X => assumption); (case T => assumption); (case hk => exact rfl); (case hd => k_extra "room"); (case hu => k_extra "room"); k_whole; intro la9 ts9 va9 vh9 vp9 na9 hp9' pl9 hO9 ia9 ih9 ip9 cs9 or9 sh9 h9 tk9 F9 N9 ap9; (try dsimp only [led, List.cons_append, List.nil_append] at N9); clear ap9; (try k_sweep)))
  k_with "call ref" => ((with_reducible show wpAny _ _ (call (Value.ref 132) _) _ _ _); k_dflt (refine' ctr_use0 (c_rescale ?a0 ?a1 ?a2 ?a3 ?a4 ?a5 ?a6 ?a7 ?a8 ?a9) G ?F ?N ?B ?X ?T ?hk ?hd ?hu ?_; (case F => assumption); (case N => assumption); (case a0 => with_reducible assumption); (case a1 => k_extra "ints"); (case a2 => k_extra "ints"); (case a3 => k_extra "ints"); (case a4 => k_extra "pre0"); (case a5 => k_extra "pre0"); (case a6 => k_extra "pre0"); (case a7 => k_extra "pre0"); (case a8 => k_extra "pre0"); (case a9 => k_extra "pre0"); (case B => assumption); (case X => assumption); (case T => assumption); (case hk => exact rfl); (case hd => k_extra "room"); (case hu => k_extra "room"); k_whole; intro la9 ts9 va9 vh9 vp9 na9 hp9' pl9 hO9 ia9 ih9 ip9 cs9 or9 sh9 h9 tk9 F9 N9 ap9; (try dsimp only [led, List.cons_append, List.nil_append] at N9); clear ap9; (try k_sweep)))
  trivial
def StC (r0 : Value) (o dx lh lp : Addr) (t1 t2 t3 t4 t5 tl : Tok) (limit : Int) (nh np : Nat) (n : Int) (act2 : List Int) (step2 : Int) (pl : List Int) (P : Params) (K : Value → Led → Prop) : Prop :=
  ∀ (la' : Addr) (ts' : Tok) (va' vh' vp' : List Value) (na' : Nat) (hp' pl' : List Int), Ord5 o dx la' lh lp → IntsAre va' act2 → IntsAre vh' hp' → IntsAre vp' pl' → Cons n hp' pl' → OrdFrom act2 hp' 0 → SameHeld n pl pl' → K r0 (led P o dx la' lh lp t1 t2 t3 t4 t5 tl ts' limit step2 va' vh' vp' na' nh np)
theorem SameHeld.rfl' {n : Int} {pl : List Int} : SameHeld n pl pl := fun _ _ _ => Iff.rfl
section
variable {o dx la lh lp lk : Addr} {t1 t2 t3 t4 t5 tl ts : Tok} {limit step : Int} {va vh vp vk : List Value} {na nh np nk : Nat} {act hp pl known : List Int}
theorem StC.mono {r0 : Value} {n : Int} : ∀ P (K K' : Value → Led → Prop), (∀ r H', K r H' → K' r H') → StC r0 o dx lh lp t1 t2 t3 t4 t5 tl limit nh np n act step pl P K → StC r0 o dx lh lp t1 t2 t3 t4 t5 tl limit nh np n act step pl P K' :=
  fun _ _ _ h x a b c d e f g i j l m n' p q r => h _ _ (x a b c d e f g i j l m n' p q r)
theorem bump_hi {var : Int} (h : limit < (act.set var.toNat (act.getD var.toNat 0 + step)).getD var.toNat 0) : bumpA act step limit var = rAct (act.set var.toNat (act.getD var.toNat 0 + step)) step ∧ bumpS act step limit var = rStep (act.set var.toNat (act.getD var.toNat 0 + step)) step := ⟨if_pos h, if_pos h⟩
theorem bump_lo {var : Int} (h : ¬ limit < (act.set var.toNat (act.getD var.toNat 0 + step)).getD var.toNat 0) : bumpA act step limit var = act.set var.toNat (act.getD var.toNat 0 + step) ∧ bumpS act step limit var = step := ⟨if_neg h, if_neg h⟩
set_option maxHeartbeats 8000000 in
theorem c_bump {n var : Int} {u1 : Tok} (hO : Ord5 o dx la lh lp) (ia : IntsAre va act) (ih : IntsAre vh hp) (ip : IntsAre vp pl) (hc : Cons n hp pl) (hn : (act.length : Int) = n + 1) (h9 : n ≤ 9) (hu : OrdFrom act hp 0) (hs : 0 < step) (hsb : step ≤ 5000000) (hab : ∀ a ∈ act, a ≤ 5000000) (h1 : 1 ≤ var) (h2 : var ≤ n) :
    Ctr 14 140 120 [.ref o, .int var u1] (fun P => led P o dx la lh lp t1 t2 t3 t4 t5 tl ts limit step va vh vp na nh np)
      (StC .none o dx lh lp t1 t2 t3 t4 t5 tl limit nh np n (bumpA act step limit var) (bumpS act step limit var) pl) := by
  have hlp := hc.lp
  have hle := hc.len_le
  have hah := hc.at_held h1 h2
  have hex := ExUp.bump (step := step) hc hn hs h1 h2 hu
  have hor := OrdFrom.bump (step := step) hc hn h1 h2 hu
  have hbs := bump_small (var := var) hsb hab
  k_with "mono" => exact StC.mono
  k_extra "open"
  k_with "pre" => (first | exact hex (by assumption))
  k_with "KEnd" => (refine kEnd_next ?_; unfold StC at hret; first
    | (rw [(bump_hi (by assumption)).1, (bump_hi (by assumption)).2] at hret; exact hret _ _ _ _ _ _ _ _ hO9 ia9 ih9 ip9 cs9 or9 sh9 _ _ _ F9 N9)
    | (rw [(bump_lo (by assumption)).1, (bump_lo (by assumption)).2] at hret; exact hret _ _ _ _ _ _ _ _ hO (by k_extra "ints") ih9 ip9 cs9 or9 sh9 _ _ _ F9 N9)
    | (rw [(bump_lo (by assumption)).1, (bump_lo (by assumption)).2] at hret; exact hret _ _ _ _ _ _ _ _ hO (by k_extra "ints") ih ip hc (hor (by assumption)) SameHeld.rfl' _ _ _ F9 N9))
  k_extra "steps"
end
theorem dStep_pos {step : Int} (hs : 0 < step) (hsb : step ≤ 5000000) : 0 < dStep step ∧ dStep step ≤ 10000000 := by unfold dStep; rw [Int.fdiv_eq_ediv_of_nonneg _ (by omega)]; omega
theorem le_up {act : List Int} (hab : ∀ a ∈ act, a ≤ 5000000) : ∀ a ∈ act, a ≤ 10000000 := fun a ha => by have := hab a ha; omega
section
variable {o dx la lh lp lk : Addr} {t1 t2 t3 t4 t5 tl ts : Tok} {limit step : Int} {va vh vp vk : List Value} {na nh np nk : Nat} {act hp pl known : List Int}
theorem dec_hi (h : limit < step + Int.fdiv step (20 - 1) + 1) : decA act step limit = rAct act (step + Int.fdiv step (20 - 1) + 1) ∧ decS act step limit = rStep act (step + Int.fdiv step (20 - 1) + 1) := ⟨if_pos h, if_pos h⟩
theorem dec_lo (h : ¬ limit < step + Int.fdiv step (20 - 1) + 1) : decA act step limit = act ∧ decS act step limit = step + Int.fdiv step (20 - 1) + 1 := ⟨if_neg h, if_neg h⟩
set_option maxHeartbeats 8000000 in
theorem c_decay {n : Int} (hO : Ord5 o dx la lh lp) (ia : IntsAre va act) (ih : IntsAre vh hp) (ip : IntsAre vp pl) (hc : Cons n hp pl) (hn : (act.length : Int) = n + 1) (h9 : n ≤ 9) (hu : OrdFrom act hp 0) (hs : 0 < step) (hsb : step ≤ 5000000) (hab : ∀ a ∈ act, a ≤ 5000000) :
    Ctr 14 140 127 [.ref o] (fun P => led P o dx la lh lp t1 t2 t3 t4 t5 tl ts limit step va vh vp na nh np)
      (StC .none o dx lh lp t1 t2 t3 t4 t5 tl limit nh np n (decA act step limit) (decS act step limit) pl) := by
  have hlp := hc.lp
  have hd1 := dStep_pos hs hsb
  unfold dStep at hd1
  have hbs := le_up hab
  k_with "mono" => exact StC.mono
  k_extra "open"
  k_with "KEnd" => (refine kEnd_next ?_; unfold StC at hret; first
    | (rw [(dec_hi (by assumption)).1, (dec_hi (by assumption)).2] at hret; exact hret _ _ _ _ _ _ _ _ hO9 ia9 ih9 ip9 cs9 or9 sh9 _ _ _ F9 N9)
    | (rw [(dec_lo (by assumption)).1, (dec_lo (by assumption)).2] at hret; exact hret _ _ _ _ _ _ _ _ hO ia ih ip hc hu SameHeld.rfl' _ _ _ F9 N9))
  k_extra "steps"
end
example : True := by
  k_with_none
  k_with "A" => (with_reducible assumption)
  k_with "R" => (k_dflt (exact rfl))
  k_with "F" => (k_dflt (exact fun _ => rfl))
  k_with "G" => (k_dflt (exact fun _ _ => rfl))
  k_with "steps" => (repeat' (first | walk1 | (dsimp only; walk1) | fail "no step"))
  k_with "k_ne" => (first | (k_extra "A") | (refine Ne.symm ?_; with_reducible assumption))
  k_with "ints" => (first | with_reducible assumption | exact ints_set (by k_extra "ints") _ | exact ints_app1 (by k_extra "ints") _ _ | fail "no ints")
  k_with "pre0" => (first | with_reducible assumption | (with_reducible exact le_w (by assumption) rfl) | (with_reducible exact le_we (by assumption) (by assumption) rfl) | (with_reducible exact lt_we (by assumption) (by assumption)) | omega | (simp only [List.length_set, List.length_append, List.length_cons, List.length_nil, List.length_map]; omega) | k_extra "pre")
  k_with "mono" => (intro _ _ _ hk x; (intros; refine hk _ _ ?_; first | exact x | (apply x <;> assumption)))
  k_with "open" => (
    refine' ctr_intro ?mono ?ho ?hcd ?hb ?hloc ?c2 ?c3 ?c4 ?c5 ?_;
    (case ho => (intro P; k_is)); (case hcd => (intro P; k_is)); (case hb => exact fun s => BindsTo.of_eq rfl); (case hloc => exact locs rfl); (case c2 => exact rfl); (case c3 => exact rfl); (case c4 => exact rfl); (case c5 => decide); (case mono => k_extra "mono");
    intro G h gs dr tk0 os q B F X N T l1 hD hU hret;
    unfold led at N)
  k_with "evI" => (first
    | ((with_reducible apply evI_name); (k_extra "R"); (k_extra "R"))
    | (with_reducible exact evI_const)
    | ((with_reducible apply evI_neg); (k_dflt (k_extra "evI")))
    | ((with_reducible apply evI_op); (k_dflt (k_extra "evI")); (k_dflt (k_extra "evI")); (k_dflt (k_extra "iop")))
    | ((with_reducible apply evI_sub); (k_dflt (k_extra "evV")); (k_dflt (k_extra "evI")); (k_dflt k_memK); (k_dflt (k_extra "ints")); (k_dflt (k_extra "pre0")); (k_dflt (k_extra "pre0")); (k_dflt (k_extra "pre0")); (k_extra "F"))
    | ((with_reducible apply evI_limit); (k_dflt (k_extra "evV")); (k_extra "A"); (k_dflt k_memK); (k_dflt k_memK))
    | ((with_reducible apply evI_step); (k_dflt (k_extra "evV")); (k_extra "A"); (k_dflt k_memK); (k_dflt k_memK))
    | ((with_reducible apply evI_len); (k_extra "A"); (exact topRead_of (by with_reducible assumption)); (k_extra "R"); (k_dflt (k_extra "evV")); (k_extra "G"); (k_extra "F"); (k_dflt k_memK); (k_dflt (exact len_cast (by k_extra "ints"))); (k_dflt (k_extra "len9"))))
  k_with "len9" => (rw [IntsAre.length (by k_extra "ints")]; k_extra "pre0")
  k_with "iop" => (first | exact .add | exact .sub | exact .mul (by decide) | exact .fdiv (by decide) (by decide) | exact .mod (by decide))
  k_with "evV" => (first
    | ((with_reducible apply evV_name); (k_extra "R"); (k_extra "R"))
    | ((with_reducible apply evV_heap); (k_dflt (k_extra "evV")); (k_extra "A"); (k_dflt k_memK); (k_dflt k_memK))
    | ((with_reducible apply evV_act); (k_dflt (k_extra "evV")); (k_extra "A"); (k_dflt k_memK); (k_dflt k_memK))
    | ((with_reducible apply evV_place); (k_dflt (k_extra "evV")); (k_extra "A"); (k_dflt k_memK); (k_dflt k_memK)))
  k_with "cop" => (first | exact .lt | exact .le | exact .gt | exact .ge | exact .eq | exact .ne)
  k_with "evT" => (first
    | ((with_reducible apply evT_cmp); (k_dflt (k_extra "evI")); (k_dflt (k_extra "evI")); (k_dflt (k_extra "cop")); (k_extra "R"))
    | ((with_reducible apply evT_not); (k_dflt (k_extra "evT")))
    | ((with_reducible apply evT_and); (k_dflt (k_extra "evT")); (intro hp9; k_dflt (k_extra "evT")))
    | ((with_reducible apply evT_or); (k_dflt (k_extra "evT")); (intro hp9; k_dflt (k_extra "evT"))))
  k_with "exec If" => ((with_reducible apply x_ifH); (k_extra "A"); (k_extra "A"); (k_dflt (k_extra "evTH")); all_goals (k_whole; intro hp9 h9 tk9 F9 N9; (try k_sweep)))
  k_with "exec If" => ((with_reducible apply x_if); (k_extra "A"); (k_extra "A"); (k_dflt (k_extra "evT")); all_goals (k_whole; intro hp9 tk9))
  k_with "execs cons" => (with_reducible refine x_cons ?_)
  k_with "execs cons" => ((with_reducible apply x_setI); (k_extra "A"); (k_extra "A"); (k_dflt (k_extra "evI")); (k_dflt (k_extra "evV")); (k_dflt (k_extra "evI")); (k_dflt (k_extra "updF")); (k_dflt (k_extra "ints")); (k_dflt (k_extra "pre0")); (k_dflt (k_extra "pre0")); (k_dflt (k_extra "pre0")); (k_extra "F"); (k_whole); (intro t9 h9 tk9 F9 N9); (try k_sweep))
  k_with "execs cons" => ((with_reducible apply x_asgV); (k_extra "A"); (k_extra "A"); (k_dflt (k_extra "evV")); (k_extra "R"); (k_extra "F"); (k_whole); (intro h9 tk9 F9 N9); (try k_sweep))
  k_with "execs cons" => ((with_reducible apply x_asgI); (k_extra "A"); (k_extra "A"); (k_dflt (k_extra "evI")); (k_extra "R"); (k_extra "F"); (k_whole); (intro t9 h9 tk9 F9 N9); (try k_sweep))
  k_with "execs cons" => ((with_reducible apply x_retV); (k_extra "A"); (k_extra "A"); (k_dflt (k_extra "evV")); (k_whole); (intro tk9))
  k_with "execs cons" => ((with_reducible apply x_retI); (k_extra "A"); (k_extra "A"); (k_dflt (k_extra "evI")); (k_whole); (intro t9 tk9))
  k_with "execs cons" => ((with_reducible apply x_retC); (k_extra "A"); (k_extra "A"); (k_dflt (k_extra "evI")); (k_dflt (k_extra "evI")); (k_dflt (k_extra "cop")); (k_extra "R"); (k_whole); (intro b9 tk9 hb9))
  k_with "LEnd" => (with_reducible refine lEnd_ ?_; with_reducible first | (refine hret1 _ _ ?_) | (refine hbrk _ ?_) | (k_dflt (k_extra "wend")))
  k_with "eval Call Attribute" => ((with_reducible apply call_meth); (k_extra "A"); (k_extra "A"); (k_extra "mt"); (k_extra "F"); (k_dflt (k_extra "evV")); (k_extra "A"); (k_dflt k_memK); (k_dflt k_memK); (k_extra "R"); (k_dflt (k_extra "evL")); (k_whole); k_dflt (k_extra "args"))
  k_with "evL" => (first | exact .nil | ((with_reducible apply EvL.i); (k_dflt (k_extra "evI")); (k_extra "G"); (k_dflt (k_extra "evL"))) | ((with_reducible apply EvL.v); (k_dflt (k_extra "evV")); (k_extra "G"); (k_dflt (k_extra "evL"))))
  k_with "args" => (first | (refine argK0 ?_; intro tk9) | (refine argK1 ?_; intro t9 tk9) | (refine argK2 ?_; intro t9 t8 tk9) | (refine argKv ?_; intro tk9) | (refine argKvv ?_; intro tk9) | (refine argKvi ?_; intro t9 tk9) | (refine argKvii ?_; intro t9 t8 tk9) | (refine argKvvi ?_; intro t9 tk9) | (refine argKvvv ?_; intro tk9))
  k_with "mt" => (with_reducible first | exact mt_is_before | exact mt_put | exact mt_rise | exact mt_better_child | exact mt_sink | exact mt_push | exact mt_pop | exact mt_pop_best | exact mt_bump | exact mt_decay | exact mt_rescale | exact mt_rebuild | exact mt_grow | exact mt_many | exact mt_is_held | exact mt_size | exact mt_top)
  k_with "storeName" => ((with_reducible apply x_store); (k_extra "A"); (k_extra "A"); (k_extra "R"); (k_whole); (intro h9 tk9 F9 N9); (try k_sweep))
  k_with "call builtin:list.append" => ((with_reducible apply append_U); (k_extra "A"); (k_extra "A"); (k_dflt (k_extra "updF")); (k_dflt (rw [IntsAre.length (by k_extra "ints")]; k_extra "pre0")); (k_whole); (intro h9 tk9 F9 N9); (try k_sweep))
  k_with "call builtin:list.pop" => ((with_reducible apply pop_U); (k_extra "A"); (k_extra "A"); (k_dflt (k_extra "updF")); (k_dflt (k_extra "ints")); (k_dflt (k_extra "pre0")); (k_dflt (k_extra "pre0")); (k_whole); (intro t9 h9 tk9 F9 N9 ip9); (try k_sweep))
  k_with "eval Attribute Name" => ((with_reducible apply useV); (k_extra "A"); (k_extra "A"); (k_dflt (k_extra "evV")); (k_whole); (intro tk9))
  k_with "eval BinOp" => ((with_reducible apply useI); (k_extra "A"); (k_extra "A"); (k_dflt (k_extra "evI")); (k_whole); (intro t9 tk9))
  k_with "eval Subscript" => ((with_reducible apply useI); (k_extra "A"); (k_extra "A"); (k_dflt (k_extra "evI")); (k_whole); (intro t9 tk9))
  k_with "isTrue Compare" => ((with_reducible apply useT); (k_extra "A"); (k_extra "A"); (k_dflt (k_extra "evT")); all_goals (k_whole; intro hp9 tk9))
  k_with "execs nil" => (with_reducible refine wpAny_execs_nil ?_)
  k_with "SeqK" => (with_reducible first | refine seq_next ?_ | refine seq_ret ?_ | refine seq_brk ?_ | refine seq_cont ?_)
  k_with "updF" => (first | exact upH (by with_reducible assumption) | exact upP (by with_reducible assumption) | exact upA (by with_reducible assumption) | exact upD (by with_reducible assumption) | (refine' .tail ?_ ?_; (k_extra "k_ne"); (k_extra "updF")))
  k_with "room" => (exact room_le (by with_reducible assumption) rfl)
  k_with "hH" => (first | exact fun _ h => h | exact fun _ h => .tail _ h | exact fun _ h => .tail _ (.tail _ h) | exact fun _ h => .tail _ (.tail _ (.tail _ h)) | exact fun _ h => .tail _ (.tail _ (.tail _ (.tail _ h))))
  k_with "spl" => (first | exact spl_led | exact .keep (off5_all (by k_extra "off5")) (by k_extra "spl"))
  k_with "off5" => (k_extra "A")
  k_with "evIH" => ((with_reducible apply evIH_of); (k_dflt (k_extra "evI")))
  k_with "evTH" => ((with_reducible apply evTH_cmp); (k_dflt (k_extra "evIH")); (k_dflt (k_extra "evIH")); (k_dflt (k_extra "cop")); (k_extra "R"))
  k_with "evTH" => ((with_reducible apply evTH_or); (k_dflt (k_extra "evTH")); (intro hp9; k_dflt (k_extra "evTH")))
  k_with "evTH" => ((with_reducible apply evTH_and); (k_dflt (k_extra "evTH")); (intro hp9; k_dflt (k_extra "evTH")))
  k_with "evTH" => ((with_reducible apply evTH_not); (k_dflt (k_extra "evTH")))
  k_with "evTH" => ((with_reducible apply evTH_of); (k_dflt (k_extra "evT")))
  k_with "meq" => (first
    | exact MEq.rf
    | ((with_reducible apply MEq.l); (exact rfl); (k_extra "meq"))
    | ((with_reducible apply MEq.r); (exact rfl); (k_extra "meq"))
    | ((with_reducible apply MEq.n); (exact rfl); (k_extra "meq"))
    | ((with_reducible apply MEq.g); (exact rfl); (k_extra "meq")))
  k_with "openC" => (
    refine' ctr_introC ?mono ?ho ?hcd ?hb ?hkind ?c1 ?c2 ?c3 ?c4 ?c5 ?_;
    (case ho => (intro P; k_is)); (case hcd => (intro P; k_is)); (case hb => exact fun s => BindsTo.of_eq rfl); (case hkind => exact rfl); (case c1 => decide +kernel); (case c2 => exact fun _ => rfl); (case c3 => exact rfl); (case c4 => exact rfl); (case c5 => exact rfl); (case mono => k_extra "mono");
    intro G h gs dr tk0 os q oc B F X N d1 T l1 hD hU hret;
    (have hK := off5_lt l1); (have k1 := hK.1); (have k2 := hK.2.1); (have k3 := hK.2.2.1); (have k4 := hK.2.2.2.1); (have k5 := hK.2.2.2.2); clear l1;
    unfold led at N)
  k_with "evI" => ((with_reducible apply evI_cell); (k_extra "R"); (k_dflt k_memK); (k_extra "A"); (k_extra "R"))
  k_with "evV" => ((with_reducible apply evV_cell); (k_extra "R"); (k_dflt k_memK); (k_extra "A"); (k_extra "R"))
  k_with "setAttr ref" => (first
    | ((with_reducible apply set_step); (k_extra "A"); (k_extra "A"); (k_extra "A"); (k_dflt k_memK); (k_dflt k_memK); (k_dflt (k_extra "updF")); (k_whole); (intro h9 tk9 F9 N9); (try k_sweep))
    | ((with_reducible apply set_act); (k_extra "A"); (k_extra "A"); (k_extra "A"); (k_dflt k_memK); (k_dflt k_memK); (k_dflt (k_extra "updF")); (k_whole); (intro h9 tk9 F9 N9); (try k_sweep)))
  k_with "evI" => ((with_reducible apply evI_glob); (k_extra "A"); (exact topRead_of (by with_reducible assumption)); (with_reducible first | exact gl_first | exact gl_shrink); (k_extra "R"))
  k_with "execs cons" => ((with_reducible apply x_asgIC); (k_extra "A"); (k_extra "A"); (k_dflt (k_extra "evI")); (k_extra "R"); (k_dflt (k_extra "updC")); (k_extra "A"); (k_extra "R"); (k_extra "F"); (k_whole); (intro t9 h9 tk9 o9 F9 N9 d9); (try k_sweep))
  k_with "updC" => (exact upC (by with_reducible assumption))
  k_with "updF" => (first | exact upD1 (by with_reducible assumption) (by with_reducible assumption) | exact upA1 (by with_reducible assumption) (by with_reducible assumption))
  k_with "execs cons" => ((with_reducible apply x_setStep); (k_extra "A"); (k_extra "A"); (k_extra "A"); (k_dflt (k_extra "evI")); (k_dflt (k_extra "evV")); (k_dflt k_memK); (k_dflt k_memK); (k_dflt (k_extra "updF")); (k_extra "F"); (k_whole); (intro t9 h9 tk9 F9 N9); (try k_sweep))
  k_with "evT" => ((with_reducible apply evT_orc); (k_dflt (k_extra "evT")); (intro hp9; k_dflt (k_extra "evT")))
  k_with "evTH" => ((with_reducible apply evTH_orc); (k_dflt (k_extra "evTH")); (intro hp9; k_dflt (k_extra "evTH")))
  k_with "evT" => (first
    | ((with_reducible apply evT_or); (k_dflt (k_extra "evT")); (intro hp9; k_dflt (k_extra "evT"))))
  k_with "evTH" => ((with_reducible apply evTH_or); (k_dflt (k_extra "evTH")); (intro hp9; k_dflt (k_extra "evTH")))
  k_with "evTH" => ((with_reducible apply evTH_of); (k_dflt (k_extra "evT")))
  trivial
theorem lfirst_snoc {act : List Int} {pre : List Int} {v : Int} : lfirst act (pre ++ [v]) = if lfirst act pre = 0 ∨ act.getD (lfirst act pre).toNat 0 < act.getD v.toNat 0 ∨ (act.getD v.toNat 0 = act.getD (lfirst act pre).toNat 0 ∧ v < lfirst act pre) then v else lfirst act pre := by
  unfold lfirst; rw [List.foldl_append]; rfl
theorem lf_pos {act : List Int} {pre : List Int} {v b : Int} (e : b = lfirst act pre) (h : b = 0 ∨ act.getD b.toNat 0 < act.getD v.toNat 0 ∨ (act.getD v.toNat 0 = act.getD b.toNat 0 ∧ v < b)) : v = lfirst act (pre ++ [v]) := by subst e; rw [lfirst_snoc, if_pos h]
theorem lf_neg {act : List Int} {pre : List Int} {v b : Int} (e : b = lfirst act pre) (h : ¬ (b = 0 ∨ act.getD b.toNat 0 < act.getD v.toNat 0 ∨ (act.getD v.toNat 0 = act.getD b.toNat 0 ∧ v < b))) : b = lfirst act (pre ++ [v]) := by subst e; rw [lfirst_snoc, if_neg h]
theorem lf_mem {α : Type} {l pre post : List α} {v : α} (h : l = pre ++ v :: post) : v ∈ l := by subst h; simp
section
variable {la lq : Addr} {va vq : List Value} {na nq : Nat} {act held : List Int}
set_option maxHeartbeats 8000000 in
theorem c_first (ia : IntsAre va act) (iq : IntsAre vq held) (hn : act.length ≤ 10) (hq : ∀ v ∈ held, 0 ≤ v ∧ v < act.length) :
    Ctr 2 20 186 [.ref la, .ref lq] (fun _ => [(la, listOf va.toArray na), (lq, listOf vq.toArray nq)])
      (fun _ k => ∀ t, k (.int (lfirst act held) t) [(la, listOf va.toArray na), (lq, listOf vq.toArray nq)]) := by
  k_extra "open"
  k_with "wend" => (first
    | (refine' hnext (_, _) _ _ _ ⟨lf_pos hP.1 hp9, hv.1, Or.inr hv.2⟩ ?hm1 ?hs1 F9 N9; (case hs1 => with_reducible assumption); (case hm1 => k_extra "meq"))
    | (refine' hnext (_, _) _ _ _ ⟨lf_neg hP.1 hp9, hP.2.1, hP.2.2⟩ ?hm1 ?hs1 F9 N9; (case hs1 => with_reducible assumption); (case hm1 => k_extra "meq")))
  k_with "pyIter ref" => (
    (with_reducible show wpAny _ _ (pyIter _) (fun it s₂ => LoopAtV _ _ _ _ _ _ _ _ _ it s₂) _ _); (try dsimp only); k_dflt (
    refine' forL (σ := Int × Tok) (l := lq) (vs := vq) (ns := held) (nn := nq) (fun c => [(la, listOf va.toArray na), (lq, listOf vq.toArray nq)]) (fun c => upd _ "best" (some (.int c.1 c.2))) (fun pre c => c.1 = lfirst act pre ∧ 0 ≤ c.1 ∧ (c.1 = 0 ∨ c.1 < act.length)) (0, _) (by assumption) (by assumption) (by k_extra "meq") ⟨rfl, by omega, Or.inl rfl⟩ (by (intro c9; k_memK)) iq rfl ?_ ?_;
    (intro c pre post k t h1 tk1 I oI q1 hns hsep hP F9 N9 hnext hbrk hret1; (try dsimp only at F9 N9 hP); (have hv := hq k (lf_mem hns)); (have hb1 := hP.2.1); (have hb2 := hP.2.2); (try k_sweep));
    rotate_left;
    (intro c u h1 tk1 hP F9 N9; (try dsimp only at F9 N9 hP); (have e9 := hP.1); (try k_sweep));
    rotate_right))
  k_with "KEnd" => (refine kEnd_eq (int_of e9.symm) (hret _ _ _ _ F9 N9))
  k_extra "steps"
end
example : True := by
  k_with_none
  k_with "A" => (with_reducible assumption)
  k_with "R" => (k_dflt (exact rfl))
  k_with "F" => (k_dflt (exact fun _ => rfl))
  k_with "G" => (k_dflt (exact fun _ _ => rfl))
  k_with "steps" => (repeat' (first | walk1 | (dsimp only; walk1) | fail "no step"))
  k_with "k_ne" => (first | (k_extra "A") | (refine Ne.symm ?_; with_reducible assumption))
  k_with "ints" => (first | with_reducible assumption | exact ints_set (by k_extra "ints") _ | exact ints_app1 (by k_extra "ints") _ _ | fail "no ints")
  k_with "pre0" => (first | with_reducible assumption | (with_reducible exact le_w (by assumption) rfl) | (with_reducible exact le_we (by assumption) (by assumption) rfl) | (with_reducible exact lt_we (by assumption) (by assumption)) | omega | (simp only [List.length_set, List.length_append, List.length_cons, List.length_nil, List.length_map]; omega) | k_extra "pre")
  k_with "mono" => (intro _ _ _ hk x; (intros; refine hk _ _ ?_; first | exact x | (apply x <;> assumption)))
  k_with "open" => (
    refine' ctr_intro ?mono ?ho ?hcd ?hb ?hloc ?c2 ?c3 ?c4 ?c5 ?_;
    (case ho => (intro P; k_is)); (case hcd => (intro P; k_is)); (case hb => exact fun s => BindsTo.of_eq rfl); (case hloc => exact locs rfl); (case c2 => exact rfl); (case c3 => exact rfl); (case c4 => exact rfl); (case c5 => decide); (case mono => k_extra "mono");
    intro G h gs dr tk0 os q B F X N T l1 hD hU hret;
    unfold led at N)
  k_with "evI" => (first
    | ((with_reducible apply evI_name); (k_extra "R"); (k_extra "R"))
    | (with_reducible exact evI_const)
    | ((with_reducible apply evI_neg); (k_dflt (k_extra "evI")))
    | ((with_reducible apply evI_op); (k_dflt (k_extra "evI")); (k_dflt (k_extra "evI")); (k_dflt (k_extra "iop")))
    | ((with_reducible apply evI_sub); (k_dflt (k_extra "evV")); (k_dflt (k_extra "evI")); (k_dflt k_memK); (k_dflt (k_extra "ints")); (k_dflt (k_extra "pre0")); (k_dflt (k_extra "pre0")); (k_dflt (k_extra "pre0")); (k_extra "F"))
    | ((with_reducible apply evI_limit); (k_dflt (k_extra "evV")); (k_extra "A"); (k_dflt k_memK); (k_dflt k_memK))
    | ((with_reducible apply evI_step); (k_dflt (k_extra "evV")); (k_extra "A"); (k_dflt k_memK); (k_dflt k_memK))
    | ((with_reducible apply evI_len); (k_extra "A"); (exact topRead_of (by with_reducible assumption)); (k_extra "R"); (k_dflt (k_extra "evV")); (k_extra "G"); (k_extra "F"); (k_dflt k_memK); (k_dflt (exact len_cast (by k_extra "ints"))); (k_dflt (k_extra "len9"))))
  k_with "len9" => (rw [IntsAre.length (by k_extra "ints")]; k_extra "pre0")
  k_with "iop" => (first | exact .add | exact .sub | exact .mul (by decide) | exact .fdiv (by decide) (by decide) | exact .mod (by decide))
  k_with "evV" => (first
    | ((with_reducible apply evV_name); (k_extra "R"); (k_extra "R"))
    | ((with_reducible apply evV_heap); (k_dflt (k_extra "evV")); (k_extra "A"); (k_dflt k_memK); (k_dflt k_memK))
    | ((with_reducible apply evV_act); (k_dflt (k_extra "evV")); (k_extra "A"); (k_dflt k_memK); (k_dflt k_memK))
    | ((with_reducible apply evV_place); (k_dflt (k_extra "evV")); (k_extra "A"); (k_dflt k_memK); (k_dflt k_memK)))
  k_with "cop" => (first | exact .lt | exact .le | exact .gt | exact .ge | exact .eq | exact .ne)
  k_with "evT" => (first
    | ((with_reducible apply evT_cmp); (k_dflt (k_extra "evI")); (k_dflt (k_extra "evI")); (k_dflt (k_extra "cop")); (k_extra "R"))
    | ((with_reducible apply evT_not); (k_dflt (k_extra "evT")))
    | ((with_reducible apply evT_and); (k_dflt (k_extra "evT")); (intro hp9; k_dflt (k_extra "evT")))
    | ((with_reducible apply evT_or); (k_dflt (k_extra "evT")); (intro hp9; k_dflt (k_extra "evT"))))
  k_with "exec If" => ((with_reducible apply x_ifH); (k_extra "A"); (k_extra "A"); (k_dflt (k_extra "evTH")); all_goals (k_whole; intro hp9 h9 tk9 F9 N9; (try k_sweep)))
  k_with "exec If" => ((with_reducible apply x_if); (k_extra "A"); (k_extra "A"); (k_dflt (k_extra "evT")); all_goals (k_whole; intro hp9 tk9))
  k_with "execs cons" => (with_reducible refine x_cons ?_)
  k_with "execs cons" => ((with_reducible apply x_setI); (k_extra "A"); (k_extra "A"); (k_dflt (k_extra "evI")); (k_dflt (k_extra "evV")); (k_dflt (k_extra "evI")); (k_dflt (k_extra "updF")); (k_dflt (k_extra "ints")); (k_dflt (k_extra "pre0")); (k_dflt (k_extra "pre0")); (k_dflt (k_extra "pre0")); (k_extra "F"); (k_whole); (intro t9 h9 tk9 F9 N9); (try k_sweep))
  k_with "execs cons" => ((with_reducible apply x_asgV); (k_extra "A"); (k_extra "A"); (k_dflt (k_extra "evV")); (k_extra "R"); (k_extra "F"); (k_whole); (intro h9 tk9 F9 N9); (try k_sweep))
  k_with "execs cons" => ((with_reducible apply x_asgI); (k_extra "A"); (k_extra "A"); (k_dflt (k_extra "evI")); (k_extra "R"); (k_extra "F"); (k_whole); (intro t9 h9 tk9 F9 N9); (try k_sweep))
  k_with "execs cons" => ((with_reducible apply x_retV); (k_extra "A"); (k_extra "A"); (k_dflt (k_extra "evV")); (k_whole); (intro tk9))
  k_with "execs cons" => ((with_reducible apply x_retI); (k_extra "A"); (k_extra "A"); (k_dflt (k_extra "evI")); (k_whole); (intro t9 tk9))
  k_with "execs cons" => ((with_reducible apply x_retC); (k_extra "A"); (k_extra "A"); (k_dflt (k_extra "evI")); (k_dflt (k_extra "evI")); (k_dflt (k_extra "cop")); (k_extra "R"); (k_whole); (intro b9 tk9 hb9))
  k_with "LEnd" => (with_reducible refine lEnd_ ?_; with_reducible first | (refine hret1 _ _ ?_) | (refine hbrk _ ?_) | (k_dflt (k_extra "wend")))
  k_with "eval Call Attribute" => ((with_reducible apply call_meth); (k_extra "A"); (k_extra "A"); (k_extra "mt"); (k_extra "F"); (k_dflt (k_extra "evV")); (k_extra "A"); (k_dflt k_memK); (k_dflt k_memK); (k_extra "R"); (k_dflt (k_extra "evL")); (k_whole); k_dflt (k_extra "args"))
  k_with "evL" => (first | exact .nil | ((with_reducible apply EvL.i); (k_dflt (k_extra "evI")); (k_extra "G"); (k_dflt (k_extra "evL"))) | ((with_reducible apply EvL.v); (k_dflt (k_extra "evV")); (k_extra "G"); (k_dflt (k_extra "evL"))))
  k_with "args" => (first | (refine argK0 ?_; intro tk9) | (refine argK1 ?_; intro t9 tk9) | (refine argK2 ?_; intro t9 t8 tk9) | (refine argKv ?_; intro tk9) | (refine argKvv ?_; intro tk9) | (refine argKvi ?_; intro t9 tk9) | (refine argKvii ?_; intro t9 t8 tk9) | (refine argKvvi ?_; intro t9 tk9) | (refine argKvvv ?_; intro tk9))
  k_with "mt" => (with_reducible first | exact mt_is_before | exact mt_put | exact mt_rise | exact mt_better_child | exact mt_sink | exact mt_push | exact mt_pop | exact mt_pop_best | exact mt_bump | exact mt_decay | exact mt_rescale | exact mt_rebuild | exact mt_grow | exact mt_many | exact mt_is_held | exact mt_size | exact mt_top)
  k_with "storeName" => ((with_reducible apply x_store); (k_extra "A"); (k_extra "A"); (k_extra "R"); (k_whole); (intro h9 tk9 F9 N9); (try k_sweep))
  k_with "call builtin:list.append" => ((with_reducible apply append_U); (k_extra "A"); (k_extra "A"); (k_dflt (k_extra "updF")); (k_dflt (rw [IntsAre.length (by k_extra "ints")]; k_extra "pre0")); (k_whole); (intro h9 tk9 F9 N9); (try k_sweep))
  k_with "call builtin:list.pop" => ((with_reducible apply pop_U); (k_extra "A"); (k_extra "A"); (k_dflt (k_extra "updF")); (k_dflt (k_extra "ints")); (k_dflt (k_extra "pre0")); (k_dflt (k_extra "pre0")); (k_whole); (intro t9 h9 tk9 F9 N9 ip9); (try k_sweep))
  k_with "eval Attribute Name" => ((with_reducible apply useV); (k_extra "A"); (k_extra "A"); (k_dflt (k_extra "evV")); (k_whole); (intro tk9))
  k_with "eval BinOp" => ((with_reducible apply useI); (k_extra "A"); (k_extra "A"); (k_dflt (k_extra "evI")); (k_whole); (intro t9 tk9))
  k_with "eval Subscript" => ((with_reducible apply useI); (k_extra "A"); (k_extra "A"); (k_dflt (k_extra "evI")); (k_whole); (intro t9 tk9))
  k_with "isTrue Compare" => ((with_reducible apply useT); (k_extra "A"); (k_extra "A"); (k_dflt (k_extra "evT")); all_goals (k_whole; intro hp9 tk9))
  k_with "execs nil" => (with_reducible refine wpAny_execs_nil ?_)
  k_with "SeqK" => (with_reducible first | refine seq_next ?_ | refine seq_ret ?_ | refine seq_brk ?_ | refine seq_cont ?_)
  k_with "updF" => (first | exact upH (by with_reducible assumption) | exact upP (by with_reducible assumption) | exact upA (by with_reducible assumption) | exact upD (by with_reducible assumption) | (refine' .tail ?_ ?_; (k_extra "k_ne"); (k_extra "updF")))
  k_with "room" => (exact room_le (by with_reducible assumption) rfl)
  k_with "hH" => (first | exact fun _ h => h | exact fun _ h => .tail _ h | exact fun _ h => .tail _ (.tail _ h) | exact fun _ h => .tail _ (.tail _ (.tail _ h)) | exact fun _ h => .tail _ (.tail _ (.tail _ (.tail _ h))))
  k_with "spl" => (first | exact spl_led | exact .keep (off5_all (by k_extra "off5")) (by k_extra "spl"))
  k_with "off5" => (k_extra "A")
  k_with "evIH" => ((with_reducible apply evIH_of); (k_dflt (k_extra "evI")))
  k_with "evTH" => ((with_reducible apply evTH_cmp); (k_dflt (k_extra "evIH")); (k_dflt (k_extra "evIH")); (k_dflt (k_extra "cop")); (k_extra "R"))
  k_with "evTH" => ((with_reducible apply evTH_or); (k_dflt (k_extra "evTH")); (intro hp9; k_dflt (k_extra "evTH")))
  k_with "evTH" => ((with_reducible apply evTH_and); (k_dflt (k_extra "evTH")); (intro hp9; k_dflt (k_extra "evTH")))
  k_with "evTH" => ((with_reducible apply evTH_not); (k_dflt (k_extra "evTH")))
  k_with "evTH" => ((with_reducible apply evTH_of); (k_dflt (k_extra "evT")))
  k_with "meq" => (first
    | exact MEq.rf
    | ((with_reducible apply MEq.l); (exact rfl); (k_extra "meq"))
    | ((with_reducible apply MEq.r); (exact rfl); (k_extra "meq"))
    | ((with_reducible apply MEq.n); (exact rfl); (k_extra "meq"))
    | ((with_reducible apply MEq.g); (exact rfl); (k_extra "meq")))
  k_with "openC" => (
    refine' ctr_introC ?mono ?ho ?hcd ?hb ?hkind ?c1 ?c2 ?c3 ?c4 ?c5 ?_;
    (case ho => (intro P; k_is)); (case hcd => (intro P; k_is)); (case hb => exact fun s => BindsTo.of_eq rfl); (case hkind => exact rfl); (case c1 => decide +kernel); (case c2 => exact fun _ => rfl); (case c3 => exact rfl); (case c4 => exact rfl); (case c5 => exact rfl); (case mono => k_extra "mono");
    intro G h gs dr tk0 os q oc B F X N d1 T l1 hD hU hret;
    (have hK := off5_lt l1); (have k1 := hK.1); (have k2 := hK.2.1); (have k3 := hK.2.2.1); (have k4 := hK.2.2.2.1); (have k5 := hK.2.2.2.2); clear l1;
    unfold led at N)
  k_with "evI" => ((with_reducible apply evI_cell); (k_extra "R"); (k_dflt k_memK); (k_extra "A"); (k_extra "R"))
  k_with "evV" => ((with_reducible apply evV_cell); (k_extra "R"); (k_dflt k_memK); (k_extra "A"); (k_extra "R"))
  k_with "setAttr ref" => (first
    | ((with_reducible apply set_step); (k_extra "A"); (k_extra "A"); (k_extra "A"); (k_dflt k_memK); (k_dflt k_memK); (k_dflt (k_extra "updF")); (k_whole); (intro h9 tk9 F9 N9); (try k_sweep))
    | ((with_reducible apply set_act); (k_extra "A"); (k_extra "A"); (k_extra "A"); (k_dflt k_memK); (k_dflt k_memK); (k_dflt (k_extra "updF")); (k_whole); (intro h9 tk9 F9 N9); (try k_sweep)))
  k_with "evI" => ((with_reducible apply evI_glob); (k_extra "A"); (exact topRead_of (by with_reducible assumption)); (with_reducible first | exact gl_first | exact gl_shrink); (k_extra "R"))
  k_with "execs cons" => ((with_reducible apply x_asgIC); (k_extra "A"); (k_extra "A"); (k_dflt (k_extra "evI")); (k_extra "R"); (k_dflt (k_extra "updC")); (k_extra "A"); (k_extra "R"); (k_extra "F"); (k_whole); (intro t9 h9 tk9 o9 F9 N9 d9); (try k_sweep))
  k_with "updC" => (exact upC (by with_reducible assumption))
  k_with "updF" => (first | exact upD1 (by with_reducible assumption) (by with_reducible assumption) | exact upA1 (by with_reducible assumption) (by with_reducible assumption))
  k_with "execs cons" => ((with_reducible apply x_setStep); (k_extra "A"); (k_extra "A"); (k_extra "A"); (k_dflt (k_extra "evI")); (k_dflt (k_extra "evV")); (k_dflt k_memK); (k_dflt k_memK); (k_dflt (k_extra "updF")); (k_extra "F"); (k_whole); (intro t9 h9 tk9 F9 N9); (try k_sweep))
  k_with "evT" => ((with_reducible apply evT_orc); (k_dflt (k_extra "evT")); (intro hp9; k_dflt (k_extra "evT")))
  k_with "evTH" => ((with_reducible apply evTH_orc); (k_dflt (k_extra "evTH")); (intro hp9; k_dflt (k_extra "evTH")))
  k_with "evT" => (first
    | ((with_reducible apply evT_or); (k_dflt (k_extra "evT")); (intro hp9; k_dflt (k_extra "evT"))))
  k_with "evTH" => ((with_reducible apply evTH_or); (k_dflt (k_extra "evTH")); (intro hp9; k_dflt (k_extra "evTH")))
  k_with "evTH" => ((with_reducible apply evTH_of); (k_dflt (k_extra "evT")))
  trivial
section
variable {lb lc : Addr} {vb vc : List Value} {nb nc : Nat} {bef0 aft0 : List Int}
set_option maxHeartbeats 8000000 in
theorem c_in_order (ib : IntsAre vb bef0) (ic : IntsAre vc aft0) (hn : bef0.length ≤ 10) (hl : aft0.length = bef0.length) (hm : ∀ i j : Int, 1 ≤ i → i < bef0.length → 1 ≤ j → j < bef0.length → bef0.getD j.toNat 0 ≤ bef0.getD i.toNat 0 → aft0.getD j.toNat 0 ≤ aft0.getD i.toNat 0) :
    Ctr 2 20 193 [.ref lb, .ref lc] (fun _ => [(lb, listOf vb.toArray nb), (lc, listOf vc.toArray nc)])
      (fun _ k => k (.bool true) [(lb, listOf vb.toArray nb), (lc, listOf vc.toArray nc)]) := by
  k_extra "open"
  k_with "wend" => (refine' hnext _ _ _ _ trivial ?hm1 ?hs1 F9 N9; (case hs1 => with_reducible assumption); (case hm1 => k_extra "meq"))
  k_with "wend" => (refine' hnext () _ _ _ trivial ?hm1 ?hs1 F9 N9; (case hs1 => with_reducible assumption); (case hm1 => k_extra "meq"))
  k_with "LEnd" => (k_dflt (refine absurd (hm _ _ ?z1 ?z2 ?z3 ?z4 hp9.1) (Int.not_le.mpr hp9.2); all_goals omega))
  k_with "pyIter ref" => (
    (with_reducible show wpAny _ _ (pyIter _) (fun it s₂ => LoopAtV _ _ _ _ _ (Str.ofString "one") _ _ _ it s₂) _ _); (try dsimp only);  (rename Fr _ _ _ _ => lF); (rename News _ _ _ _ => lN); (rename IsRange _ _ _ _ _ _ _ _ => rgX); k_dflt (
    refine' forR (σ := Option Value) (fun _ => _) (fun c => upd _ "two" c) (fun _ _ => True) none lF (news_sub lN (by first | exact fun _ h => h | exact fun _ h => .tail _ h)) (by k_extra "meq") trivial rgX (small_one (by omega) (by omega) (by omega) (by omega)) (rangeSize_nat _ _) rfl ?_ ?_;
    all_goals (clear lF lN rgX);
    (intro c pre k t h1 tk1 I oI q1 hns hlt hsep _ F9 N9 hnext hbrk hret1; (try dsimp only at F9 N9); (try k_sweep));
    rotate_left;
    (intro c u h1 tk1 hP F9 N9; (try dsimp only at F9 N9); (try k_sweep));
    rotate_right))
  k_with "pyIter ref" => (
    (with_reducible show wpAny _ _ (pyIter _) (fun it s₂ => LoopAtV _ _ _ _ _ (Str.ofString "two") _ _ _ it s₂) _ _); (try dsimp only);  (rename Fr _ _ _ _ => lF); (rename News _ _ _ _ => lN); (rename IsRange _ _ _ _ _ _ _ _ => rgX); k_dflt (
    refine' forR (σ := Unit) (fun _ => _) (fun _ => _) (fun _ _ => True) () lF (news_sub lN (by first | exact fun _ h => h | exact fun _ h => .tail _ h)) MEq.rf trivial rgX (small_one (by omega) (by omega) (by omega) (by omega)) (rangeSize_nat _ _) rfl ?_ ?_;
    all_goals (clear lF lN rgX);
    (intro c pre k t h1 tk1 I oI q1 hns hlt hsep _ F9 N9 hnext hbrk hret1; (try dsimp only at F9 N9); (try k_sweep));
    rotate_left;
    (intro c u h1 tk1 hP F9 N9; (try dsimp only at F9 N9); (try k_sweep));
    rotate_right))
  k_with "KEnd" => (refine kEnd_ret (hret _ _ _ F9 N9))
  k_extra "steps"
end
example : True := by
  k_with_none
  k_with "A" => (with_reducible assumption)
  k_with "R" => (k_dflt (exact rfl))
  k_with "F" => (k_dflt (exact fun _ => rfl))
  k_with "G" => (k_dflt (exact fun _ _ => rfl))
  k_with "steps" => (repeat' (first | walk1 | (dsimp only; walk1) | fail "no step"))
  k_with "k_ne" => (first | (k_extra "A") | (refine Ne.symm ?_; with_reducible assumption))
  k_with "ints" => (first | with_reducible assumption | exact ints_set (by k_extra "ints") _ | exact ints_app1 (by k_extra "ints") _ _ | fail "no ints")
  k_with "pre0" => (first | with_reducible assumption | (with_reducible exact le_w (by assumption) rfl) | (with_reducible exact le_we (by assumption) (by assumption) rfl) | (with_reducible exact lt_we (by assumption) (by assumption)) | omega | (simp only [List.length_set, List.length_append, List.length_cons, List.length_nil, List.length_map]; omega) | k_extra "pre")
  k_with "mono" => (intro _ _ _ hk x; (intros; refine hk _ _ ?_; first | exact x | (apply x <;> assumption)))
  k_with "open" => (
    refine' ctr_intro ?mono ?ho ?hcd ?hb ?hloc ?c2 ?c3 ?c4 ?c5 ?_;
    (case ho => (intro P; k_is)); (case hcd => (intro P; k_is)); (case hb => exact fun s => BindsTo.of_eq rfl); (case hloc => exact locs rfl); (case c2 => exact rfl); (case c3 => exact rfl); (case c4 => exact rfl); (case c5 => decide); (case mono => k_extra "mono");
    intro G h gs dr tk0 os q B F X N T l1 hD hU hret;
    unfold led at N)
  k_with "evI" => (first
    | ((with_reducible apply evI_name); (k_extra "R"); (k_extra "R"))
    | (with_reducible exact evI_const)
    | ((with_reducible apply evI_neg); (k_dflt (k_extra "evI")))
    | ((with_reducible apply evI_op); (k_dflt (k_extra "evI")); (k_dflt (k_extra "evI")); (k_dflt (k_extra "iop")))
    | ((with_reducible apply evI_sub); (k_dflt (k_extra "evV")); (k_dflt (k_extra "evI")); (k_dflt k_memK); (k_dflt (k_extra "ints")); (k_dflt (k_extra "pre0")); (k_dflt (k_extra "pre0")); (k_dflt (k_extra "pre0")); (k_extra "F"))
    | ((with_reducible apply evI_limit); (k_dflt (k_extra "evV")); (k_extra "A"); (k_dflt k_memK); (k_dflt k_memK))
    | ((with_reducible apply evI_step); (k_dflt (k_extra "evV")); (k_extra "A"); (k_dflt k_memK); (k_dflt k_memK))
    | ((with_reducible apply evI_len); (k_extra "A"); (exact topRead_of (by with_reducible assumption)); (k_extra "R"); (k_dflt (k_extra "evV")); (k_extra "G"); (k_extra "F"); (k_dflt k_memK); (k_dflt (exact len_cast (by k_extra "ints"))); (k_dflt (k_extra "len9"))))
  k_with "len9" => (rw [IntsAre.length (by k_extra "ints")]; k_extra "pre0")
  k_with "iop" => (first | exact .add | exact .sub | exact .mul (by decide) | exact .fdiv (by decide) (by decide) | exact .mod (by decide))
  k_with "evV" => (first
    | ((with_reducible apply evV_name); (k_extra "R"); (k_extra "R"))
    | ((with_reducible apply evV_heap); (k_dflt (k_extra "evV")); (k_extra "A"); (k_dflt k_memK); (k_dflt k_memK))
    | ((with_reducible apply evV_act); (k_dflt (k_extra "evV")); (k_extra "A"); (k_dflt k_memK); (k_dflt k_memK))
    | ((with_reducible apply evV_place); (k_dflt (k_extra "evV")); (k_extra "A"); (k_dflt k_memK); (k_dflt k_memK)))
  k_with "cop" => (first | exact .lt | exact .le | exact .gt | exact .ge | exact .eq | exact .ne)
  k_with "evT" => (first
    | ((with_reducible apply evT_cmp); (k_dflt (k_extra "evI")); (k_dflt (k_extra "evI")); (k_dflt (k_extra "cop")); (k_extra "R"))
    | ((with_reducible apply evT_not); (k_dflt (k_extra "evT")))
    | ((with_reducible apply evT_and); (k_dflt (k_extra "evT")); (intro hp9; k_dflt (k_extra "evT")))
    | ((with_reducible apply evT_or); (k_dflt (k_extra "evT")); (intro hp9; k_dflt (k_extra "evT"))))
  k_with "exec If" => ((with_reducible apply x_ifH); (k_extra "A"); (k_extra "A"); (k_dflt (k_extra "evTH")); all_goals (k_whole; intro hp9 h9 tk9 F9 N9; (try k_sweep)))
  k_with "exec If" => ((with_reducible apply x_if); (k_extra "A"); (k_extra "A"); (k_dflt (k_extra "evT")); all_goals (k_whole; intro hp9 tk9))
  k_with "execs cons" => (with_reducible refine x_cons ?_)
  k_with "execs cons" => ((with_reducible apply x_setI); (k_extra "A"); (k_extra "A"); (k_dflt (k_extra "evI")); (k_dflt (k_extra "evV")); (k_dflt (k_extra "evI")); (k_dflt (k_extra "updF")); (k_dflt (k_extra "ints")); (k_dflt (k_extra "pre0")); (k_dflt (k_extra "pre0")); (k_dflt (k_extra "pre0")); (k_extra "F"); (k_whole); (intro t9 h9 tk9 F9 N9); (try k_sweep))
  k_with "execs cons" => ((with_reducible apply x_asgV); (k_extra "A"); (k_extra "A"); (k_dflt (k_extra "evV")); (k_extra "R"); (k_extra "F"); (k_whole); (intro h9 tk9 F9 N9); (try k_sweep))
  k_with "execs cons" => ((with_reducible apply x_asgI); (k_extra "A"); (k_extra "A"); (k_dflt (k_extra "evI")); (k_extra "R"); (k_extra "F"); (k_whole); (intro t9 h9 tk9 F9 N9); (try k_sweep))
  k_with "execs cons" => ((with_reducible apply x_retV); (k_extra "A"); (k_extra "A"); (k_dflt (k_extra "evV")); (k_whole); (intro tk9))
  k_with "execs cons" => ((with_reducible apply x_retI); (k_extra "A"); (k_extra "A"); (k_dflt (k_extra "evI")); (k_whole); (intro t9 tk9))
  k_with "execs cons" => ((with_reducible apply x_retC); (k_extra "A"); (k_extra "A"); (k_dflt (k_extra "evI")); (k_dflt (k_extra "evI")); (k_dflt (k_extra "cop")); (k_extra "R"); (k_whole); (intro b9 tk9 hb9))
  k_with "LEnd" => (with_reducible refine lEnd_ ?_; with_reducible first | (refine hret1 _ _ ?_) | (refine hbrk _ ?_) | (k_dflt (k_extra "wend")))
  k_with "eval Call Attribute" => ((with_reducible apply call_meth); (k_extra "A"); (k_extra "A"); (k_extra "mt"); (k_extra "F"); (k_dflt (k_extra "evV")); (k_extra "A"); (k_dflt k_memK); (k_dflt k_memK); (k_extra "R"); (k_dflt (k_extra "evL")); (k_whole); k_dflt (k_extra "args"))
  k_with "evL" => (first | exact .nil | ((with_reducible apply EvL.i); (k_dflt (k_extra "evI")); (k_extra "G"); (k_dflt (k_extra "evL"))) | ((with_reducible apply EvL.v); (k_dflt (k_extra "evV")); (k_extra "G"); (k_dflt (k_extra "evL"))))
  k_with "args" => (first | (refine argK0 ?_; intro tk9) | (refine argK1 ?_; intro t9 tk9) | (refine argK2 ?_; intro t9 t8 tk9) | (refine argKv ?_; intro tk9) | (refine argKvv ?_; intro tk9) | (refine argKvi ?_; intro t9 tk9) | (refine argKvii ?_; intro t9 t8 tk9) | (refine argKvvi ?_; intro t9 tk9) | (refine argKvvv ?_; intro tk9))
  k_with "mt" => (with_reducible first | exact mt_is_before | exact mt_put | exact mt_rise | exact mt_better_child | exact mt_sink | exact mt_push | exact mt_pop | exact mt_pop_best | exact mt_bump | exact mt_decay | exact mt_rescale | exact mt_rebuild | exact mt_grow | exact mt_many | exact mt_is_held | exact mt_size | exact mt_top)
  k_with "storeName" => ((with_reducible apply x_store); (k_extra "A"); (k_extra "A"); (k_extra "R"); (k_whole); (intro h9 tk9 F9 N9); (try k_sweep))
  k_with "call builtin:list.append" => ((with_reducible apply append_U); (k_extra "A"); (k_extra "A"); (k_dflt (k_extra "updF")); (k_dflt (rw [IntsAre.length (by k_extra "ints")]; k_extra "pre0")); (k_whole); (intro h9 tk9 F9 N9); (try k_sweep))
  k_with "call builtin:list.pop" => ((with_reducible apply pop_U); (k_extra "A"); (k_extra "A"); (k_dflt (k_extra "updF")); (k_dflt (k_extra "ints")); (k_dflt (k_extra "pre0")); (k_dflt (k_extra "pre0")); (k_whole); (intro t9 h9 tk9 F9 N9 ip9); (try k_sweep))
  k_with "eval Attribute Name" => ((with_reducible apply useV); (k_extra "A"); (k_extra "A"); (k_dflt (k_extra "evV")); (k_whole); (intro tk9))
  k_with "eval BinOp" => ((with_reducible apply useI); (k_extra "A"); (k_extra "A"); (k_dflt (k_extra "evI")); (k_whole); (intro t9 tk9))
  k_with "eval Subscript" => ((with_reducible apply useI); (k_extra "A"); (k_extra "A"); (k_dflt (k_extra "evI")); (k_whole); (intro t9 tk9))
  k_with "isTrue Compare" => ((with_reducible apply useT); (k_extra "A"); (k_extra "A"); (k_dflt (k_extra "evT")); all_goals (k_whole; intro hp9 tk9))
  k_with "execs nil" => (with_reducible refine wpAny_execs_nil ?_)
  k_with "SeqK" => (with_reducible first | refine seq_next ?_ | refine seq_ret ?_ | refine seq_brk ?_ | refine seq_cont ?_)
  k_with "updF" => (first | exact upH (by with_reducible assumption) | exact upP (by with_reducible assumption) | exact upA (by with_reducible assumption) | exact upD (by with_reducible assumption) | (refine' .tail ?_ ?_; (k_extra "k_ne"); (k_extra "updF")))
  k_with "room" => (exact room_le (by with_reducible assumption) rfl)
  k_with "hH" => (first | exact fun _ h => h | exact fun _ h => .tail _ h | exact fun _ h => .tail _ (.tail _ h) | exact fun _ h => .tail _ (.tail _ (.tail _ h)) | exact fun _ h => .tail _ (.tail _ (.tail _ (.tail _ h))))
  k_with "spl" => (first | exact spl_led | exact .keep (off5_all (by k_extra "off5")) (by k_extra "spl"))
  k_with "off5" => (k_extra "A")
  k_with "evIH" => ((with_reducible apply evIH_of); (k_dflt (k_extra "evI")))
  k_with "evTH" => ((with_reducible apply evTH_cmp); (k_dflt (k_extra "evIH")); (k_dflt (k_extra "evIH")); (k_dflt (k_extra "cop")); (k_extra "R"))
  k_with "evTH" => ((with_reducible apply evTH_or); (k_dflt (k_extra "evTH")); (intro hp9; k_dflt (k_extra "evTH")))
  k_with "evTH" => ((with_reducible apply evTH_and); (k_dflt (k_extra "evTH")); (intro hp9; k_dflt (k_extra "evTH")))
  k_with "evTH" => ((with_reducible apply evTH_not); (k_dflt (k_extra "evTH")))
  k_with "evTH" => ((with_reducible apply evTH_of); (k_dflt (k_extra "evT")))
  k_with "meq" => (first
    | exact MEq.rf
    | ((with_reducible apply MEq.l); (exact rfl); (k_extra "meq"))
    | ((with_reducible apply MEq.r); (exact rfl); (k_extra "meq"))
    | ((with_reducible apply MEq.n); (exact rfl); (k_extra "meq"))
    | ((with_reducible apply MEq.g); (exact rfl); (k_extra "meq")))
  k_with "openC" => (
    refine' ctr_introC ?mono ?ho ?hcd ?hb ?hkind ?c1 ?c2 ?c3 ?c4 ?c5 ?_;
    (case ho => (intro P; k_is)); (case hcd => (intro P; k_is)); (case hb => exact fun s => BindsTo.of_eq rfl); (case hkind => exact rfl); (case c1 => decide +kernel); (case c2 => exact fun _ => rfl); (case c3 => exact rfl); (case c4 => exact rfl); (case c5 => exact rfl); (case mono => k_extra "mono");
    intro G h gs dr tk0 os q oc B F X N d1 T l1 hD hU hret;
    (have hK := off5_lt l1); (have k1 := hK.1); (have k2 := hK.2.1); (have k3 := hK.2.2.1); (have k4 := hK.2.2.2.1); (have k5 := hK.2.2.2.2); clear l1;
    unfold led at N)
  k_with "evI" => ((with_reducible apply evI_cell); (k_extra "R"); (k_dflt k_memK); (k_extra "A"); (k_extra "R"))
  k_with "evV" => ((with_reducible apply evV_cell); (k_extra "R"); (k_dflt k_memK); (k_extra "A"); (k_extra "R"))
  k_with "setAttr ref" => (first
    | ((with_reducible apply set_step); (k_extra "A"); (k_extra "A"); (k_extra "A"); (k_dflt k_memK); (k_dflt k_memK); (k_dflt (k_extra "updF")); (k_whole); (intro h9 tk9 F9 N9); (try k_sweep))
    | ((with_reducible apply set_act); (k_extra "A"); (k_extra "A"); (k_extra "A"); (k_dflt k_memK); (k_dflt k_memK); (k_dflt (k_extra "updF")); (k_whole); (intro h9 tk9 F9 N9); (try k_sweep)))
  k_with "evI" => ((with_reducible apply evI_glob); (k_extra "A"); (exact topRead_of (by with_reducible assumption)); (with_reducible first | exact gl_first | exact gl_shrink); (k_extra "R"))
  k_with "execs cons" => ((with_reducible apply x_asgIC); (k_extra "A"); (k_extra "A"); (k_dflt (k_extra "evI")); (k_extra "R"); (k_dflt (k_extra "updC")); (k_extra "A"); (k_extra "R"); (k_extra "F"); (k_whole); (intro t9 h9 tk9 o9 F9 N9 d9); (try k_sweep))
  k_with "updC" => (exact upC (by with_reducible assumption))
  k_with "updF" => (first | exact upD1 (by with_reducible assumption) (by with_reducible assumption) | exact upA1 (by with_reducible assumption) (by with_reducible assumption))
  k_with "execs cons" => ((with_reducible apply x_setStep); (k_extra "A"); (k_extra "A"); (k_extra "A"); (k_dflt (k_extra "evI")); (k_dflt (k_extra "evV")); (k_dflt k_memK); (k_dflt k_memK); (k_dflt (k_extra "updF")); (k_extra "F"); (k_whole); (intro t9 h9 tk9 F9 N9); (try k_sweep))
  k_with "evT" => ((with_reducible apply evT_orc); (k_dflt (k_extra "evT")); (intro hp9; k_dflt (k_extra "evT")))
  k_with "evTH" => ((with_reducible apply evTH_orc); (k_dflt (k_extra "evTH")); (intro hp9; k_dflt (k_extra "evTH")))
  k_with "evT" => (first
    | ((with_reducible apply evT_or); (k_dflt (k_extra "evT")); (intro hp9; k_dflt (k_extra "evT"))))
  k_with "evTH" => ((with_reducible apply evTH_or); (k_dflt (k_extra "evTH")); (intro hp9; k_dflt (k_extra "evTH")))
  k_with "evTH" => ((with_reducible apply evTH_of); (k_dflt (k_extra "evT")))
  k_with "eval Call Name" => ((with_reducible apply call_fun); (k_extra "A"); (k_extra "A"); (k_extra "A"); (exact topRead_of (by with_reducible assumption)); (k_extra "fn"); (k_extra "R"); (k_extra "F"); (k_dflt (k_extra "evL")); (k_whole); k_dflt (k_extra "args"))
  k_with "fn" => (with_reducible first | exact fn_first | exact fn_in_order | exact fn_small | exact fn_bumped | exact fn_decayed | exact fn_same | exact fn_values | exact fn_best)
  k_with "hH" => k_allIn
  k_with "spl" => (first
    | exact .nil
    | (refine' .drop ?_ ?_; (first | exact .head _ | exact .tail _ (.head _) | exact .tail _ (.tail _ (.head _))); (k_extra "spl"))
    | (refine' .keep ?_ ?_; (k_extra "neall"); (k_extra "spl")))
  k_with "neall" => (first | exact List.forall_mem_nil _ | (refine List.forall_mem_cons.mpr ⟨?_, ?_⟩; (k_extra "k_ne"); (k_extra "neall")))
  k_with "args" => (refine argKv ?_; intro tk9)
  k_with "spl" => (exact spl2 (by with_reducible assumption) (by with_reducible assumption))
  k_with "evT" => ((with_reducible apply evT_chain); (k_dflt (k_extra "evI")); (k_dflt (k_extra "evI")); (k_dflt (k_extra "evI")); (k_dflt (k_extra "cop")); (k_dflt (k_extra "cop")); (k_extra "R"))
  k_with "evTH" => ((with_reducible apply evTH_minlt); (k_extra "R"); (k_extra "A"); (exact topRead_of (by with_reducible assumption)); (k_extra "R"); (k_dflt (k_extra "evV")); (k_dflt (k_extra "evI")); (k_extra "G"); (k_extra "F"); (k_dflt k_memK); (k_dflt (k_extra "ints")); (k_dflt (k_extra "pre0")); (k_dflt (k_extra "pre0")); (k_extra "R"))
  k_with "evTH" => ((with_reducible apply evTH_maxgt); (k_extra "R"); (k_extra "A"); (exact topRead_of (by with_reducible assumption)); (k_extra "R"); (k_dflt (k_extra "evV")); (k_dflt (k_extra "evI")); (k_extra "G"); (k_extra "F"); (k_dflt k_memK); (k_dflt (k_extra "ints")); (k_dflt (k_extra "pre0")); (k_dflt (k_extra "pre0")); (k_extra "R"))
  k_with "execs cons" => ((with_reducible apply x_copy); (k_extra "A"); (k_extra "A"); (k_extra "A"); (exact topRead_of (by with_reducible assumption)); (k_extra "R"); (k_extra "R"); (k_dflt (k_extra "evV")); (k_extra "G"); (k_extra "F"); (k_dflt k_memK); (k_dflt (k_extra "len9")); (k_extra "F"); (k_whole); (intro D9 c9 h9 tk9 f9 F9 N9); (try k_sweep); (k_extra "fresh"))
  k_with "fresh" => skip
  k_with "call ref" => ((with_reducible show wpAny _ _ (call (Value.ref 193) _) _ _ _); k_dflt (refine' ctr_use (c_in_order ?a0 ?a1 ?a2 ?a3 ?a4) G ?F ?N ?B ?X ?T ?hk ?hH ?hR ?hd ?hu ?_; (case F => assumption); (case N => assumption); (case hH => k_extra "hH"); (case hR => k_extra "spl"); (case a0 => k_extra "ints"); (case a1 => k_extra "ints"); (case a2 => k_extra "pre0"); (case a3 => k_extra "pre0"); (case a4 => k_extra "pre0"); (case B => assumption); (case X => assumption); (case T => assumption); (case hk => exact rfl); (case hd => k_extra "room"); (case hu => k_extra "room"); k_whole; intro  h9 tk9 F9 N9 ap9; (try dsimp only [led, List.cons_append, List.nil_append] at N9); clear ap9; (try k_sweep)))
  k_with "call ref" => ((with_reducible show wpAny _ _ (call (Value.ref 193) _) _ _ _); k_dflt (refine' ctr_use0 (c_in_order ?a0 ?a1 ?a2 ?a3 ?a4) G ?F ?N ?B ?X ?T ?hk ?hd ?hu ?_; (case F => assumption); (case N => assumption); (case a0 => k_extra "ints"); (case a1 => k_extra "ints"); (case a2 => k_extra "pre0"); (case a3 => k_extra "pre0"); (case a4 => k_extra "pre0"); (case B => assumption); (case X => assumption); (case T => assumption); (case hk => exact rfl); (case hd => k_extra "room"); (case hu => k_extra "room"); k_whole; intro  h9 tk9 F9 N9 ap9; (try dsimp only [led, List.cons_append, List.nil_append] at N9); clear ap9; (try k_sweep)))
  trivial
section
variable {o dx la lh lp lb : Addr} {t1 t2 t3 t4 t5 tl ts : Tok} {limit step : Int} {va vh vp vb : List Value} {na nh np nb : Nat} {act hp pl bef0 : List Int}
set_option maxHeartbeats 8000000 in
theorem c_small {u1 : Tok} (hO : Ord5 o dx la lh lp) (hK : Off5 lb o dx la lh lp) (ia : IntsAre va act) (ib : IntsAre vb bef0) (hn : act.length ≤ 10) (hn1 : 1 ≤ act.length) (hl : act.length = bef0.length) (hs : 0 < step) (hs2 : step ≤ limit) (hab : ∀ a ∈ act, 0 ≤ a ∧ a ≤ limit)
    (hm : ∀ i j : Int, 1 ≤ i → i < bef0.length → 1 ≤ j → j < bef0.length → bef0.getD j.toNat 0 ≤ bef0.getD i.toNat 0 → act.getD j.toNat 0 ≤ act.getD i.toNat 0) :
    Ctr 4 40 200 [.ref o, .int limit u1, .ref lb] (fun P => (lb, listOf vb.toArray nb) :: led P o dx la lh lp t1 t2 t3 t4 t5 tl ts limit step va vh vp na nh np)
      (fun P k => k (.bool true) ((lb, listOf vb.toArray nb) :: led P o dx la lh lp t1 t2 t3 t4 t5 tl ts limit step va vh vp na nh np)) := by
  have hab1 : ∀ a ∈ act, 0 ≤ a := fun a h => (hab a h).1
  have hab2 : ∀ a ∈ act, a ≤ limit := fun a h => (hab a h).2
  k_extra "open"
  k_with "fresh" => (k_dflt (have hL : Off5 D9 o dx la lh lp := off5_new (P := G.w.params) (va := va) (vh := vh) (vp := vp) (na := na) (nh := nh) (np := np) (t1 := t1) (t2 := t2) (t3 := t3) (t4 := t4) (t5 := t5) (tl := tl) (ts := ts) (limit := limit) (step := step) fun q hq => f9 q (.tail _ hq)))
  k_with "KEnd" => (exfalso; rw [or_false, or_false] at hp9; omega)
  k_with "KEnd" => (exact kEnd_ret (hret _ _ _ F9 (news_sub N9 (by (unfold led; k_allIn)))))
  k_extra "steps"
end
section
variable {o dx la lh lp lb : Addr} {t1 t2 t3 t4 t5 tl ts : Tok} {limit step : Int} {va vh vp vb : List Value} {na nh np nb : Nat} {act hp pl bef0 : List Int}
variable {cn : Str} {cs : Scope} {a : Addr} {ccd : Value} {cl : List (Str × Addr)} {m : Str → Option Value} {news Rr : Led} {g : Str} {xp pos : Pos} {e1 e2 e3 : PySem.Expr} {G : GC}
theorem evBH_small (B : Below G.A₀ G.base G.outer G.h₀) (X : (K39 G.w.params).In G.h₀) (T : Top G.p G.loose G.mean G.mg G.mb G.h₀) (hd : G.dp + 4 < recursionLimit) (hu : G.un + 40 < cLine) (hk : cs.kind = .function) (hx : nmOk cs .globalImplicit "_law_small" = true)
    (g1 : EvV (EC.mk cn cs a ccd cl G.prog G.w (ktrTop G.dp G.un G.gd cn cs G.L a ccd cl G.outer) G.h₀ G.L m news) e1 (.ref o)) (g2 : EvI (EC.mk cn cs a ccd cl G.prog G.w (ktrTop G.dp G.un G.gd cn cs G.L a ccd cl G.outer) G.h₀ G.L m news) e2 limit) (g3 : EvV (EC.mk cn cs a ccd cl G.prog G.w (ktrTop G.dp G.un G.gd cn cs G.L a ccd cl G.outer) G.h₀ G.L m news) e3 (.ref lb))
    (hH : ∀ q ∈ (lb, listOf vb.toArray nb) :: led G.w.params o dx la lh lp t1 t2 t3 t4 t5 tl ts limit step va vh vp na nh np, q ∈ news) (hR : Spl [lb, o, dx, la, lh, lp] news Rr)
    (hO : Ord5 o dx la lh lp) (hK : Off5 lb o dx la lh lp) (ia : IntsAre va act) (ib : IntsAre vb bef0) (hn : act.length ≤ 10) (hn1 : 1 ≤ act.length) (hl : act.length = bef0.length) (hs : 0 < step) (hs2 : step ≤ limit) (hab : ∀ a ∈ act, 0 ≤ a ∧ a ≤ limit)
    (hm : ∀ i j : Int, 1 ≤ i → i < bef0.length → 1 ≤ j → j < bef0.length → bef0.getD j.toNat 0 ≤ bef0.getD i.toNat 0 → act.getD j.toNat 0 ≤ act.getD i.toNat 0)
    (q1 : ∀ rest env, starEach (e1 :: rest) env = (false, eval e1 env) :: starEach rest env) (q2 : ∀ rest env, starEach (e2 :: rest) env = (false, eval e2 env) :: starEach rest env) (q3 : ∀ rest env, starEach (e3 :: rest) env = (false, eval e3 env) :: starEach rest env)
    (he : ∀ env, eval (.Call (.Name "_law_small" xp) [e1, e2, e3] [] pos) env = (do callWith pos (← eval (.Name "_law_small" xp) env) [] (backTo pos (starEach [e1, e2, e3] env)) (backToKw pos (keywordEach [] env)))) :
    EvBH (EC.mk cn cs a ccd cl G.prog G.w (ktrTop G.dp G.un G.gd cn cs G.L a ccd cl G.outer) G.h₀ G.L m news) (.Call (.Name "_law_small" xp) [e1, e2, e3] [] pos) (true = true) :=
  evBH_fun (D := 4) (U := 40) (f := 200) (sp := [.inl (.ref o), .inr limit, .inl (.ref lb)]) (H := fun P => (lb, listOf vb.toArray nb) :: led P o dx la lh lp t1 t2 t3 t4 t5 tl ts limit step va vh vp na nh np) (fun _ => c_small hO hK ia ib hn hn1 hl hs hs2 hab hm) fn_small B X T hd hu hk hx (.v g1 q1 (.i g2 q2 (.v g3 q3 .nil))) hH hR he
theorem spl6 {k o dx la lh lp : Addr} {x0 x1 x2 x3 x4 x5 : Obj} : Spl [k, o, dx, la, lh, lp] [(k, x0), (o, x1), (dx, x2), (la, x3), (lh, x4), (lp, x5)] [] :=
  .drop (by simp) (.drop (by simp) (.drop (by simp) (.drop (by simp) (.drop (by simp) (.drop (by simp) .nil)))))
end
example : True := by
  k_with_none
  k_with "A" => (with_reducible assumption)
  k_with "R" => (k_dflt (exact rfl))
  k_with "F" => (k_dflt (exact fun _ => rfl))
  k_with "G" => (k_dflt (exact fun _ _ => rfl))
  k_with "steps" => (repeat' (first | walk1 | (dsimp only; walk1) | fail "no step"))
  k_with "k_ne" => (first | (k_extra "A") | (refine Ne.symm ?_; with_reducible assumption))
  k_with "ints" => (first | with_reducible assumption | exact ints_set (by k_extra "ints") _ | exact ints_app1 (by k_extra "ints") _ _ | fail "no ints")
  k_with "pre0" => (first | with_reducible assumption | (with_reducible exact le_w (by assumption) rfl) | (with_reducible exact le_we (by assumption) (by assumption) rfl) | (with_reducible exact lt_we (by assumption) (by assumption)) | omega | (simp only [List.length_set, List.length_append, List.length_cons, List.length_nil, List.length_map]; omega) | k_extra "pre")
  k_with "mono" => (intro _ _ _ hk x; (intros; refine hk _ _ ?_; first | exact x | (apply x <;> assumption)))
  k_with "open" => (
    refine' ctr_intro ?mono ?ho ?hcd ?hb ?hloc ?c2 ?c3 ?c4 ?c5 ?_;
    (case ho => (intro P; k_is)); (case hcd => (intro P; k_is)); (case hb => exact fun s => BindsTo.of_eq rfl); (case hloc => exact locs rfl); (case c2 => exact rfl); (case c3 => exact rfl); (case c4 => exact rfl); (case c5 => decide); (case mono => k_extra "mono");
    intro G h gs dr tk0 os q B F X N T l1 hD hU hret;
    unfold led at N)
  k_with "evI" => (first
    | ((with_reducible apply evI_name); (k_extra "R"); (k_extra "R"))
    | (with_reducible exact evI_const)
    | ((with_reducible apply evI_neg); (k_dflt (k_extra "evI")))
    | ((with_reducible apply evI_op); (k_dflt (k_extra "evI")); (k_dflt (k_extra "evI")); (k_dflt (k_extra "iop")))
    | ((with_reducible apply evI_sub); (k_dflt (k_extra "evV")); (k_dflt (k_extra "evI")); (k_dflt k_memK); (k_dflt (k_extra "ints")); (k_dflt (k_extra "pre0")); (k_dflt (k_extra "pre0")); (k_dflt (k_extra "pre0")); (k_extra "F"))
    | ((with_reducible apply evI_limit); (k_dflt (k_extra "evV")); (k_extra "A"); (k_dflt k_memK); (k_dflt k_memK))
    | ((with_reducible apply evI_step); (k_dflt (k_extra "evV")); (k_extra "A"); (k_dflt k_memK); (k_dflt k_memK))
    | ((with_reducible apply evI_len); (k_extra "A"); (exact topRead_of (by with_reducible assumption)); (k_extra "R"); (k_dflt (k_extra "evV")); (k_extra "G"); (k_extra "F"); (k_dflt k_memK); (k_dflt (exact len_cast (by k_extra "ints"))); (k_dflt (k_extra "len9"))))
  k_with "len9" => (rw [IntsAre.length (by k_extra "ints")]; k_extra "pre0")
  k_with "iop" => (first | exact .add | exact .sub | exact .mul (by decide) | exact .fdiv (by decide) (by decide) | exact .mod (by decide))
  k_with "evV" => (first
    | ((with_reducible apply evV_name); (k_extra "R"); (k_extra "R"))
    | ((with_reducible apply evV_heap); (k_dflt (k_extra "evV")); (k_extra "A"); (k_dflt k_memK); (k_dflt k_memK))
    | ((with_reducible apply evV_act); (k_dflt (k_extra "evV")); (k_extra "A"); (k_dflt k_memK); (k_dflt k_memK))
    | ((with_reducible apply evV_place); (k_dflt (k_extra "evV")); (k_extra "A"); (k_dflt k_memK); (k_dflt k_memK)))
  k_with "cop" => (first | exact .lt | exact .le | exact .gt | exact .ge | exact .eq | exact .ne)
  k_with "evT" => (first
    | ((with_reducible apply evT_cmp); (k_dflt (k_extra "evI")); (k_dflt (k_extra "evI")); (k_dflt (k_extra "cop")); (k_extra "R"))
    | ((with_reducible apply evT_not); (k_dflt (k_extra "evT")))
    | ((with_reducible apply evT_and); (k_dflt (k_extra "evT")); (intro hp9; k_dflt (k_extra "evT")))
    | ((with_reducible apply evT_or); (k_dflt (k_extra "evT")); (intro hp9; k_dflt (k_extra "evT"))))
  k_with "exec If" => ((with_reducible apply x_ifH); (k_extra "A"); (k_extra "A"); (k_dflt (k_extra "evTH")); all_goals (k_whole; intro hp9 h9 tk9 F9 N9; (try k_sweep)))
  k_with "exec If" => ((with_reducible apply x_if); (k_extra "A"); (k_extra "A"); (k_dflt (k_extra "evT")); all_goals (k_whole; intro hp9 tk9))
  k_with "execs cons" => (with_reducible refine x_cons ?_)
  k_with "execs cons" => ((with_reducible apply x_setI); (k_extra "A"); (k_extra "A"); (k_dflt (k_extra "evI")); (k_dflt (k_extra "evV")); (k_dflt (k_extra "evI")); (k_dflt (k_extra "updF")); (k_dflt (k_extra "ints")); (k_dflt (k_extra "pre0")); (k_dflt (k_extra "pre0")); (k_dflt (k_extra "pre0")); (k_extra "F"); (k_whole); (intro t9 h9 tk9 F9 N9); (try k_sweep))
  k_with "execs cons" => ((with_reducible apply x_asgV); (k_extra "A"); (k_extra "A"); (k_dflt (k_extra "evV")); (k_extra "R"); (k_extra "F"); (k_whole); (intro h9 tk9 F9 N9); (try k_sweep))
  k_with "execs cons" => ((with_reducible apply x_asgI); (k_extra "A"); (k_extra "A"); (k_dflt (k_extra "evI")); (k_extra "R"); (k_extra "F"); (k_whole); (intro t9 h9 tk9 F9 N9); (try k_sweep))
  k_with "execs cons" => ((with_reducible apply x_retV); (k_extra "A"); (k_extra "A"); (k_dflt (k_extra "evV")); (k_whole); (intro tk9))
  k_with "execs cons" => ((with_reducible apply x_retI); (k_extra "A"); (k_extra "A"); (k_dflt (k_extra "evI")); (k_whole); (intro t9 tk9))
  k_with "execs cons" => ((with_reducible apply x_retC); (k_extra "A"); (k_extra "A"); (k_dflt (k_extra "evI")); (k_dflt (k_extra "evI")); (k_dflt (k_extra "cop")); (k_extra "R"); (k_whole); (intro b9 tk9 hb9))
  k_with "LEnd" => (with_reducible refine lEnd_ ?_; with_reducible first | (refine hret1 _ _ ?_) | (refine hbrk _ ?_) | (k_dflt (k_extra "wend")))
  k_with "eval Call Attribute" => ((with_reducible apply call_meth); (k_extra "A"); (k_extra "A"); (k_extra "mt"); (k_extra "F"); (k_dflt (k_extra "evV")); (k_extra "A"); (k_dflt k_memK); (k_dflt k_memK); (k_extra "R"); (k_dflt (k_extra "evL")); (k_whole); k_dflt (k_extra "args"))
  k_with "evL" => (first | exact .nil | ((with_reducible apply EvL.i); (k_dflt (k_extra "evI")); (k_extra "G"); (k_dflt (k_extra "evL"))) | ((with_reducible apply EvL.v); (k_dflt (k_extra "evV")); (k_extra "G"); (k_dflt (k_extra "evL"))))
  k_with "args" => (first | (refine argK0 ?_; intro tk9) | (refine argK1 ?_; intro t9 tk9) | (refine argK2 ?_; intro t9 t8 tk9) | (refine argKv ?_; intro tk9) | (refine argKvv ?_; intro tk9) | (refine argKvi ?_; intro t9 tk9) | (refine argKvii ?_; intro t9 t8 tk9) | (refine argKvvi ?_; intro t9 tk9) | (refine argKvvv ?_; intro tk9))
  k_with "mt" => (with_reducible first | exact mt_is_before | exact mt_put | exact mt_rise | exact mt_better_child | exact mt_sink | exact mt_push | exact mt_pop | exact mt_pop_best | exact mt_bump | exact mt_decay | exact mt_rescale | exact mt_rebuild | exact mt_grow | exact mt_many | exact mt_is_held | exact mt_size | exact mt_top)
  k_with "storeName" => ((with_reducible apply x_store); (k_extra "A"); (k_extra "A"); (k_extra "R"); (k_whole); (intro h9 tk9 F9 N9); (try k_sweep))
  k_with "call builtin:list.append" => ((with_reducible apply append_U); (k_extra "A"); (k_extra "A"); (k_dflt (k_extra "updF")); (k_dflt (rw [IntsAre.length (by k_extra "ints")]; k_extra "pre0")); (k_whole); (intro h9 tk9 F9 N9); (try k_sweep))
  k_with "call builtin:list.pop" => ((with_reducible apply pop_U); (k_extra "A"); (k_extra "A"); (k_dflt (k_extra "updF")); (k_dflt (k_extra "ints")); (k_dflt (k_extra "pre0")); (k_dflt (k_extra "pre0")); (k_whole); (intro t9 h9 tk9 F9 N9 ip9); (try k_sweep))
  k_with "eval Attribute Name" => ((with_reducible apply useV); (k_extra "A"); (k_extra "A"); (k_dflt (k_extra "evV")); (k_whole); (intro tk9))
  k_with "eval BinOp" => ((with_reducible apply useI); (k_extra "A"); (k_extra "A"); (k_dflt (k_extra "evI")); (k_whole); (intro t9 tk9))
  k_with "eval Subscript" => ((with_reducible apply useI); (k_extra "A"); (k_extra "A"); (k_dflt (k_extra "evI")); (k_whole); (intro t9 tk9))
  k_with "isTrue Compare" => ((with_reducible apply useT); (k_extra "A"); (k_extra "A"); (k_dflt (k_extra "evT")); all_goals (k_whole; intro hp9 tk9))
  k_with "execs nil" => (with_reducible refine wpAny_execs_nil ?_)
  k_with "SeqK" => (with_reducible first | refine seq_next ?_ | refine seq_ret ?_ | refine seq_brk ?_ | refine seq_cont ?_)
  k_with "updF" => (first | exact upH (by with_reducible assumption) | exact upP (by with_reducible assumption) | exact upA (by with_reducible assumption) | exact upD (by with_reducible assumption) | (refine' .tail ?_ ?_; (k_extra "k_ne"); (k_extra "updF")))
  k_with "room" => (exact room_le (by with_reducible assumption) rfl)
  k_with "hH" => (first | exact fun _ h => h | exact fun _ h => .tail _ h | exact fun _ h => .tail _ (.tail _ h) | exact fun _ h => .tail _ (.tail _ (.tail _ h)) | exact fun _ h => .tail _ (.tail _ (.tail _ (.tail _ h))))
  k_with "spl" => (first | exact spl_led | exact .keep (off5_all (by k_extra "off5")) (by k_extra "spl"))
  k_with "off5" => (k_extra "A")
  k_with "evIH" => ((with_reducible apply evIH_of); (k_dflt (k_extra "evI")))
  k_with "evTH" => ((with_reducible apply evTH_cmp); (k_dflt (k_extra "evIH")); (k_dflt (k_extra "evIH")); (k_dflt (k_extra "cop")); (k_extra "R"))
  k_with "evTH" => ((with_reducible apply evTH_or); (k_dflt (k_extra "evTH")); (intro hp9; k_dflt (k_extra "evTH")))
  k_with "evTH" => ((with_reducible apply evTH_and); (k_dflt (k_extra "evTH")); (intro hp9; k_dflt (k_extra "evTH")))
  k_with "evTH" => ((with_reducible apply evTH_not); (k_dflt (k_extra "evTH")))
  k_with "evTH" => ((with_reducible apply evTH_of); (k_dflt (k_extra "evT")))
  k_with "meq" => (first
    | exact MEq.rf
    | ((with_reducible apply MEq.l); (exact rfl); (k_extra "meq"))
    | ((with_reducible apply MEq.r); (exact rfl); (k_extra "meq"))
    | ((with_reducible apply MEq.n); (exact rfl); (k_extra "meq"))
    | ((with_reducible apply MEq.g); (exact rfl); (k_extra "meq")))
  k_with "openC" => (
    refine' ctr_introC ?mono ?ho ?hcd ?hb ?hkind ?c1 ?c2 ?c3 ?c4 ?c5 ?_;
    (case ho => (intro P; k_is)); (case hcd => (intro P; k_is)); (case hb => exact fun s => BindsTo.of_eq rfl); (case hkind => exact rfl); (case c1 => decide +kernel); (case c2 => exact fun _ => rfl); (case c3 => exact rfl); (case c4 => exact rfl); (case c5 => exact rfl); (case mono => k_extra "mono");
    intro G h gs dr tk0 os q oc B F X N d1 T l1 hD hU hret;
    (have hK := off5_lt l1); (have k1 := hK.1); (have k2 := hK.2.1); (have k3 := hK.2.2.1); (have k4 := hK.2.2.2.1); (have k5 := hK.2.2.2.2); clear l1;
    unfold led at N)
  k_with "evI" => ((with_reducible apply evI_cell); (k_extra "R"); (k_dflt k_memK); (k_extra "A"); (k_extra "R"))
  k_with "evV" => ((with_reducible apply evV_cell); (k_extra "R"); (k_dflt k_memK); (k_extra "A"); (k_extra "R"))
  k_with "setAttr ref" => (first
    | ((with_reducible apply set_step); (k_extra "A"); (k_extra "A"); (k_extra "A"); (k_dflt k_memK); (k_dflt k_memK); (k_dflt (k_extra "updF")); (k_whole); (intro h9 tk9 F9 N9); (try k_sweep))
    | ((with_reducible apply set_act); (k_extra "A"); (k_extra "A"); (k_extra "A"); (k_dflt k_memK); (k_dflt k_memK); (k_dflt (k_extra "updF")); (k_whole); (intro h9 tk9 F9 N9); (try k_sweep)))
  k_with "evI" => ((with_reducible apply evI_glob); (k_extra "A"); (exact topRead_of (by with_reducible assumption)); (with_reducible first | exact gl_first | exact gl_shrink); (k_extra "R"))
  k_with "execs cons" => ((with_reducible apply x_asgIC); (k_extra "A"); (k_extra "A"); (k_dflt (k_extra "evI")); (k_extra "R"); (k_dflt (k_extra "updC")); (k_extra "A"); (k_extra "R"); (k_extra "F"); (k_whole); (intro t9 h9 tk9 o9 F9 N9 d9); (try k_sweep))
  k_with "updC" => (exact upC (by with_reducible assumption))
  k_with "updF" => (first | exact upD1 (by with_reducible assumption) (by with_reducible assumption) | exact upA1 (by with_reducible assumption) (by with_reducible assumption))
  k_with "execs cons" => ((with_reducible apply x_setStep); (k_extra "A"); (k_extra "A"); (k_extra "A"); (k_dflt (k_extra "evI")); (k_dflt (k_extra "evV")); (k_dflt k_memK); (k_dflt k_memK); (k_dflt (k_extra "updF")); (k_extra "F"); (k_whole); (intro t9 h9 tk9 F9 N9); (try k_sweep))
  k_with "evT" => ((with_reducible apply evT_orc); (k_dflt (k_extra "evT")); (intro hp9; k_dflt (k_extra "evT")))
  k_with "evTH" => ((with_reducible apply evTH_orc); (k_dflt (k_extra "evTH")); (intro hp9; k_dflt (k_extra "evTH")))
  k_with "evT" => (first
    | ((with_reducible apply evT_or); (k_dflt (k_extra "evT")); (intro hp9; k_dflt (k_extra "evT"))))
  k_with "evTH" => ((with_reducible apply evTH_or); (k_dflt (k_extra "evTH")); (intro hp9; k_dflt (k_extra "evTH")))
  k_with "evTH" => ((with_reducible apply evTH_of); (k_dflt (k_extra "evT")))
  k_with "eval Call Name" => ((with_reducible apply call_fun); (k_extra "A"); (k_extra "A"); (k_extra "A"); (exact topRead_of (by with_reducible assumption)); (k_extra "fn"); (k_extra "R"); (k_extra "F"); (k_dflt (k_extra "evL")); (k_whole); k_dflt (k_extra "args"))
  k_with "fn" => (with_reducible first | exact fn_first | exact fn_in_order | exact fn_small | exact fn_bumped | exact fn_decayed | exact fn_same | exact fn_values | exact fn_best)
  k_with "hH" => k_allIn
  k_with "spl" => (first
    | exact .nil
    | (refine' .drop ?_ ?_; (first | exact .head _ | exact .tail _ (.head _) | exact .tail _ (.tail _ (.head _))); (k_extra "spl"))
    | (refine' .keep ?_ ?_; (k_extra "neall"); (k_extra "spl")))
  k_with "neall" => (first | exact List.forall_mem_nil _ | (refine List.forall_mem_cons.mpr ⟨?_, ?_⟩; (k_extra "k_ne"); (k_extra "neall")))
  k_with "args" => (refine argKv ?_; intro tk9)
  k_with "spl" => (exact spl2 (by with_reducible assumption) (by with_reducible assumption))
  k_with "evT" => ((with_reducible apply evT_chain); (k_dflt (k_extra "evI")); (k_dflt (k_extra "evI")); (k_dflt (k_extra "evI")); (k_dflt (k_extra "cop")); (k_dflt (k_extra "cop")); (k_extra "R"))
  k_with "evTH" => ((with_reducible apply evTH_minlt); (k_extra "R"); (k_extra "A"); (exact topRead_of (by with_reducible assumption)); (k_extra "R"); (k_dflt (k_extra "evV")); (k_dflt (k_extra "evI")); (k_extra "G"); (k_extra "F"); (k_dflt k_memK); (k_dflt (k_extra "ints")); (k_dflt (k_extra "pre0")); (k_dflt (k_extra "pre0")); (k_extra "R"))
  k_with "evTH" => ((with_reducible apply evTH_maxgt); (k_extra "R"); (k_extra "A"); (exact topRead_of (by with_reducible assumption)); (k_extra "R"); (k_dflt (k_extra "evV")); (k_dflt (k_extra "evI")); (k_extra "G"); (k_extra "F"); (k_dflt k_memK); (k_dflt (k_extra "ints")); (k_dflt (k_extra "pre0")); (k_dflt (k_extra "pre0")); (k_extra "R"))
  k_with "execs cons" => ((with_reducible apply x_copy); (k_extra "A"); (k_extra "A"); (k_extra "A"); (exact topRead_of (by with_reducible assumption)); (k_extra "R"); (k_extra "R"); (k_dflt (k_extra "evV")); (k_extra "G"); (k_extra "F"); (k_dflt k_memK); (k_dflt (k_extra "len9")); (k_extra "F"); (k_whole); (intro D9 c9 h9 tk9 f9 F9 N9); (try k_sweep); (k_extra "fresh"))
  k_with "fresh" => skip
  k_with "updF" => (exact upC (by with_reducible assumption))
  k_with "evBH" => ((with_reducible apply evBH_cmp); (k_dflt (k_extra "evIH")); (k_dflt (k_extra "evIH")); (k_dflt (k_extra "cop")); (k_extra "R"))
  k_with "evBH" => ((with_reducible apply evBH_andc); (k_dflt (k_extra "evBH")); (intro hp9; k_dflt (k_extra "evBH")))
  k_with "evBH" => ((with_reducible apply evBH_and); (k_dflt (k_extra "evBH")); (intro hp9; k_dflt (k_extra "evBH")))
  k_with "evBH" => ((with_reducible apply evBH_listeq); (k_dflt (k_extra "room")); (k_extra "A"); (exact topRead_of (by with_reducible assumption)); (k_extra "R"); (k_dflt (k_extra "evV")); (intro nw; k_dflt (k_extra "evV")); (k_extra "G"); (k_extra "F"); (k_dflt k_memK); (k_dflt k_memK); (k_dflt (k_extra "ints")); (k_dflt (k_extra "ints")); (k_dflt (k_extra "len9")); (k_extra "R"))
  k_with "evBH" => ((with_reducible apply evBH_small); (k_extra "A"); (k_extra "A"); (k_extra "A"); (k_dflt (k_extra "room")); (k_dflt (k_extra "room")); (k_extra "R"); (k_extra "R"); (k_dflt (k_extra "evV")); (k_dflt (k_extra "evI")); (k_dflt (k_extra "evV")); (k_dflt (k_extra "hH")); (k_dflt (k_extra "spl")); (k_extra "A"); (k_extra "off5"); (k_dflt (k_extra "ints")); (k_dflt (k_extra "ints")); (k_dflt (k_extra "pre0")); (k_dflt (k_extra "pre0")); (k_dflt (k_extra "pre0")); (k_dflt (k_extra "pre0")); (k_dflt (k_extra "pre0")); (k_dflt (k_extra "pre0")); (k_dflt (k_extra "pre0")); (k_extra "G"); (k_extra "G"); (k_extra "G"); (k_extra "F"))
  k_with "evTH" => ((with_reducible apply evTH_call); (k_dflt (k_extra "evBH")); (k_extra "F"))
  k_with "execs cons" => ((with_reducible apply x_retB); (k_extra "A"); (k_extra "A"); (k_dflt (k_extra "evBH")); (k_whole); (intro b9 h9 tk9 hb9 F9 N9); (try k_sweep))
  k_with "spl" => (exact spl6)
  k_with "call ref" => ((with_reducible show wpAny _ _ (call (Value.ref 120) _) _ _ _); k_dflt (refine' ctr_use0 (c_bump ?a0 ?a1 ?a2 ?a3 ?a4 ?a5 ?a6 ?a7 ?a8 ?a9 ?a10 ?a11 ?a12) G ?F ?N ?B ?X ?T ?hk ?hd ?hu ?_; (case F => assumption); (case N => assumption); (case a0 => with_reducible assumption); (case a1 => k_extra "ints"); (case a2 => k_extra "ints"); (case a3 => k_extra "ints"); (case a4 => k_extra "pre0"); (case a5 => k_extra "pre0"); (case a6 => k_extra "pre0"); (case a7 => k_extra "pre0"); (case a8 => k_extra "pre0"); (case a9 => k_extra "pre0"); (case a10 => k_extra "pre0"); (case a11 => k_extra "pre0"); (case a12 => k_extra "pre0"); (case B => assumption); (case X => assumption); (case T => assumption); (case hk => exact rfl); (case hd => k_extra "room"); (case hu => k_extra "room"); k_whole; intro la9 ts9 va9 vh9 vp9 na9 hp9' pl9 hO9 ia9 ih9 ip9 cs9 or9 sh9 h9 tk9 F9 N9 ap9; (try dsimp only [led, List.cons_append, List.nil_append] at N9); clear ap9; (try k_sweep)))
  k_with "call ref" => ((with_reducible show wpAny _ _ (call (Value.ref 120) _) _ _ _); k_dflt (refine' ctr_use (c_bump ?a0 ?a1 ?a2 ?a3 ?a4 ?a5 ?a6 ?a7 ?a8 ?a9 ?a10 ?a11 ?a12) G ?F ?N ?B ?X ?T ?hk ?hH ?hR ?hd ?hu ?_; (case F => assumption); (case N => assumption); (case hH => k_extra "hH"); (case hR => k_extra "spl"); (case a0 => with_reducible assumption); (case a1 => k_extra "ints"); (case a2 => k_extra "ints"); (case a3 => k_extra "ints"); (case a4 => k_extra "pre0"); (case a5 => k_extra "pre0"); (case a6 => k_extra "pre0"); (case a7 => k_extra "pre0"); (case a8 => k_extra "pre0"); (case a9 => k_extra "pre0"); (case a10 => k_extra "pre0"); (case a11 => k_extra "pre0"); (case a12 => k_extra "pre0"); (case B => assumption); (case X => assumption); (case T => assumption); (case hk => exact rfl); (case hd => k_extra "room"); (case hu => k_extra "room"); k_whole; intro la9 ts9 va9 vh9 vp9 na9 hp9' pl9 hO9 ia9 ih9 ip9 cs9 or9 sh9 h9 tk9 F9 N9 ap9; (try dsimp only [led, List.cons_append, List.nil_append] at N9); (try have hK9 := off5_ap ap9); clear ap9; (try k_sweep)))
  trivial
section
variable {o dx la lh lp lb : Addr} {t1 t2 t3 t4 t5 tl ts : Tok} {limit step : Int} {va vh vp vb : List Value} {na nh np nb : Nat} {act hp pl bef0 : List Int}
set_option maxHeartbeats 8000000 in
theorem c_bumped {n var : Int} {u1 u2 : Tok} (hO : Ord5 o dx la lh lp) (ia : IntsAre va act) (ih : IntsAre vh hp) (ip : IntsAre vp pl) (hc : Cons n hp pl) (hn : (act.length : Int) = n + 1) (h9 : n ≤ 9) (hu : OrdFrom act hp 0) (hs : 0 < step) (hs2 : step ≤ limit) (hl1 : 1500 ≤ limit) (hl2 : limit ≤ 5000000) (hab : ∀ a ∈ act, 0 ≤ a ∧ a ≤ limit) (h1 : 1 ≤ var) (h2 : var ≤ n) :
    Ctr 16 160 207 [.ref o, .int limit u1, .int var u2] (fun P => led P o dx la lh lp t1 t2 t3 t4 t5 tl ts limit step va vh vp na nh np)
      (StC (.bool true) o dx lh lp t1 t2 t3 t4 t5 tl limit nh np n (bumpA act step limit var) (bumpS act step limit var) pl) := by
  have hB := bump_ok hn h1 h2 hs hs2 hl1 hab
  have hlen := hB.len
  have hbl : ((bAct act step var).length : Int) = n + 1 := by unfold bAct; rw [List.length_set]; exact hn
  have hbl2 : ((act.set var.toNat (act.getD var.toNat 0 + step)).length : Int) = n + 1 := hbl
  have hab2 : ∀ a ∈ act, a ≤ 5000000 := fun a ha => by have := (hab a ha).2; omega
  k_with "mono" => exact StC.mono
  k_extra "open"
  k_with "fresh" => (k_dflt (have hL : Off5 D9 o dx la lh lp := off5_new (P := G.w.params) (va := va) (vh := vh) (vp := vp) (na := na) (nh := nh) (np := np) (t1 := t1) (t2 := t2) (t3 := t3) (t4 := t4) (t5 := t5) (tl := tl) (ts := ts) (limit := limit) (step := step) f9))
  k_with "pre" => (first | exact hB.s0 (by assumption) | exact hB.s1 (by assumption) | exact hB.ab (by assumption) | exact hB.mono (by assumption))
  k_with "wend" => (refine' hnext () _ _ _ trivial ?hm1 ?hs1 F9 N9; (case hs1 => with_reducible assumption); (case hm1 => k_extra "meq"))
  k_with "execs cons" => (
    (with_reducible show wpAny _ _ (execs (Stmt.For _ (PySem.Expr.Call _ [_, _] _ _) _ _ _ :: _) _) _ _ _); k_dflt (
    refine' x_forR2 (σ := Unit) (fun _ => _) (fun _ => _) (fun _ _ => True) () (by assumption) (by assumption) MEq.rf trivial rfl X (topRead_of T) rfl rfl (by k_extra "evI") (by k_extra "evI") (fun _ _ => rfl) (fun _ _ => rfl) (fun _ => rfl) (fun _ _ => rfl) (small_one (by omega) (by omega) (by omega) (by omega)) (by passes_own) ?_ ?_;
    (intro c pre late t h1 tk1 I oI q1 hns hlt hsep _ F9 N9 hnext hbrk hret1; (try dsimp only at F9 N9); (try k_sweep));
    rotate_left;
    (intro c u h1 tk1 hP F9 N9; (try dsimp only at F9 N9); (try k_sweep));
    rotate_right))
  k_with "KEnd" => (exact kEnd_ret (hret _ _ _ _ _ _ _ _ hO9 ia9 ih9 ip9 cs9 or9 sh9 _ _ _ F9 (news_sub N9 (by k_allIn))))
  k_with "KEnd" => (exact kEnd_eq (congrArg Value.bool (hb9.mpr (hB.lo (by assumption))).symm) (hret _ _ _ _ _ _ _ _ hO9 ia9 ih9 ip9 cs9 or9 sh9 _ _ _ F9 (news_sub N9 (by k_allIn))))
  k_with "KEnd" => (exact absurd rfl hp9)
  k_with "LEnd" => (k_dflt (exact absurd hp9.2 (Int.not_le.mpr (hB.late (by assumption) _ (by omega) (by rw [hbl]; omega) hp9.1))))
  k_extra "steps"
end
example : True := by
  k_with_none
  k_with "A" => (with_reducible assumption)
  k_with "R" => (k_dflt (exact rfl))
  k_with "F" => (k_dflt (exact fun _ => rfl))
  k_with "G" => (k_dflt (exact fun _ _ => rfl))
  k_with "steps" => (repeat' (first | walk1 | (dsimp only; walk1) | fail "no step"))
  k_with "k_ne" => (first | (k_extra "A") | (refine Ne.symm ?_; with_reducible assumption))
  k_with "ints" => (first | with_reducible assumption | exact ints_set (by k_extra "ints") _ | exact ints_app1 (by k_extra "ints") _ _ | fail "no ints")
  k_with "pre0" => (first | with_reducible assumption | (with_reducible exact le_w (by assumption) rfl) | (with_reducible exact le_we (by assumption) (by assumption) rfl) | (with_reducible exact lt_we (by assumption) (by assumption)) | omega | (simp only [List.length_set, List.length_append, List.length_cons, List.length_nil, List.length_map]; omega) | k_extra "pre")
  k_with "mono" => (intro _ _ _ hk x; (intros; refine hk _ _ ?_; first | exact x | (apply x <;> assumption)))
  k_with "open" => (
    refine' ctr_intro ?mono ?ho ?hcd ?hb ?hloc ?c2 ?c3 ?c4 ?c5 ?_;
    (case ho => (intro P; k_is)); (case hcd => (intro P; k_is)); (case hb => exact fun s => BindsTo.of_eq rfl); (case hloc => exact locs rfl); (case c2 => exact rfl); (case c3 => exact rfl); (case c4 => exact rfl); (case c5 => decide); (case mono => k_extra "mono");
    intro G h gs dr tk0 os q B F X N T l1 hD hU hret;
    unfold led at N)
  k_with "evI" => (first
    | ((with_reducible apply evI_name); (k_extra "R"); (k_extra "R"))
    | (with_reducible exact evI_const)
    | ((with_reducible apply evI_neg); (k_dflt (k_extra "evI")))
    | ((with_reducible apply evI_op); (k_dflt (k_extra "evI")); (k_dflt (k_extra "evI")); (k_dflt (k_extra "iop")))
    | ((with_reducible apply evI_sub); (k_dflt (k_extra "evV")); (k_dflt (k_extra "evI")); (k_dflt k_memK); (k_dflt (k_extra "ints")); (k_dflt (k_extra "pre0")); (k_dflt (k_extra "pre0")); (k_dflt (k_extra "pre0")); (k_extra "F"))
    | ((with_reducible apply evI_limit); (k_dflt (k_extra "evV")); (k_extra "A"); (k_dflt k_memK); (k_dflt k_memK))
    | ((with_reducible apply evI_step); (k_dflt (k_extra "evV")); (k_extra "A"); (k_dflt k_memK); (k_dflt k_memK))
    | ((with_reducible apply evI_len); (k_extra "A"); (exact topRead_of (by with_reducible assumption)); (k_extra "R"); (k_dflt (k_extra "evV")); (k_extra "G"); (k_extra "F"); (k_dflt k_memK); (k_dflt (exact len_cast (by k_extra "ints"))); (k_dflt (k_extra "len9"))))
  k_with "len9" => (rw [IntsAre.length (by k_extra "ints")]; k_extra "pre0")
  k_with "iop" => (first | exact .add | exact .sub | exact .mul (by decide) | exact .fdiv (by decide) (by decide) | exact .mod (by decide))
  k_with "evV" => (first
    | ((with_reducible apply evV_name); (k_extra "R"); (k_extra "R"))
    | ((with_reducible apply evV_heap); (k_dflt (k_extra "evV")); (k_extra "A"); (k_dflt k_memK); (k_dflt k_memK))
    | ((with_reducible apply evV_act); (k_dflt (k_extra "evV")); (k_extra "A"); (k_dflt k_memK); (k_dflt k_memK))
    | ((with_reducible apply evV_place); (k_dflt (k_extra "evV")); (k_extra "A"); (k_dflt k_memK); (k_dflt k_memK)))
  k_with "cop" => (first | exact .lt | exact .le | exact .gt | exact .ge | exact .eq | exact .ne)
  k_with "evT" => (first
    | ((with_reducible apply evT_cmp); (k_dflt (k_extra "evI")); (k_dflt (k_extra "evI")); (k_dflt (k_extra "cop")); (k_extra "R"))
    | ((with_reducible apply evT_not); (k_dflt (k_extra "evT")))
    | ((with_reducible apply evT_and); (k_dflt (k_extra "evT")); (intro hp9; k_dflt (k_extra "evT")))
    | ((with_reducible apply evT_or); (k_dflt (k_extra "evT")); (intro hp9; k_dflt (k_extra "evT"))))
  k_with "exec If" => ((with_reducible apply x_ifH); (k_extra "A"); (k_extra "A"); (k_dflt (k_extra "evTH")); all_goals (k_whole; intro hp9 h9 tk9 F9 N9; (try k_sweep)))
  k_with "exec If" => ((with_reducible apply x_if); (k_extra "A"); (k_extra "A"); (k_dflt (k_extra "evT")); all_goals (k_whole; intro hp9 tk9))
  k_with "execs cons" => (with_reducible refine x_cons ?_)
  k_with "execs cons" => ((with_reducible apply x_setI); (k_extra "A"); (k_extra "A"); (k_dflt (k_extra "evI")); (k_dflt (k_extra "evV")); (k_dflt (k_extra "evI")); (k_dflt (k_extra "updF")); (k_dflt (k_extra "ints")); (k_dflt (k_extra "pre0")); (k_dflt (k_extra "pre0")); (k_dflt (k_extra "pre0")); (k_extra "F"); (k_whole); (intro t9 h9 tk9 F9 N9); (try k_sweep))
  k_with "execs cons" => ((with_reducible apply x_asgV); (k_extra "A"); (k_extra "A"); (k_dflt (k_extra "evV")); (k_extra "R"); (k_extra "F"); (k_whole); (intro h9 tk9 F9 N9); (try k_sweep))
  k_with "execs cons" => ((with_reducible apply x_asgI); (k_extra "A"); (k_extra "A"); (k_dflt (k_extra "evI")); (k_extra "R"); (k_extra "F"); (k_whole); (intro t9 h9 tk9 F9 N9); (try k_sweep))
  k_with "execs cons" => ((with_reducible apply x_retV); (k_extra "A"); (k_extra "A"); (k_dflt (k_extra "evV")); (k_whole); (intro tk9))
  k_with "execs cons" => ((with_reducible apply x_retI); (k_extra "A"); (k_extra "A"); (k_dflt (k_extra "evI")); (k_whole); (intro t9 tk9))
  k_with "execs cons" => ((with_reducible apply x_retC); (k_extra "A"); (k_extra "A"); (k_dflt (k_extra "evI")); (k_dflt (k_extra "evI")); (k_dflt (k_extra "cop")); (k_extra "R"); (k_whole); (intro b9 tk9 hb9))
  k_with "LEnd" => (with_reducible refine lEnd_ ?_; with_reducible first | (refine hret1 _ _ ?_) | (refine hbrk _ ?_) | (k_dflt (k_extra "wend")))
  k_with "eval Call Attribute" => ((with_reducible apply call_meth); (k_extra "A"); (k_extra "A"); (k_extra "mt"); (k_extra "F"); (k_dflt (k_extra "evV")); (k_extra "A"); (k_dflt k_memK); (k_dflt k_memK); (k_extra "R"); (k_dflt (k_extra "evL")); (k_whole); k_dflt (k_extra "args"))
  k_with "evL" => (first | exact .nil | ((with_reducible apply EvL.i); (k_dflt (k_extra "evI")); (k_extra "G"); (k_dflt (k_extra "evL"))) | ((with_reducible apply EvL.v); (k_dflt (k_extra "evV")); (k_extra "G"); (k_dflt (k_extra "evL"))))
  k_with "args" => (first | (refine argK0 ?_; intro tk9) | (refine argK1 ?_; intro t9 tk9) | (refine argK2 ?_; intro t9 t8 tk9) | (refine argKv ?_; intro tk9) | (refine argKvv ?_; intro tk9) | (refine argKvi ?_; intro t9 tk9) | (refine argKvii ?_; intro t9 t8 tk9) | (refine argKvvi ?_; intro t9 tk9) | (refine argKvvv ?_; intro tk9))
  k_with "mt" => (with_reducible first | exact mt_is_before | exact mt_put | exact mt_rise | exact mt_better_child | exact mt_sink | exact mt_push | exact mt_pop | exact mt_pop_best | exact mt_bump | exact mt_decay | exact mt_rescale | exact mt_rebuild | exact mt_grow | exact mt_many | exact mt_is_held | exact mt_size | exact mt_top)
  k_with "storeName" => ((with_reducible apply x_store); (k_extra "A"); (k_extra "A"); (k_extra "R"); (k_whole); (intro h9 tk9 F9 N9); (try k_sweep))
  k_with "call builtin:list.append" => ((with_reducible apply append_U); (k_extra "A"); (k_extra "A"); (k_dflt (k_extra "updF")); (k_dflt (rw [IntsAre.length (by k_extra "ints")]; k_extra "pre0")); (k_whole); (intro h9 tk9 F9 N9); (try k_sweep))
  k_with "call builtin:list.pop" => ((with_reducible apply pop_U); (k_extra "A"); (k_extra "A"); (k_dflt (k_extra "updF")); (k_dflt (k_extra "ints")); (k_dflt (k_extra "pre0")); (k_dflt (k_extra "pre0")); (k_whole); (intro t9 h9 tk9 F9 N9 ip9); (try k_sweep))
  k_with "eval Attribute Name" => ((with_reducible apply useV); (k_extra "A"); (k_extra "A"); (k_dflt (k_extra "evV")); (k_whole); (intro tk9))
  k_with "eval BinOp" => ((with_reducible apply useI); (k_extra "A"); (k_extra "A"); (k_dflt (k_extra "evI")); (k_whole); (intro t9 tk9))
  k_with "eval Subscript" => ((with_reducible apply useI); (k_extra "A"); (k_extra "A"); (k_dflt (k_extra "evI")); (k_whole); (intro t9 tk9))
  k_with "isTrue Compare" => ((with_reducible apply useT); (k_extra "A"); (k_extra "A"); (k_dflt (k_extra "evT")); all_goals (k_whole; intro hp9 tk9))
  k_with "execs nil" => (with_reducible refine wpAny_execs_nil ?_)
  k_with "SeqK" => (with_reducible first | refine seq_next ?_ | refine seq_ret ?_ | refine seq_brk ?_ | refine seq_cont ?_)
  k_with "updF" => (first | exact upH (by with_reducible assumption) | exact upP (by with_reducible assumption) | exact upA (by with_reducible assumption) | exact upD (by with_reducible assumption) | (refine' .tail ?_ ?_; (k_extra "k_ne"); (k_extra "updF")))
  k_with "room" => (exact room_le (by with_reducible assumption) rfl)
  k_with "hH" => (first | exact fun _ h => h | exact fun _ h => .tail _ h | exact fun _ h => .tail _ (.tail _ h) | exact fun _ h => .tail _ (.tail _ (.tail _ h)) | exact fun _ h => .tail _ (.tail _ (.tail _ (.tail _ h))))
  k_with "spl" => (first | exact spl_led | exact .keep (off5_all (by k_extra "off5")) (by k_extra "spl"))
  k_with "off5" => (k_extra "A")
  k_with "evIH" => ((with_reducible apply evIH_of); (k_dflt (k_extra "evI")))
  k_with "evTH" => ((with_reducible apply evTH_cmp); (k_dflt (k_extra "evIH")); (k_dflt (k_extra "evIH")); (k_dflt (k_extra "cop")); (k_extra "R"))
  k_with "evTH" => ((with_reducible apply evTH_or); (k_dflt (k_extra "evTH")); (intro hp9; k_dflt (k_extra "evTH")))
  k_with "evTH" => ((with_reducible apply evTH_and); (k_dflt (k_extra "evTH")); (intro hp9; k_dflt (k_extra "evTH")))
  k_with "evTH" => ((with_reducible apply evTH_not); (k_dflt (k_extra "evTH")))
  k_with "evTH" => ((with_reducible apply evTH_of); (k_dflt (k_extra "evT")))
  k_with "meq" => (first
    | exact MEq.rf
    | ((with_reducible apply MEq.l); (exact rfl); (k_extra "meq"))
    | ((with_reducible apply MEq.r); (exact rfl); (k_extra "meq"))
    | ((with_reducible apply MEq.n); (exact rfl); (k_extra "meq"))
    | ((with_reducible apply MEq.g); (exact rfl); (k_extra "meq")))
  k_with "openC" => (
    refine' ctr_introC ?mono ?ho ?hcd ?hb ?hkind ?c1 ?c2 ?c3 ?c4 ?c5 ?_;
    (case ho => (intro P; k_is)); (case hcd => (intro P; k_is)); (case hb => exact fun s => BindsTo.of_eq rfl); (case hkind => exact rfl); (case c1 => decide +kernel); (case c2 => exact fun _ => rfl); (case c3 => exact rfl); (case c4 => exact rfl); (case c5 => exact rfl); (case mono => k_extra "mono");
    intro G h gs dr tk0 os q oc B F X N d1 T l1 hD hU hret;
    (have hK := off5_lt l1); (have k1 := hK.1); (have k2 := hK.2.1); (have k3 := hK.2.2.1); (have k4 := hK.2.2.2.1); (have k5 := hK.2.2.2.2); clear l1;
    unfold led at N)
  k_with "evI" => ((with_reducible apply evI_cell); (k_extra "R"); (k_dflt k_memK); (k_extra "A"); (k_extra "R"))
  k_with "evV" => ((with_reducible apply evV_cell); (k_extra "R"); (k_dflt k_memK); (k_extra "A"); (k_extra "R"))
  k_with "setAttr ref" => (first
    | ((with_reducible apply set_step); (k_extra "A"); (k_extra "A"); (k_extra "A"); (k_dflt k_memK); (k_dflt k_memK); (k_dflt (k_extra "updF")); (k_whole); (intro h9 tk9 F9 N9); (try k_sweep))
    | ((with_reducible apply set_act); (k_extra "A"); (k_extra "A"); (k_extra "A"); (k_dflt k_memK); (k_dflt k_memK); (k_dflt (k_extra "updF")); (k_whole); (intro h9 tk9 F9 N9); (try k_sweep)))
  k_with "evI" => ((with_reducible apply evI_glob); (k_extra "A"); (exact topRead_of (by with_reducible assumption)); (with_reducible first | exact gl_first | exact gl_shrink); (k_extra "R"))
  k_with "execs cons" => ((with_reducible apply x_asgIC); (k_extra "A"); (k_extra "A"); (k_dflt (k_extra "evI")); (k_extra "R"); (k_dflt (k_extra "updC")); (k_extra "A"); (k_extra "R"); (k_extra "F"); (k_whole); (intro t9 h9 tk9 o9 F9 N9 d9); (try k_sweep))
  k_with "updC" => (exact upC (by with_reducible assumption))
  k_with "updF" => (first | exact upD1 (by with_reducible assumption) (by with_reducible assumption) | exact upA1 (by with_reducible assumption) (by with_reducible assumption))
  k_with "execs cons" => ((with_reducible apply x_setStep); (k_extra "A"); (k_extra "A"); (k_extra "A"); (k_dflt (k_extra "evI")); (k_dflt (k_extra "evV")); (k_dflt k_memK); (k_dflt k_memK); (k_dflt (k_extra "updF")); (k_extra "F"); (k_whole); (intro t9 h9 tk9 F9 N9); (try k_sweep))
  k_with "evT" => ((with_reducible apply evT_orc); (k_dflt (k_extra "evT")); (intro hp9; k_dflt (k_extra "evT")))
  k_with "evTH" => ((with_reducible apply evTH_orc); (k_dflt (k_extra "evTH")); (intro hp9; k_dflt (k_extra "evTH")))
  k_with "evT" => (first
    | ((with_reducible apply evT_or); (k_dflt (k_extra "evT")); (intro hp9; k_dflt (k_extra "evT"))))
  k_with "evTH" => ((with_reducible apply evTH_or); (k_dflt (k_extra "evTH")); (intro hp9; k_dflt (k_extra "evTH")))
  k_with "evTH" => ((with_reducible apply evTH_of); (k_dflt (k_extra "evT")))
  k_with "eval Call Name" => ((with_reducible apply call_fun); (k_extra "A"); (k_extra "A"); (k_extra "A"); (exact topRead_of (by with_reducible assumption)); (k_extra "fn"); (k_extra "R"); (k_extra "F"); (k_dflt (k_extra "evL")); (k_whole); k_dflt (k_extra "args"))
  k_with "fn" => (with_reducible first | exact fn_first | exact fn_in_order | exact fn_small | exact fn_bumped | exact fn_decayed | exact fn_same | exact fn_values | exact fn_best)
  k_with "hH" => k_allIn
  k_with "spl" => (first
    | exact .nil
    | (refine' .drop ?_ ?_; (first | exact .head _ | exact .tail _ (.head _) | exact .tail _ (.tail _ (.head _))); (k_extra "spl"))
    | (refine' .keep ?_ ?_; (k_extra "neall"); (k_extra "spl")))
  k_with "neall" => (first | exact List.forall_mem_nil _ | (refine List.forall_mem_cons.mpr ⟨?_, ?_⟩; (k_extra "k_ne"); (k_extra "neall")))
  k_with "args" => (refine argKv ?_; intro tk9)
  k_with "spl" => (exact spl2 (by with_reducible assumption) (by with_reducible assumption))
  k_with "evT" => ((with_reducible apply evT_chain); (k_dflt (k_extra "evI")); (k_dflt (k_extra "evI")); (k_dflt (k_extra "evI")); (k_dflt (k_extra "cop")); (k_dflt (k_extra "cop")); (k_extra "R"))
  k_with "evTH" => ((with_reducible apply evTH_minlt); (k_extra "R"); (k_extra "A"); (exact topRead_of (by with_reducible assumption)); (k_extra "R"); (k_dflt (k_extra "evV")); (k_dflt (k_extra "evI")); (k_extra "G"); (k_extra "F"); (k_dflt k_memK); (k_dflt (k_extra "ints")); (k_dflt (k_extra "pre0")); (k_dflt (k_extra "pre0")); (k_extra "R"))
  k_with "evTH" => ((with_reducible apply evTH_maxgt); (k_extra "R"); (k_extra "A"); (exact topRead_of (by with_reducible assumption)); (k_extra "R"); (k_dflt (k_extra "evV")); (k_dflt (k_extra "evI")); (k_extra "G"); (k_extra "F"); (k_dflt k_memK); (k_dflt (k_extra "ints")); (k_dflt (k_extra "pre0")); (k_dflt (k_extra "pre0")); (k_extra "R"))
  k_with "execs cons" => ((with_reducible apply x_copy); (k_extra "A"); (k_extra "A"); (k_extra "A"); (exact topRead_of (by with_reducible assumption)); (k_extra "R"); (k_extra "R"); (k_dflt (k_extra "evV")); (k_extra "G"); (k_extra "F"); (k_dflt k_memK); (k_dflt (k_extra "len9")); (k_extra "F"); (k_whole); (intro D9 c9 h9 tk9 f9 F9 N9); (try k_sweep); (k_extra "fresh"))
  k_with "fresh" => skip
  k_with "updF" => (exact upC (by with_reducible assumption))
  k_with "evBH" => ((with_reducible apply evBH_cmp); (k_dflt (k_extra "evIH")); (k_dflt (k_extra "evIH")); (k_dflt (k_extra "cop")); (k_extra "R"))
  k_with "evBH" => ((with_reducible apply evBH_andc); (k_dflt (k_extra "evBH")); (intro hp9; k_dflt (k_extra "evBH")))
  k_with "evBH" => ((with_reducible apply evBH_and); (k_dflt (k_extra "evBH")); (intro hp9; k_dflt (k_extra "evBH")))
  k_with "evBH" => ((with_reducible apply evBH_listeq); (k_dflt (k_extra "room")); (k_extra "A"); (exact topRead_of (by with_reducible assumption)); (k_extra "R"); (k_dflt (k_extra "evV")); (intro nw; k_dflt (k_extra "evV")); (k_extra "G"); (k_extra "F"); (k_dflt k_memK); (k_dflt k_memK); (k_dflt (k_extra "ints")); (k_dflt (k_extra "ints")); (k_dflt (k_extra "len9")); (k_extra "R"))
  k_with "evBH" => ((with_reducible apply evBH_small); (k_extra "A"); (k_extra "A"); (k_extra "A"); (k_dflt (k_extra "room")); (k_dflt (k_extra "room")); (k_extra "R"); (k_extra "R"); (k_dflt (k_extra "evV")); (k_dflt (k_extra "evI")); (k_dflt (k_extra "evV")); (k_dflt (k_extra "hH")); (k_dflt (k_extra "spl")); (k_extra "A"); (k_extra "off5"); (k_dflt (k_extra "ints")); (k_dflt (k_extra "ints")); (k_dflt (k_extra "pre0")); (k_dflt (k_extra "pre0")); (k_dflt (k_extra "pre0")); (k_dflt (k_extra "pre0")); (k_dflt (k_extra "pre0")); (k_dflt (k_extra "pre0")); (k_dflt (k_extra "pre0")); (k_extra "G"); (k_extra "G"); (k_extra "G"); (k_extra "F"))
  k_with "evTH" => ((with_reducible apply evTH_call); (k_dflt (k_extra "evBH")); (k_extra "F"))
  k_with "execs cons" => ((with_reducible apply x_retB); (k_extra "A"); (k_extra "A"); (k_dflt (k_extra "evBH")); (k_whole); (intro b9 h9 tk9 hb9 F9 N9); (try k_sweep))
  k_with "spl" => (exact spl6)
  k_with "call ref" => ((with_reducible show wpAny _ _ (call (Value.ref 127) _) _ _ _); k_dflt (refine' ctr_use0 (c_decay ?a0 ?a1 ?a2 ?a3 ?a4 ?a5 ?a6 ?a7 ?a8 ?a9 ?a10) G ?F ?N ?B ?X ?T ?hk ?hd ?hu ?_; (case F => assumption); (case N => assumption); (case a0 => with_reducible assumption); (case a1 => k_extra "ints"); (case a2 => k_extra "ints"); (case a3 => k_extra "ints"); (case a4 => k_extra "pre0"); (case a5 => k_extra "pre0"); (case a6 => k_extra "pre0"); (case a7 => k_extra "pre0"); (case a8 => k_extra "pre0"); (case a9 => k_extra "pre0"); (case a10 => k_extra "pre0"); (case B => assumption); (case X => assumption); (case T => assumption); (case hk => exact rfl); (case hd => k_extra "room"); (case hu => k_extra "room"); k_whole; intro la9 ts9 va9 vh9 vp9 na9 hp9' pl9 hO9 ia9 ih9 ip9 cs9 or9 sh9 h9 tk9 F9 N9 ap9; (try dsimp only [led, List.cons_append, List.nil_append] at N9); clear ap9; (try k_sweep)))
  k_with "call ref" => ((with_reducible show wpAny _ _ (call (Value.ref 127) _) _ _ _); k_dflt (refine' ctr_use (c_decay ?a0 ?a1 ?a2 ?a3 ?a4 ?a5 ?a6 ?a7 ?a8 ?a9 ?a10) G ?F ?N ?B ?X ?T ?hk ?hH ?hR ?hd ?hu ?_; (case F => assumption); (case N => assumption); (case hH => k_extra "hH"); (case hR => k_extra "spl"); (case a0 => with_reducible assumption); (case a1 => k_extra "ints"); (case a2 => k_extra "ints"); (case a3 => k_extra "ints"); (case a4 => k_extra "pre0"); (case a5 => k_extra "pre0"); (case a6 => k_extra "pre0"); (case a7 => k_extra "pre0"); (case a8 => k_extra "pre0"); (case a9 => k_extra "pre0"); (case a10 => k_extra "pre0"); (case B => assumption); (case X => assumption); (case T => assumption); (case hk => exact rfl); (case hd => k_extra "room"); (case hu => k_extra "room"); k_whole; intro la9 ts9 va9 vh9 vp9 na9 hp9' pl9 hO9 ia9 ih9 ip9 cs9 or9 sh9 h9 tk9 F9 N9 ap9; (try dsimp only [led, List.cons_append, List.nil_append] at N9); (try have hK9 := off5_ap ap9); clear ap9; (try k_sweep)))
  trivial
section
variable {o dx la lh lp lb : Addr} {t1 t2 t3 t4 t5 tl ts : Tok} {limit step : Int} {va vh vp vb : List Value} {na nh np nb : Nat} {act hp pl bef0 : List Int}
set_option maxHeartbeats 8000000 in
theorem c_decayed {n : Int} {u1 : Tok} (hO : Ord5 o dx la lh lp) (ia : IntsAre va act) (ih : IntsAre vh hp) (ip : IntsAre vp pl) (hc : Cons n hp pl) (hn : (act.length : Int) = n + 1) (h9 : n ≤ 9) (hu : OrdFrom act hp 0) (hs : 0 < step) (hs2 : step ≤ limit) (hl1 : 1500 ≤ limit) (hl2 : limit ≤ 5000000) (hab : ∀ a ∈ act, 0 ≤ a ∧ a ≤ limit) :
    Ctr 16 160 214 [.ref o, .int limit u1] (fun P => led P o dx la lh lp t1 t2 t3 t4 t5 tl ts limit step va vh vp na nh np)
      (StC (.bool true) o dx lh lp t1 t2 t3 t4 t5 tl limit nh np n (decA act step limit) (decS act step limit) pl) := by
  have hB := dec_ok hn hs hs2 hl1 hab
  have hlen := hB.len
  have hn0 := hc.n0
  have hab2 : ∀ a ∈ act, a ≤ 5000000 := fun a ha => by have := (hab a ha).2; omega
  k_with "mono" => exact StC.mono
  k_extra "open"
  k_with "fresh" => (k_dflt (have hL : Off5 D9 o dx la lh lp := off5_new (P := G.w.params) (va := va) (vh := vh) (vp := vp) (na := na) (nh := nh) (np := np) (t1 := t1) (t2 := t2) (t3 := t3) (t4 := t4) (t5 := t5) (tl := tl) (ts := ts) (limit := limit) (step := step) f9))
  k_with "pre" => (first | exact hB.s0 (by assumption) | exact hB.s1 (by assumption) | exact hB.ab (by assumption) | exact hB.mono (by assumption))
  k_with "KEnd" => (exact kEnd_eq (congrArg Value.bool (hb9.mpr ⟨by (have h9 := hB.dn (by assumption)); omega, rfl⟩).symm) (hret _ _ _ _ _ _ _ _ hO9 ia9 ih9 ip9 cs9 or9 sh9 _ _ _ F9 (news_sub N9 (by k_allIn))))
  k_with "KEnd" => (exact kEnd_eq (congrArg Value.bool (hb9.mpr ⟨(hB.up (by assumption)).1, (hB.up (by assumption)).2.1, (hB.up (by assumption)).2.2⟩).symm) (hret _ _ _ _ _ _ _ _ hO9 ia9 ih9 ip9 cs9 or9 sh9 _ _ _ F9 (news_sub N9 (by k_allIn))))
  k_extra "steps"
end
def Stop (p : Prop) : Prop := p
theorem stop {p : Prop} (h : Stop p) : p := h
theorem evIH_fun {D U : Nat} {f : Addr} {H : Params → Led} {cn : Str} {cs : Scope} {a : Addr} {ccd : Value} {cl : List (Str × Addr)} {m : Str → Option Value} {news Rr : Led} {g : Str} {xp pos : Pos} {xs : List PySem.Expr} {sp : List (Value ⊕ Int)} {i : Int} {G : GC}
    (K : ArgK sp (fun vs => Ctr D U f vs H (fun P k => ∀ t, k (.int i t) (H P)))) (hg : ∀ P, fnOk P g f = true)
    (B : Below G.A₀ G.base G.outer G.h₀) (X : (K39 G.w.params).In G.h₀) (T : Top G.p G.loose G.mean G.mg G.mb G.h₀) (hd : G.dp + D < recursionLimit) (hu : G.un + U < cLine) (hk : cs.kind = .function) (hx : nmOk cs .globalImplicit g = true)
    (ha : EvL (EC.mk cn cs a ccd cl G.prog G.w (ktrTop G.dp G.un G.gd cn cs G.L a ccd cl G.outer) G.h₀ G.L m news) xs sp)
    (hH : ∀ q ∈ H G.w.params, q ∈ news) (hR : Spl ((H G.w.params).map (·.1)) news Rr)
    (he : ∀ env, eval (.Call (.Name g xp) xs [] pos) env = (do callWith pos (← eval (.Name g xp) env) [] (backTo pos (starEach xs env)) (backToKw pos (keywordEach [] env)))) :
    EvIH (EC.mk cn cs a ccd cl G.prog G.w (ktrTop G.dp G.un G.gd cn cs G.L a ccd cl G.outer) G.h₀ G.L m news) (.Call (.Name g xp) xs [] pos) i := fun Q E h gs dr tk0 os F N k => by
  refine call_fun F N X (topRead_of T) hg hx he ha (argK_mono (fun vs hK tk => ?_) K)
  refine ctr_use hK G F N B X T hk hH hR hd hu fun t h' tk' F' N' _ => ?_
  have N2 : News G.h₀ G.L h' news := fun p hp => by
    rcases hR.all p hp with hq | hq
    · obtain ⟨z, hz, e⟩ := List.mem_map.mp hq
      have e1 := (N p hp).1
      have e2 := (N z (hH z hz)).1
      rw [e, e1] at e2
      have : z = p := Prod.ext e (Option.some.inj e2).symm
      exact this ▸ N' z (List.mem_append.mpr (.inr hz))
    · exact N' p (List.mem_append.mpr (.inl hq))
  exact k t h' tk' F' N2
theorem evIH_first {la lq : Addr} {va vq : List Value} {na nq : Nat} {act held : List Int} {cn : Str} {cs : Scope} {a : Addr} {ccd : Value} {cl : List (Str × Addr)} {m : Str → Option Value} {news Rr : Led} {xp pos : Pos} {e1 e2 : PySem.Expr} {G : GC}
    (B : Below G.A₀ G.base G.outer G.h₀) (X : (K39 G.w.params).In G.h₀) (T : Top G.p G.loose G.mean G.mg G.mb G.h₀) (hd : G.dp + 2 < recursionLimit) (hu : G.un + 20 < cLine) (hk : cs.kind = .function) (hx : nmOk cs .globalImplicit "_law_first" = true)
    (g1 : EvV (EC.mk cn cs a ccd cl G.prog G.w (ktrTop G.dp G.un G.gd cn cs G.L a ccd cl G.outer) G.h₀ G.L m news) e1 (.ref la)) (g2 : EvV (EC.mk cn cs a ccd cl G.prog G.w (ktrTop G.dp G.un G.gd cn cs G.L a ccd cl G.outer) G.h₀ G.L m news) e2 (.ref lq))
    (m1 : (la, listOf va.toArray na) ∈ news) (m2 : (lq, listOf vq.toArray nq) ∈ news) (hR : Spl [la, lq] news Rr)
    (ia : IntsAre va act) (iq : IntsAre vq held) (hn : act.length ≤ 10) (hq : ∀ v ∈ held, 0 ≤ v ∧ v < act.length)
    (q1 : ∀ rest env, starEach (e1 :: rest) env = (false, eval e1 env) :: starEach rest env) (q2 : ∀ rest env, starEach (e2 :: rest) env = (false, eval e2 env) :: starEach rest env)
    (he : ∀ env, eval (.Call (.Name "_law_first" xp) [e1, e2] [] pos) env = (do callWith pos (← eval (.Name "_law_first" xp) env) [] (backTo pos (starEach [e1, e2] env)) (backToKw pos (keywordEach [] env)))) :
    EvIH (EC.mk cn cs a ccd cl G.prog G.w (ktrTop G.dp G.un G.gd cn cs G.L a ccd cl G.outer) G.h₀ G.L m news) (.Call (.Name "_law_first" xp) [e1, e2] [] pos) (lfirst act held) :=
  evIH_fun (D := 2) (U := 20) (f := 186) (sp := [.inl (.ref la), .inl (.ref lq)]) (H := fun _ => [(la, listOf va.toArray na), (lq, listOf vq.toArray nq)]) (c_first ia iq hn hq) fn_first B X T hd hu hk hx (.v g1 q1 (.v g2 q2 .nil))
    (List.forall_mem_cons.mpr ⟨m1, List.forall_mem_cons.mpr ⟨m2, List.forall_mem_nil _⟩⟩) hR he
section
variable {c lq o dx la lh lp IC CC DC : Addr} {oc ol x y z x1 x2 x3 x4 x5 : Obj}
theorem all5 {k : Addr} (h1 : k ≠ o) (h2 : k ≠ dx) (h3 : k ≠ la) (h4 : k ≠ lh) (h5 : k ≠ lp) : ∀ a ∈ [o, dx, la, lh, lp], k ≠ a := off5_all ⟨h1, h2, h3, h4, h5⟩
theorem spl_comp (hK : Off5 c o dx la lh lp) (hK1 : Off5 lq o dx la lh lp) (off : LCg.Off3 IC CC DC [(c, oc), (lq, ol), (o, x1), (dx, x2), (la, x3), (lh, x4), (lp, x5)]) :
    Spl [o, dx, la, lh, lp] [(IC, x), (CC, y), (DC, z), (c, oc), (lq, ol), (o, x1), (dx, x2), (la, x3), (lh, x4), (lp, x5)] [(IC, x), (CC, y), (DC, z), (c, oc), (lq, ol)] :=
  have f := off.2.2
  .keep (all5 (Ne.symm f.1.1) (Ne.symm f.2.1.1) (Ne.symm f.2.2.1.1) (Ne.symm f.2.2.2.1.1) (Ne.symm f.2.2.2.2.1.1))
  (.keep (all5 (Ne.symm f.1.2.1) (Ne.symm f.2.1.2.1) (Ne.symm f.2.2.1.2.1) (Ne.symm f.2.2.2.1.2.1) (Ne.symm f.2.2.2.2.1.2.1))
  (.keep (all5 (Ne.symm f.1.2.2) (Ne.symm f.2.1.2.2) (Ne.symm f.2.2.1.2.2) (Ne.symm f.2.2.2.1.2.2) (Ne.symm f.2.2.2.2.1.2.2))
  (.keep (off5_all hK) (.keep (off5_all hK1) spl_led))))
theorem splF (hO : Ord5 o dx la lh lp) (hK : Off5 c o dx la lh lp) (hK1 : Off5 lq o dx la lh lp) (e : c ≠ lq) : Spl [la, lq] [(c, oc), (lq, ol), (o, x1), (dx, x2), (la, x3), (lh, x4), (lp, x5)] [(c, oc), (o, x1), (dx, x2), (lh, x4), (lp, x5)] :=
  .keep (List.forall_mem_cons.mpr ⟨hK.2.2.1, List.forall_mem_cons.mpr ⟨e, List.forall_mem_nil _⟩⟩) (.drop (.tail _ (.head _))
  (.keep (List.forall_mem_cons.mpr ⟨Ne.symm hO.2.2.2.2.1, List.forall_mem_cons.mpr ⟨Ne.symm hK1.1, List.forall_mem_nil _⟩⟩)
  (.keep (List.forall_mem_cons.mpr ⟨Ne.symm hO.2.2.2.1, List.forall_mem_cons.mpr ⟨Ne.symm hK1.2.1, List.forall_mem_nil _⟩⟩) (.drop (.head _)
  (.keep (List.forall_mem_cons.mpr ⟨Ne.symm hO.2.2.2.2.2.1, List.forall_mem_cons.mpr ⟨Ne.symm hK1.2.2.2.1, List.forall_mem_nil _⟩⟩)
  (.keep (List.forall_mem_cons.mpr ⟨Ne.symm hO.2.2.2.2.2.2, List.forall_mem_cons.mpr ⟨Ne.symm hK1.2.2.2.2, List.forall_mem_nil _⟩⟩) .nil))))))
end
example : True := by
  k_with_none
  k_with "A" => (with_reducible assumption)
  k_with "R" => (k_dflt (exact rfl))
  k_with "F" => (k_dflt (exact fun _ => rfl))
  k_with "G" => (k_dflt (exact fun _ _ => rfl))
  k_with "steps" => (repeat' (first | walk1 | (dsimp only; walk1) | fail "no step"))
  k_with "k_ne" => (first | (k_extra "A") | (refine Ne.symm ?_; with_reducible assumption))
  k_with "ints" => (first | with_reducible assumption | exact ints_set (by k_extra "ints") _ | exact ints_app1 (by k_extra "ints") _ _ | fail "no ints")
  k_with "pre0" => (first | with_reducible assumption | (with_reducible exact le_w (by assumption) rfl) | (with_reducible exact le_we (by assumption) (by assumption) rfl) | (with_reducible exact lt_we (by assumption) (by assumption)) | omega | (simp only [List.length_set, List.length_append, List.length_cons, List.length_nil, List.length_map]; omega) | k_extra "pre")
  k_with "mono" => (intro _ _ _ hk x; (intros; refine hk _ _ ?_; first | exact x | (apply x <;> assumption)))
  k_with "open" => (
    refine' ctr_intro ?mono ?ho ?hcd ?hb ?hloc ?c2 ?c3 ?c4 ?c5 ?_;
    (case ho => (intro P; k_is)); (case hcd => (intro P; k_is)); (case hb => exact fun s => BindsTo.of_eq rfl); (case hloc => exact locs rfl); (case c2 => exact rfl); (case c3 => exact rfl); (case c4 => exact rfl); (case c5 => decide); (case mono => k_extra "mono");
    intro G h gs dr tk0 os q B F X N T l1 hD hU hret;
    unfold led at N)
  k_with "evI" => (first
    | ((with_reducible apply evI_name); (k_extra "R"); (k_extra "R"))
    | (with_reducible exact evI_const)
    | ((with_reducible apply evI_neg); (k_dflt (k_extra "evI")))
    | ((with_reducible apply evI_op); (k_dflt (k_extra "evI")); (k_dflt (k_extra "evI")); (k_dflt (k_extra "iop")))
    | ((with_reducible apply evI_sub); (k_dflt (k_extra "evV")); (k_dflt (k_extra "evI")); (k_dflt k_memK); (k_dflt (k_extra "ints")); (k_dflt (k_extra "pre0")); (k_dflt (k_extra "pre0")); (k_dflt (k_extra "pre0")); (k_extra "F"))
    | ((with_reducible apply evI_limit); (k_dflt (k_extra "evV")); (k_extra "A"); (k_dflt k_memK); (k_dflt k_memK))
    | ((with_reducible apply evI_step); (k_dflt (k_extra "evV")); (k_extra "A"); (k_dflt k_memK); (k_dflt k_memK))
    | ((with_reducible apply evI_len); (k_extra "A"); (exact topRead_of (by with_reducible assumption)); (k_extra "R"); (k_dflt (k_extra "evV")); (k_extra "G"); (k_extra "F"); (k_dflt k_memK); (k_dflt (exact len_cast (by k_extra "ints"))); (k_dflt (k_extra "len9"))))
  k_with "len9" => (rw [IntsAre.length (by k_extra "ints")]; k_extra "pre0")
  k_with "iop" => (first | exact .add | exact .sub | exact .mul (by decide) | exact .fdiv (by decide) (by decide) | exact .mod (by decide))
  k_with "evV" => (first
    | ((with_reducible apply evV_name); (k_extra "R"); (k_extra "R"))
    | ((with_reducible apply evV_heap); (k_dflt (k_extra "evV")); (k_extra "A"); (k_dflt k_memK); (k_dflt k_memK))
    | ((with_reducible apply evV_act); (k_dflt (k_extra "evV")); (k_extra "A"); (k_dflt k_memK); (k_dflt k_memK))
    | ((with_reducible apply evV_place); (k_dflt (k_extra "evV")); (k_extra "A"); (k_dflt k_memK); (k_dflt k_memK)))
  k_with "cop" => (first | exact .lt | exact .le | exact .gt | exact .ge | exact .eq | exact .ne)
  k_with "evT" => (first
    | ((with_reducible apply evT_cmp); (k_dflt (k_extra "evI")); (k_dflt (k_extra "evI")); (k_dflt (k_extra "cop")); (k_extra "R"))
    | ((with_reducible apply evT_not); (k_dflt (k_extra "evT")))
    | ((with_reducible apply evT_and); (k_dflt (k_extra "evT")); (intro hp9; k_dflt (k_extra "evT")))
    | ((with_reducible apply evT_or); (k_dflt (k_extra "evT")); (intro hp9; k_dflt (k_extra "evT"))))
  k_with "exec If" => ((with_reducible apply x_ifH); (k_extra "A"); (k_extra "A"); (k_dflt (k_extra "evTH")); all_goals (k_whole; intro hp9 h9 tk9 F9 N9; (try k_sweep)))
  k_with "exec If" => ((with_reducible apply x_if); (k_extra "A"); (k_extra "A"); (k_dflt (k_extra "evT")); all_goals (k_whole; intro hp9 tk9))
  k_with "execs cons" => (with_reducible refine x_cons ?_)
  k_with "execs cons" => ((with_reducible apply x_setI); (k_extra "A"); (k_extra "A"); (k_dflt (k_extra "evI")); (k_dflt (k_extra "evV")); (k_dflt (k_extra "evI")); (k_dflt (k_extra "updF")); (k_dflt (k_extra "ints")); (k_dflt (k_extra "pre0")); (k_dflt (k_extra "pre0")); (k_dflt (k_extra "pre0")); (k_extra "F"); (k_whole); (intro t9 h9 tk9 F9 N9); (try k_sweep))
  k_with "execs cons" => ((with_reducible apply x_asgV); (k_extra "A"); (k_extra "A"); (k_dflt (k_extra "evV")); (k_extra "R"); (k_extra "F"); (k_whole); (intro h9 tk9 F9 N9); (try k_sweep))
  k_with "execs cons" => ((with_reducible apply x_asgI); (k_extra "A"); (k_extra "A"); (k_dflt (k_extra "evI")); (k_extra "R"); (k_extra "F"); (k_whole); (intro t9 h9 tk9 F9 N9); (try k_sweep))
  k_with "execs cons" => ((with_reducible apply x_retV); (k_extra "A"); (k_extra "A"); (k_dflt (k_extra "evV")); (k_whole); (intro tk9))
  k_with "execs cons" => ((with_reducible apply x_retI); (k_extra "A"); (k_extra "A"); (k_dflt (k_extra "evI")); (k_whole); (intro t9 tk9))
  k_with "execs cons" => ((with_reducible apply x_retC); (k_extra "A"); (k_extra "A"); (k_dflt (k_extra "evI")); (k_dflt (k_extra "evI")); (k_dflt (k_extra "cop")); (k_extra "R"); (k_whole); (intro b9 tk9 hb9))
  k_with "LEnd" => (with_reducible refine lEnd_ ?_; with_reducible first | (refine hret1 _ _ ?_) | (refine hbrk _ ?_) | (k_dflt (k_extra "wend")))
  k_with "eval Call Attribute" => ((with_reducible apply call_meth); (k_extra "A"); (k_extra "A"); (k_extra "mt"); (k_extra "F"); (k_dflt (k_extra "evV")); (k_extra "A"); (k_dflt k_memK); (k_dflt k_memK); (k_extra "R"); (k_dflt (k_extra "evL")); (k_whole); k_dflt (k_extra "args"))
  k_with "evL" => (first | exact .nil | ((with_reducible apply EvL.i); (k_dflt (k_extra "evI")); (k_extra "G"); (k_dflt (k_extra "evL"))) | ((with_reducible apply EvL.v); (k_dflt (k_extra "evV")); (k_extra "G"); (k_dflt (k_extra "evL"))))
  k_with "args" => (first | (refine argK0 ?_; intro tk9) | (refine argK1 ?_; intro t9 tk9) | (refine argK2 ?_; intro t9 t8 tk9) | (refine argKv ?_; intro tk9) | (refine argKvv ?_; intro tk9) | (refine argKvi ?_; intro t9 tk9) | (refine argKvii ?_; intro t9 t8 tk9) | (refine argKvvi ?_; intro t9 tk9) | (refine argKvvv ?_; intro tk9))
  k_with "mt" => (with_reducible first | exact mt_is_before | exact mt_put | exact mt_rise | exact mt_better_child | exact mt_sink | exact mt_push | exact mt_pop | exact mt_pop_best | exact mt_bump | exact mt_decay | exact mt_rescale | exact mt_rebuild | exact mt_grow | exact mt_many | exact mt_is_held | exact mt_size | exact mt_top)
  k_with "storeName" => ((with_reducible apply x_store); (k_extra "A"); (k_extra "A"); (k_extra "R"); (k_whole); (intro h9 tk9 F9 N9); (try k_sweep))
  k_with "call builtin:list.append" => ((with_reducible apply append_U); (k_extra "A"); (k_extra "A"); (k_dflt (k_extra "updF")); (k_dflt (rw [IntsAre.length (by k_extra "ints")]; k_extra "pre0")); (k_whole); (intro h9 tk9 F9 N9); (try k_sweep))
  k_with "call builtin:list.pop" => ((with_reducible apply pop_U); (k_extra "A"); (k_extra "A"); (k_dflt (k_extra "updF")); (k_dflt (k_extra "ints")); (k_dflt (k_extra "pre0")); (k_dflt (k_extra "pre0")); (k_whole); (intro t9 h9 tk9 F9 N9 ip9); (try k_sweep))
  k_with "eval Attribute Name" => ((with_reducible apply useV); (k_extra "A"); (k_extra "A"); (k_dflt (k_extra "evV")); (k_whole); (intro tk9))
  k_with "eval BinOp" => ((with_reducible apply useI); (k_extra "A"); (k_extra "A"); (k_dflt (k_extra "evI")); (k_whole); (intro t9 tk9))
  k_with "eval Subscript" => ((with_reducible apply useI); (k_extra "A"); (k_extra "A"); (k_dflt (k_extra "evI")); (k_whole); (intro t9 tk9))
  k_with "isTrue Compare" => ((with_reducible apply useT); (k_extra "A"); (k_extra "A"); (k_dflt (k_extra "evT")); all_goals (k_whole; intro hp9 tk9))
  k_with "execs nil" => (with_reducible refine wpAny_execs_nil ?_)
  k_with "SeqK" => (with_reducible first | refine seq_next ?_ | refine seq_ret ?_ | refine seq_brk ?_ | refine seq_cont ?_)
  k_with "updF" => (first | exact upH (by with_reducible assumption) | exact upP (by with_reducible assumption) | exact upA (by with_reducible assumption) | exact upD (by with_reducible assumption) | (refine' .tail ?_ ?_; (k_extra "k_ne"); (k_extra "updF")))
  k_with "room" => (exact room_le (by with_reducible assumption) rfl)
  k_with "hH" => (first | exact fun _ h => h | exact fun _ h => .tail _ h | exact fun _ h => .tail _ (.tail _ h) | exact fun _ h => .tail _ (.tail _ (.tail _ h)) | exact fun _ h => .tail _ (.tail _ (.tail _ (.tail _ h))))
  k_with "spl" => (first | exact spl_led | exact .keep (off5_all (by k_extra "off5")) (by k_extra "spl"))
  k_with "off5" => (k_extra "A")
  k_with "evIH" => ((with_reducible apply evIH_of); (k_dflt (k_extra "evI")))
  k_with "evTH" => ((with_reducible apply evTH_cmp); (k_dflt (k_extra "evIH")); (k_dflt (k_extra "evIH")); (k_dflt (k_extra "cop")); (k_extra "R"))
  k_with "evTH" => ((with_reducible apply evTH_or); (k_dflt (k_extra "evTH")); (intro hp9; k_dflt (k_extra "evTH")))
  k_with "evTH" => ((with_reducible apply evTH_and); (k_dflt (k_extra "evTH")); (intro hp9; k_dflt (k_extra "evTH")))
  k_with "evTH" => ((with_reducible apply evTH_not); (k_dflt (k_extra "evTH")))
  k_with "evTH" => ((with_reducible apply evTH_of); (k_dflt (k_extra "evT")))
  k_with "meq" => (first
    | exact MEq.rf
    | ((with_reducible apply MEq.l); (exact rfl); (k_extra "meq"))
    | ((with_reducible apply MEq.r); (exact rfl); (k_extra "meq"))
    | ((with_reducible apply MEq.n); (exact rfl); (k_extra "meq"))
    | ((with_reducible apply MEq.g); (exact rfl); (k_extra "meq")))
  k_with "openC" => (
    refine' ctr_introC ?mono ?ho ?hcd ?hb ?hkind ?c1 ?c2 ?c3 ?c4 ?c5 ?_;
    (case ho => (intro P; k_is)); (case hcd => (intro P; k_is)); (case hb => exact fun s => BindsTo.of_eq rfl); (case hkind => exact rfl); (case c1 => decide +kernel); (case c2 => exact fun _ => rfl); (case c3 => exact rfl); (case c4 => exact rfl); (case c5 => exact rfl); (case mono => k_extra "mono");
    intro G h gs dr tk0 os q oc B F X N d1 T l1 hD hU hret;
    (have hK := off5_lt l1); (have k1 := hK.1); (have k2 := hK.2.1); (have k3 := hK.2.2.1); (have k4 := hK.2.2.2.1); (have k5 := hK.2.2.2.2); clear l1;
    unfold led at N)
  k_with "evI" => ((with_reducible apply evI_cell); (k_extra "R"); (k_dflt k_memK); (k_extra "A"); (k_extra "R"))
  k_with "evV" => ((with_reducible apply evV_cell); (k_extra "R"); (k_dflt k_memK); (k_extra "A"); (k_extra "R"))
  k_with "setAttr ref" => (first
    | ((with_reducible apply set_step); (k_extra "A"); (k_extra "A"); (k_extra "A"); (k_dflt k_memK); (k_dflt k_memK); (k_dflt (k_extra "updF")); (k_whole); (intro h9 tk9 F9 N9); (try k_sweep))
    | ((with_reducible apply set_act); (k_extra "A"); (k_extra "A"); (k_extra "A"); (k_dflt k_memK); (k_dflt k_memK); (k_dflt (k_extra "updF")); (k_whole); (intro h9 tk9 F9 N9); (try k_sweep)))
  k_with "evI" => ((with_reducible apply evI_glob); (k_extra "A"); (exact topRead_of (by with_reducible assumption)); (with_reducible first | exact gl_first | exact gl_shrink); (k_extra "R"))
  k_with "execs cons" => ((with_reducible apply x_asgIC); (k_extra "A"); (k_extra "A"); (k_dflt (k_extra "evI")); (k_extra "R"); (k_dflt (k_extra "updC")); (k_extra "A"); (k_extra "R"); (k_extra "F"); (k_whole); (intro t9 h9 tk9 o9 F9 N9 d9); (try k_sweep))
  k_with "updC" => (exact upC (by with_reducible assumption))
  k_with "updF" => (first | exact upD1 (by with_reducible assumption) (by with_reducible assumption) | exact upA1 (by with_reducible assumption) (by with_reducible assumption))
  k_with "execs cons" => ((with_reducible apply x_setStep); (k_extra "A"); (k_extra "A"); (k_extra "A"); (k_dflt (k_extra "evI")); (k_dflt (k_extra "evV")); (k_dflt k_memK); (k_dflt k_memK); (k_dflt (k_extra "updF")); (k_extra "F"); (k_whole); (intro t9 h9 tk9 F9 N9); (try k_sweep))
  k_with "evT" => ((with_reducible apply evT_orc); (k_dflt (k_extra "evT")); (intro hp9; k_dflt (k_extra "evT")))
  k_with "evTH" => ((with_reducible apply evTH_orc); (k_dflt (k_extra "evTH")); (intro hp9; k_dflt (k_extra "evTH")))
  k_with "evT" => (first
    | ((with_reducible apply evT_or); (k_dflt (k_extra "evT")); (intro hp9; k_dflt (k_extra "evT"))))
  k_with "evTH" => ((with_reducible apply evTH_or); (k_dflt (k_extra "evTH")); (intro hp9; k_dflt (k_extra "evTH")))
  k_with "evTH" => ((with_reducible apply evTH_of); (k_dflt (k_extra "evT")))
  k_with "eval Call Name" => ((with_reducible apply call_fun); (k_extra "A"); (k_extra "A"); (k_extra "A"); (exact topRead_of (by with_reducible assumption)); (k_extra "fn"); (k_extra "R"); (k_extra "F"); (k_dflt (k_extra "evL")); (k_whole); k_dflt (k_extra "args"))
  k_with "fn" => (with_reducible first | exact fn_first | exact fn_in_order | exact fn_small | exact fn_bumped | exact fn_decayed | exact fn_same | exact fn_values | exact fn_best)
  k_with "hH" => k_allIn
  k_with "spl" => (first
    | exact .nil
    | (refine' .drop ?_ ?_; (first | exact .head _ | exact .tail _ (.head _) | exact .tail _ (.tail _ (.head _))); (k_extra "spl"))
    | (refine' .keep ?_ ?_; (k_extra "neall"); (k_extra "spl")))
  k_with "neall" => (first | exact List.forall_mem_nil _ | (refine List.forall_mem_cons.mpr ⟨?_, ?_⟩; (k_extra "k_ne"); (k_extra "neall")))
  k_with "args" => (refine argKv ?_; intro tk9)
  k_with "spl" => (exact spl2 (by with_reducible assumption) (by with_reducible assumption))
  k_with "evT" => ((with_reducible apply evT_chain); (k_dflt (k_extra "evI")); (k_dflt (k_extra "evI")); (k_dflt (k_extra "evI")); (k_dflt (k_extra "cop")); (k_dflt (k_extra "cop")); (k_extra "R"))
  k_with "evTH" => ((with_reducible apply evTH_minlt); (k_extra "R"); (k_extra "A"); (exact topRead_of (by with_reducible assumption)); (k_extra "R"); (k_dflt (k_extra "evV")); (k_dflt (k_extra "evI")); (k_extra "G"); (k_extra "F"); (k_dflt k_memK); (k_dflt (k_extra "ints")); (k_dflt (k_extra "pre0")); (k_dflt (k_extra "pre0")); (k_extra "R"))
  k_with "evTH" => ((with_reducible apply evTH_maxgt); (k_extra "R"); (k_extra "A"); (exact topRead_of (by with_reducible assumption)); (k_extra "R"); (k_dflt (k_extra "evV")); (k_dflt (k_extra "evI")); (k_extra "G"); (k_extra "F"); (k_dflt k_memK); (k_dflt (k_extra "ints")); (k_dflt (k_extra "pre0")); (k_dflt (k_extra "pre0")); (k_extra "R"))
  k_with "execs cons" => ((with_reducible apply x_copy); (k_extra "A"); (k_extra "A"); (k_extra "A"); (exact topRead_of (by with_reducible assumption)); (k_extra "R"); (k_extra "R"); (k_dflt (k_extra "evV")); (k_extra "G"); (k_extra "F"); (k_dflt k_memK); (k_dflt (k_extra "len9")); (k_extra "F"); (k_whole); (intro D9 c9 h9 tk9 f9 F9 N9); (try k_sweep); (k_extra "fresh"))
  k_with "fresh" => skip
  k_with "updF" => (exact upC (by with_reducible assumption))
  k_with "evBH" => ((with_reducible apply evBH_cmp); (k_dflt (k_extra "evIH")); (k_dflt (k_extra "evIH")); (k_dflt (k_extra "cop")); (k_extra "R"))
  k_with "evBH" => ((with_reducible apply evBH_andc); (k_dflt (k_extra "evBH")); (intro hp9; k_dflt (k_extra "evBH")))
  k_with "evBH" => ((with_reducible apply evBH_and); (k_dflt (k_extra "evBH")); (intro hp9; k_dflt (k_extra "evBH")))
  k_with "evBH" => ((with_reducible apply evBH_listeq); (k_dflt (k_extra "room")); (k_extra "A"); (exact topRead_of (by with_reducible assumption)); (k_extra "R"); (k_dflt (k_extra "evV")); (intro nw; k_dflt (k_extra "evV")); (k_extra "G"); (k_extra "F"); (k_dflt k_memK); (k_dflt k_memK); (k_dflt (k_extra "ints")); (k_dflt (k_extra "ints")); (k_dflt (k_extra "len9")); (k_extra "R"))
  k_with "evBH" => ((with_reducible apply evBH_small); (k_extra "A"); (k_extra "A"); (k_extra "A"); (k_dflt (k_extra "room")); (k_dflt (k_extra "room")); (k_extra "R"); (k_extra "R"); (k_dflt (k_extra "evV")); (k_dflt (k_extra "evI")); (k_dflt (k_extra "evV")); (k_dflt (k_extra "hH")); (k_dflt (k_extra "spl")); (k_extra "A"); (k_extra "off5"); (k_dflt (k_extra "ints")); (k_dflt (k_extra "ints")); (k_dflt (k_extra "pre0")); (k_dflt (k_extra "pre0")); (k_dflt (k_extra "pre0")); (k_dflt (k_extra "pre0")); (k_dflt (k_extra "pre0")); (k_dflt (k_extra "pre0")); (k_dflt (k_extra "pre0")); (k_extra "G"); (k_extra "G"); (k_extra "G"); (k_extra "F"))
  k_with "evTH" => ((with_reducible apply evTH_call); (k_dflt (k_extra "evBH")); (k_extra "F"))
  k_with "execs cons" => ((with_reducible apply x_retB); (k_extra "A"); (k_extra "A"); (k_dflt (k_extra "evBH")); (k_whole); (intro b9 h9 tk9 hb9 F9 N9); (try k_sweep))
  k_with "spl" => (exact spl6)
  k_with "evIH" => ((with_reducible apply evIH_many); (k_dflt (k_extra "evV")); (k_dflt k_memK); (k_dflt k_memK); (k_dflt (k_extra "hH")); (k_dflt (k_extra "spl")); (k_dflt (k_extra "ints")); (k_dflt (k_extra "pre0")); (k_extra "A"); (k_extra "A"); (k_extra "A"); (k_dflt (k_extra "room")); (k_dflt (k_extra "room")); (k_extra "R"); (k_extra "F"))
  k_with "evIH" => ((with_reducible apply evIH_size); (k_dflt (k_extra "evV")); (k_dflt k_memK); (k_dflt k_memK); (k_dflt (k_extra "hH")); (k_dflt (k_extra "spl")); (k_dflt (k_extra "ints")); (k_dflt (k_extra "pre0")); (k_extra "A"); (k_extra "A"); (k_extra "A"); (k_dflt (k_extra "room")); (k_dflt (k_extra "room")); (k_extra "R"); (k_extra "F"))
  k_with "evIH" => ((with_reducible apply evIH_top); (k_dflt (k_extra "evV")); (k_dflt k_memK); (k_dflt k_memK); (k_dflt (k_extra "hH")); (k_dflt (k_extra "spl")); (k_dflt (k_extra "ints")); (k_dflt (k_extra "pre0")); (k_extra "A"); (k_extra "A"); (k_extra "A"); (k_dflt (k_extra "room")); (k_dflt (k_extra "room")); (k_extra "R"); (k_extra "F"))
  k_with "call ref" => ((with_reducible show wpAny _ _ (call (Value.ref 43) _) _ _ _); k_dflt (refine' ctr_use (c_many ?a0 ?a1) G ?F ?N ?B ?X ?T ?hk ?hH ?hR ?hd ?hu ?_; (case F => assumption); (case N => assumption); (case hH => k_extra "hH"); (case hR => k_extra "spl"); (case a0 => k_extra "ints"); (case a1 => k_extra "pre0"); (case B => assumption); (case X => assumption); (case T => assumption); (case hk => exact rfl); (case hd => k_extra "room"); (case hu => k_extra "room"); k_whole; intro t8 h9 tk9 F9 N9 ap9; (try dsimp only [led, List.cons_append, List.nil_append] at N9); clear ap9; (try k_sweep)))
  k_with "call ref" => ((with_reducible show wpAny _ _ (call (Value.ref 43) _) _ _ _); k_dflt (refine' ctr_use0 (c_many ?a0 ?a1) G ?F ?N ?B ?X ?T ?hk ?hd ?hu ?_; (case F => assumption); (case N => assumption); (case a0 => k_extra "ints"); (case a1 => k_extra "pre0"); (case B => assumption); (case X => assumption); (case T => assumption); (case hk => exact rfl); (case hd => k_extra "room"); (case hu => k_extra "room"); k_whole; intro t8 h9 tk9 F9 N9 ap9; (try dsimp only [led, List.cons_append, List.nil_append] at N9); clear ap9; (try k_sweep)))
  k_with "call ref" => ((with_reducible show wpAny _ _ (call (Value.ref 50) _) _ _ _); k_dflt (refine' ctr_use (c_is_held ?a0 ?a1 ?a2 ?a3) G ?F ?N ?B ?X ?T ?hk ?hH ?hR ?hd ?hu ?_; (case F => assumption); (case N => assumption); (case hH => k_extra "hH"); (case hR => k_extra "spl"); (case a0 => k_extra "ints"); (case a1 => k_extra "pre0"); (case a2 => k_extra "pre0"); (case a3 => k_extra "pre0"); (case B => assumption); (case X => assumption); (case T => assumption); (case hk => exact rfl); (case hd => k_extra "room"); (case hu => k_extra "room"); k_whole; intro  h9 tk9 F9 N9 ap9; (try dsimp only [led, List.cons_append, List.nil_append] at N9); clear ap9; (try k_sweep)))
  k_with "call ref" => ((with_reducible show wpAny _ _ (call (Value.ref 50) _) _ _ _); k_dflt (refine' ctr_use0 (c_is_held ?a0 ?a1 ?a2 ?a3) G ?F ?N ?B ?X ?T ?hk ?hd ?hu ?_; (case F => assumption); (case N => assumption); (case a0 => k_extra "ints"); (case a1 => k_extra "pre0"); (case a2 => k_extra "pre0"); (case a3 => k_extra "pre0"); (case B => assumption); (case X => assumption); (case T => assumption); (case hk => exact rfl); (case hd => k_extra "room"); (case hu => k_extra "room"); k_whole; intro  h9 tk9 F9 N9 ap9; (try dsimp only [led, List.cons_append, List.nil_append] at N9); clear ap9; (try k_sweep)))
  k_with "evIH" => ((with_reducible apply evIH_first); (k_extra "A"); (k_extra "A"); (k_extra "A"); (k_dflt (k_extra "room")); (k_dflt (k_extra "room")); (k_extra "R"); (k_extra "R"); (k_dflt (k_extra "evV")); (k_dflt (k_extra "evV")); (k_dflt k_memK); (k_dflt k_memK); (k_dflt (k_extra "spl")); (k_dflt (k_extra "ints")); (k_dflt (k_extra "ints")); (k_dflt (k_extra "pre0")); (k_dflt (k_extra "pre0")); (k_extra "G"); (k_extra "G"); (k_extra "F"))
  trivial
def heldG (pl : List Int) (l : List Int) (k : Int) : List Int := if 0 ≤ pl.getD k.toNat 0 then l ++ [k] else l
theorem heldG_grows (pl : List Int) : KPfGrows (heldG pl) := by
  intro l k
  unfold heldG
  split
  · simp
  · omega
theorem held_comp {n : Int} {pl : List Int} (h : 0 ≤ n) : (rangeKs 1 (n + 1 - 1).toNat).foldl (heldG pl) [] = heldL n pl := held_comp0 h
section
variable {o dx la lh lp lq : Addr} {t1 t2 t3 t4 t5 tl ts : Tok} {limit step : Int} {va vh vp vq : List Value} {na nh np nq : Nat} {act hp pl : List Int}
set_option maxHeartbeats 8000000 in
theorem c_same {n : Int} {u1 : Tok} (hO : Ord5 o dx la lh lp) (hK1 : Off5 lq o dx la lh lp) (ia : IntsAre va act) (ih : IntsAre vh hp) (ip : IntsAre vp pl) (iq : IntsAre vq (heldL n pl)) (hc : Cons n hp pl) (hn : (act.length : Int) = n + 1) (h9 : n ≤ 9) (hu : OrdFrom act hp 0) :
    Ctr 8 120 219 [.ref o, .ref lq, .int n u1] (fun P => (lq, listOf vq.toArray nq) :: led P o dx la lh lp t1 t2 t3 t4 t5 tl ts limit step va vh vp na nh np)
      (fun P k => k (.bool true) ((lq, listOf vq.toArray nq) :: led P o dx la lh lp t1 t2 t3 t4 t5 tl ts limit step va vh vp na nh np)) := by
  have hl1 := hc.lp
  have hl2 := hc.len_le
  have hl3 := held_len hc
  have hf := held_first hc hu
  have hn0 := hc.n0
  have hf0 := held_first0 hc hu
  have hcomp := held_comp (pl := pl) hn0
  have hqr : ∀ v ∈ heldL n pl, 0 ≤ v ∧ v < act.length := fun v hv => by have := held_range v hv; omega
  refine' ctr_introC ?mono ?ho ?hcd ?hb ?hkind ?c1 ?c2 ?c3 ?c4 ?c5 ?_
  case ho => intro P; k_is
  case hcd => intro P; k_is
  case hb => exact fun s => BindsTo.of_eq rfl
  case hkind => exact rfl
  case c1 => decide +kernel
  case c2 => exact fun _ => rfl
  case c3 => exact rfl
  case c4 => exact rfl
  case c5 => exact rfl
  case mono => k_extra "mono"
  intro G h gs dr tk0 os q oc B F X N d1 T l1 hD hU hret
  have hK := off5_lt fun q hq => l1 q (.tail _ hq)
  have hkq : @Ne Nat (G.L + 1) lq := Nat.ne_of_gt (Nat.lt_succ_of_lt (l1 _ (.head _)))
  clear l1
  replace d1 : oc.data = .cell (some (.ref o)) := d1
  unfold led at N
  k_with "eval ListComp" => (k_dflt (refine LCt.ListComp_T (F₀ := by k_asm) (by with_unfolding_all rfl) (by decide) (by rfl) (by decide) (by rfl) ?_))
  k_with "CompEnd" => (k_dflt (refine LCg.CompEnd.intro (by assumption) (by assumption) _ (by kcf_all) off trivial ?_))
  k_with "KCiEl" => (k_dflt (exact kci_el (if_pos (by assumption)) rfl rfl))
  k_with "KCiNo" => (k_dflt (exact kci_no (if_neg (by assumption)) rfl))
  k_with "CompSrcT" => (k_dflt (
    (rename IsRange _ _ _ _ _ _ _ _ => rgX);
    refine LCt.CompSrcT.range (by rfl) (by k_asm) (by k_asm) rgX (small_one (by omega) (by omega) (by omega) (by omega)) (rangeSize_nat _ _) (by (rw [PySem.sizeLine_eq]; omega)) ?_;
    intro gC;
    refine' kci_range (heldG pl) ?_ ?_ (heldG_grows pl);
    intro kC tC IC oI CC oC DC m2 ys lC hC tkC E9 hlo hhi hI hNs hx F1 N1 off ne mk9; clear mk9;
    (show wpAny _ _ _ _ _ _)))
  k_with "KEnd" => (exact kEnd_eq (congrArg Value.bool (hb9.mpr hf.symm).symm) (hret _ _ _ F9 (news_sub N9 (by (unfold led; k_allIn)))))
  k_with "KEnd" => (exfalso; omega)
  k_with "spl" => (first | exact spl_comp hK hK1 off | exact splF hO hK hK1 hkq)
  k_with "execs cons" => ((with_reducible show wpAny _ _ (execs (Stmt.Return (some (PySem.Expr.Compare _ _ _ _)) _ :: _) _) _ _ _); refine stop ?_)
  k_extra "steps"
  unfold Stop
  rename Fr _ _ _ _ => lF
  rename News _ _ _ _ => lN
  refine' x_retB lF (news_sub lN fun _ h => .tail _ h) ?ev ?kk
  case ev => k_dflt (k_extra "evBH")
  case kk =>
    clear lF lN
    intro b9 h9 tk9 hb9 F9 N9
    exact kEnd_eq (congrArg Value.bool (hb9.mpr hf.symm).symm) (hret _ _ _ F9 (news_sub N9 (by (unfold led; k_allIn))))
end
example : True := by
  k_with_none
  k_with "A" => (with_reducible assumption)
  k_with "R" => (k_dflt (exact rfl))
  k_with "F" => (k_dflt (exact fun _ => rfl))
  k_with "G" => (k_dflt (exact fun _ _ => rfl))
  k_with "steps" => (repeat' (first | walk1 | (dsimp only; walk1) | fail "no step"))
  k_with "k_ne" => (first | (k_extra "A") | (refine Ne.symm ?_; with_reducible assumption))
  k_with "ints" => (first | with_reducible assumption | exact ints_set (by k_extra "ints") _ | exact ints_app1 (by k_extra "ints") _ _ | fail "no ints")
  k_with "pre0" => (first | with_reducible assumption | (with_reducible exact le_w (by assumption) rfl) | (with_reducible exact le_we (by assumption) (by assumption) rfl) | (with_reducible exact lt_we (by assumption) (by assumption)) | omega | (simp only [List.length_set, List.length_append, List.length_cons, List.length_nil, List.length_map]; omega) | k_extra "pre")
  k_with "evI" => (first
    | ((with_reducible apply evI_name); (k_extra "R"); (k_extra "R"))
    | (with_reducible exact evI_const)
    | ((with_reducible apply evI_neg); (k_dflt (k_extra "evI")))
    | ((with_reducible apply evI_op); (k_dflt (k_extra "evI")); (k_dflt (k_extra "evI")); (k_dflt (k_extra "iop")))
    | ((with_reducible apply evI_sub); (k_dflt (k_extra "evV")); (k_dflt (k_extra "evI")); (k_dflt k_memK); (k_dflt (k_extra "ints")); (k_dflt (k_extra "pre0")); (k_dflt (k_extra "pre0")); (k_dflt (k_extra "pre0")); (k_extra "F"))
    | ((with_reducible apply evI_limit); (k_dflt (k_extra "evV")); (k_extra "A"); (k_dflt k_memK); (k_dflt k_memK))
    | ((with_reducible apply evI_step); (k_dflt (k_extra "evV")); (k_extra "A"); (k_dflt k_memK); (k_dflt k_memK))
    | ((with_reducible apply evI_len); (k_extra "A"); (exact topRead_of (by with_reducible assumption)); (k_extra "R"); (k_dflt (k_extra "evV")); (k_extra "G"); (k_extra "F"); (k_dflt k_memK); (k_dflt (exact len_cast (by k_extra "ints"))); (k_dflt (k_extra "len9"))))
  k_with "len9" => (rw [IntsAre.length (by k_extra "ints")]; k_extra "pre0")
  k_with "iop" => (first | exact .add | exact .sub | exact .mul (by decide) | exact .fdiv (by decide) (by decide) | exact .mod (by decide))
  k_with "evV" => (first
    | ((with_reducible apply evV_name); (k_extra "R"); (k_extra "R"))
    | ((with_reducible apply evV_heap); (k_dflt (k_extra "evV")); (k_extra "A"); (k_dflt k_memK); (k_dflt k_memK))
    | ((with_reducible apply evV_act); (k_dflt (k_extra "evV")); (k_extra "A"); (k_dflt k_memK); (k_dflt k_memK))
    | ((with_reducible apply evV_place); (k_dflt (k_extra "evV")); (k_extra "A"); (k_dflt k_memK); (k_dflt k_memK)))
  k_with "cop" => (first | exact .lt | exact .le | exact .gt | exact .ge | exact .eq | exact .ne)
  k_with "evT" => (first
    | ((with_reducible apply evT_cmp); (k_dflt (k_extra "evI")); (k_dflt (k_extra "evI")); (k_dflt (k_extra "cop")); (k_extra "R"))
    | ((with_reducible apply evT_not); (k_dflt (k_extra "evT")))
    | ((with_reducible apply evT_and); (k_dflt (k_extra "evT")); (intro hp9; k_dflt (k_extra "evT")))
    | ((with_reducible apply evT_or); (k_dflt (k_extra "evT")); (intro hp9; k_dflt (k_extra "evT"))))
  k_with "execs cons" => (with_reducible refine x_cons ?_)
  k_with "eval Call Attribute" => ((with_reducible apply call_meth); (k_extra "A"); (k_extra "A"); (k_extra "mt"); (k_extra "F"); (k_dflt (k_extra "evV")); (k_extra "A"); (k_dflt k_memK); (k_dflt k_memK); (k_extra "R"); (k_dflt (k_extra "evL")); (k_whole); k_dflt (k_extra "args"))
  k_with "evL" => (first | exact .nil | ((with_reducible apply EvL.i); (k_dflt (k_extra "evI")); (k_extra "G"); (k_dflt (k_extra "evL"))) | ((with_reducible apply EvL.v); (k_dflt (k_extra "evV")); (k_extra "G"); (k_dflt (k_extra "evL"))))
  k_with "args" => (first | (refine argK0 ?_; intro tk9) | (refine argK1 ?_; intro t9 tk9) | (refine argK2 ?_; intro t9 t8 tk9) | (refine argKv ?_; intro tk9) | (refine argKvv ?_; intro tk9) | (refine argKvi ?_; intro t9 tk9) | (refine argKvii ?_; intro t9 t8 tk9) | (refine argKvvi ?_; intro t9 tk9) | (refine argKvvv ?_; intro tk9))
  k_with "mt" => (with_reducible first | exact mt_is_before | exact mt_put | exact mt_rise | exact mt_better_child | exact mt_sink | exact mt_push | exact mt_pop | exact mt_pop_best | exact mt_bump | exact mt_decay | exact mt_rescale | exact mt_rebuild | exact mt_grow | exact mt_many | exact mt_is_held | exact mt_size | exact mt_top)
  k_with "storeName" => ((with_reducible apply x_store); (k_extra "A"); (k_extra "A"); (k_extra "R"); (k_whole); (intro h9 tk9 F9 N9); (try k_sweep))
  k_with "eval BinOp" => ((with_reducible apply useI); (k_extra "A"); (k_extra "A"); (k_dflt (k_extra "evI")); (k_whole); (intro t9 tk9))
  k_with "isTrue Compare" => ((with_reducible apply useT); (k_extra "A"); (k_extra "A"); (k_dflt (k_extra "evT")); all_goals (k_whole; intro hp9 tk9))
  k_with "execs nil" => (with_reducible refine wpAny_execs_nil ?_)
  k_with "SeqK" => (with_reducible first | refine seq_next ?_ | refine seq_ret ?_ | refine seq_brk ?_ | refine seq_cont ?_)
  k_with "room" => (exact room_le (by with_reducible assumption) rfl)
  k_with "hH" => (first | exact fun _ h => h | exact fun _ h => .tail _ h | exact fun _ h => .tail _ (.tail _ h) | exact fun _ h => .tail _ (.tail _ (.tail _ h)) | exact fun _ h => .tail _ (.tail _ (.tail _ (.tail _ h))))
  k_with "evI" => ((with_reducible apply evI_cell); (k_extra "R"); (k_dflt k_memK); (k_extra "A"); (k_extra "R"))
  k_with "evV" => ((with_reducible apply evV_cell); (k_extra "R"); (k_dflt k_memK); (k_extra "A"); (k_extra "R"))
  trivial
theorem four_pow {k : Nat} (h9 : k ≤ 9) : (4 : Int) ^ k ≠ 0 ∧ ((4 : Int) ^ k).natAbs.log2 < 9000 := by
  have h : ∀ j : Fin 10, (4 : Int) ^ j.val ≠ 0 ∧ ((4 : Int) ^ j.val).natAbs.log2 < 9000 := by decide +kernel
  exact h ⟨k, by omega⟩
def ValC (n : Int) (_ : Params) (K : Value → Led → Prop) : Prop := ∀ (lk : Addr) (vk : List Value) (nk : Nat) (known : List Int), IntsAre vk known → (known.length : Int) = n + 1 → K (.ref lk) [(lk, listOf vk.toArray nk)]
theorem ValC.mono {n : Int} : ∀ P (K K' : Value → Led → Prop), (∀ r H', K r H' → K' r H') → ValC n P K → ValC n P K' := fun _ _ _ h x a b c d e f => h _ _ (x a b c d e f)
def kval (rest k : Int) : Int := [(0 : Int), 0, 1, -1].getD (Int.fmod (Int.fdiv rest ((4 : Int) ^ k.toNat)) 4).toNat 0
theorem kval_of {rest k j v : Int} (h : Int.fmod (Int.fdiv rest ((4 : Int) ^ k.toNat)) 4 = j) (hv : [(0 : Int), 0, 1, -1].getD j.toNat 0 = v) : kval rest k = v := by unfold kval; rw [h, hv]
set_option maxHeartbeats 8000000 in
theorem c_values {n rest : Int} {u1 u2 : Tok} (hn0 : 0 ≤ n) (h9 : n ≤ 9) : Ctr 4 60 224 [.int rest u1, .int n u2] (fun _ => []) (ValC n) := by
  refine' ctr_introC ?mono ?ho ?hcd ?hb ?hkind ?c1 ?c2 ?c3 ?c4 ?c5 ?_
  case ho => intro P; k_is
  case hcd => intro P; k_is
  case hb => exact fun s => BindsTo.of_eq rfl
  case hkind => exact rfl
  case c1 => decide +kernel
  case c2 => exact fun _ => rfl
  case c3 => exact rfl
  case c4 => exact rfl
  case c5 => exact rfl
  case mono => exact ValC.mono
  intro G h gs dr tk0 os q oc B F X N d1 T l1 hD hU hret
  clear l1
  replace d1 : oc.data = .cell (some (.int rest u1)) := d1
  k_with "binaryOp FloorDiv int int" => ((with_reducible show wpAny _ _ (binaryOp Operator.FloorDiv (Value.int _ _) (Value.int (4 ^ _) _)) _ _ _); k_here; k_dflt (with_reducible refine floordiv_int ?kbe ?_ (Or.inl (PyProof.noPylong_of_log2 ?kbp)); (case kbe => exact (four_pow (by omega)).1); (case kbp => exact (four_pow (by omega)).2)))
  k_with "eval ListComp" => (k_dflt (refine LCg.ListComp_U (F₀ := by k_asm) (by with_unfolding_all rfl) (by decide) (by rfl) (by decide) (by rfl) ?_))
  k_with "CompEnd" => (k_dflt (refine LCg.CompEnd.intro (by assumption) (by assumption) _ (by kcf_all) off trivial ?_))
  k_with "KCfEl" => (k_dflt (first | exact kcf_el (kval_of (j := 0) (by assumption) rfl) rfl rfl | exact kcf_el (kval_of (j := 1) (by assumption) rfl) rfl rfl | exact kcf_el (kval_of (j := 2) (by assumption) rfl) rfl rfl | exact kcf_el (kval_of (j := 3) (by assumption) rfl) rfl rfl))
  k_with "CompSrc" => (k_dflt (
    (rename IsRange _ _ _ _ _ _ _ _ => rgX);
    refine LCg.CompSrc.range (by rfl) (by k_asm) (by k_asm) rgX (small_one (by omega) (by omega) (by omega) (by omega)) (rangeSize_nat _ _) (by (rw [PySem.sizeLine_eq]; omega)) ?_;
    intro gC;
    refine' kcf_range (kval rest) ?_ ?_;
    intro kC tC IC oI CC oC DC m2 ys hC tkC E9 hlo hhi hNs hx F1 N1 off ne mk9; clear mk9;
    (show wpAny _ _ _ _ _ _)))
  k_with "KEnd" => (unfold ValC at hret; (rename News _ _ _ _ => lN); refine' kEnd_ret (hret _ _ _ _ ?i9 ?l9 _ _ _ (by assumption) (news_sub lN (by k_allIn))); (case i9 => assumption); (case l9 => (simp only [List.length_append, List.length_map, rangeKs_length, List.length_cons, List.length_nil]; omega)))
  k_extra "steps"
example : True := by
  k_with_none
  k_with "A" => (with_reducible assumption)
  k_with "R" => (k_dflt (exact rfl))
  k_with "F" => (k_dflt (exact fun _ => rfl))
  k_with "G" => (k_dflt (exact fun _ _ => rfl))
  k_with "steps" => (repeat' (first | walk1 | (dsimp only; walk1) | fail "no step"))
  k_with "k_ne" => (first | (k_extra "A") | (refine Ne.symm ?_; with_reducible assumption))
  k_with "ints" => (first | with_reducible assumption | exact ints_set (by k_extra "ints") _ | exact ints_app1 (by k_extra "ints") _ _ | fail "no ints")
  k_with "pre0" => (first | with_reducible assumption | (with_reducible exact le_w (by assumption) rfl) | (with_reducible exact le_we (by assumption) (by assumption) rfl) | (with_reducible exact lt_we (by assumption) (by assumption)) | omega | (simp only [List.length_set, List.length_append, List.length_cons, List.length_nil, List.length_map]; omega) | k_extra "pre")
  k_with "mono" => (intro _ _ _ hk x; (intros; refine hk _ _ ?_; first | exact x | (apply x <;> assumption)))
  k_with "open" => (
    refine' ctr_intro ?mono ?ho ?hcd ?hb ?hloc ?c2 ?c3 ?c4 ?c5 ?_;
    (case ho => (intro P; k_is)); (case hcd => (intro P; k_is)); (case hb => exact fun s => BindsTo.of_eq rfl); (case hloc => exact locs rfl); (case c2 => exact rfl); (case c3 => exact rfl); (case c4 => exact rfl); (case c5 => decide); (case mono => k_extra "mono");
    intro G h gs dr tk0 os q B F X N T l1 hD hU hret;
    unfold led at N)
  k_with "evI" => (first
    | ((with_reducible apply evI_name); (k_extra "R"); (k_extra "R"))
    | (with_reducible exact evI_const)
    | ((with_reducible apply evI_neg); (k_dflt (k_extra "evI")))
    | ((with_reducible apply evI_op); (k_dflt (k_extra "evI")); (k_dflt (k_extra "evI")); (k_dflt (k_extra "iop")))
    | ((with_reducible apply evI_sub); (k_dflt (k_extra "evV")); (k_dflt (k_extra "evI")); (k_dflt k_memK); (k_dflt (k_extra "ints")); (k_dflt (k_extra "pre0")); (k_dflt (k_extra "pre0")); (k_dflt (k_extra "pre0")); (k_extra "F"))
    | ((with_reducible apply evI_limit); (k_dflt (k_extra "evV")); (k_extra "A"); (k_dflt k_memK); (k_dflt k_memK))
    | ((with_reducible apply evI_step); (k_dflt (k_extra "evV")); (k_extra "A"); (k_dflt k_memK); (k_dflt k_memK))
    | ((with_reducible apply evI_len); (k_extra "A"); (exact topRead_of (by with_reducible assumption)); (k_extra "R"); (k_dflt (k_extra "evV")); (k_extra "G"); (k_extra "F"); (k_dflt k_memK); (k_dflt (exact len_cast (by k_extra "ints"))); (k_dflt (k_extra "len9"))))
  k_with "len9" => (rw [IntsAre.length (by k_extra "ints")]; k_extra "pre0")
  k_with "iop" => (first | exact .add | exact .sub | exact .mul (by decide) | exact .fdiv (by decide) (by decide) | exact .mod (by decide))
  k_with "evV" => (first
    | ((with_reducible apply evV_name); (k_extra "R"); (k_extra "R"))
    | ((with_reducible apply evV_heap); (k_dflt (k_extra "evV")); (k_extra "A"); (k_dflt k_memK); (k_dflt k_memK))
    | ((with_reducible apply evV_act); (k_dflt (k_extra "evV")); (k_extra "A"); (k_dflt k_memK); (k_dflt k_memK))
    | ((with_reducible apply evV_place); (k_dflt (k_extra "evV")); (k_extra "A"); (k_dflt k_memK); (k_dflt k_memK)))
  k_with "cop" => (first | exact .lt | exact .le | exact .gt | exact .ge | exact .eq | exact .ne)
  k_with "evT" => (first
    | ((with_reducible apply evT_cmp); (k_dflt (k_extra "evI")); (k_dflt (k_extra "evI")); (k_dflt (k_extra "cop")); (k_extra "R"))
    | ((with_reducible apply evT_not); (k_dflt (k_extra "evT")))
    | ((with_reducible apply evT_and); (k_dflt (k_extra "evT")); (intro hp9; k_dflt (k_extra "evT")))
    | ((with_reducible apply evT_or); (k_dflt (k_extra "evT")); (intro hp9; k_dflt (k_extra "evT"))))
  k_with "exec If" => ((with_reducible apply x_ifH); (k_extra "A"); (k_extra "A"); (k_dflt (k_extra "evTH")); all_goals (k_whole; intro hp9 h9 tk9 F9 N9; (try k_sweep)))
  k_with "exec If" => ((with_reducible apply x_if); (k_extra "A"); (k_extra "A"); (k_dflt (k_extra "evT")); all_goals (k_whole; intro hp9 tk9))
  k_with "execs cons" => (with_reducible refine x_cons ?_)
  k_with "execs cons" => ((with_reducible apply x_setI); (k_extra "A"); (k_extra "A"); (k_dflt (k_extra "evI")); (k_dflt (k_extra "evV")); (k_dflt (k_extra "evI")); (k_dflt (k_extra "updF")); (k_dflt (k_extra "ints")); (k_dflt (k_extra "pre0")); (k_dflt (k_extra "pre0")); (k_dflt (k_extra "pre0")); (k_extra "F"); (k_whole); (intro t9 h9 tk9 F9 N9); (try k_sweep))
  k_with "execs cons" => ((with_reducible apply x_asgV); (k_extra "A"); (k_extra "A"); (k_dflt (k_extra "evV")); (k_extra "R"); (k_extra "F"); (k_whole); (intro h9 tk9 F9 N9); (try k_sweep))
  k_with "execs cons" => ((with_reducible apply x_asgI); (k_extra "A"); (k_extra "A"); (k_dflt (k_extra "evI")); (k_extra "R"); (k_extra "F"); (k_whole); (intro t9 h9 tk9 F9 N9); (try k_sweep))
  k_with "execs cons" => ((with_reducible apply x_retV); (k_extra "A"); (k_extra "A"); (k_dflt (k_extra "evV")); (k_whole); (intro tk9))
  k_with "execs cons" => ((with_reducible apply x_retI); (k_extra "A"); (k_extra "A"); (k_dflt (k_extra "evI")); (k_whole); (intro t9 tk9))
  k_with "execs cons" => ((with_reducible apply x_retC); (k_extra "A"); (k_extra "A"); (k_dflt (k_extra "evI")); (k_dflt (k_extra "evI")); (k_dflt (k_extra "cop")); (k_extra "R"); (k_whole); (intro b9 tk9 hb9))
  k_with "LEnd" => (with_reducible refine lEnd_ ?_; with_reducible first | (refine hret1 _ _ ?_) | (refine hbrk _ ?_) | (k_dflt (k_extra "wend")))
  k_with "eval Call Attribute" => ((with_reducible apply call_meth); (k_extra "A"); (k_extra "A"); (k_extra "mt"); (k_extra "F"); (k_dflt (k_extra "evV")); (k_extra "A"); (k_dflt k_memK); (k_dflt k_memK); (k_extra "R"); (k_dflt (k_extra "evL")); (k_whole); k_dflt (k_extra "args"))
  k_with "evL" => (first | exact .nil | ((with_reducible apply EvL.i); (k_dflt (k_extra "evI")); (k_extra "G"); (k_dflt (k_extra "evL"))) | ((with_reducible apply EvL.v); (k_dflt (k_extra "evV")); (k_extra "G"); (k_dflt (k_extra "evL"))))
  k_with "args" => (first | (refine argK0 ?_; intro tk9) | (refine argK1 ?_; intro t9 tk9) | (refine argK2 ?_; intro t9 t8 tk9) | (refine argKv ?_; intro tk9) | (refine argKvv ?_; intro tk9) | (refine argKvi ?_; intro t9 tk9) | (refine argKvii ?_; intro t9 t8 tk9) | (refine argKvvi ?_; intro t9 tk9) | (refine argKvvv ?_; intro tk9))
  k_with "mt" => (with_reducible first | exact mt_is_before | exact mt_put | exact mt_rise | exact mt_better_child | exact mt_sink | exact mt_push | exact mt_pop | exact mt_pop_best | exact mt_bump | exact mt_decay | exact mt_rescale | exact mt_rebuild | exact mt_grow | exact mt_many | exact mt_is_held | exact mt_size | exact mt_top)
  k_with "storeName" => ((with_reducible apply x_store); (k_extra "A"); (k_extra "A"); (k_extra "R"); (k_whole); (intro h9 tk9 F9 N9); (try k_sweep))
  k_with "call builtin:list.append" => ((with_reducible apply append_U); (k_extra "A"); (k_extra "A"); (k_dflt (k_extra "updF")); (k_dflt (rw [IntsAre.length (by k_extra "ints")]; k_extra "pre0")); (k_whole); (intro h9 tk9 F9 N9); (try k_sweep))
  k_with "call builtin:list.pop" => ((with_reducible apply pop_U); (k_extra "A"); (k_extra "A"); (k_dflt (k_extra "updF")); (k_dflt (k_extra "ints")); (k_dflt (k_extra "pre0")); (k_dflt (k_extra "pre0")); (k_whole); (intro t9 h9 tk9 F9 N9 ip9); (try k_sweep))
  k_with "eval Attribute Name" => ((with_reducible apply useV); (k_extra "A"); (k_extra "A"); (k_dflt (k_extra "evV")); (k_whole); (intro tk9))
  k_with "eval BinOp" => ((with_reducible apply useI); (k_extra "A"); (k_extra "A"); (k_dflt (k_extra "evI")); (k_whole); (intro t9 tk9))
  k_with "eval Subscript" => ((with_reducible apply useI); (k_extra "A"); (k_extra "A"); (k_dflt (k_extra "evI")); (k_whole); (intro t9 tk9))
  k_with "isTrue Compare" => ((with_reducible apply useT); (k_extra "A"); (k_extra "A"); (k_dflt (k_extra "evT")); all_goals (k_whole; intro hp9 tk9))
  k_with "execs nil" => (with_reducible refine wpAny_execs_nil ?_)
  k_with "SeqK" => (with_reducible first | refine seq_next ?_ | refine seq_ret ?_ | refine seq_brk ?_ | refine seq_cont ?_)
  k_with "updF" => (first | exact upH (by with_reducible assumption) | exact upP (by with_reducible assumption) | exact upA (by with_reducible assumption) | exact upD (by with_reducible assumption) | (refine' .tail ?_ ?_; (k_extra "k_ne"); (k_extra "updF")))
  k_with "room" => (exact room_le (by with_reducible assumption) rfl)
  k_with "hH" => (first | exact fun _ h => h | exact fun _ h => .tail _ h | exact fun _ h => .tail _ (.tail _ h) | exact fun _ h => .tail _ (.tail _ (.tail _ h)) | exact fun _ h => .tail _ (.tail _ (.tail _ (.tail _ h))))
  k_with "spl" => (first | exact spl_led | exact .keep (off5_all (by k_extra "off5")) (by k_extra "spl"))
  k_with "off5" => (k_extra "A")
  k_with "evIH" => ((with_reducible apply evIH_of); (k_dflt (k_extra "evI")))
  k_with "evTH" => ((with_reducible apply evTH_cmp); (k_dflt (k_extra "evIH")); (k_dflt (k_extra "evIH")); (k_dflt (k_extra "cop")); (k_extra "R"))
  k_with "evTH" => ((with_reducible apply evTH_or); (k_dflt (k_extra "evTH")); (intro hp9; k_dflt (k_extra "evTH")))
  k_with "evTH" => ((with_reducible apply evTH_and); (k_dflt (k_extra "evTH")); (intro hp9; k_dflt (k_extra "evTH")))
  k_with "evTH" => ((with_reducible apply evTH_not); (k_dflt (k_extra "evTH")))
  k_with "evTH" => ((with_reducible apply evTH_of); (k_dflt (k_extra "evT")))
  k_with "meq" => (first
    | exact MEq.rf
    | ((with_reducible apply MEq.l); (exact rfl); (k_extra "meq"))
    | ((with_reducible apply MEq.r); (exact rfl); (k_extra "meq"))
    | ((with_reducible apply MEq.n); (exact rfl); (k_extra "meq"))
    | ((with_reducible apply MEq.g); (exact rfl); (k_extra "meq")))
  k_with "openC" => (
    refine' ctr_introC ?mono ?ho ?hcd ?hb ?hkind ?c1 ?c2 ?c3 ?c4 ?c5 ?_;
    (case ho => (intro P; k_is)); (case hcd => (intro P; k_is)); (case hb => exact fun s => BindsTo.of_eq rfl); (case hkind => exact rfl); (case c1 => decide +kernel); (case c2 => exact fun _ => rfl); (case c3 => exact rfl); (case c4 => exact rfl); (case c5 => exact rfl); (case mono => k_extra "mono");
    intro G h gs dr tk0 os q oc B F X N d1 T l1 hD hU hret;
    (have hK := off5_lt l1); (have k1 := hK.1); (have k2 := hK.2.1); (have k3 := hK.2.2.1); (have k4 := hK.2.2.2.1); (have k5 := hK.2.2.2.2); clear l1;
    unfold led at N)
  k_with "evI" => ((with_reducible apply evI_cell); (k_extra "R"); (k_dflt k_memK); (k_extra "A"); (k_extra "R"))
  k_with "evV" => ((with_reducible apply evV_cell); (k_extra "R"); (k_dflt k_memK); (k_extra "A"); (k_extra "R"))
  k_with "setAttr ref" => (first
    | ((with_reducible apply set_step); (k_extra "A"); (k_extra "A"); (k_extra "A"); (k_dflt k_memK); (k_dflt k_memK); (k_dflt (k_extra "updF")); (k_whole); (intro h9 tk9 F9 N9); (try k_sweep))
    | ((with_reducible apply set_act); (k_extra "A"); (k_extra "A"); (k_extra "A"); (k_dflt k_memK); (k_dflt k_memK); (k_dflt (k_extra "updF")); (k_whole); (intro h9 tk9 F9 N9); (try k_sweep)))
  k_with "evI" => ((with_reducible apply evI_glob); (k_extra "A"); (exact topRead_of (by with_reducible assumption)); (with_reducible first | exact gl_first | exact gl_shrink); (k_extra "R"))
  k_with "execs cons" => ((with_reducible apply x_asgIC); (k_extra "A"); (k_extra "A"); (k_dflt (k_extra "evI")); (k_extra "R"); (k_dflt (k_extra "updC")); (k_extra "A"); (k_extra "R"); (k_extra "F"); (k_whole); (intro t9 h9 tk9 o9 F9 N9 d9); (try k_sweep))
  k_with "updC" => (exact upC (by with_reducible assumption))
  k_with "updF" => (first | exact upD1 (by with_reducible assumption) (by with_reducible assumption) | exact upA1 (by with_reducible assumption) (by with_reducible assumption))
  k_with "execs cons" => ((with_reducible apply x_setStep); (k_extra "A"); (k_extra "A"); (k_extra "A"); (k_dflt (k_extra "evI")); (k_dflt (k_extra "evV")); (k_dflt k_memK); (k_dflt k_memK); (k_dflt (k_extra "updF")); (k_extra "F"); (k_whole); (intro t9 h9 tk9 F9 N9); (try k_sweep))
  k_with "evT" => ((with_reducible apply evT_orc); (k_dflt (k_extra "evT")); (intro hp9; k_dflt (k_extra "evT")))
  k_with "evTH" => ((with_reducible apply evTH_orc); (k_dflt (k_extra "evTH")); (intro hp9; k_dflt (k_extra "evTH")))
  k_with "evT" => (first
    | ((with_reducible apply evT_or); (k_dflt (k_extra "evT")); (intro hp9; k_dflt (k_extra "evT"))))
  k_with "evTH" => ((with_reducible apply evTH_or); (k_dflt (k_extra "evTH")); (intro hp9; k_dflt (k_extra "evTH")))
  k_with "evTH" => ((with_reducible apply evTH_of); (k_dflt (k_extra "evT")))
  k_with "eval Call Name" => ((with_reducible apply call_fun); (k_extra "A"); (k_extra "A"); (k_extra "A"); (exact topRead_of (by with_reducible assumption)); (k_extra "fn"); (k_extra "R"); (k_extra "F"); (k_dflt (k_extra "evL")); (k_whole); k_dflt (k_extra "args"))
  k_with "fn" => (with_reducible first | exact fn_first | exact fn_in_order | exact fn_small | exact fn_bumped | exact fn_decayed | exact fn_same | exact fn_values | exact fn_best)
  k_with "hH" => k_allIn
  k_with "spl" => (first
    | exact .nil
    | (refine' .drop ?_ ?_; (first | exact .head _ | exact .tail _ (.head _) | exact .tail _ (.tail _ (.head _))); (k_extra "spl"))
    | (refine' .keep ?_ ?_; (k_extra "neall"); (k_extra "spl")))
  k_with "neall" => (first | exact List.forall_mem_nil _ | (refine List.forall_mem_cons.mpr ⟨?_, ?_⟩; (k_extra "k_ne"); (k_extra "neall")))
  k_with "args" => (refine argKv ?_; intro tk9)
  k_with "spl" => (exact spl2 (by with_reducible assumption) (by with_reducible assumption))
  k_with "evT" => ((with_reducible apply evT_chain); (k_dflt (k_extra "evI")); (k_dflt (k_extra "evI")); (k_dflt (k_extra "evI")); (k_dflt (k_extra "cop")); (k_dflt (k_extra "cop")); (k_extra "R"))
  k_with "evTH" => ((with_reducible apply evTH_minlt); (k_extra "R"); (k_extra "A"); (exact topRead_of (by with_reducible assumption)); (k_extra "R"); (k_dflt (k_extra "evV")); (k_dflt (k_extra "evI")); (k_extra "G"); (k_extra "F"); (k_dflt k_memK); (k_dflt (k_extra "ints")); (k_dflt (k_extra "pre0")); (k_dflt (k_extra "pre0")); (k_extra "R"))
  k_with "evTH" => ((with_reducible apply evTH_maxgt); (k_extra "R"); (k_extra "A"); (exact topRead_of (by with_reducible assumption)); (k_extra "R"); (k_dflt (k_extra "evV")); (k_dflt (k_extra "evI")); (k_extra "G"); (k_extra "F"); (k_dflt k_memK); (k_dflt (k_extra "ints")); (k_dflt (k_extra "pre0")); (k_dflt (k_extra "pre0")); (k_extra "R"))
  k_with "execs cons" => ((with_reducible apply x_copy); (k_extra "A"); (k_extra "A"); (k_extra "A"); (exact topRead_of (by with_reducible assumption)); (k_extra "R"); (k_extra "R"); (k_dflt (k_extra "evV")); (k_extra "G"); (k_extra "F"); (k_dflt k_memK); (k_dflt (k_extra "len9")); (k_extra "F"); (k_whole); (intro D9 c9 h9 tk9 f9 F9 N9); (try k_sweep); (k_extra "fresh"))
  k_with "fresh" => skip
  k_with "updF" => (exact upC (by with_reducible assumption))
  k_with "evBH" => ((with_reducible apply evBH_cmp); (k_dflt (k_extra "evIH")); (k_dflt (k_extra "evIH")); (k_dflt (k_extra "cop")); (k_extra "R"))
  k_with "evBH" => ((with_reducible apply evBH_andc); (k_dflt (k_extra "evBH")); (intro hp9; k_dflt (k_extra "evBH")))
  k_with "evBH" => ((with_reducible apply evBH_and); (k_dflt (k_extra "evBH")); (intro hp9; k_dflt (k_extra "evBH")))
  k_with "evBH" => ((with_reducible apply evBH_listeq); (k_dflt (k_extra "room")); (k_extra "A"); (exact topRead_of (by with_reducible assumption)); (k_extra "R"); (k_dflt (k_extra "evV")); (intro nw; k_dflt (k_extra "evV")); (k_extra "G"); (k_extra "F"); (k_dflt k_memK); (k_dflt k_memK); (k_dflt (k_extra "ints")); (k_dflt (k_extra "ints")); (k_dflt (k_extra "len9")); (k_extra "R"))
  k_with "evBH" => ((with_reducible apply evBH_small); (k_extra "A"); (k_extra "A"); (k_extra "A"); (k_dflt (k_extra "room")); (k_dflt (k_extra "room")); (k_extra "R"); (k_extra "R"); (k_dflt (k_extra "evV")); (k_dflt (k_extra "evI")); (k_dflt (k_extra "evV")); (k_dflt (k_extra "hH")); (k_dflt (k_extra "spl")); (k_extra "A"); (k_extra "off5"); (k_dflt (k_extra "ints")); (k_dflt (k_extra "ints")); (k_dflt (k_extra "pre0")); (k_dflt (k_extra "pre0")); (k_dflt (k_extra "pre0")); (k_dflt (k_extra "pre0")); (k_dflt (k_extra "pre0")); (k_dflt (k_extra "pre0")); (k_dflt (k_extra "pre0")); (k_extra "G"); (k_extra "G"); (k_extra "G"); (k_extra "F"))
  k_with "evTH" => ((with_reducible apply evTH_call); (k_dflt (k_extra "evBH")); (k_extra "F"))
  k_with "execs cons" => ((with_reducible apply x_retB); (k_extra "A"); (k_extra "A"); (k_dflt (k_extra "evBH")); (k_whole); (intro b9 h9 tk9 hb9 F9 N9); (try k_sweep))
  k_with "spl" => (exact spl6)
  k_with "evIH" => ((with_reducible apply evIH_first); (k_extra "A"); (k_extra "A"); (k_extra "A"); (k_dflt (k_extra "room")); (k_dflt (k_extra "room")); (k_extra "R"); (k_extra "R"); (k_dflt (k_extra "evV")); (k_dflt (k_extra "evV")); (k_dflt k_memK); (k_dflt k_memK); (k_dflt (k_extra "spl")); (k_dflt (k_extra "ints")); (k_dflt (k_extra "ints")); (k_dflt (k_extra "pre0")); (k_dflt (k_extra "pre0")); (k_extra "G"); (k_extra "G"); (k_extra "F"))
  trivial
theorem rem_ints : ∀ {vs : List Value} {ns : List Int} {k : Int}, IntsAre vs ns → k ∈ ns → kf_ints vs = true ∧ ∃ j q, kf_at k vs = some j ∧ ki_delL vs j = some q ∧ IntsAre q (ns.erase k)
  | _, _, k, .nil, h => nomatch h
  | _, _, k, .cons (vs := r) (ns := nr) m t hr, h => by
    have hall : ∀ {vs : List Value} {ns : List Int}, IntsAre vs ns → kf_ints vs = true := fun h => by
      induction h with
      | nil => rfl
      | cons m t _ ih => exact ih
    refine ⟨hall (IntsAre.cons m t hr), ?_⟩
    by_cases c : m = k
    · subst c
      have e : isInt m (.int m t) = true := by simp [isInt]
      refine ⟨0, r, ?_, rfl, ?_⟩
      · unfold kf_at; rw [e]; rfl
      · rw [List.erase_cons_head]; exact hr
    · have e : isInt k (.int m t) = false := by simp [isInt, c]
      have hk : k ∈ nr := by
        rcases List.mem_cons.mp h with q | q
        · exact absurd q.symm c
        · exact q
      obtain ⟨_, j, q, e1, e2, e3⟩ := rem_ints hr hk
      refine ⟨j + 1, .int m t :: q, ?_, ?_, ?_⟩
      · unfold kf_at; rw [e, e1]; rfl
      · unfold ki_delL; rw [e2]
      · rw [List.erase_cons_tail (by simpa using c)]; exact .cons m t e3
def tup2 (a b : Value) : Obj := { cls := .type "tuple", data := .seq #[a, b] }
structure LInv (n : Int) (act known held : List Int) (best : Int) (left : List Int) : Prop where
  b : best = lfirst act left
  r : ∀ v ∈ left, 1 ≤ v ∧ v ≤ n
  len : left.length ≤ 9
  came : ∀ r H', PB act known left r H' → PB act known held r H'
theorem LInv.start {n : Int} {act known held : List Int} (hr : ∀ v ∈ held, 1 ≤ v ∧ v ≤ n) (hl : held.length ≤ 9) : LInv n act known held (lfirst act held) held := ⟨rfl, hr, hl, fun _ _ h => h⟩
theorem LInv.mem {n best : Int} {act known held left : List Int} (h : LInv n act known held best left) (h0 : 0 < best) : best ∈ left := by
  have := h.b; subst this; exact lfirst_mem h0
theorem LInv.rng {n best : Int} {act known held left : List Int} (h : LInv n act known held best left) (h0 : 0 < best) : best ≤ n := (h.r _ (h.mem h0)).2
theorem LInv.less {n best : Int} {act known held left : List Int} (h : LInv n act known held best left) (h0 : 0 < best) : (left.erase best).length < left.length := by
  have hm := h.mem h0
  rw [List.length_erase_of_mem hm]
  have := List.length_pos_of_mem hm
  omega
theorem LInv.step {n best : Int} {act known held left : List Int} (h : LInv n act known held best left) (h0 : 0 < best) (hk : ¬ known.getD best.toNat 0 = 0) : LInv n act known held (lfirst act (left.erase best)) (left.erase best) :=
  ⟨rfl, fun v hv => h.r v (List.mem_of_mem_erase hv), by have := h.less h0; have := h.len; omega, fun r H' hp => h.came r H' (.skip h.b h0 hk hp)⟩
theorem LInv.stop0 {n best : Int} {act known held left : List Int} (h : LInv n act known held best left) (h0 : ¬ 0 < best) : best = 0 ∧ PB act known held 0 left := by
  have h1 := lfirst_nonneg (act := act) (held := left) (fun v hv => by have := (h.r v hv).1; omega)
  rw [← h.b] at h1
  have e : best = 0 := by omega
  exact ⟨e, h.came _ _ (.none (by rw [← h.b]; exact e))⟩
theorem LInv.stop1 {n best : Int} {act known held left : List Int} (h : LInv n act known held best left) (h0 : 0 < best) (hk : known.getD best.toNat 0 = 0) : PB act known held best (left.erase best) := h.came _ _ (.hit h.b h0 hk)
theorem LInv.rng2 {n best : Int} {act known held left : List Int} (h : LInv n act known held best left) (hn : (act.length : Int) = n + 1) : ∀ v ∈ left, 0 ≤ v ∧ v < act.length := fun v hv => by have := h.r v hv; omega
theorem LInv.rng3 {n best : Int} {act known held left : List Int} (h : LInv n act known held best left) (hn : (act.length : Int) = n + 1) : ∀ v ∈ left.erase best, 0 ≤ v ∧ v < act.length := fun v hv => h.rng2 hn v (List.mem_of_mem_erase hv)
theorem x_asgIH {cn : Str} {cs : Scope} {a : Addr} {ccd : Value} {cl : List (Str × Addr)} {prog : Program} {w : World} {A : Around} {h₀ : Heap} {L : Addr} {m : Str → Option Value} {news : Led} {h : Heap} {gs : Array GenState} {dr : Drawn} {tk0 : Nat} {os : OsState} {E : Value → Shared → Prop} {Q : Flow → Shared → Prop} {rest : List Stmt}
    {x : Str} {pos p1 : Pos} {i : Int} {e : PySem.Expr} (F : Fr h₀ L h m) (N : News h₀ L h news) (V : EvIH (EC.mk cn cs a ccd cl prog w A h₀ L m news) e i) (hx : nmOk cs .local x = true) (hs : ∀ env, swapsWith e (some (.Name x p1)) pos.line env = pure false)
    (k : ∀ t h' tk, Fr h₀ L h' (upd m x (some (.int i t))) → News h₀ L h' news → wpAny (model prog w) A (execs rest (envX cn cs L a ccd cl)) Q E ⟨h', gs, dr, tk, os⟩) :
    wpAny (model prog w) A (execs (.Assign [.Name x p1] e pos :: rest) (envX cn cs L a ccd cl)) Q E ⟨h, gs, dr, tk0, os⟩ := by
  obtain ⟨d1, d2, _⟩ := nmOk_spec hx
  exact wpAny_execs_cons (wpAny_Assign_Name (V _ _ _ _ _ _ _ F N fun t h' tk F' N' => storeX_L F' N' (fun h2 F2 N2 => k t h2 _ F2 N2) d1 d2) (hs _))
theorem spl4 {D la lq lk : Addr} {x y z w : Obj} (h1 : @Ne Nat lq la) (h2 : @Ne Nat lq D) (h3 : @Ne Nat lk la) (h4 : @Ne Nat lk D) : Spl [la, D] [(D, x), (la, y), (lq, z), (lk, w)] [(lq, z), (lk, w)] :=
  .drop (.tail _ (.head _)) (.drop (.head _) (.keep (List.forall_mem_cons.mpr ⟨h1, List.forall_mem_cons.mpr ⟨h2, List.forall_mem_nil _⟩⟩) (.keep (List.forall_mem_cons.mpr ⟨h3, List.forall_mem_cons.mpr ⟨h4, List.forall_mem_nil _⟩⟩) .nil)))
structure BS where
  b : Int
  t : Tok
  v : List Value
  n : Nat
  left : List Int
def LBC (la lq lk : Addr) (va vq vk : List Value) (na nq nk : Nat) (act known held : List Int) (_ : Params) (K : Value → Led → Prop) : Prop :=
  ∀ (b : Int) (t : Tok) (lt l2 : Addr) (v2 : List Value) (n2 : Nat) (left : List Int), IntsAre v2 left → PB act known held b left → @Ne Nat l2 la → @Ne Nat l2 lq → @Ne Nat l2 lk → @Ne Nat lt la → @Ne Nat lt lq → @Ne Nat lt lk → @Ne Nat lt l2 →
    K (.ref lt) [(lt, tup2 (.int b t) (.ref l2)), (l2, listOf v2.toArray n2), (la, listOf va.toArray na), (lq, listOf vq.toArray nq), (lk, listOf vk.toArray nk)]
section
variable {la lq lk : Addr} {va vq vk : List Value} {na nq nk : Nat} {act held known : List Int}
theorem LBC.mono : ∀ P (K K' : Value → Led → Prop), (∀ r H', K r H' → K' r H') → LBC la lq lk va vq vk na nq nk act known held P K → LBC la lq lk va vq vk na nq nk act known held P K' :=
  fun _ _ _ h x a b c d e f g i j l m o p q r s => h _ _ (x a b c d e f g i j l m o p q r s)
set_option maxHeartbeats 8000000 in
theorem c_best {n : Int} (ha1 : @Ne Nat la lq) (ha2 : @Ne Nat la lk) (ha3 : @Ne Nat lq lk) (ia : IntsAre va act) (iq : IntsAre vq held) (ik : IntsAre vk known) (hn : (act.length : Int) = n + 1) (hkn : (known.length : Int) = n + 1) (h9 : n ≤ 9) (hr : ∀ v ∈ held, 1 ≤ v ∧ v ≤ n) (hl : held.length ≤ 9) :
    Ctr 4 40 231 [.ref la, .ref lq, .ref lk] (fun _ => [(la, listOf va.toArray na), (lq, listOf vq.toArray nq), (lk, listOf vk.toArray nk)])
      (LBC la lq lk va vq vk na nq nk act known held) := by
  have hR := LInv.start (act := act) (known := known) hr hl
  have hq0 := hR.rng2 hn
  k_with "mono" => exact LBC.mono
  k_extra "open"
  k_with "fresh" => (k_dflt ((have e1 : @Ne Nat la D9 := Nat.ne_of_lt (f9 _ (.head _))); (have e2 : @Ne Nat lq D9 := Nat.ne_of_lt (f9 _ (.tail _ (.head _)))); (have e3 : @Ne Nat lk D9 := Nat.ne_of_lt (f9 _ (.tail _ (.tail _ (.head _)))))))
  k_with "pre" => (first | exact hq0 | exact hR1.rng3 hn | exact hR1.rng2 hn)
  k_with "spl" => exact spl4 (Ne.symm ha1) e2 (Ne.symm ha2) e3
  k_with "execs cons" => ((with_reducible apply x_asgIH); (k_extra "A"); (k_extra "A"); (k_dflt (k_extra "evIH")); (k_extra "R"); (k_extra "F"); (k_whole); (intro t9 h9 tk9 F9 N9); (try k_sweep))
  k_with "execs cons" => (
    (with_reducible show wpAny _ _ (execs (Stmt.While _ _ _ _ :: _) _) _ _ _);
    k_dflt (
    refine' x_while (σ := BS) (fun c => [(D9, listOf c.v.toArray c.n), (la, listOf va.toArray na), (lq, listOf vq.toArray nq), (lk, listOf vk.toArray nk)]) (fun c => upd _ "best" (some (.int c.b c.t))) (fun c => IntsAre c.v c.left ∧ LInv n act known held c.b c.left) (fun c => c.left.length) (fun c => 0 < c.b) ⟨_, _, vq, _, held⟩ (by assumption) (by assumption) (by k_extra "meq") ⟨iq, hR⟩ ?_ ?_ ?_ (by passes_own);
    (intro c hP; (try dsimp only); k_extra "evTH");
    (intro c h1 tk1 q1 hP htp F9 N9 hnext hbrk hret1; (try dsimp only at F9 N9 htp); (have i1 := hP.1); (have hR1 := hP.2); (have hA := hR1.mem htp); (have hB := hR1.rng htp); (have hL := hR1.len); (try k_sweep));
    rotate_left;
    (intro c h1 tk1 hP htp F9 N9; (try dsimp only at F9 N9 htp); (have i1 := hP.1); (have hR1 := hP.2); (try k_sweep));
    rotate_right))
  k_with "call builtin:list.remove" => (
    (with_reducible show wpAny _ _ (call (Value.builtin _) [Value.ref _, Value.int _ _]) _ _ _); k_here;
    obtain ⟨hki, j9, q9, ej9, eq9, iq9⟩ := rem_ints i1 hA;
    k_dflt (
    (rename Fr _ _ _ _ => lF); (rename News _ _ _ _ => lN);
    refine' kf_remove lF lN hki ej9 eq9 (updF_upd (.head (List.forall_mem_cons.mpr ⟨e1, List.forall_mem_cons.mpr ⟨e2, List.forall_mem_cons.mpr ⟨e3, List.forall_mem_nil _⟩⟩⟩)) _) ?z ?_;
    (case z => exact ints_small i1 (by omega)); intro h' F9 N9; (try clear lF lN); (try k_sweep); (try dsimp only)))
  k_with "wend" => (refine hnext ⟨lfirst act (c.left.erase c.b), _, q9, _, c.left.erase c.b⟩ _ _ _ ⟨iq9, hR1.step htp hp9⟩ (hR1.less htp) (by k_extra "meq") F9 N9)
  k_with "KEnd" => (unfold LBC at hret; (rename LT.lt _ _ ∧ _ ∧ _ ∧ _ => l9); (rename Fr _ _ _ _ => lF); (rename News _ _ _ _ => lN); first
    | exact kEnd_ret (hret _ _ _ _ _ _ _ iq9 (hR1.stop1 htp hp9) (Ne.symm e1) (Ne.symm e2) (Ne.symm e3) (Nat.ne_of_gt l9.2.1) (Nat.ne_of_gt l9.2.2.1) (Nat.ne_of_gt l9.2.2.2) (Nat.ne_of_gt l9.1) _ _ _ lF lN)
    | exact kEnd_ret (hret _ _ _ _ _ _ _ i1 (hR1.stop0 htp).2 (Ne.symm e1) (Ne.symm e2) (Ne.symm e3) (Nat.ne_of_gt l9.2.1) (Nat.ne_of_gt l9.2.2.1) (Nat.ne_of_gt l9.2.2.2) (Nat.ne_of_gt l9.1) _ _ _ lF lN))
  k_extra "steps"
end
def lawFn : List Stmt × Scope := match PySem.Challenge.pw_no0005_01.main.body.getLast? with
  | some (.FunctionDef _ _ body _ _ _ scope _ _ _) => (body, scope)
  | _ => ([], default)
def loopBody : Option Stmt → List Stmt
  | some (.For _ _ body _ _) => body
  | _ => []
def lawLoopBody : List Stmt := loopBody lawFn.1[8]?
def lawRest : List Stmt := lawFn.1.drop 9
def lawScope : Scope := lawFn.2
def kindBody : Nat → Option Stmt → List Stmt
  | 0, some (.If _ b _ _) => b
  | 5, some (.If _ _ [.If _ _ [.If _ _ [.If _ _ [.If _ _ b _] _] _] _] _) => b
  | n + 1, some (.If _ _ (s :: _) _) => kindBody n (some s)
  | _, _ => []
def lawKind (n : Nat) : List Stmt := kindBody n lawLoopBody[3]?
def lawTail : List Stmt := lawLoopBody.drop 4
abbrev lawCl (L : Addr) : List (Str × Addr) := [("best", L + 1 + 1), ("heap", L + 1)]
theorem lawCl_ok (L : Addr) : cellsFrom (L + 1) lawScope.names [] = lawCl L := rfl
structure LS where
  n : Int
  tn : Tok
  la : Addr
  step : Int
  ts : Tok
  va : List Value
  vh : List Value
  vp : List Value
  na : Nat
  nh : Nat
  np : Nat
  act : List Int
  hp : List Int
  pl : List Int
  lq : Addr
  vq : List Value
  nq : Nat
  dec : Int
  td : Tok
  cb : Obj
def lawLed (P : Params) (l cB cH : Addr) (ws : List Value) (oH : Obj) (o dx lh lp : Addr) (t1 t2 t3 t4 t5 tl : Tok) (limit : Int) (c : LS) : Led :=
  (l, listOf ws.toArray 0) :: (c.lq, listOf c.vq.toArray c.nq) :: (cB, c.cb) :: (cH, oH) :: led P o dx c.la lh lp t1 t2 t3 t4 t5 tl c.ts limit c.step c.va c.vh c.vp c.na c.nh c.np
abbrev lawSt : List Str := ["number", "kind", "rest", "var", "turn", "known", "late", "many", "held", "decays"]
structure LM (limit : Int) (tl : Tok) (c : LS) (m : Str → Option Value) : Prop where
  many : m "many" = some (.int c.n c.tn)
  held : m "held" = some (.ref c.lq)
  dec : m "decays" = some (.int c.dec c.td)
  lim : m "limit" = some (.int limit tl)
structure LF (l cB cH o dx lh lp : Nat) (limit : Int) (c : LS) : Prop where
  ia : IntsAre c.va c.act
  ih : IntsAre c.vh c.hp
  ip : IntsAre c.vp c.pl
  iq : IntsAre c.vq (heldL c.n c.pl)
  cb : ∃ x, c.cb.data = .cell x
  o5 : Ord5 o dx c.la lh lp
  fl : Off5 l o dx c.la lh lp
  fq : Off5 c.lq o dx c.la lh lp
  fb : Off5 cB o dx c.la lh lp
  fh : Off5 cH o dx c.la lh lp
  ql : @Ne Nat c.lq l
  qb : @Ne Nat c.lq cB
  qh : @Ne Nat c.lq cH
  inv : LawInv limit c.n c.act c.hp c.pl c.step
structure LI (I o dx lh lp : Nat) (c : LS) : Prop where
  fi : Off5 I o dx c.la lh lp
  iq : @Ne Nat I c.lq
section
variable {I l lq cB cH o dx la lh lp : Addr} {x1 x2 x3 x4 x5 y1 y2 y3 y4 y5 : Obj}
theorem splT (h1 : Off5 I o dx la lh lp) (h2 : Off5 l o dx la lh lp) (h3 : Off5 lq o dx la lh lp) (h4 : Off5 cB o dx la lh lp) (h5 : Off5 cH o dx la lh lp) :
    Spl [o, dx, la, lh, lp] [(I, y1), (l, y2), (lq, y3), (cB, y4), (cH, y5), (o, x1), (dx, x2), (la, x3), (lh, x4), (lp, x5)] [(I, y1), (l, y2), (lq, y3), (cB, y4), (cH, y5)] :=
  .keep (off5_all h1) (.keep (off5_all h2) (.keep (off5_all h3) (.keep (off5_all h4) (.keep (off5_all h5) spl_led))))
theorem off6_all {k : Addr} (h : Off5 k o dx la lh lp) (e : @Ne Nat k lq) : ∀ a ∈ [lq, o, dx, la, lh, lp], k ≠ a := List.forall_mem_cons.mpr ⟨e, off5_all h⟩
theorem splS (h1 : Off5 I o dx la lh lp) (h2 : Off5 l o dx la lh lp) (h4 : Off5 cB o dx la lh lp) (h5 : Off5 cH o dx la lh lp) (e1 : @Ne Nat I lq) (e2 : @Ne Nat lq l) (e3 : @Ne Nat lq cB) (e4 : @Ne Nat lq cH) :
    Spl [lq, o, dx, la, lh, lp] [(I, y1), (l, y2), (lq, y3), (cB, y4), (cH, y5), (o, x1), (dx, x2), (la, x3), (lh, x4), (lp, x5)] [(I, y1), (l, y2), (cB, y4), (cH, y5)] :=
  .keep (off6_all h1 e1) (.keep (off6_all h2 (Ne.symm e2)) (.drop (.head _) (.keep (off6_all h4 (Ne.symm e3)) (.keep (off6_all h5 (Ne.symm e4))
    (.drop (by simp) (.drop (by simp) (.drop (by simp) (.drop (by simp) (.drop (by simp) .nil)))))))))
theorem off5_apm {P : Params} {c : Addr} {x : Obj} {R : Led} {t1 t2 t3 t4 t5 tl ts : Tok} {limit step : Int} {va vh vp : List Value} {na nh np : Nat} (h : Apart (led P o dx la lh lp t1 t2 t3 t4 t5 tl ts limit step va vh vp na nh np) R) (hm : (c, x) ∈ R) : Off5 c o dx la lh lp :=
  have k := h _ hm
  ⟨k _ (.head _), k _ (.tail _ (.head _)), k _ (.tail _ (.tail _ (.head _))), k _ (.tail _ (.tail _ (.tail _ (.head _)))), k _ (.tail _ (.tail _ (.tail _ (.tail _ (.head _)))))⟩
end
example : True := by
  k_with_none
  k_with "A" => (with_reducible assumption)
  k_with "R" => (k_dflt (exact rfl))
  k_with "F" => (k_dflt (exact fun _ => rfl))
  k_with "G" => (k_dflt (exact fun _ _ => rfl))
  k_with "steps" => (repeat' (first | walk1 | (dsimp only; walk1) | fail "no step"))
  k_with "k_ne" => (first | (k_extra "A") | (refine Ne.symm ?_; with_reducible assumption))
  k_with "ints" => (first | with_reducible assumption | exact ints_set (by k_extra "ints") _ | exact ints_app1 (by k_extra "ints") _ _ | fail "no ints")
  k_with "pre0" => (first | with_reducible assumption | (with_reducible exact le_w (by assumption) rfl) | (with_reducible exact le_we (by assumption) (by assumption) rfl) | (with_reducible exact lt_we (by assumption) (by assumption)) | omega | (simp only [List.length_set, List.length_append, List.length_cons, List.length_nil, List.length_map]; omega) | k_extra "pre")
  k_with "mono" => (intro _ _ _ hk x; (intros; refine hk _ _ ?_; first | exact x | (apply x <;> assumption)))
  k_with "open" => (
    refine' ctr_intro ?mono ?ho ?hcd ?hb ?hloc ?c2 ?c3 ?c4 ?c5 ?_;
    (case ho => (intro P; k_is)); (case hcd => (intro P; k_is)); (case hb => exact fun s => BindsTo.of_eq rfl); (case hloc => exact locs rfl); (case c2 => exact rfl); (case c3 => exact rfl); (case c4 => exact rfl); (case c5 => decide); (case mono => k_extra "mono");
    intro G h gs dr tk0 os q B F X N T l1 hD hU hret;
    unfold led at N)
  k_with "evI" => (first
    | ((with_reducible apply evI_name); (k_extra "R"); (k_extra "R"))
    | (with_reducible exact evI_const)
    | ((with_reducible apply evI_neg); (k_dflt (k_extra "evI")))
    | ((with_reducible apply evI_op); (k_dflt (k_extra "evI")); (k_dflt (k_extra "evI")); (k_dflt (k_extra "iop")))
    | ((with_reducible apply evI_sub); (k_dflt (k_extra "evV")); (k_dflt (k_extra "evI")); (k_dflt k_memK); (k_dflt (k_extra "ints")); (k_dflt (k_extra "pre0")); (k_dflt (k_extra "pre0")); (k_dflt (k_extra "pre0")); (k_extra "F"))
    | ((with_reducible apply evI_limit); (k_dflt (k_extra "evV")); (k_extra "A"); (k_dflt k_memK); (k_dflt k_memK))
    | ((with_reducible apply evI_step); (k_dflt (k_extra "evV")); (k_extra "A"); (k_dflt k_memK); (k_dflt k_memK))
    | ((with_reducible apply evI_len); (k_extra "A"); (exact topRead_of (by with_reducible assumption)); (k_extra "R"); (k_dflt (k_extra "evV")); (k_extra "G"); (k_extra "F"); (k_dflt k_memK); (k_dflt (exact len_cast (by k_extra "ints"))); (k_dflt (k_extra "len9"))))
  k_with "len9" => (rw [IntsAre.length (by k_extra "ints")]; k_extra "pre0")
  k_with "iop" => (first | exact .add | exact .sub | exact .mul (by decide) | exact .fdiv (by decide) (by decide) | exact .mod (by decide))
  k_with "evV" => (first
    | ((with_reducible apply evV_name); (k_extra "R"); (k_extra "R"))
    | ((with_reducible apply evV_heap); (k_dflt (k_extra "evV")); (k_extra "A"); (k_dflt k_memK); (k_dflt k_memK))
    | ((with_reducible apply evV_act); (k_dflt (k_extra "evV")); (k_extra "A"); (k_dflt k_memK); (k_dflt k_memK))
    | ((with_reducible apply evV_place); (k_dflt (k_extra "evV")); (k_extra "A"); (k_dflt k_memK); (k_dflt k_memK)))
  k_with "cop" => (first | exact .lt | exact .le | exact .gt | exact .ge | exact .eq | exact .ne)
  k_with "evT" => (first
    | ((with_reducible apply evT_cmp); (k_dflt (k_extra "evI")); (k_dflt (k_extra "evI")); (k_dflt (k_extra "cop")); (k_extra "R"))
    | ((with_reducible apply evT_not); (k_dflt (k_extra "evT")))
    | ((with_reducible apply evT_and); (k_dflt (k_extra "evT")); (intro hp9; k_dflt (k_extra "evT")))
    | ((with_reducible apply evT_or); (k_dflt (k_extra "evT")); (intro hp9; k_dflt (k_extra "evT"))))
  k_with "exec If" => ((with_reducible apply x_ifH); (k_extra "A"); (k_extra "A"); (k_dflt (k_extra "evTH")); all_goals (k_whole; intro hp9 h9 tk9 F9 N9; (try k_sweep)))
  k_with "exec If" => ((with_reducible apply x_if); (k_extra "A"); (k_extra "A"); (k_dflt (k_extra "evT")); all_goals (k_whole; intro hp9 tk9))
  k_with "execs cons" => (with_reducible refine x_cons ?_)
  k_with "execs cons" => ((with_reducible apply x_setI); (k_extra "A"); (k_extra "A"); (k_dflt (k_extra "evI")); (k_dflt (k_extra "evV")); (k_dflt (k_extra "evI")); (k_dflt (k_extra "updF")); (k_dflt (k_extra "ints")); (k_dflt (k_extra "pre0")); (k_dflt (k_extra "pre0")); (k_dflt (k_extra "pre0")); (k_extra "F"); (k_whole); (intro t9 h9 tk9 F9 N9); (try k_sweep))
  k_with "execs cons" => ((with_reducible apply x_asgV); (k_extra "A"); (k_extra "A"); (k_dflt (k_extra "evV")); (k_extra "R"); (k_extra "F"); (k_whole); (intro h9 tk9 F9 N9); (try k_sweep))
  k_with "execs cons" => ((with_reducible apply x_asgI); (k_extra "A"); (k_extra "A"); (k_dflt (k_extra "evI")); (k_extra "R"); (k_extra "F"); (k_whole); (intro t9 h9 tk9 F9 N9); (try k_sweep))
  k_with "execs cons" => ((with_reducible apply x_retV); (k_extra "A"); (k_extra "A"); (k_dflt (k_extra "evV")); (k_whole); (intro tk9))
  k_with "execs cons" => ((with_reducible apply x_retI); (k_extra "A"); (k_extra "A"); (k_dflt (k_extra "evI")); (k_whole); (intro t9 tk9))
  k_with "execs cons" => ((with_reducible apply x_retC); (k_extra "A"); (k_extra "A"); (k_dflt (k_extra "evI")); (k_dflt (k_extra "evI")); (k_dflt (k_extra "cop")); (k_extra "R"); (k_whole); (intro b9 tk9 hb9))
  k_with "LEnd" => (with_reducible refine lEnd_ ?_; with_reducible first | (refine hret1 _ _ ?_) | (refine hbrk _ ?_) | (k_dflt (k_extra "wend")))
  k_with "eval Call Attribute" => ((with_reducible apply call_meth); (k_extra "A"); (k_extra "A"); (k_extra "mt"); (k_extra "F"); (k_dflt (k_extra "evV")); (k_extra "A"); (k_dflt k_memK); (k_dflt k_memK); (k_extra "R"); (k_dflt (k_extra "evL")); (k_whole); k_dflt (k_extra "args"))
  k_with "evL" => (first | exact .nil | ((with_reducible apply EvL.i); (k_dflt (k_extra "evI")); (k_extra "G"); (k_dflt (k_extra "evL"))) | ((with_reducible apply EvL.v); (k_dflt (k_extra "evV")); (k_extra "G"); (k_dflt (k_extra "evL"))))
  k_with "args" => (first | (refine argK0 ?_; intro tk9) | (refine argK1 ?_; intro t9 tk9) | (refine argK2 ?_; intro t9 t8 tk9) | (refine argKv ?_; intro tk9) | (refine argKvv ?_; intro tk9) | (refine argKvi ?_; intro t9 tk9) | (refine argKvii ?_; intro t9 t8 tk9) | (refine argKvvi ?_; intro t9 tk9) | (refine argKvvv ?_; intro tk9))
  k_with "mt" => (with_reducible first | exact mt_is_before | exact mt_put | exact mt_rise | exact mt_better_child | exact mt_sink | exact mt_push | exact mt_pop | exact mt_pop_best | exact mt_bump | exact mt_decay | exact mt_rescale | exact mt_rebuild | exact mt_grow | exact mt_many | exact mt_is_held | exact mt_size | exact mt_top)
  k_with "storeName" => ((with_reducible apply x_store); (k_extra "A"); (k_extra "A"); (k_extra "R"); (k_whole); (intro h9 tk9 F9 N9); (try k_sweep))
  k_with "call builtin:list.append" => ((with_reducible apply append_U); (k_extra "A"); (k_extra "A"); (k_dflt (k_extra "updF")); (k_dflt (rw [IntsAre.length (by k_extra "ints")]; k_extra "pre0")); (k_whole); (intro h9 tk9 F9 N9); (try k_sweep))
  k_with "call builtin:list.pop" => ((with_reducible apply pop_U); (k_extra "A"); (k_extra "A"); (k_dflt (k_extra "updF")); (k_dflt (k_extra "ints")); (k_dflt (k_extra "pre0")); (k_dflt (k_extra "pre0")); (k_whole); (intro t9 h9 tk9 F9 N9 ip9); (try k_sweep))
  k_with "eval Attribute Name" => ((with_reducible apply useV); (k_extra "A"); (k_extra "A"); (k_dflt (k_extra "evV")); (k_whole); (intro tk9))
  k_with "eval BinOp" => ((with_reducible apply useI); (k_extra "A"); (k_extra "A"); (k_dflt (k_extra "evI")); (k_whole); (intro t9 tk9))
  k_with "eval Subscript" => ((with_reducible apply useI); (k_extra "A"); (k_extra "A"); (k_dflt (k_extra "evI")); (k_whole); (intro t9 tk9))
  k_with "isTrue Compare" => ((with_reducible apply useT); (k_extra "A"); (k_extra "A"); (k_dflt (k_extra "evT")); all_goals (k_whole; intro hp9 tk9))
  k_with "execs nil" => (with_reducible refine wpAny_execs_nil ?_)
  k_with "SeqK" => (with_reducible first | refine seq_next ?_ | refine seq_ret ?_ | refine seq_brk ?_ | refine seq_cont ?_)
  k_with "updF" => (first | exact upH (by with_reducible assumption) | exact upP (by with_reducible assumption) | exact upA (by with_reducible assumption) | exact upD (by with_reducible assumption) | (refine' .tail ?_ ?_; (k_extra "k_ne"); (k_extra "updF")))
  k_with "room" => (exact room_le (by with_reducible assumption) rfl)
  k_with "hH" => (first | exact fun _ h => h | exact fun _ h => .tail _ h | exact fun _ h => .tail _ (.tail _ h) | exact fun _ h => .tail _ (.tail _ (.tail _ h)) | exact fun _ h => .tail _ (.tail _ (.tail _ (.tail _ h))))
  k_with "spl" => (first | exact spl_led | exact .keep (off5_all (by k_extra "off5")) (by k_extra "spl"))
  k_with "off5" => (k_extra "A")
  k_with "evIH" => ((with_reducible apply evIH_of); (k_dflt (k_extra "evI")))
  k_with "evTH" => ((with_reducible apply evTH_cmp); (k_dflt (k_extra "evIH")); (k_dflt (k_extra "evIH")); (k_dflt (k_extra "cop")); (k_extra "R"))
  k_with "evTH" => ((with_reducible apply evTH_or); (k_dflt (k_extra "evTH")); (intro hp9; k_dflt (k_extra "evTH")))
  k_with "evTH" => ((with_reducible apply evTH_and); (k_dflt (k_extra "evTH")); (intro hp9; k_dflt (k_extra "evTH")))
  k_with "evTH" => ((with_reducible apply evTH_not); (k_dflt (k_extra "evTH")))
  k_with "evTH" => ((with_reducible apply evTH_of); (k_dflt (k_extra "evT")))
  k_with "meq" => (first
    | exact MEq.rf
    | ((with_reducible apply MEq.l); (exact rfl); (k_extra "meq"))
    | ((with_reducible apply MEq.r); (exact rfl); (k_extra "meq"))
    | ((with_reducible apply MEq.n); (exact rfl); (k_extra "meq"))
    | ((with_reducible apply MEq.g); (exact rfl); (k_extra "meq")))
  k_with "openC" => (
    refine' ctr_introC ?mono ?ho ?hcd ?hb ?hkind ?c1 ?c2 ?c3 ?c4 ?c5 ?_;
    (case ho => (intro P; k_is)); (case hcd => (intro P; k_is)); (case hb => exact fun s => BindsTo.of_eq rfl); (case hkind => exact rfl); (case c1 => decide +kernel); (case c2 => exact fun _ => rfl); (case c3 => exact rfl); (case c4 => exact rfl); (case c5 => exact rfl); (case mono => k_extra "mono");
    intro G h gs dr tk0 os q oc B F X N d1 T l1 hD hU hret;
    (have hK := off5_lt l1); (have k1 := hK.1); (have k2 := hK.2.1); (have k3 := hK.2.2.1); (have k4 := hK.2.2.2.1); (have k5 := hK.2.2.2.2); clear l1;
    unfold led at N)
  k_with "evI" => ((with_reducible apply evI_cell); (k_extra "R"); (k_dflt k_memK); (k_extra "A"); (k_extra "R"))
  k_with "evV" => ((with_reducible apply evV_cell); (k_extra "R"); (k_dflt k_memK); (k_extra "A"); (k_extra "R"))
  k_with "setAttr ref" => (first
    | ((with_reducible apply set_step); (k_extra "A"); (k_extra "A"); (k_extra "A"); (k_dflt k_memK); (k_dflt k_memK); (k_dflt (k_extra "updF")); (k_whole); (intro h9 tk9 F9 N9); (try k_sweep))
    | ((with_reducible apply set_act); (k_extra "A"); (k_extra "A"); (k_extra "A"); (k_dflt k_memK); (k_dflt k_memK); (k_dflt (k_extra "updF")); (k_whole); (intro h9 tk9 F9 N9); (try k_sweep)))
  k_with "evI" => ((with_reducible apply evI_glob); (k_extra "A"); (exact topRead_of (by with_reducible assumption)); (with_reducible first | exact gl_first | exact gl_shrink); (k_extra "R"))
  k_with "execs cons" => ((with_reducible apply x_asgIC); (k_extra "A"); (k_extra "A"); (k_dflt (k_extra "evI")); (k_extra "R"); (k_dflt (k_extra "updC")); (k_extra "A"); (k_extra "R"); (k_extra "F"); (k_whole); (intro t9 h9 tk9 o9 F9 N9 d9); (try k_sweep))
  k_with "updC" => (exact upC (by with_reducible assumption))
  k_with "updF" => (first | exact upD1 (by with_reducible assumption) (by with_reducible assumption) | exact upA1 (by with_reducible assumption) (by with_reducible assumption))
  k_with "execs cons" => ((with_reducible apply x_setStep); (k_extra "A"); (k_extra "A"); (k_extra "A"); (k_dflt (k_extra "evI")); (k_dflt (k_extra "evV")); (k_dflt k_memK); (k_dflt k_memK); (k_dflt (k_extra "updF")); (k_extra "F"); (k_whole); (intro t9 h9 tk9 F9 N9); (try k_sweep))
  k_with "evT" => ((with_reducible apply evT_orc); (k_dflt (k_extra "evT")); (intro hp9; k_dflt (k_extra "evT")))
  k_with "evTH" => ((with_reducible apply evTH_orc); (k_dflt (k_extra "evTH")); (intro hp9; k_dflt (k_extra "evTH")))
  k_with "evT" => (first
    | ((with_reducible apply evT_or); (k_dflt (k_extra "evT")); (intro hp9; k_dflt (k_extra "evT"))))
  k_with "evTH" => ((with_reducible apply evTH_or); (k_dflt (k_extra "evTH")); (intro hp9; k_dflt (k_extra "evTH")))
  k_with "evTH" => ((with_reducible apply evTH_of); (k_dflt (k_extra "evT")))
  k_with "eval Call Name" => ((with_reducible apply call_fun); (k_extra "A"); (k_extra "A"); (k_extra "A"); (exact topRead_of (by with_reducible assumption)); (k_extra "fn"); (k_extra "R"); (k_extra "F"); (k_dflt (k_extra "evL")); (k_whole); k_dflt (k_extra "args"))
  k_with "fn" => (with_reducible first | exact fn_first | exact fn_in_order | exact fn_small | exact fn_bumped | exact fn_decayed | exact fn_same | exact fn_values | exact fn_best)
  k_with "hH" => k_allIn
  k_with "spl" => (first
    | exact .nil
    | (refine' .drop ?_ ?_; (first | exact .head _ | exact .tail _ (.head _) | exact .tail _ (.tail _ (.head _))); (k_extra "spl"))
    | (refine' .keep ?_ ?_; (k_extra "neall"); (k_extra "spl")))
  k_with "neall" => (first | exact List.forall_mem_nil _ | (refine List.forall_mem_cons.mpr ⟨?_, ?_⟩; (k_extra "k_ne"); (k_extra "neall")))
  k_with "args" => (refine argKv ?_; intro tk9)
  k_with "spl" => (exact spl2 (by with_reducible assumption) (by with_reducible assumption))
  k_with "evT" => ((with_reducible apply evT_chain); (k_dflt (k_extra "evI")); (k_dflt (k_extra "evI")); (k_dflt (k_extra "evI")); (k_dflt (k_extra "cop")); (k_dflt (k_extra "cop")); (k_extra "R"))
  k_with "evTH" => ((with_reducible apply evTH_minlt); (k_extra "R"); (k_extra "A"); (exact topRead_of (by with_reducible assumption)); (k_extra "R"); (k_dflt (k_extra "evV")); (k_dflt (k_extra "evI")); (k_extra "G"); (k_extra "F"); (k_dflt k_memK); (k_dflt (k_extra "ints")); (k_dflt (k_extra "pre0")); (k_dflt (k_extra "pre0")); (k_extra "R"))
  k_with "evTH" => ((with_reducible apply evTH_maxgt); (k_extra "R"); (k_extra "A"); (exact topRead_of (by with_reducible assumption)); (k_extra "R"); (k_dflt (k_extra "evV")); (k_dflt (k_extra "evI")); (k_extra "G"); (k_extra "F"); (k_dflt k_memK); (k_dflt (k_extra "ints")); (k_dflt (k_extra "pre0")); (k_dflt (k_extra "pre0")); (k_extra "R"))
  k_with "execs cons" => ((with_reducible apply x_copy); (k_extra "A"); (k_extra "A"); (k_extra "A"); (exact topRead_of (by with_reducible assumption)); (k_extra "R"); (k_extra "R"); (k_dflt (k_extra "evV")); (k_extra "G"); (k_extra "F"); (k_dflt k_memK); (k_dflt (k_extra "len9")); (k_extra "F"); (k_whole); (intro D9 c9 h9 tk9 f9 F9 N9); (try k_sweep); (k_extra "fresh"))
  k_with "fresh" => skip
  k_with "updF" => (exact upC (by with_reducible assumption))
  k_with "evBH" => ((with_reducible apply evBH_cmp); (k_dflt (k_extra "evIH")); (k_dflt (k_extra "evIH")); (k_dflt (k_extra "cop")); (k_extra "R"))
  k_with "evBH" => ((with_reducible apply evBH_andc); (k_dflt (k_extra "evBH")); (intro hp9; k_dflt (k_extra "evBH")))
  k_with "evBH" => ((with_reducible apply evBH_and); (k_dflt (k_extra "evBH")); (intro hp9; k_dflt (k_extra "evBH")))
  k_with "evBH" => ((with_reducible apply evBH_listeq); (k_dflt (k_extra "room")); (k_extra "A"); (exact topRead_of (by with_reducible assumption)); (k_extra "R"); (k_dflt (k_extra "evV")); (intro nw; k_dflt (k_extra "evV")); (k_extra "G"); (k_extra "F"); (k_dflt k_memK); (k_dflt k_memK); (k_dflt (k_extra "ints")); (k_dflt (k_extra "ints")); (k_dflt (k_extra "len9")); (k_extra "R"))
  k_with "evBH" => ((with_reducible apply evBH_small); (k_extra "A"); (k_extra "A"); (k_extra "A"); (k_dflt (k_extra "room")); (k_dflt (k_extra "room")); (k_extra "R"); (k_extra "R"); (k_dflt (k_extra "evV")); (k_dflt (k_extra "evI")); (k_dflt (k_extra "evV")); (k_dflt (k_extra "hH")); (k_dflt (k_extra "spl")); (k_extra "A"); (k_extra "off5"); (k_dflt (k_extra "ints")); (k_dflt (k_extra "ints")); (k_dflt (k_extra "pre0")); (k_dflt (k_extra "pre0")); (k_dflt (k_extra "pre0")); (k_dflt (k_extra "pre0")); (k_dflt (k_extra "pre0")); (k_dflt (k_extra "pre0")); (k_dflt (k_extra "pre0")); (k_extra "G"); (k_extra "G"); (k_extra "G"); (k_extra "F"))
  k_with "evTH" => ((with_reducible apply evTH_call); (k_dflt (k_extra "evBH")); (k_extra "F"))
  k_with "execs cons" => ((with_reducible apply x_retB); (k_extra "A"); (k_extra "A"); (k_dflt (k_extra "evBH")); (k_whole); (intro b9 h9 tk9 hb9 F9 N9); (try k_sweep))
  k_with "spl" => (exact spl6)
  trivial
section
variable {o dx la lh lp lq : Addr} {t1 t2 t3 t4 t5 tl ts : Tok} {limit step : Int} {va vh vp vq : List Value} {na nh np nq : Nat} {act hp pl : List Int} {n : Int}
variable {cn : Str} {cs : Scope} {a : Addr} {ccd : Value} {cl : List (Str × Addr)} {m : Str → Option Value} {news Rr : Led} {xp pos : Pos} {e1 e2 e3 : PySem.Expr} {G : GC}
theorem evBH_same (B : Below G.A₀ G.base G.outer G.h₀) (X : (K39 G.w.params).In G.h₀) (T : Top G.p G.loose G.mean G.mg G.mb G.h₀) (hd : G.dp + 8 < recursionLimit) (hu : G.un + 120 < cLine) (hk : cs.kind = .function) (hx : nmOk cs .globalImplicit "_law_same" = true)
    (g1 : EvV (EC.mk cn cs a ccd cl G.prog G.w (ktrTop G.dp G.un G.gd cn cs G.L a ccd cl G.outer) G.h₀ G.L m news) e1 (.ref o)) (g2 : EvV (EC.mk cn cs a ccd cl G.prog G.w (ktrTop G.dp G.un G.gd cn cs G.L a ccd cl G.outer) G.h₀ G.L m news) e2 (.ref lq)) (g3 : EvI (EC.mk cn cs a ccd cl G.prog G.w (ktrTop G.dp G.un G.gd cn cs G.L a ccd cl G.outer) G.h₀ G.L m news) e3 n)
    (hH : ∀ q ∈ (lq, listOf vq.toArray nq) :: led G.w.params o dx la lh lp t1 t2 t3 t4 t5 tl ts limit step va vh vp na nh np, q ∈ news) (hR : Spl [lq, o, dx, la, lh, lp] news Rr)
    (hO : Ord5 o dx la lh lp) (hK1 : Off5 lq o dx la lh lp) (ia : IntsAre va act) (ih : IntsAre vh hp) (ip : IntsAre vp pl) (iq : IntsAre vq (heldL n pl)) (hc : Cons n hp pl) (hn : (act.length : Int) = n + 1) (h9 : n ≤ 9) (hu : OrdFrom act hp 0)
    (q1 : ∀ rest env, starEach (e1 :: rest) env = (false, eval e1 env) :: starEach rest env) (q2 : ∀ rest env, starEach (e2 :: rest) env = (false, eval e2 env) :: starEach rest env) (q3 : ∀ rest env, starEach (e3 :: rest) env = (false, eval e3 env) :: starEach rest env)
    (he : ∀ env, eval (.Call (.Name "_law_same" xp) [e1, e2, e3] [] pos) env = (do callWith pos (← eval (.Name "_law_same" xp) env) [] (backTo pos (starEach [e1, e2, e3] env)) (backToKw pos (keywordEach [] env)))) :
    EvBH (EC.mk cn cs a ccd cl G.prog G.w (ktrTop G.dp G.un G.gd cn cs G.L a ccd cl G.outer) G.h₀ G.L m news) (.Call (.Name "_law_same" xp) [e1, e2, e3] [] pos) (true = true) :=
  evBH_fun (D := 8) (U := 120) (f := 219) (sp := [.inl (.ref o), .inl (.ref lq), .inr n]) (H := fun P => (lq, listOf vq.toArray nq) :: led P o dx la lh lp t1 t2 t3 t4 t5 tl ts limit step va vh vp na nh np) (fun _ => c_same hO hK1 ia ih ip iq hc hn h9 hu) fn_same B X T hd ‹_› hk hx (.v g1 q1 (.v g2 q2 (.i g3 q3 .nil))) hH hR he
end
section
variable {f : Addr} {cd : Value} {G : GC} {q : Flow → Shared → Prop} {l I cB cH : Addr} {ws : List Value} {oH oI : Obj} {o dx lh lp : Addr} {t1 t2 t3 t4 t5 tl : Tok} {limit : Int} {h : Heap} {gs : Array GenState} {dr : Drawn} {tk0 : Nat} {os : OsState} {m : Str → Option Value}
set_option maxHeartbeats 8000000 in
theorem law_tail (B : Below G.A₀ G.base G.outer G.h₀) (X : (K39 G.w.params).In G.h₀) (T : Top G.p G.loose G.mean G.mg G.mb G.h₀) (hD : G.dp + 40 < recursionLimit) (hU : G.un + 300 < cLine) (hoH : oH.data = .cell (some (.ref o)))
    (c : LS) (hf : LF l (G.L + 1 + 1) (G.L + 1) o dx lh lp limit c) (hI : LI I o dx lh lp c) (hm1 : m "held" = some (.ref c.lq)) (hm2 : m "many" = some (.int c.n c.tn))
    (F : Fr G.h₀ G.L h m) (N : News G.h₀ G.L h ((I, oI) :: lawLed G.w.params l (G.L + 1 + 1) (G.L + 1) ws oH o dx lh lp t1 t2 t3 t4 t5 tl limit c))
    (k : ∀ h' tk', Fr G.h₀ G.L h' m → News G.h₀ G.L h' ((I, oI) :: lawLed G.w.params l (G.L + 1 + 1) (G.L + 1) ws oH o dx lh lp t1 t2 t3 t4 t5 tl limit c) → q .next ⟨h', gs, dr, tk', os⟩) :
    wpAny (gM G) (ktrTop G.dp G.un G.gd "law" lawScope G.L f cd (lawCl G.L) G.outer) (execs lawTail (envX "law" lawScope G.L f cd (lawCl G.L))) (LEnd q) NoE ⟨h, gs, dr, tk0, os⟩ := by
  obtain ⟨S, hS⟩ : ∃ S, S = lawScope := ⟨_, rfl⟩
  rw [← hS]
  conv at hS => rhs; whnf
  subst hS
  conv in lawTail => whnf
  unfold lawLed led at N k
  k_with "evV" => ((with_reducible apply evV_name); (k_extra "A"); (k_extra "R"))
  k_with "evI" => ((with_reducible apply evI_name); (k_extra "A"); (k_extra "R"))
  k_with "evBH" => ((with_reducible apply evBH_same); (k_extra "A"); (k_extra "A"); (k_extra "A"); (k_dflt (k_extra "room")); (k_dflt (k_extra "room")); (k_extra "R"); (k_extra "R"); (k_dflt (k_extra "evV")); (k_dflt (k_extra "evV")); (k_dflt (k_extra "evI")); (k_dflt (exact fun _ h => .tail _ (.tail _ (List.mem_cons.mpr ((List.mem_cons.mp h).imp id fun h => .tail _ (.tail _ h)))))); (k_dflt (exact splS hI.fi hf.fl hf.fb hf.fh hI.iq hf.ql hf.qb hf.qh)); (exact hf.o5); (exact hf.fq); (exact hf.ia); (exact hf.ih); (exact hf.ip); (exact hf.iq); (exact hf.inv.cons); (exact hf.inv.len); (exact hf.inv.n9); (exact hf.inv.ord); (k_extra "G"); (k_extra "G"); (k_extra "G"); (k_extra "F"))
  k_with "LEnd" => (exact lEnd_ (k _ _ F9 N9))
  k_with "LEnd" => (exact absurd rfl hp9)
  k_extra "steps"
end
example : True := by
  k_with_none
  k_with "A" => (with_reducible assumption)
  k_with "R" => (k_dflt (exact rfl))
  k_with "F" => (k_dflt (exact fun _ => rfl))
  k_with "G" => (k_dflt (exact fun _ _ => rfl))
  k_with "steps" => (repeat' (first | walk1 | (dsimp only; walk1) | fail "no step"))
  k_with "k_ne" => (first | (k_extra "A") | (refine Ne.symm ?_; with_reducible assumption))
  k_with "ints" => (first | with_reducible assumption | exact ints_set (by k_extra "ints") _ | exact ints_app1 (by k_extra "ints") _ _ | fail "no ints")
  k_with "pre0" => (first | with_reducible assumption | (with_reducible exact le_w (by assumption) rfl) | (with_reducible exact le_we (by assumption) (by assumption) rfl) | (with_reducible exact lt_we (by assumption) (by assumption)) | omega | (simp only [List.length_set, List.length_append, List.length_cons, List.length_nil, List.length_map]; omega) | k_extra "pre")
  k_with "mono" => (intro _ _ _ hk x; (intros; refine hk _ _ ?_; first | exact x | (apply x <;> assumption)))
  k_with "open" => (
    refine' ctr_intro ?mono ?ho ?hcd ?hb ?hloc ?c2 ?c3 ?c4 ?c5 ?_;
    (case ho => (intro P; k_is)); (case hcd => (intro P; k_is)); (case hb => exact fun s => BindsTo.of_eq rfl); (case hloc => exact locs rfl); (case c2 => exact rfl); (case c3 => exact rfl); (case c4 => exact rfl); (case c5 => decide); (case mono => k_extra "mono");
    intro G h gs dr tk0 os q B F X N T l1 hD hU hret;
    unfold led at N)
  k_with "evI" => (first
    | ((with_reducible apply evI_name); (k_extra "R"); (k_extra "R"))
    | (with_reducible exact evI_const)
    | ((with_reducible apply evI_neg); (k_dflt (k_extra "evI")))
    | ((with_reducible apply evI_op); (k_dflt (k_extra "evI")); (k_dflt (k_extra "evI")); (k_dflt (k_extra "iop")))
    | ((with_reducible apply evI_sub); (k_dflt (k_extra "evV")); (k_dflt (k_extra "evI")); (k_dflt k_memK); (k_dflt (k_extra "ints")); (k_dflt (k_extra "pre0")); (k_dflt (k_extra "pre0")); (k_dflt (k_extra "pre0")); (k_extra "F"))
    | ((with_reducible apply evI_limit); (k_dflt (k_extra "evV")); (k_extra "A"); (k_dflt k_memK); (k_dflt k_memK))
    | ((with_reducible apply evI_step); (k_dflt (k_extra "evV")); (k_extra "A"); (k_dflt k_memK); (k_dflt k_memK))
    | ((with_reducible apply evI_len); (k_extra "A"); (exact topRead_of (by with_reducible assumption)); (k_extra "R"); (k_dflt (k_extra "evV")); (k_extra "G"); (k_extra "F"); (k_dflt k_memK); (k_dflt (exact len_cast (by k_extra "ints"))); (k_dflt (k_extra "len9"))))
  k_with "len9" => (rw [IntsAre.length (by k_extra "ints")]; k_extra "pre0")
  k_with "iop" => (first | exact .add | exact .sub | exact .mul (by decide) | exact .fdiv (by decide) (by decide) | exact .mod (by decide))
  k_with "evV" => (first
    | ((with_reducible apply evV_name); (k_extra "R"); (k_extra "R"))
    | ((with_reducible apply evV_heap); (k_dflt (k_extra "evV")); (k_extra "A"); (k_dflt k_memK); (k_dflt k_memK))
    | ((with_reducible apply evV_act); (k_dflt (k_extra "evV")); (k_extra "A"); (k_dflt k_memK); (k_dflt k_memK))
    | ((with_reducible apply evV_place); (k_dflt (k_extra "evV")); (k_extra "A"); (k_dflt k_memK); (k_dflt k_memK)))
  k_with "cop" => (first | exact .lt | exact .le | exact .gt | exact .ge | exact .eq | exact .ne)
  k_with "evT" => (first
    | ((with_reducible apply evT_cmp); (k_dflt (k_extra "evI")); (k_dflt (k_extra "evI")); (k_dflt (k_extra "cop")); (k_extra "R"))
    | ((with_reducible apply evT_not); (k_dflt (k_extra "evT")))
    | ((with_reducible apply evT_and); (k_dflt (k_extra "evT")); (intro hp9; k_dflt (k_extra "evT")))
    | ((with_reducible apply evT_or); (k_dflt (k_extra "evT")); (intro hp9; k_dflt (k_extra "evT"))))
  k_with "exec If" => ((with_reducible apply x_ifH); (k_extra "A"); (k_extra "A"); (k_dflt (k_extra "evTH")); all_goals (k_whole; intro hp9 h9 tk9 F9 N9; (try k_sweep)))
  k_with "exec If" => ((with_reducible apply x_if); (k_extra "A"); (k_extra "A"); (k_dflt (k_extra "evT")); all_goals (k_whole; intro hp9 tk9))
  k_with "execs cons" => (with_reducible refine x_cons ?_)
  k_with "execs cons" => ((with_reducible apply x_setI); (k_extra "A"); (k_extra "A"); (k_dflt (k_extra "evI")); (k_dflt (k_extra "evV")); (k_dflt (k_extra "evI")); (k_dflt (k_extra "updF")); (k_dflt (k_extra "ints")); (k_dflt (k_extra "pre0")); (k_dflt (k_extra "pre0")); (k_dflt (k_extra "pre0")); (k_extra "F"); (k_whole); (intro t9 h9 tk9 F9 N9); (try k_sweep))
  k_with "execs cons" => ((with_reducible apply x_asgV); (k_extra "A"); (k_extra "A"); (k_dflt (k_extra "evV")); (k_extra "R"); (k_extra "F"); (k_whole); (intro h9 tk9 F9 N9); (try k_sweep))
  k_with "execs cons" => ((with_reducible apply x_asgI); (k_extra "A"); (k_extra "A"); (k_dflt (k_extra "evI")); (k_extra "R"); (k_extra "F"); (k_whole); (intro t9 h9 tk9 F9 N9); (try k_sweep))
  k_with "execs cons" => ((with_reducible apply x_retV); (k_extra "A"); (k_extra "A"); (k_dflt (k_extra "evV")); (k_whole); (intro tk9))
  k_with "execs cons" => ((with_reducible apply x_retI); (k_extra "A"); (k_extra "A"); (k_dflt (k_extra "evI")); (k_whole); (intro t9 tk9))
  k_with "execs cons" => ((with_reducible apply x_retC); (k_extra "A"); (k_extra "A"); (k_dflt (k_extra "evI")); (k_dflt (k_extra "evI")); (k_dflt (k_extra "cop")); (k_extra "R"); (k_whole); (intro b9 tk9 hb9))
  k_with "LEnd" => (with_reducible refine lEnd_ ?_; with_reducible first | (refine hret1 _ _ ?_) | (refine hbrk _ ?_) | (k_dflt (k_extra "wend")))
  k_with "eval Call Attribute" => ((with_reducible apply call_meth); (k_extra "A"); (k_extra "A"); (k_extra "mt"); (k_extra "F"); (k_dflt (k_extra "evV")); (k_extra "A"); (k_dflt k_memK); (k_dflt k_memK); (k_extra "R"); (k_dflt (k_extra "evL")); (k_whole); k_dflt (k_extra "args"))
  k_with "evL" => (first | exact .nil | ((with_reducible apply EvL.i); (k_dflt (k_extra "evI")); (k_extra "G"); (k_dflt (k_extra "evL"))) | ((with_reducible apply EvL.v); (k_dflt (k_extra "evV")); (k_extra "G"); (k_dflt (k_extra "evL"))))
  k_with "args" => (first | (refine argK0 ?_; intro tk9) | (refine argK1 ?_; intro t9 tk9) | (refine argK2 ?_; intro t9 t8 tk9) | (refine argKv ?_; intro tk9) | (refine argKvv ?_; intro tk9) | (refine argKvi ?_; intro t9 tk9) | (refine argKvii ?_; intro t9 t8 tk9) | (refine argKvvi ?_; intro t9 tk9) | (refine argKvvv ?_; intro tk9))
  k_with "mt" => (with_reducible first | exact mt_is_before | exact mt_put | exact mt_rise | exact mt_better_child | exact mt_sink | exact mt_push | exact mt_pop | exact mt_pop_best | exact mt_bump | exact mt_decay | exact mt_rescale | exact mt_rebuild | exact mt_grow | exact mt_many | exact mt_is_held | exact mt_size | exact mt_top)
  k_with "storeName" => ((with_reducible apply x_store); (k_extra "A"); (k_extra "A"); (k_extra "R"); (k_whole); (intro h9 tk9 F9 N9); (try k_sweep))
  k_with "call builtin:list.append" => ((with_reducible apply append_U); (k_extra "A"); (k_extra "A"); (k_dflt (k_extra "updF")); (k_dflt (rw [IntsAre.length (by k_extra "ints")]; k_extra "pre0")); (k_whole); (intro h9 tk9 F9 N9); (try k_sweep))
  k_with "call builtin:list.pop" => ((with_reducible apply pop_U); (k_extra "A"); (k_extra "A"); (k_dflt (k_extra "updF")); (k_dflt (k_extra "ints")); (k_dflt (k_extra "pre0")); (k_dflt (k_extra "pre0")); (k_whole); (intro t9 h9 tk9 F9 N9 ip9); (try k_sweep))
  k_with "eval Attribute Name" => ((with_reducible apply useV); (k_extra "A"); (k_extra "A"); (k_dflt (k_extra "evV")); (k_whole); (intro tk9))
  k_with "eval BinOp" => ((with_reducible apply useI); (k_extra "A"); (k_extra "A"); (k_dflt (k_extra "evI")); (k_whole); (intro t9 tk9))
  k_with "eval Subscript" => ((with_reducible apply useI); (k_extra "A"); (k_extra "A"); (k_dflt (k_extra "evI")); (k_whole); (intro t9 tk9))
  k_with "isTrue Compare" => ((with_reducible apply useT); (k_extra "A"); (k_extra "A"); (k_dflt (k_extra "evT")); all_goals (k_whole; intro hp9 tk9))
  k_with "execs nil" => (with_reducible refine wpAny_execs_nil ?_)
  k_with "SeqK" => (with_reducible first | refine seq_next ?_ | refine seq_ret ?_ | refine seq_brk ?_ | refine seq_cont ?_)
  k_with "updF" => (first | exact upH (by with_reducible assumption) | exact upP (by with_reducible assumption) | exact upA (by with_reducible assumption) | exact upD (by with_reducible assumption) | (refine' .tail ?_ ?_; (k_extra "k_ne"); (k_extra "updF")))
  k_with "room" => (exact room_le (by with_reducible assumption) rfl)
  k_with "hH" => (first | exact fun _ h => h | exact fun _ h => .tail _ h | exact fun _ h => .tail _ (.tail _ h) | exact fun _ h => .tail _ (.tail _ (.tail _ h)) | exact fun _ h => .tail _ (.tail _ (.tail _ (.tail _ h))))
  k_with "spl" => (first | exact spl_led | exact .keep (off5_all (by k_extra "off5")) (by k_extra "spl"))
  k_with "off5" => (k_extra "A")
  k_with "evIH" => ((with_reducible apply evIH_of); (k_dflt (k_extra "evI")))
  k_with "evTH" => ((with_reducible apply evTH_cmp); (k_dflt (k_extra "evIH")); (k_dflt (k_extra "evIH")); (k_dflt (k_extra "cop")); (k_extra "R"))
  k_with "evTH" => ((with_reducible apply evTH_or); (k_dflt (k_extra "evTH")); (intro hp9; k_dflt (k_extra "evTH")))
  k_with "evTH" => ((with_reducible apply evTH_and); (k_dflt (k_extra "evTH")); (intro hp9; k_dflt (k_extra "evTH")))
  k_with "evTH" => ((with_reducible apply evTH_not); (k_dflt (k_extra "evTH")))
  k_with "evTH" => ((with_reducible apply evTH_of); (k_dflt (k_extra "evT")))
  k_with "meq" => (first
    | exact MEq.rf
    | ((with_reducible apply MEq.l); (exact rfl); (k_extra "meq"))
    | ((with_reducible apply MEq.r); (exact rfl); (k_extra "meq"))
    | ((with_reducible apply MEq.n); (exact rfl); (k_extra "meq"))
    | ((with_reducible apply MEq.g); (exact rfl); (k_extra "meq")))
  k_with "openC" => (
    refine' ctr_introC ?mono ?ho ?hcd ?hb ?hkind ?c1 ?c2 ?c3 ?c4 ?c5 ?_;
    (case ho => (intro P; k_is)); (case hcd => (intro P; k_is)); (case hb => exact fun s => BindsTo.of_eq rfl); (case hkind => exact rfl); (case c1 => decide +kernel); (case c2 => exact fun _ => rfl); (case c3 => exact rfl); (case c4 => exact rfl); (case c5 => exact rfl); (case mono => k_extra "mono");
    intro G h gs dr tk0 os q oc B F X N d1 T l1 hD hU hret;
    (have hK := off5_lt l1); (have k1 := hK.1); (have k2 := hK.2.1); (have k3 := hK.2.2.1); (have k4 := hK.2.2.2.1); (have k5 := hK.2.2.2.2); clear l1;
    unfold led at N)
  k_with "evI" => ((with_reducible apply evI_cell); (k_extra "R"); (k_dflt k_memK); (k_extra "A"); (k_extra "R"))
  k_with "evV" => ((with_reducible apply evV_cell); (k_extra "R"); (k_dflt k_memK); (k_extra "A"); (k_extra "R"))
  k_with "setAttr ref" => (first
    | ((with_reducible apply set_step); (k_extra "A"); (k_extra "A"); (k_extra "A"); (k_dflt k_memK); (k_dflt k_memK); (k_dflt (k_extra "updF")); (k_whole); (intro h9 tk9 F9 N9); (try k_sweep))
    | ((with_reducible apply set_act); (k_extra "A"); (k_extra "A"); (k_extra "A"); (k_dflt k_memK); (k_dflt k_memK); (k_dflt (k_extra "updF")); (k_whole); (intro h9 tk9 F9 N9); (try k_sweep)))
  k_with "evI" => ((with_reducible apply evI_glob); (k_extra "A"); (exact topRead_of (by with_reducible assumption)); (with_reducible first | exact gl_first | exact gl_shrink); (k_extra "R"))
  k_with "execs cons" => ((with_reducible apply x_asgIC); (k_extra "A"); (k_extra "A"); (k_dflt (k_extra "evI")); (k_extra "R"); (k_dflt (k_extra "updC")); (k_extra "A"); (k_extra "R"); (k_extra "F"); (k_whole); (intro t9 h9 tk9 o9 F9 N9 d9); (try k_sweep))
  k_with "updC" => (exact upC (by with_reducible assumption))
  k_with "updF" => (first | exact upD1 (by with_reducible assumption) (by with_reducible assumption) | exact upA1 (by with_reducible assumption) (by with_reducible assumption))
  k_with "execs cons" => ((with_reducible apply x_setStep); (k_extra "A"); (k_extra "A"); (k_extra "A"); (k_dflt (k_extra "evI")); (k_dflt (k_extra "evV")); (k_dflt k_memK); (k_dflt k_memK); (k_dflt (k_extra "updF")); (k_extra "F"); (k_whole); (intro t9 h9 tk9 F9 N9); (try k_sweep))
  k_with "evT" => ((with_reducible apply evT_orc); (k_dflt (k_extra "evT")); (intro hp9; k_dflt (k_extra "evT")))
  k_with "evTH" => ((with_reducible apply evTH_orc); (k_dflt (k_extra "evTH")); (intro hp9; k_dflt (k_extra "evTH")))
  k_with "evT" => (first
    | ((with_reducible apply evT_or); (k_dflt (k_extra "evT")); (intro hp9; k_dflt (k_extra "evT"))))
  k_with "evTH" => ((with_reducible apply evTH_or); (k_dflt (k_extra "evTH")); (intro hp9; k_dflt (k_extra "evTH")))
  k_with "evTH" => ((with_reducible apply evTH_of); (k_dflt (k_extra "evT")))
  k_with "eval Call Name" => ((with_reducible apply call_fun); (k_extra "A"); (k_extra "A"); (k_extra "A"); (exact topRead_of (by with_reducible assumption)); (k_extra "fn"); (k_extra "R"); (k_extra "F"); (k_dflt (k_extra "evL")); (k_whole); k_dflt (k_extra "args"))
  k_with "fn" => (with_reducible first | exact fn_first | exact fn_in_order | exact fn_small | exact fn_bumped | exact fn_decayed | exact fn_same | exact fn_values | exact fn_best)
  k_with "hH" => k_allIn
  k_with "spl" => (first
    | exact .nil
    | (refine' .drop ?_ ?_; (first | exact .head _ | exact .tail _ (.head _) | exact .tail _ (.tail _ (.head _))); (k_extra "spl"))
    | (refine' .keep ?_ ?_; (k_extra "neall"); (k_extra "spl")))
  k_with "neall" => (first | exact List.forall_mem_nil _ | (refine List.forall_mem_cons.mpr ⟨?_, ?_⟩; (k_extra "k_ne"); (k_extra "neall")))
  k_with "args" => (refine argKv ?_; intro tk9)
  k_with "spl" => (exact spl2 (by with_reducible assumption) (by with_reducible assumption))
  k_with "evT" => ((with_reducible apply evT_chain); (k_dflt (k_extra "evI")); (k_dflt (k_extra "evI")); (k_dflt (k_extra "evI")); (k_dflt (k_extra "cop")); (k_dflt (k_extra "cop")); (k_extra "R"))
  k_with "evTH" => ((with_reducible apply evTH_minlt); (k_extra "R"); (k_extra "A"); (exact topRead_of (by with_reducible assumption)); (k_extra "R"); (k_dflt (k_extra "evV")); (k_dflt (k_extra "evI")); (k_extra "G"); (k_extra "F"); (k_dflt k_memK); (k_dflt (k_extra "ints")); (k_dflt (k_extra "pre0")); (k_dflt (k_extra "pre0")); (k_extra "R"))
  k_with "evTH" => ((with_reducible apply evTH_maxgt); (k_extra "R"); (k_extra "A"); (exact topRead_of (by with_reducible assumption)); (k_extra "R"); (k_dflt (k_extra "evV")); (k_dflt (k_extra "evI")); (k_extra "G"); (k_extra "F"); (k_dflt k_memK); (k_dflt (k_extra "ints")); (k_dflt (k_extra "pre0")); (k_dflt (k_extra "pre0")); (k_extra "R"))
  k_with "execs cons" => ((with_reducible apply x_copy); (k_extra "A"); (k_extra "A"); (k_extra "A"); (exact topRead_of (by with_reducible assumption)); (k_extra "R"); (k_extra "R"); (k_dflt (k_extra "evV")); (k_extra "G"); (k_extra "F"); (k_dflt k_memK); (k_dflt (k_extra "len9")); (k_extra "F"); (k_whole); (intro D9 c9 h9 tk9 f9 F9 N9); (try k_sweep); (k_extra "fresh"))
  k_with "fresh" => skip
  k_with "updF" => (exact upC (by with_reducible assumption))
  k_with "evBH" => ((with_reducible apply evBH_cmp); (k_dflt (k_extra "evIH")); (k_dflt (k_extra "evIH")); (k_dflt (k_extra "cop")); (k_extra "R"))
  k_with "evBH" => ((with_reducible apply evBH_andc); (k_dflt (k_extra "evBH")); (intro hp9; k_dflt (k_extra "evBH")))
  k_with "evBH" => ((with_reducible apply evBH_and); (k_dflt (k_extra "evBH")); (intro hp9; k_dflt (k_extra "evBH")))
  k_with "evBH" => ((with_reducible apply evBH_listeq); (k_dflt (k_extra "room")); (k_extra "A"); (exact topRead_of (by with_reducible assumption)); (k_extra "R"); (k_dflt (k_extra "evV")); (intro nw; k_dflt (k_extra "evV")); (k_extra "G"); (k_extra "F"); (k_dflt k_memK); (k_dflt k_memK); (k_dflt (k_extra "ints")); (k_dflt (k_extra "ints")); (k_dflt (k_extra "len9")); (k_extra "R"))
  k_with "evBH" => ((with_reducible apply evBH_small); (k_extra "A"); (k_extra "A"); (k_extra "A"); (k_dflt (k_extra "room")); (k_dflt (k_extra "room")); (k_extra "R"); (k_extra "R"); (k_dflt (k_extra "evV")); (k_dflt (k_extra "evI")); (k_dflt (k_extra "evV")); (k_dflt (k_extra "hH")); (k_dflt (k_extra "spl")); (k_extra "A"); (k_extra "off5"); (k_dflt (k_extra "ints")); (k_dflt (k_extra "ints")); (k_dflt (k_extra "pre0")); (k_dflt (k_extra "pre0")); (k_dflt (k_extra "pre0")); (k_dflt (k_extra "pre0")); (k_dflt (k_extra "pre0")); (k_dflt (k_extra "pre0")); (k_dflt (k_extra "pre0")); (k_extra "G"); (k_extra "G"); (k_extra "G"); (k_extra "F"))
  k_with "evTH" => ((with_reducible apply evTH_call); (k_dflt (k_extra "evBH")); (k_extra "F"))
  k_with "execs cons" => ((with_reducible apply x_retB); (k_extra "A"); (k_extra "A"); (k_dflt (k_extra "evBH")); (k_whole); (intro b9 h9 tk9 hb9 F9 N9); (try k_sweep))
  k_with "spl" => (exact spl6)
  k_with "evI" => ((with_reducible apply evI_name); (first | with_reducible assumption | k_dflt (first | exact rfl | exact dD | exact dL | exact dM | exact dV | exact dR)); (k_extra "R"))
  k_with "evV" => ((with_reducible apply evV_name); (first | with_reducible assumption | k_dflt (first | exact rfl | exact dH)); (k_extra "R"))
  k_with "spl" => (exact splT hI.fi hf.fl hf.fq hf.fb hf.fh)
  k_with "hH" => (exact fun _ h => .tail _ (.tail _ (.tail _ (.tail _ (.tail _ h)))))
  k_with "ite" => (first | (with_reducible refine ite_t (by first | omega | (simp only [decide_eq_true_eq, beq_iff_eq, bne_iff_ne, ne_eq]; omega)) ?_) | (with_reducible refine ite_f (by first | omega | (simp only [decide_eq_true_eq, beq_iff_eq, bne_iff_ne, ne_eq]; omega)) ?_) | fail "open")
  k_with "call ref" => ((with_reducible show wpAny _ _ (call (Value.ref 207) _) _ _ _); k_dflt (refine' ctr_use (c_bumped ?za0 ?za1 ?za2 ?za3 ?za4 ?za5 ?za6 ?za7 ?za8 ?za9 ?za10 ?za11 ?za12 ?za13 ?za14) G ?zF ?zN ?zB ?zX ?zT ?zk ?zH ?zR ?zd ?zu ?_; (case zF => assumption); (case zN => assumption); (case zH => k_extra "hH"); (case zR => k_extra "spl"); (case za0 => with_reducible assumption); (case za1 => k_extra "ints"); (case za2 => k_extra "ints"); (case za3 => k_extra "ints"); (case za4 => k_extra "pre0"); (case za5 => k_extra "pre0"); (case za6 => k_extra "pre0"); (case za7 => k_extra "pre0"); (case za8 => k_extra "pre0"); (case za9 => k_extra "pre0"); (case za10 => k_extra "pre0"); (case za11 => k_extra "pre0"); (case za12 => k_extra "pre0"); (case za13 => k_extra "pre0"); (case za14 => k_extra "pre0"); (case zB => assumption); (case zX => assumption); (case zT => assumption); (case zk => exact rfl); (case zd => k_extra "room"); (case zu => k_extra "room"); k_whole; intro la9 ts9 va9 vh9 vp9 na9 hp9' pl9 hO9 ia9 ih9 ip9 cs9 or9 sh9 h9 tk9 F9 N9 ap9; (try dsimp only [led, List.cons_append, List.nil_append] at N9);  (try k_sweep)))
  trivial
theorem heldL_same' {n : Int} {pl pl' : List Int} {vq : List Value} (h : SameHeld n pl pl') (i : IntsAre vq (heldL n pl)) : IntsAre vq (heldL n pl') := by rw [heldL_same h]; exact i
section
variable {f : Addr} {cd : Value} {G : GC} {m : Str → Option Value} {Q : Flow → Shared → Prop} {l I : Addr} {ws : List Value} {oH oI : Obj} {o dx lh lp : Addr} {t1 t2 t3 t4 t5 tl tk3 : Tok} {limit vv : Int} {h : Heap} {gs : Array GenState} {dr : Drawn} {tk0 : Nat} {os : OsState}
set_option maxHeartbeats 8000000 in
theorem law_a (B : Below G.A₀ G.base G.outer G.h₀) (X : (K39 G.w.params).In G.h₀) (T : Top G.p G.loose G.mean G.mg G.mb G.h₀) (hD : G.dp + 40 < recursionLimit) (hU : G.un + 300 < cLine) (hoH : oH.data = .cell (some (.ref o))) (hlim1 : 1500 ≤ limit) (hlim2 : limit ≤ 5000000)
    (c : LS) (hf : LF l (G.L + 1 + 1) (G.L + 1) o dx lh lp limit c) (hI : LI I o dx lh lp c) (hv1 : 1 ≤ vv) (hv2 : vv ≤ c.n)
    (hm : LM limit tl c m) (hmV : m "var" = some (.int vv tk3)) (F : Fr G.h₀ G.L h m) (N : News G.h₀ G.L h ((I, oI) :: lawLed G.w.params l (G.L + 1 + 1) (G.L + 1) ws oH o dx lh lp t1 t2 t3 t4 t5 tl limit c))
    (K : ∀ (c' : LS) m' h' tk', LF l (G.L + 1 + 1) (G.L + 1) o dx lh lp limit c' → LI I o dx lh lp c' → LM limit tl c' m' → MEq lawSt m' m → Fr G.h₀ G.L h' m' → News G.h₀ G.L h' ((I, oI) :: lawLed G.w.params l (G.L + 1 + 1) (G.L + 1) ws oH o dx lh lp t1 t2 t3 t4 t5 tl limit c') → Q .next ⟨h', gs, dr, tk', os⟩) :
    wpAny (gM G) (ktrTop G.dp G.un G.gd "law" lawScope G.L f cd (lawCl G.L) G.outer) (execs (lawKind 0) (envX "law" lawScope G.L f cd (lawCl G.L))) (LEnd Q) NoE ⟨h, gs, dr, tk0, os⟩ := by
  obtain ⟨S, hS⟩ : ∃ S, S = lawScope := ⟨_, rfl⟩
  rw [← hS]
  conv at hS => rhs; whnf
  subst hS
  conv in lawKind 0 => whnf
  unfold lawLed led at N
  have hm1 := hm.many
  have hm2 := hm.held
  have hm3 := hm.dec
  have hm4 := hm.lim
  have o5 := hf.o5
  have ia := hf.ia
  have ih := hf.ih
  have ip := hf.ip
  have hcons := hf.inv.cons
  have hlen := hf.inv.len
  have hn9 := hf.inv.n9
  have hord := hf.inv.ord
  have hs0 := hf.inv.s0
  have hs1 := hf.inv.s1
  have hab := hf.inv.ab
  k_with "LEnd" => (
    refine' lEnd_ (K ⟨c.n, c.tn, la9, bumpS c.act c.step limit vv, ts9, va9, vh9, vp9, na9, c.nh, c.np, bumpA c.act c.step limit vv, hp9', pl9, c.lq, c.vq, c.nq, c.dec, c.td, c.cb⟩ _ _ _ ?lf ?li ⟨hm.many, hm.held, hm.dec, hm.lim⟩ MEq.rf F9 N9);
    (case li => exact ⟨off5_apm ap9 (.head _), hI.iq⟩);
    (case lf => exact ⟨ia9, ih9, ip9, heldL_same' sh9 hf.iq, hf.cb, hO9, off5_apm ap9 (.tail _ (.head _)), off5_apm ap9 (.tail _ (.tail _ (.head _))), off5_apm ap9 (.tail _ (.tail _ (.tail _ (.head _)))), off5_apm ap9 (.tail _ (.tail _ (.tail _ (.tail _ (.head _))))), hf.ql, hf.qb, hf.qh, hf.inv.bump hlim1 hv1 hv2 cs9 or9⟩))
  k_extra "steps"
end
example : True := by
  k_with_none
  k_with "A" => (with_reducible assumption)
  k_with "R" => (k_dflt (exact rfl))
  k_with "F" => (k_dflt (exact fun _ => rfl))
  k_with "G" => (k_dflt (exact fun _ _ => rfl))
  k_with "steps" => (repeat' (first | walk1 | (dsimp only; walk1) | fail "no step"))
  k_with "k_ne" => (first | (k_extra "A") | (refine Ne.symm ?_; with_reducible assumption))
  k_with "ints" => (first | with_reducible assumption | exact ints_set (by k_extra "ints") _ | exact ints_app1 (by k_extra "ints") _ _ | fail "no ints")
  k_with "pre0" => (first | with_reducible assumption | (with_reducible exact le_w (by assumption) rfl) | (with_reducible exact le_we (by assumption) (by assumption) rfl) | (with_reducible exact lt_we (by assumption) (by assumption)) | omega | (simp only [List.length_set, List.length_append, List.length_cons, List.length_nil, List.length_map]; omega) | k_extra "pre")
  k_with "mono" => (intro _ _ _ hk x; (intros; refine hk _ _ ?_; first | exact x | (apply x <;> assumption)))
  k_with "open" => (
    refine' ctr_intro ?mono ?ho ?hcd ?hb ?hloc ?c2 ?c3 ?c4 ?c5 ?_;
    (case ho => (intro P; k_is)); (case hcd => (intro P; k_is)); (case hb => exact fun s => BindsTo.of_eq rfl); (case hloc => exact locs rfl); (case c2 => exact rfl); (case c3 => exact rfl); (case c4 => exact rfl); (case c5 => decide); (case mono => k_extra "mono");
    intro G h gs dr tk0 os q B F X N T l1 hD hU hret;
    unfold led at N)
  k_with "evI" => (first
    | ((with_reducible apply evI_name); (k_extra "R"); (k_extra "R"))
    | (with_reducible exact evI_const)
    | ((with_reducible apply evI_neg); (k_dflt (k_extra "evI")))
    | ((with_reducible apply evI_op); (k_dflt (k_extra "evI")); (k_dflt (k_extra "evI")); (k_dflt (k_extra "iop")))
    | ((with_reducible apply evI_sub); (k_dflt (k_extra "evV")); (k_dflt (k_extra "evI")); (k_dflt k_memK); (k_dflt (k_extra "ints")); (k_dflt (k_extra "pre0")); (k_dflt (k_extra "pre0")); (k_dflt (k_extra "pre0")); (k_extra "F"))
    | ((with_reducible apply evI_limit); (k_dflt (k_extra "evV")); (k_extra "A"); (k_dflt k_memK); (k_dflt k_memK))
    | ((with_reducible apply evI_step); (k_dflt (k_extra "evV")); (k_extra "A"); (k_dflt k_memK); (k_dflt k_memK))
    | ((with_reducible apply evI_len); (k_extra "A"); (exact topRead_of (by with_reducible assumption)); (k_extra "R"); (k_dflt (k_extra "evV")); (k_extra "G"); (k_extra "F"); (k_dflt k_memK); (k_dflt (exact len_cast (by k_extra "ints"))); (k_dflt (k_extra "len9"))))
  k_with "len9" => (rw [IntsAre.length (by k_extra "ints")]; k_extra "pre0")
  k_with "iop" => (first | exact .add | exact .sub | exact .mul (by decide) | exact .fdiv (by decide) (by decide) | exact .mod (by decide))
  k_with "evV" => (first
    | ((with_reducible apply evV_name); (k_extra "R"); (k_extra "R"))
    | ((with_reducible apply evV_heap); (k_dflt (k_extra "evV")); (k_extra "A"); (k_dflt k_memK); (k_dflt k_memK))
    | ((with_reducible apply evV_act); (k_dflt (k_extra "evV")); (k_extra "A"); (k_dflt k_memK); (k_dflt k_memK))
    | ((with_reducible apply evV_place); (k_dflt (k_extra "evV")); (k_extra "A"); (k_dflt k_memK); (k_dflt k_memK)))
  k_with "cop" => (first | exact .lt | exact .le | exact .gt | exact .ge | exact .eq | exact .ne)
  k_with "evT" => (first
    | ((with_reducible apply evT_cmp); (k_dflt (k_extra "evI")); (k_dflt (k_extra "evI")); (k_dflt (k_extra "cop")); (k_extra "R"))
    | ((with_reducible apply evT_not); (k_dflt (k_extra "evT")))
    | ((with_reducible apply evT_and); (k_dflt (k_extra "evT")); (intro hp9; k_dflt (k_extra "evT")))
    | ((with_reducible apply evT_or); (k_dflt (k_extra "evT")); (intro hp9; k_dflt (k_extra "evT"))))
  k_with "exec If" => ((with_reducible apply x_ifH); (k_extra "A"); (k_extra "A"); (k_dflt (k_extra "evTH")); all_goals (k_whole; intro hp9 h9 tk9 F9 N9; (try k_sweep)))
  k_with "exec If" => ((with_reducible apply x_if); (k_extra "A"); (k_extra "A"); (k_dflt (k_extra "evT")); all_goals (k_whole; intro hp9 tk9))
  k_with "execs cons" => (with_reducible refine x_cons ?_)
  k_with "execs cons" => ((with_reducible apply x_setI); (k_extra "A"); (k_extra "A"); (k_dflt (k_extra "evI")); (k_dflt (k_extra "evV")); (k_dflt (k_extra "evI")); (k_dflt (k_extra "updF")); (k_dflt (k_extra "ints")); (k_dflt (k_extra "pre0")); (k_dflt (k_extra "pre0")); (k_dflt (k_extra "pre0")); (k_extra "F"); (k_whole); (intro t9 h9 tk9 F9 N9); (try k_sweep))
  k_with "execs cons" => ((with_reducible apply x_asgV); (k_extra "A"); (k_extra "A"); (k_dflt (k_extra "evV")); (k_extra "R"); (k_extra "F"); (k_whole); (intro h9 tk9 F9 N9); (try k_sweep))
  k_with "execs cons" => ((with_reducible apply x_asgI); (k_extra "A"); (k_extra "A"); (k_dflt (k_extra "evI")); (k_extra "R"); (k_extra "F"); (k_whole); (intro t9 h9 tk9 F9 N9); (try k_sweep))
  k_with "execs cons" => ((with_reducible apply x_retV); (k_extra "A"); (k_extra "A"); (k_dflt (k_extra "evV")); (k_whole); (intro tk9))
  k_with "execs cons" => ((with_reducible apply x_retI); (k_extra "A"); (k_extra "A"); (k_dflt (k_extra "evI")); (k_whole); (intro t9 tk9))
  k_with "execs cons" => ((with_reducible apply x_retC); (k_extra "A"); (k_extra "A"); (k_dflt (k_extra "evI")); (k_dflt (k_extra "evI")); (k_dflt (k_extra "cop")); (k_extra "R"); (k_whole); (intro b9 tk9 hb9))
  k_with "LEnd" => (with_reducible refine lEnd_ ?_; with_reducible first | (refine hret1 _ _ ?_) | (refine hbrk _ ?_) | (k_dflt (k_extra "wend")))
  k_with "eval Call Attribute" => ((with_reducible apply call_meth); (k_extra "A"); (k_extra "A"); (k_extra "mt"); (k_extra "F"); (k_dflt (k_extra "evV")); (k_extra "A"); (k_dflt k_memK); (k_dflt k_memK); (k_extra "R"); (k_dflt (k_extra "evL")); (k_whole); k_dflt (k_extra "args"))
  k_with "evL" => (first | exact .nil | ((with_reducible apply EvL.i); (k_dflt (k_extra "evI")); (k_extra "G"); (k_dflt (k_extra "evL"))) | ((with_reducible apply EvL.v); (k_dflt (k_extra "evV")); (k_extra "G"); (k_dflt (k_extra "evL"))))
  k_with "args" => (first | (refine argK0 ?_; intro tk9) | (refine argK1 ?_; intro t9 tk9) | (refine argK2 ?_; intro t9 t8 tk9) | (refine argKv ?_; intro tk9) | (refine argKvv ?_; intro tk9) | (refine argKvi ?_; intro t9 tk9) | (refine argKvii ?_; intro t9 t8 tk9) | (refine argKvvi ?_; intro t9 tk9) | (refine argKvvv ?_; intro tk9))
  k_with "mt" => (with_reducible first | exact mt_is_before | exact mt_put | exact mt_rise | exact mt_better_child | exact mt_sink | exact mt_push | exact mt_pop | exact mt_pop_best | exact mt_bump | exact mt_decay | exact mt_rescale | exact mt_rebuild | exact mt_grow | exact mt_many | exact mt_is_held | exact mt_size | exact mt_top)
  k_with "storeName" => ((with_reducible apply x_store); (k_extra "A"); (k_extra "A"); (k_extra "R"); (k_whole); (intro h9 tk9 F9 N9); (try k_sweep))
  k_with "call builtin:list.append" => ((with_reducible apply append_U); (k_extra "A"); (k_extra "A"); (k_dflt (k_extra "updF")); (k_dflt (rw [IntsAre.length (by k_extra "ints")]; k_extra "pre0")); (k_whole); (intro h9 tk9 F9 N9); (try k_sweep))
  k_with "call builtin:list.pop" => ((with_reducible apply pop_U); (k_extra "A"); (k_extra "A"); (k_dflt (k_extra "updF")); (k_dflt (k_extra "ints")); (k_dflt (k_extra "pre0")); (k_dflt (k_extra "pre0")); (k_whole); (intro t9 h9 tk9 F9 N9 ip9); (try k_sweep))
  k_with "eval Attribute Name" => ((with_reducible apply useV); (k_extra "A"); (k_extra "A"); (k_dflt (k_extra "evV")); (k_whole); (intro tk9))
  k_with "eval BinOp" => ((with_reducible apply useI); (k_extra "A"); (k_extra "A"); (k_dflt (k_extra "evI")); (k_whole); (intro t9 tk9))
  k_with "eval Subscript" => ((with_reducible apply useI); (k_extra "A"); (k_extra "A"); (k_dflt (k_extra "evI")); (k_whole); (intro t9 tk9))
  k_with "isTrue Compare" => ((with_reducible apply useT); (k_extra "A"); (k_extra "A"); (k_dflt (k_extra "evT")); all_goals (k_whole; intro hp9 tk9))
  k_with "execs nil" => (with_reducible refine wpAny_execs_nil ?_)
  k_with "SeqK" => (with_reducible first | refine seq_next ?_ | refine seq_ret ?_ | refine seq_brk ?_ | refine seq_cont ?_)
  k_with "updF" => (first | exact upH (by with_reducible assumption) | exact upP (by with_reducible assumption) | exact upA (by with_reducible assumption) | exact upD (by with_reducible assumption) | (refine' .tail ?_ ?_; (k_extra "k_ne"); (k_extra "updF")))
  k_with "room" => (exact room_le (by with_reducible assumption) rfl)
  k_with "hH" => (first | exact fun _ h => h | exact fun _ h => .tail _ h | exact fun _ h => .tail _ (.tail _ h) | exact fun _ h => .tail _ (.tail _ (.tail _ h)) | exact fun _ h => .tail _ (.tail _ (.tail _ (.tail _ h))))
  k_with "spl" => (first | exact spl_led | exact .keep (off5_all (by k_extra "off5")) (by k_extra "spl"))
  k_with "off5" => (k_extra "A")
  k_with "evIH" => ((with_reducible apply evIH_of); (k_dflt (k_extra "evI")))
  k_with "evTH" => ((with_reducible apply evTH_cmp); (k_dflt (k_extra "evIH")); (k_dflt (k_extra "evIH")); (k_dflt (k_extra "cop")); (k_extra "R"))
  k_with "evTH" => ((with_reducible apply evTH_or); (k_dflt (k_extra "evTH")); (intro hp9; k_dflt (k_extra "evTH")))
  k_with "evTH" => ((with_reducible apply evTH_and); (k_dflt (k_extra "evTH")); (intro hp9; k_dflt (k_extra "evTH")))
  k_with "evTH" => ((with_reducible apply evTH_not); (k_dflt (k_extra "evTH")))
  k_with "evTH" => ((with_reducible apply evTH_of); (k_dflt (k_extra "evT")))
  k_with "meq" => (first
    | exact MEq.rf
    | ((with_reducible apply MEq.l); (exact rfl); (k_extra "meq"))
    | ((with_reducible apply MEq.r); (exact rfl); (k_extra "meq"))
    | ((with_reducible apply MEq.n); (exact rfl); (k_extra "meq"))
    | ((with_reducible apply MEq.g); (exact rfl); (k_extra "meq")))
  k_with "openC" => (
    refine' ctr_introC ?mono ?ho ?hcd ?hb ?hkind ?c1 ?c2 ?c3 ?c4 ?c5 ?_;
    (case ho => (intro P; k_is)); (case hcd => (intro P; k_is)); (case hb => exact fun s => BindsTo.of_eq rfl); (case hkind => exact rfl); (case c1 => decide +kernel); (case c2 => exact fun _ => rfl); (case c3 => exact rfl); (case c4 => exact rfl); (case c5 => exact rfl); (case mono => k_extra "mono");
    intro G h gs dr tk0 os q oc B F X N d1 T l1 hD hU hret;
    (have hK := off5_lt l1); (have k1 := hK.1); (have k2 := hK.2.1); (have k3 := hK.2.2.1); (have k4 := hK.2.2.2.1); (have k5 := hK.2.2.2.2); clear l1;
    unfold led at N)
  k_with "evI" => ((with_reducible apply evI_cell); (k_extra "R"); (k_dflt k_memK); (k_extra "A"); (k_extra "R"))
  k_with "evV" => ((with_reducible apply evV_cell); (k_extra "R"); (k_dflt k_memK); (k_extra "A"); (k_extra "R"))
  k_with "setAttr ref" => (first
    | ((with_reducible apply set_step); (k_extra "A"); (k_extra "A"); (k_extra "A"); (k_dflt k_memK); (k_dflt k_memK); (k_dflt (k_extra "updF")); (k_whole); (intro h9 tk9 F9 N9); (try k_sweep))
    | ((with_reducible apply set_act); (k_extra "A"); (k_extra "A"); (k_extra "A"); (k_dflt k_memK); (k_dflt k_memK); (k_dflt (k_extra "updF")); (k_whole); (intro h9 tk9 F9 N9); (try k_sweep)))
  k_with "evI" => ((with_reducible apply evI_glob); (k_extra "A"); (exact topRead_of (by with_reducible assumption)); (with_reducible first | exact gl_first | exact gl_shrink); (k_extra "R"))
  k_with "execs cons" => ((with_reducible apply x_asgIC); (k_extra "A"); (k_extra "A"); (k_dflt (k_extra "evI")); (k_extra "R"); (k_dflt (k_extra "updC")); (k_extra "A"); (k_extra "R"); (k_extra "F"); (k_whole); (intro t9 h9 tk9 o9 F9 N9 d9); (try k_sweep))
  k_with "updC" => (exact upC (by with_reducible assumption))
  k_with "updF" => (first | exact upD1 (by with_reducible assumption) (by with_reducible assumption) | exact upA1 (by with_reducible assumption) (by with_reducible assumption))
  k_with "execs cons" => ((with_reducible apply x_setStep); (k_extra "A"); (k_extra "A"); (k_extra "A"); (k_dflt (k_extra "evI")); (k_dflt (k_extra "evV")); (k_dflt k_memK); (k_dflt k_memK); (k_dflt (k_extra "updF")); (k_extra "F"); (k_whole); (intro t9 h9 tk9 F9 N9); (try k_sweep))
  k_with "evT" => ((with_reducible apply evT_orc); (k_dflt (k_extra "evT")); (intro hp9; k_dflt (k_extra "evT")))
  k_with "evTH" => ((with_reducible apply evTH_orc); (k_dflt (k_extra "evTH")); (intro hp9; k_dflt (k_extra "evTH")))
  k_with "evT" => (first
    | ((with_reducible apply evT_or); (k_dflt (k_extra "evT")); (intro hp9; k_dflt (k_extra "evT"))))
  k_with "evTH" => ((with_reducible apply evTH_or); (k_dflt (k_extra "evTH")); (intro hp9; k_dflt (k_extra "evTH")))
  k_with "evTH" => ((with_reducible apply evTH_of); (k_dflt (k_extra "evT")))
  k_with "eval Call Name" => ((with_reducible apply call_fun); (k_extra "A"); (k_extra "A"); (k_extra "A"); (exact topRead_of (by with_reducible assumption)); (k_extra "fn"); (k_extra "R"); (k_extra "F"); (k_dflt (k_extra "evL")); (k_whole); k_dflt (k_extra "args"))
  k_with "fn" => (with_reducible first | exact fn_first | exact fn_in_order | exact fn_small | exact fn_bumped | exact fn_decayed | exact fn_same | exact fn_values | exact fn_best)
  k_with "hH" => k_allIn
  k_with "spl" => (first
    | exact .nil
    | (refine' .drop ?_ ?_; (first | exact .head _ | exact .tail _ (.head _) | exact .tail _ (.tail _ (.head _))); (k_extra "spl"))
    | (refine' .keep ?_ ?_; (k_extra "neall"); (k_extra "spl")))
  k_with "neall" => (first | exact List.forall_mem_nil _ | (refine List.forall_mem_cons.mpr ⟨?_, ?_⟩; (k_extra "k_ne"); (k_extra "neall")))
  k_with "args" => (refine argKv ?_; intro tk9)
  k_with "spl" => (exact spl2 (by with_reducible assumption) (by with_reducible assumption))
  k_with "evT" => ((with_reducible apply evT_chain); (k_dflt (k_extra "evI")); (k_dflt (k_extra "evI")); (k_dflt (k_extra "evI")); (k_dflt (k_extra "cop")); (k_dflt (k_extra "cop")); (k_extra "R"))
  k_with "evTH" => ((with_reducible apply evTH_minlt); (k_extra "R"); (k_extra "A"); (exact topRead_of (by with_reducible assumption)); (k_extra "R"); (k_dflt (k_extra "evV")); (k_dflt (k_extra "evI")); (k_extra "G"); (k_extra "F"); (k_dflt k_memK); (k_dflt (k_extra "ints")); (k_dflt (k_extra "pre0")); (k_dflt (k_extra "pre0")); (k_extra "R"))
  k_with "evTH" => ((with_reducible apply evTH_maxgt); (k_extra "R"); (k_extra "A"); (exact topRead_of (by with_reducible assumption)); (k_extra "R"); (k_dflt (k_extra "evV")); (k_dflt (k_extra "evI")); (k_extra "G"); (k_extra "F"); (k_dflt k_memK); (k_dflt (k_extra "ints")); (k_dflt (k_extra "pre0")); (k_dflt (k_extra "pre0")); (k_extra "R"))
  k_with "execs cons" => ((with_reducible apply x_copy); (k_extra "A"); (k_extra "A"); (k_extra "A"); (exact topRead_of (by with_reducible assumption)); (k_extra "R"); (k_extra "R"); (k_dflt (k_extra "evV")); (k_extra "G"); (k_extra "F"); (k_dflt k_memK); (k_dflt (k_extra "len9")); (k_extra "F"); (k_whole); (intro D9 c9 h9 tk9 f9 F9 N9); (try k_sweep); (k_extra "fresh"))
  k_with "fresh" => skip
  k_with "updF" => (exact upC (by with_reducible assumption))
  k_with "evBH" => ((with_reducible apply evBH_cmp); (k_dflt (k_extra "evIH")); (k_dflt (k_extra "evIH")); (k_dflt (k_extra "cop")); (k_extra "R"))
  k_with "evBH" => ((with_reducible apply evBH_andc); (k_dflt (k_extra "evBH")); (intro hp9; k_dflt (k_extra "evBH")))
  k_with "evBH" => ((with_reducible apply evBH_and); (k_dflt (k_extra "evBH")); (intro hp9; k_dflt (k_extra "evBH")))
  k_with "evBH" => ((with_reducible apply evBH_listeq); (k_dflt (k_extra "room")); (k_extra "A"); (exact topRead_of (by with_reducible assumption)); (k_extra "R"); (k_dflt (k_extra "evV")); (intro nw; k_dflt (k_extra "evV")); (k_extra "G"); (k_extra "F"); (k_dflt k_memK); (k_dflt k_memK); (k_dflt (k_extra "ints")); (k_dflt (k_extra "ints")); (k_dflt (k_extra "len9")); (k_extra "R"))
  k_with "evBH" => ((with_reducible apply evBH_small); (k_extra "A"); (k_extra "A"); (k_extra "A"); (k_dflt (k_extra "room")); (k_dflt (k_extra "room")); (k_extra "R"); (k_extra "R"); (k_dflt (k_extra "evV")); (k_dflt (k_extra "evI")); (k_dflt (k_extra "evV")); (k_dflt (k_extra "hH")); (k_dflt (k_extra "spl")); (k_extra "A"); (k_extra "off5"); (k_dflt (k_extra "ints")); (k_dflt (k_extra "ints")); (k_dflt (k_extra "pre0")); (k_dflt (k_extra "pre0")); (k_dflt (k_extra "pre0")); (k_dflt (k_extra "pre0")); (k_dflt (k_extra "pre0")); (k_dflt (k_extra "pre0")); (k_dflt (k_extra "pre0")); (k_extra "G"); (k_extra "G"); (k_extra "G"); (k_extra "F"))
  k_with "evTH" => ((with_reducible apply evTH_call); (k_dflt (k_extra "evBH")); (k_extra "F"))
  k_with "execs cons" => ((with_reducible apply x_retB); (k_extra "A"); (k_extra "A"); (k_dflt (k_extra "evBH")); (k_whole); (intro b9 h9 tk9 hb9 F9 N9); (try k_sweep))
  k_with "spl" => (exact spl6)
  k_with "evI" => ((with_reducible apply evI_name); (first | with_reducible assumption | k_dflt (first | exact rfl | exact dD | exact dL | exact dM | exact dV | exact dR)); (k_extra "R"))
  k_with "evV" => ((with_reducible apply evV_name); (first | with_reducible assumption | k_dflt (first | exact rfl | exact dH)); (k_extra "R"))
  k_with "spl" => (exact splT hI.fi hf.fl hf.fq hf.fb hf.fh)
  k_with "hH" => (exact fun _ h => .tail _ (.tail _ (.tail _ (.tail _ (.tail _ h)))))
  k_with "ite" => (first | (with_reducible refine ite_t (by first | omega | (simp only [decide_eq_true_eq, beq_iff_eq, bne_iff_ne, ne_eq]; omega)) ?_) | (with_reducible refine ite_f (by first | omega | (simp only [decide_eq_true_eq, beq_iff_eq, bne_iff_ne, ne_eq]; omega)) ?_) | fail "open")
  k_with "call ref" => ((with_reducible show wpAny _ _ (call (Value.ref 214) _) _ _ _); k_dflt (refine' ctr_use (c_decayed ?za0 ?za1 ?za2 ?za3 ?za4 ?za5 ?za6 ?za7 ?za8 ?za9 ?za10 ?za11 ?za12) G ?zF ?zN ?zB ?zX ?zT ?zk ?zH ?zR ?zd ?zu ?_; (case zF => assumption); (case zN => assumption); (case zH => k_extra "hH"); (case zR => k_extra "spl"); (case za0 => with_reducible assumption); (case za1 => k_extra "ints"); (case za2 => k_extra "ints"); (case za3 => k_extra "ints"); (case za4 => k_extra "pre0"); (case za5 => k_extra "pre0"); (case za6 => k_extra "pre0"); (case za7 => k_extra "pre0"); (case za8 => k_extra "pre0"); (case za9 => k_extra "pre0"); (case za10 => k_extra "pre0"); (case za11 => k_extra "pre0"); (case za12 => k_extra "pre0"); (case zB => assumption); (case zX => assumption); (case zT => assumption); (case zk => exact rfl); (case zd => k_extra "room"); (case zu => k_extra "room"); k_whole; intro la9 ts9 va9 vh9 vp9 na9 hp9' pl9 hO9 ia9 ih9 ip9 cs9 or9 sh9 h9 tk9 F9 N9 ap9; (try dsimp only [led, List.cons_append, List.nil_append] at N9);  (try k_sweep)))
  trivial
section
variable {I2 I l lq cB cH o dx la lh lp : Addr} {x1 x2 x3 x4 x5 y0 y1 y2 y3 y4 y5 : Obj}
theorem splT6 (h0 : Off5 I2 o dx la lh lp) (h1 : Off5 I o dx la lh lp) (h2 : Off5 l o dx la lh lp) (h3 : Off5 lq o dx la lh lp) (h4 : Off5 cB o dx la lh lp) (h5 : Off5 cH o dx la lh lp) :
    Spl [o, dx, la, lh, lp] [(I2, y0), (I, y1), (l, y2), (lq, y3), (cB, y4), (cH, y5), (o, x1), (dx, x2), (la, x3), (lh, x4), (lp, x5)] [(I2, y0), (I, y1), (l, y2), (lq, y3), (cB, y4), (cH, y5)] :=
  .keep (off5_all h0) (splT h1 h2 h3 h4 h5)
end
theorem off5_sep {P : Params} {I2 I l cB cH : Addr} {oI : Obj} {ws : List Value} {oH : Obj} {o dx lh lp : Addr} {t1 t2 t3 t4 t5 tl : Tok} {limit : Int} {c : LS} (h : ∀ p ∈ (I, oI) :: lawLed P l cB cH ws oH o dx lh lp t1 t2 t3 t4 t5 tl limit c, @Ne Nat I2 p.1) : Off5 I2 o dx c.la lh lp :=
  ⟨h _ (.tail _ (.tail _ (.tail _ (.tail _ (.tail _ (.head _)))))), h _ (.tail _ (.tail _ (.tail _ (.tail _ (.tail _ (.tail _ (.head _))))))), h _ (.tail _ (.tail _ (.tail _ (.tail _ (.tail _ (.tail _ (.tail _ (.head _)))))))), h _ (.tail _ (.tail _ (.tail _ (.tail _ (.tail _ (.tail _ (.tail _ (.tail _ (.head _))))))))), h _ (.tail _ (.tail _ (.tail _ (.tail _ (.tail _ (.tail _ (.tail _ (.tail _ (.tail _ (.head _))))))))))⟩
theorem sep_off5 {P : Params} {I2 I l cB cH : Addr} {oI : Obj} {ws : List Value} {oH : Obj} {o dx lh lp : Addr} {t1 t2 t3 t4 t5 tl : Tok} {limit : Int} {c c' : LS} (h : ∀ p ∈ (I, oI) :: lawLed P l cB cH ws oH o dx lh lp t1 t2 t3 t4 t5 tl limit c, @Ne Nat I2 p.1) (k : Off5 I2 o dx c'.la lh lp) (e : c'.lq = c.lq) : ∀ p ∈ (I, oI) :: lawLed P l cB cH ws oH o dx lh lp t1 t2 t3 t4 t5 tl limit c', @Ne Nat I2 p.1 :=
  List.forall_mem_cons.mpr ⟨h _ (.head _), List.forall_mem_cons.mpr ⟨h (l, _) (.tail _ (.head _)), List.forall_mem_cons.mpr ⟨e ▸ h (c.lq, listOf c.vq.toArray c.nq) (.tail _ (.tail _ (.head _))), List.forall_mem_cons.mpr ⟨h (cB, c.cb) (.tail _ (.tail _ (.tail _ (.head _)))), List.forall_mem_cons.mpr ⟨h (cH, oH) (.tail _ (.tail _ (.tail _ (.tail _ (.head _))))),
    List.forall_mem_cons.mpr ⟨k.1, List.forall_mem_cons.mpr ⟨k.2.1, List.forall_mem_cons.mpr ⟨k.2.2.1, List.forall_mem_cons.mpr ⟨k.2.2.2.1, List.forall_mem_cons.mpr ⟨k.2.2.2.2, List.forall_mem_nil _⟩⟩⟩⟩⟩⟩⟩⟩⟩⟩
section
variable {f : Addr} {cd : Value} {G : GC} {m : Str → Option Value} {Q : Flow → Shared → Prop} {l I : Addr} {ws : List Value} {oH oI : Obj} {o dx lh lp : Addr} {t1 t2 t3 t4 t5 tl tk3 : Tok} {limit rr : Int} {h : Heap} {gs : Array GenState} {dr : Drawn} {tk0 : Nat} {os : OsState}
set_option maxHeartbeats 8000000 in
theorem law_b (B : Below G.A₀ G.base G.outer G.h₀) (X : (K39 G.w.params).In G.h₀) (T : Top G.p G.loose G.mean G.mg G.mb G.h₀) (hD : G.dp + 40 < recursionLimit) (hU : G.un + 300 < cLine) (hoH : oH.data = .cell (some (.ref o))) (hlim1 : 1500 ≤ limit) (hlim2 : limit ≤ 5000000)
    (c : LS) (hf : LF l (G.L + 1 + 1) (G.L + 1) o dx lh lp limit c) (hI : LI I o dx lh lp c)
    (hm : LM limit tl c m) (hmR : m "rest" = some (.int rr tk3)) (F : Fr G.h₀ G.L h m) (N : News G.h₀ G.L h ((I, oI) :: lawLed G.w.params l (G.L + 1 + 1) (G.L + 1) ws oH o dx lh lp t1 t2 t3 t4 t5 tl limit c))
    (K : ∀ (c' : LS) m' h' tk', LF l (G.L + 1 + 1) (G.L + 1) o dx lh lp limit c' → LI I o dx lh lp c' → LM limit tl c' m' → MEq lawSt m' m → Fr G.h₀ G.L h' m' → News G.h₀ G.L h' ((I, oI) :: lawLed G.w.params l (G.L + 1 + 1) (G.L + 1) ws oH o dx lh lp t1 t2 t3 t4 t5 tl limit c') → Q .next ⟨h', gs, dr, tk', os⟩) :
    wpAny (gM G) (ktrTop G.dp G.un G.gd "law" lawScope G.L f cd (lawCl G.L) G.outer) (execs (lawKind 1) (envX "law" lawScope G.L f cd (lawCl G.L))) (LEnd Q) NoE ⟨h, gs, dr, tk0, os⟩ := by
  obtain ⟨S, hS⟩ : ∃ S, S = lawScope := ⟨_, rfl⟩
  rw [← hS]
  conv at hS => rhs; whnf
  subst hS
  conv in lawKind 1 => whnf
  have hv3 := Int.fmod_nonneg_of_pos rr (b := 60) (by decide)
  have hv4 := Int.fmod_lt_of_pos rr (b := 60) (by decide)
  k_with "spl" => (exact splT6 (off5_sep hsep) hI1.fi hf1.fl hf1.fq hf1.fb hf1.fh)
  k_with "hH" => (exact fun _ h => .tail _ (.tail _ (.tail _ (.tail _ (.tail _ (.tail _ h))))))
  k_with "wend" => (first
    | exact hnext (⟨c1.1.n, c1.1.tn, la9, decS c1.1.act c1.1.step limit, ts9, va9, vh9, vp9, na9, c1.1.nh, c1.1.np, decA c1.1.act c1.1.step limit, hp9', pl9, c1.1.lq, c1.1.vq, c1.1.nq, c1.1.dec + 1, t9, c1.1.cb⟩, upd (upd c1.2 "turn" (some (.int turn t))) "decays" (some (.int (c1.1.dec + 1) t9))) _ _ _ ⟨⟨ia9, ih9, ip9, heldL_same' sh9 hf1.iq, hf1.cb, hO9, off5_apm ap9 (.tail _ (.tail _ (.head _))), off5_apm ap9 (.tail _ (.tail _ (.tail _ (.head _)))), off5_apm ap9 (.tail _ (.tail _ (.tail _ (.tail _ (.head _))))), off5_apm ap9 (.tail _ (.tail _ (.tail _ (.tail _ (.tail _ (.head _)))))), hf1.ql, hf1.qb, hf1.qh, hf1.inv.decay hlim1 cs9 or9⟩, ⟨off5_apm ap9 (.tail _ (.head _)), hI1.iq⟩, ⟨hm1.many, hm1.held, rfl, hm1.lim⟩, .l rfl (.l rfl hq1)⟩ MEq.rf (sep_off5 hsep (off5_apm ap9 (.head _)) rfl) F9 N9
    | exact hnext (⟨c1.1.n, c1.1.tn, c1.1.la, c1.1.step, c1.1.ts, c1.1.va, c1.1.vh, c1.1.vp, c1.1.na, c1.1.nh, c1.1.np, c1.1.act, c1.1.hp, c1.1.pl, c1.1.lq, c1.1.vq, c1.1.nq, c1.1.dec + 1, t9, c1.1.cb⟩, upd (upd c1.2 "turn" (some (.int turn t))) "decays" (some (.int (c1.1.dec + 1) t9))) _ _ _ ⟨⟨hf1.ia, hf1.ih, hf1.ip, hf1.iq, hf1.cb, hf1.o5, hf1.fl, hf1.fq, hf1.fb, hf1.fh, hf1.ql, hf1.qb, hf1.qh, hf1.inv⟩, ⟨hI1.fi, hI1.iq⟩, ⟨hm1.many, hm1.held, rfl, hm1.lim⟩, .l rfl (.l rfl hq1)⟩ MEq.rf (sep_off5 hsep (off5_sep hsep) rfl) F9 N9)
  k_with "execs cons" => (
    (with_reducible show wpAny _ _ (execs (Stmt.For _ (PySem.Expr.Call _ [_] _ _) _ _ _ :: _) _) _ _ _); k_dflt (
    refine' x_forR1 (σ := LS × (Str → Option Value)) (fun c => (I, oI) :: lawLed G.w.params l (G.L + 1 + 1) (G.L + 1) ws oH o dx lh lp t1 t2 t3 t4 t5 tl limit c.1) (fun c => c.2) (fun _ c => LF l (G.L + 1 + 1) (G.L + 1) o dx lh lp limit c.1 ∧ LI I o dx lh lp c.1 ∧ LM limit tl c.1 c.2 ∧ MEq lawSt c.2 m) (c, m) F N MEq.rf ⟨hf, hI, hm, MEq.rf⟩ rfl X (topRead_of T) rfl rfl (by k_extra "evI") (fun _ _ => rfl) (fun _ => rfl) (fun _ _ => rfl) (small_one (by omega) (by omega) (by omega) (by omega)) (by passes_own) ?_ ?_;
    (intro c1 pre turn t h1 tk1 I2 oI2 q1 hns hlt hsep hP F9 N9 hnext hbrk hret1; (try dsimp only at F9 N9 hP hsep); (have hf1 := hP.1); (have hI1 := hP.2.1); (have hm1 := hP.2.2.1); (have hq1 := hP.2.2.2); (have dM := hm1.many); (have dH := hm1.held); (have dD := hm1.dec); (have dL := hm1.lim);
      (have o5 := hf1.o5); (have ia := hf1.ia); (have ih := hf1.ih); (have ip := hf1.ip); (have hcons := hf1.inv.cons); (have hlen := hf1.inv.len); (have hn9 := hf1.inv.n9); (have hord := hf1.inv.ord); (have hs0 := hf1.inv.s0); (have hs1 := hf1.inv.s1); (have hab := hf1.inv.ab); (try k_sweep); unfold lawLed led at N9);
    rotate_left;
    (intro c1 u h1 tk1 hP F9 N9; (try dsimp only at F9 N9 hP); (try k_sweep));
    rotate_right))
  k_with "LEnd" => ((with_reducible show LEnd Q _ _); k_dflt (exact lEnd_ (K c1.1 (upd c1.2 "turn" u) _ _ hP.1 hP.2.1 ⟨hP.2.2.1.many, hP.2.2.1.held, hP.2.2.1.dec, hP.2.2.1.lim⟩ (.l rfl hP.2.2.2) F9 N9)))
  k_extra "steps"
end
section
variable {cn : Str} {cs : Scope} {a : Addr} {ccd : Value} {cl : List (Str × Addr)} {prog : Program} {w : World} {A : Around} {h₀ : Heap} {L : Addr} {m : Str → Option Value} {news : Led} {h : Heap} {gs : Array GenState} {dr : Drawn} {tk0 : Nat} {os : OsState} {E : Value → Shared → Prop}
  {x : Str} {pos p1 : Pos} {i j : Int} {v₀ : Option Value} {e r : PySem.Expr} {c : Addr} {oC : Obj} {g : Obj → Led}
theorem x_asgIHC {Q : Flow → Shared → Prop} {rest : List Stmt} (F : Fr h₀ L h m) (N : News h₀ L h news) (V : EvIH (EC.mk cn cs a ccd cl prog w A h₀ L m news) e i) (hc : cl.lookup x = some c) (U : UpdF c oC news g) (hd : oC.data = .cell v₀) (hx : nmOk cs .cell x = true) (hs : ∀ env, swapsWith e (some (.Name x p1)) pos.line env = pure false)
    (k : ∀ t h' tk o', Fr h₀ L h' m → News h₀ L h' (g o') → o'.data = .cell (some (.int i t)) → wpAny (model prog w) A (execs rest (envX cn cs L a ccd cl)) Q E ⟨h', gs, dr, tk, os⟩) :
    wpAny (model prog w) A (execs (.Assign [.Name x p1] e pos :: rest) (envX cn cs L a ccd cl)) Q E ⟨h, gs, dr, tk0, os⟩ := by
  obtain ⟨d1, d2, _⟩ := nmOk_spec hx
  exact wpAny_execs_cons (wpAny_Assign_Name (V _ _ _ _ _ _ _ F N fun t h' tk F' N' => storeX_C F' N' hc U hd (fun h2 o' F2 N2 d => k t h2 _ o' F2 N2 d) d1 d2) (hs _))
end
def IfRel (M : Model) (A : Around) (env : Env) (op : CmpOp) (r : PySem.Expr) (body orelse : List Stmt) (Q : Flow → Shared → Prop) (E : Value → Shared → Prop) (v : Value) (s : Shared) : Prop :=
  ∃ (i j : Int) (t : Tok) (p : Prop), v = .int i t ∧ (∀ (Q' : Value → Shared → Prop), (∀ t tk, Q' (.int j t) { s with toks := tk }) → wpAny M A (eval r env) Q' E s) ∧ COp op i j p ∧ (p → ∀ tk, wpAny M A (execs body env) Q E { s with toks := tk }) ∧ (¬ p → ∀ tk, wpAny M A (execs orelse env) Q E { s with toks := tk })
theorem x_ifRel {prog : Program} {w : World} {A : Around} {env : Env} {op : CmpOp} {l r : PySem.Expr} {body orelse rest : List Stmt} {Q : Flow → Shared → Prop} {E : Value → Shared → Prop} {s : Shared} {p1 pos : Pos} (hm : behindInMarks op r = false)
    (hl : wpAny (model prog w) A (eval l env) (IfRel (model prog w) A env op r body orelse (SeqK (model prog w) A rest env Q E) E) E s) : wpAny (model prog w) A (execs (.If (.Compare l [op] [r] p1) body orelse pos :: rest) env) Q E s :=
  x_cons (wpAny_If (wpAny_isTrue_Compare1 (wpAny_mono hl (fun v s' hh => by
    obtain ⟨i, j, t, p, rfl, hr, ho, k1, k2⟩ := hh
    refine hr _ fun t2 tk2 => cmp_op ho fun b e1 e2 => wpAny_truthy_bool ?_
    cases b with
    | true => rw [if_pos rfl]; exact k1 (e1 rfl) _
    | false => rw [if_neg (by simp)]; exact k2 (e2 rfl) _) fun _ _ x => x) hm))
section
variable {cn : Str} {cs : Scope} {a : Addr} {ccd : Value} {cl : List (Str × Addr)} {prog : Program} {w : World} {A : Around} {h₀ : Heap} {L : Addr} {m : Str → Option Value} {news : Led} {h : Heap} {gs : Array GenState} {dr : Drawn} {tk0 : Nat} {os : OsState} {E : Value → Shared → Prop} {Q : Flow → Shared → Prop} {body orelse : List Stmt}
  {i j : Int} {t : Tok} {r : PySem.Expr} {p : Prop} {op : CmpOp}
theorem ifRel (F : Fr h₀ L h m) (N : News h₀ L h news) (V : EvI (EC.mk cn cs a ccd cl prog w A h₀ L m news) r j) (ho : COp op i j p)
    (k1 : p → ∀ tk, wpAny (model prog w) A (execs body (envX cn cs L a ccd cl)) Q E ⟨h, gs, dr, tk, os⟩) (k2 : ¬ p → ∀ tk, wpAny (model prog w) A (execs orelse (envX cn cs L a ccd cl)) Q E ⟨h, gs, dr, tk, os⟩) :
    IfRel (model prog w) A (envX cn cs L a ccd cl) op r body orelse Q E (.int i t) ⟨h, gs, dr, tk0, os⟩ :=
  ⟨i, j, t, p, rfl, fun Q' k => V _ _ _ F N fun t tk => k t tk, ho, k1, k2⟩
end
section
variable {I l lq cB cH o dx la lh lp : Addr} {x1 x2 x3 x4 x5 y1 y2 y3 y4 y5 : Obj}
theorem splA (hO : Ord5 o dx la lh lp) (h1 : Off5 I o dx la lh lp) (h2 : Off5 l o dx la lh lp) (h3 : Off5 lq o dx la lh lp) (h4 : Off5 cB o dx la lh lp) (h5 : Off5 cH o dx la lh lp) (e1 : @Ne Nat I lq) (e2 : @Ne Nat lq l) (e3 : @Ne Nat lq cB) (e4 : @Ne Nat lq cH) :
    Spl [la, lq] [(I, y1), (l, y2), (lq, y3), (cB, y4), (cH, y5), (o, x1), (dx, x2), (la, x3), (lh, x4), (lp, x5)] [(I, y1), (l, y2), (cB, y4), (cH, y5), (o, x1), (dx, x2), (lh, x4), (lp, x5)] :=
  have n2 {a b c : Addr} (h : @Ne Nat a b) (k : @Ne Nat a c) : ∀ q ∈ [b, c], a ≠ q := List.forall_mem_cons.mpr ⟨h, List.forall_mem_cons.mpr ⟨k, List.forall_mem_nil _⟩⟩
  .keep (n2 h1.2.2.1 e1) (.keep (n2 h2.2.2.1 (Ne.symm e2)) (.drop (.tail _ (.head _)) (.keep (n2 h4.2.2.1 (Ne.symm e3)) (.keep (n2 h5.2.2.1 (Ne.symm e4))
    (.keep (n2 (Ne.symm hO.2.2.2.2.1) (Ne.symm h3.1)) (.keep (n2 (Ne.symm hO.2.2.2.1) (Ne.symm h3.2.1)) (.drop (.head _) (.keep (n2 (Ne.symm hO.2.2.2.2.2.1) (Ne.symm h3.2.2.2.1)) (.keep (n2 (Ne.symm hO.2.2.2.2.2.2) (Ne.symm h3.2.2.2.2)) .nil)))))))))
theorem upB {oC : Obj} (h4 : Off5 cB o dx la lh lp) (e1 : @Ne Nat I cB) (e2 : @Ne Nat l cB) (e3 : @Ne Nat lq cB) (e4 : @Ne Nat cB cH) :
    UpdF cB oC [(I, y1), (l, y2), (lq, y3), (cB, oC), (cH, y5), (o, x1), (dx, x2), (la, x3), (lh, x4), (lp, x5)] (fun q => [(I, y1), (l, y2), (lq, y3), (cB, q), (cH, y5), (o, x1), (dx, x2), (la, x3), (lh, x4), (lp, x5)]) :=
  .tail e1 (.tail e2 (.tail e3 (.head (List.forall_mem_cons.mpr ⟨Ne.symm e4, List.forall_mem_cons.mpr ⟨Ne.symm h4.1, List.forall_mem_cons.mpr ⟨Ne.symm h4.2.1, List.forall_mem_cons.mpr ⟨Ne.symm h4.2.2.1, List.forall_mem_cons.mpr ⟨Ne.symm h4.2.2.2.1, List.forall_mem_cons.mpr ⟨Ne.symm h4.2.2.2.2, List.forall_mem_nil _⟩⟩⟩⟩⟩⟩))))
end
structure LX (I l cB cH : Nat) : Prop where
  ib : @Ne Nat I cB
  lb : @Ne Nat l cB
  ih : @Ne Nat I cH
  lh : @Ne Nat l cH
  bh : @Ne Nat cB cH
theorem heldL_rng {n : Int} {act pl : List Int} (h : (act.length : Int) = n + 1) : ∀ v ∈ heldL n pl, 0 ≤ v ∧ v < act.length := fun v hv => by have := held_range v hv; omega
theorem heldL_rng1 {n : Int} {pl : List Int} : ∀ v ∈ heldL n pl, 1 ≤ v ∧ v ≤ n := held_range
theorem heldL_len9 {n : Int} {hp pl : List Int} (h : Cons n hp pl) (h9 : n ≤ 9) : (heldL n pl).length ≤ 9 := by
  have := held_len h
  have := h.len_le
  omega
theorem LawInv.keep {limit n step : Int} {act hp pl hp' pl' : List Int} (h : LawInv limit n act hp pl step) (hc : Cons n hp' pl') (ho : OrdFrom act hp' 0) : LawInv limit n act hp' pl' step := ⟨h.n1, h.n9, h.len, hc, ho, h.s0, h.s1, h.ab⟩
def heldF (b : Int) (l : List Int) (k : Int) : List Int := if k ≠ b then l ++ [k] else l
theorem heldF_grows (b : Int) : KPfGrows (heldF b) := by
  intro l k
  unfold heldF
  split
  · simp
  · omega
theorem heldF_pop {n b : Int} {pl pl' : List Int} {vs : List Value} (h : ∀ v : Int, 0 ≤ v → v ≤ n → (0 ≤ at' pl' v ↔ (0 ≤ at' pl v ∧ v ≠ b))) (hy : IntsAre vs ((heldL n pl).foldl (heldF b) [])) : IntsAre vs (heldL n pl') := by
  have e : (heldL n pl).foldl (heldF b) [] = heldL n pl' := heldF_pop0 h
  rw [← e]; exact hy
structure FreshQ (D I l cB cH o dx la lh lp : Nat) : Prop where
  fq : Off5 D o dx la lh lp
  ql : @Ne Nat D l
  qb : @Ne Nat D cB
  qh : @Ne Nat D cH
  iq : @Ne Nat I D
theorem freshQ {D I l lq cB cH o dx la lh lp : Addr} {x1 x2 x3 x4 x5 y1 y2 y3 y4 y5 : Obj} (h : ∀ p ∈ [(I, y1), (l, y2), (lq, y3), (cB, y4), (cH, y5), (o, x1), (dx, x2), (la, x3), (lh, x4), (lp, x5)], @LT.lt Nat _ p.1 D) : FreshQ D I l cB cH o dx la lh lp :=
  have h1 := (List.forall_mem_cons.mp h)
  have h2 := (List.forall_mem_cons.mp h1.2)
  have h4 := (List.forall_mem_cons.mp (List.forall_mem_cons.mp h2.2).2)
  have h5 := (List.forall_mem_cons.mp h4.2)
  have h6 := (List.forall_mem_cons.mp h5.2)
  have h7 := (List.forall_mem_cons.mp h6.2)
  have h8 := (List.forall_mem_cons.mp h7.2)
  have h9 := (List.forall_mem_cons.mp h8.2)
  have h10 := (List.forall_mem_cons.mp h9.2)
  ⟨⟨Nat.ne_of_gt h6.1, Nat.ne_of_gt h7.1, Nat.ne_of_gt h8.1, Nat.ne_of_gt h9.1, Nat.ne_of_gt h10.1⟩, Nat.ne_of_gt h2.1, Nat.ne_of_gt h4.1, Nat.ne_of_gt h5.1, Nat.ne_of_lt h1.1⟩
theorem spl_nil : ∀ {r : Led}, Spl [] r r
  | [] => .nil
  | _ :: _ => .keep (fun _ h => nomatch h) spl_nil
section
variable {I l lq cB cH o dx la lh lp lk lt l2 : Addr} {x1 x2 x3 x4 x5 y1 y2 y3 y4 y5 z1 z2 z3 : Obj}
theorem ne3 {a b c d : Addr} (h1 : @Ne Nat a b) (h2 : @Ne Nat a c) (h3 : @Ne Nat a d) : ∀ q ∈ [b, c, d], a ≠ q := List.forall_mem_cons.mpr ⟨h1, List.forall_mem_cons.mpr ⟨h2, List.forall_mem_cons.mpr ⟨h3, List.forall_mem_nil _⟩⟩⟩
theorem splV (hO : Ord5 o dx la lh lp) (h1 : Off5 I o dx la lh lp) (h2 : Off5 l o dx la lh lp) (h3 : Off5 lq o dx la lh lp) (h4 : Off5 cB o dx la lh lp) (h5 : Off5 cH o dx la lh lp) (e1 : @Ne Nat I lq) (e2 : @Ne Nat lq l) (e3 : @Ne Nat lq cB) (e4 : @Ne Nat lq cH) (f : FreshQ lk I l cB cH o dx la lh lp) :
    Spl [la, lq, lk] [(I, y1), (l, y2), (lq, y3), (cB, y4), (cH, y5), (o, x1), (dx, x2), (la, x3), (lh, x4), (lp, x5), (lk, z1)] [(I, y1), (l, y2), (cB, y4), (cH, y5), (o, x1), (dx, x2), (lh, x4), (lp, x5)] :=
  .keep (ne3 h1.2.2.1 e1 f.iq) (.keep (ne3 h2.2.2.1 (Ne.symm e2) (Ne.symm f.ql)) (.drop (.tail _ (.head _)) (.keep (ne3 h4.2.2.1 (Ne.symm e3) (Ne.symm f.qb)) (.keep (ne3 h5.2.2.1 (Ne.symm e4) (Ne.symm f.qh))
    (.keep (ne3 (Ne.symm hO.2.2.2.2.1) (Ne.symm h3.1) (Ne.symm f.fq.1)) (.keep (ne3 (Ne.symm hO.2.2.2.1) (Ne.symm h3.2.1) (Ne.symm f.fq.2.1)) (.drop (.head _) (.keep (ne3 (Ne.symm hO.2.2.2.2.2.1) (Ne.symm h3.2.2.2.1) (Ne.symm f.fq.2.2.2.1)) (.keep (ne3 (Ne.symm hO.2.2.2.2.2.2) (Ne.symm h3.2.2.2.2) (Ne.symm f.fq.2.2.2.2)) (.drop (.tail _ (.tail _ (.head _))) .nil))))))))))
theorem ne6 {a k : Addr} (h : Off5 a o dx la lh lp) (e : @Ne Nat a k) : ∀ q ∈ [k, o, dx, la, lh, lp], a ≠ q := List.forall_mem_cons.mpr ⟨e, off5_all h⟩
theorem splW (h1 : Off5 I o dx la lh lp) (h2 : Off5 l o dx la lh lp) (h3 : Off5 lq o dx la lh lp) (h4 : Off5 cB o dx la lh lp) (h5 : Off5 cH o dx la lh lp) (e3 : @Ne Nat lq lk) (f : FreshQ lk I l cB cH o dx la lh lp)
    (g : Off5 lt o dx la lh lp) (g1 : @Ne Nat lt lk) (k : Off5 l2 o dx la lh lp) (k1 : @Ne Nat l2 lk) :
    Spl [lk, o, dx, la, lh, lp] [(lt, z3), (l2, z2), (lk, z1), (I, y1), (l, y2), (lq, y3), (cB, y4), (cH, y5), (o, x1), (dx, x2), (la, x3), (lh, x4), (lp, x5)] [(lt, z3), (l2, z2), (I, y1), (l, y2), (lq, y3), (cB, y4), (cH, y5)] :=
  .keep (ne6 g g1) (.keep (ne6 k k1) (.drop (.head _) (.keep (ne6 h1 f.iq) (.keep (ne6 h2 (Ne.symm f.ql)) (.keep (ne6 h3 e3) (.keep (ne6 h4 (Ne.symm f.qb)) (.keep (ne6 h5 (Ne.symm f.qh))
    (.drop (.tail _ (.head _)) (.drop (.tail _ (.tail _ (.head _))) (.drop (.tail _ (.tail _ (.tail _ (.head _)))) (.drop (.tail _ (.tail _ (.tail _ (.tail _ (.head _))))) (.drop (.tail _ (.tail _ (.tail _ (.tail _ (.tail _ (.head _)))))) .nil))))))))))))
end
theorem freshN {D I l lq cB cH o dx la lh lp : Addr} {x1 x2 x3 x4 x5 y1 y2 y3 y4 y5 : Obj} (h : ∀ p ∈ [(I, y1), (l, y2), (lq, y3), (cB, y4), (cH, y5), (o, x1), (dx, x2), (la, x3), (lh, x4), (lp, x5)], @Ne Nat p.1 D) : FreshQ D I l cB cH o dx la lh lp :=
  have h1 := (List.forall_mem_cons.mp h)
  have h2 := (List.forall_mem_cons.mp h1.2)
  have h4 := (List.forall_mem_cons.mp (List.forall_mem_cons.mp h2.2).2)
  have h5 := (List.forall_mem_cons.mp h4.2)
  have h6 := (List.forall_mem_cons.mp h5.2)
  have h7 := (List.forall_mem_cons.mp h6.2)
  have h8 := (List.forall_mem_cons.mp h7.2)
  have h9 := (List.forall_mem_cons.mp h8.2)
  have h10 := (List.forall_mem_cons.mp h9.2)
  ⟨⟨Ne.symm h6.1, Ne.symm h7.1, Ne.symm h8.1, Ne.symm h9.1, Ne.symm h10.1⟩, Ne.symm h2.1, Ne.symm h4.1, Ne.symm h5.1, h1.1⟩
theorem freshB {D I l cB cH o dx la lh lp : Addr} {x1 x2 x4 x5 y1 y2 y4 y5 : Obj} (h : ∀ p ∈ [(I, y1), (l, y2), (cB, y4), (cH, y5), (o, x1), (dx, x2), (lh, x4), (lp, x5)], @Ne Nat p.1 D) (e : @Ne Nat D la) : FreshQ D I l cB cH o dx la lh lp :=
  have h1 := (List.forall_mem_cons.mp h)
  have h2 := (List.forall_mem_cons.mp h1.2)
  have h4 := (List.forall_mem_cons.mp h2.2)
  have h5 := (List.forall_mem_cons.mp h4.2)
  have h6 := (List.forall_mem_cons.mp h5.2)
  have h7 := (List.forall_mem_cons.mp h6.2)
  have h9 := (List.forall_mem_cons.mp h7.2)
  have h10 := (List.forall_mem_cons.mp h9.2)
  ⟨⟨Ne.symm h6.1, Ne.symm h7.1, e, Ne.symm h9.1, Ne.symm h10.1⟩, Ne.symm h2.1, Ne.symm h4.1, Ne.symm h5.1, h1.1⟩
theorem lawE_sub {I l lq cB cH o dx la lh lp lk lt l2 : Addr} {x1 x2 x3 x4 x5 y1 y2 y3 y4 y5 z1 z2 z3 : Obj} : ∀ p ∈ [(lt, z3), (l2, z2), (lk, z1), (I, y1), (l, y2), (lq, y3), (cB, y4), (cH, y5), (o, x1), (dx, x2), (la, x3), (lh, x4), (lp, x5)], p ∈ [(I, y1), (l, y2), (cB, y4), (cH, y5), (o, x1), (dx, x2), (lh, x4), (lp, x5), (lt, z3), (l2, z2), (la, x3), (lq, y3), (lk, z1)] := by
  k_allIn
theorem held_grow_i {n N : Int} {act act' hp' pl pl' : List Int} {vs : List Value} (hn : 0 ≤ n) (h1 : n ≤ N) (hg : GInv n N act pl N act' hp' pl') (i : IntsAre vs (heldL n pl ++ rangeKs (n + 1) (N + 1 - (n + 1)).toNat)) : IntsAre vs (heldL N pl') := by
  rw [← held_grow hn h1 hg]; exact i
theorem push_rng {n var : Int} {pl : List Int} (h9 : n ≤ 9) (h1 : 1 ≤ var) (h2 : var ≤ n) : ∀ k ∈ heldL n pl ++ [var], 1 ≤ k ∧ k ≤ 9 := by
  intro k hk
  rcases List.mem_append.mp hk with h | h
  · have := heldL_rng1 k h; omega
  · have := List.mem_singleton.mp h; omega
theorem push_perm {n var : Int} {pl pl' : List Int} (h1 : 1 ≤ var) (h2 : var ≤ n) (h : ∀ v : Int, 0 ≤ v → v ≤ n → (0 ≤ at' pl' v ↔ (0 ≤ at' pl v ∨ v = var))) : (heldL n pl').Perm ((heldL n pl ++ [var]).foldl ddS []) := by
  refine perm_of_mem (heldL_nodup n pl') (dd_nodup _ _ List.nodup_nil) fun v => ?_
  rw [dd_mem, List.mem_append, List.mem_singleton, heldL_mem, heldL_mem]
  constructor
  · rintro ⟨a, b, c⟩
    rcases (h v (by omega) b).mp c with d | d
    · exact .inr (.inl ⟨a, b, d⟩)
    · exact .inr (.inr d)
  · rintro (a | ⟨a, b, c⟩ | a)
    · cases a
    · exact ⟨a, b, (h v (by omega) b).mpr (.inl c)⟩
    · subst a; exact ⟨h1, h2, (h v (by omega) h2).mpr (.inr rfl)⟩
theorem held_le (n : Int) (pl : List Int) : (heldL n pl).Pairwise (· ≤ ·) := (heldL_sorted n pl).imp fun h => Int.le_of_lt h
theorem push_pos {n var : Int} {pl pl' : List Int} (h1 : 1 ≤ var) (h2 : var ≤ n) (h : ∀ v : Int, 0 ≤ v → v ≤ n → (0 ≤ at' pl' v ↔ (0 ≤ at' pl v ∨ v = var))) : 0 < (heldL n pl').length :=
  List.length_pos_of_mem (heldL_mem.mpr ⟨h1, h2, (h var (by omega) h2).mpr (.inr rfl)⟩)
theorem sortset_push {prog : Program} {w : World} {A : Around} {E : Value → Shared → Prop} {s : Shared} {h₀ : Heap} {L : Addr} {m : Str → Option Value} {news : Led} {S : Addr} {o : Obj} {n var : Int} {pl pl' : List Int} {Q : Value → Shared → Prop} (F : Fr h₀ L s.heap m) (N : News h₀ L s.heap news) (hh : A.handled = none) (hS : (S, o) ∈ news) (I : SetIs w o ((heldL n pl ++ [var]).foldl ddS [])) (h1 : 1 ≤ var) (h2 : var ≤ n) (hsh : ∀ v : Int, 0 ≤ v → v ≤ n → (0 ≤ at' pl' v ↔ (0 ≤ at' pl v ∨ v = var)))
    (h : ∀ D vs' h' tk, Fr h₀ L h' m → News h₀ L h' ((D, listOf vs'.toArray 2) :: news) → (∀ p ∈ news, p.1 < D) → IntsAre vs' (heldL n pl') → Q (.ref D) { s with heap := h', toks := tk }) :
    wpAny (model prog w) A (call (.builtin "sorted") [.ref S]) Q E s := sortset_N F N hh hS I (push_perm h1 h2 hsh) (held_le _ _) (push_pos h1 h2 hsh) h
example : True := by
  k_with_none
  k_with "A" => (with_reducible assumption)
  k_with "R" => (k_dflt (exact rfl))
  k_with "F" => (k_dflt (exact fun _ => rfl))
  k_with "G" => (k_dflt (exact fun _ _ => rfl))
  k_with "steps" => (repeat' (first | walk1 | (dsimp only; walk1) | fail "no step"))
  k_with "k_ne" => (first | (k_extra "A") | (refine Ne.symm ?_; with_reducible assumption))
  k_with "ints" => (first | with_reducible assumption | exact ints_set (by k_extra "ints") _ | exact ints_app1 (by k_extra "ints") _ _ | fail "no ints")
  k_with "pre0" => (first | with_reducible assumption | (with_reducible exact le_w (by assumption) rfl) | (with_reducible exact le_we (by assumption) (by assumption) rfl) | (with_reducible exact lt_we (by assumption) (by assumption)) | omega | (simp only [List.length_set, List.length_append, List.length_cons, List.length_nil, List.length_map]; omega) | k_extra "pre")
  k_with "mono" => (intro _ _ _ hk x; (intros; refine hk _ _ ?_; first | exact x | (apply x <;> assumption)))
  k_with "open" => (
    refine' ctr_intro ?mono ?ho ?hcd ?hb ?hloc ?c2 ?c3 ?c4 ?c5 ?_;
    (case ho => (intro P; k_is)); (case hcd => (intro P; k_is)); (case hb => exact fun s => BindsTo.of_eq rfl); (case hloc => exact locs rfl); (case c2 => exact rfl); (case c3 => exact rfl); (case c4 => exact rfl); (case c5 => decide); (case mono => k_extra "mono");
    intro G h gs dr tk0 os q B F X N T l1 hD hU hret;
    unfold led at N)
  k_with "evI" => (first
    | ((with_reducible apply evI_name); (k_extra "R"); (k_extra "R"))
    | (with_reducible exact evI_const)
    | ((with_reducible apply evI_neg); (k_dflt (k_extra "evI")))
    | ((with_reducible apply evI_op); (k_dflt (k_extra "evI")); (k_dflt (k_extra "evI")); (k_dflt (k_extra "iop")))
    | ((with_reducible apply evI_sub); (k_dflt (k_extra "evV")); (k_dflt (k_extra "evI")); (k_dflt k_memK); (k_dflt (k_extra "ints")); (k_dflt (k_extra "pre0")); (k_dflt (k_extra "pre0")); (k_dflt (k_extra "pre0")); (k_extra "F"))
    | ((with_reducible apply evI_limit); (k_dflt (k_extra "evV")); (k_extra "A"); (k_dflt k_memK); (k_dflt k_memK))
    | ((with_reducible apply evI_step); (k_dflt (k_extra "evV")); (k_extra "A"); (k_dflt k_memK); (k_dflt k_memK))
    | ((with_reducible apply evI_len); (k_extra "A"); (exact topRead_of (by with_reducible assumption)); (k_extra "R"); (k_dflt (k_extra "evV")); (k_extra "G"); (k_extra "F"); (k_dflt k_memK); (k_dflt (exact len_cast (by k_extra "ints"))); (k_dflt (k_extra "len9"))))
  k_with "len9" => (rw [IntsAre.length (by k_extra "ints")]; k_extra "pre0")
  k_with "iop" => (first | exact .add | exact .sub | exact .mul (by decide) | exact .fdiv (by decide) (by decide) | exact .mod (by decide))
  k_with "evV" => (first
    | ((with_reducible apply evV_name); (k_extra "R"); (k_extra "R"))
    | ((with_reducible apply evV_heap); (k_dflt (k_extra "evV")); (k_extra "A"); (k_dflt k_memK); (k_dflt k_memK))
    | ((with_reducible apply evV_act); (k_dflt (k_extra "evV")); (k_extra "A"); (k_dflt k_memK); (k_dflt k_memK))
    | ((with_reducible apply evV_place); (k_dflt (k_extra "evV")); (k_extra "A"); (k_dflt k_memK); (k_dflt k_memK)))
  k_with "cop" => (first | exact .lt | exact .le | exact .gt | exact .ge | exact .eq | exact .ne)
  k_with "evT" => (first
    | ((with_reducible apply evT_cmp); (k_dflt (k_extra "evI")); (k_dflt (k_extra "evI")); (k_dflt (k_extra "cop")); (k_extra "R"))
    | ((with_reducible apply evT_not); (k_dflt (k_extra "evT")))
    | ((with_reducible apply evT_and); (k_dflt (k_extra "evT")); (intro hp9; k_dflt (k_extra "evT")))
    | ((with_reducible apply evT_or); (k_dflt (k_extra "evT")); (intro hp9; k_dflt (k_extra "evT"))))
  k_with "exec If" => ((with_reducible apply x_ifH); (k_extra "A"); (k_extra "A"); (k_dflt (k_extra "evTH")); all_goals (k_whole; intro hp9 h9 tk9 F9 N9; (try k_sweep)))
  k_with "exec If" => ((with_reducible apply x_if); (k_extra "A"); (k_extra "A"); (k_dflt (k_extra "evT")); all_goals (k_whole; intro hp9 tk9))
  k_with "execs cons" => (with_reducible refine x_cons ?_)
  k_with "execs cons" => ((with_reducible apply x_setI); (k_extra "A"); (k_extra "A"); (k_dflt (k_extra "evI")); (k_dflt (k_extra "evV")); (k_dflt (k_extra "evI")); (k_dflt (k_extra "updF")); (k_dflt (k_extra "ints")); (k_dflt (k_extra "pre0")); (k_dflt (k_extra "pre0")); (k_dflt (k_extra "pre0")); (k_extra "F"); (k_whole); (intro t9 h9 tk9 F9 N9); (try k_sweep))
  k_with "execs cons" => ((with_reducible apply x_asgV); (k_extra "A"); (k_extra "A"); (k_dflt (k_extra "evV")); (k_extra "R"); (k_extra "F"); (k_whole); (intro h9 tk9 F9 N9); (try k_sweep))
  k_with "execs cons" => ((with_reducible apply x_asgI); (k_extra "A"); (k_extra "A"); (k_dflt (k_extra "evI")); (k_extra "R"); (k_extra "F"); (k_whole); (intro t9 h9 tk9 F9 N9); (try k_sweep))
  k_with "execs cons" => ((with_reducible apply x_retV); (k_extra "A"); (k_extra "A"); (k_dflt (k_extra "evV")); (k_whole); (intro tk9))
  k_with "execs cons" => ((with_reducible apply x_retI); (k_extra "A"); (k_extra "A"); (k_dflt (k_extra "evI")); (k_whole); (intro t9 tk9))
  k_with "execs cons" => ((with_reducible apply x_retC); (k_extra "A"); (k_extra "A"); (k_dflt (k_extra "evI")); (k_dflt (k_extra "evI")); (k_dflt (k_extra "cop")); (k_extra "R"); (k_whole); (intro b9 tk9 hb9))
  k_with "LEnd" => (with_reducible refine lEnd_ ?_; with_reducible first | (refine hret1 _ _ ?_) | (refine hbrk _ ?_) | (k_dflt (k_extra "wend")))
  k_with "eval Call Attribute" => ((with_reducible apply call_meth); (k_extra "A"); (k_extra "A"); (k_extra "mt"); (k_extra "F"); (k_dflt (k_extra "evV")); (k_extra "A"); (k_dflt k_memK); (k_dflt k_memK); (k_extra "R"); (k_dflt (k_extra "evL")); (k_whole); k_dflt (k_extra "args"))
  k_with "evL" => (first | exact .nil | ((with_reducible apply EvL.i); (k_dflt (k_extra "evI")); (k_extra "G"); (k_dflt (k_extra "evL"))) | ((with_reducible apply EvL.v); (k_dflt (k_extra "evV")); (k_extra "G"); (k_dflt (k_extra "evL"))))
  k_with "args" => (first | (refine argK0 ?_; intro tk9) | (refine argK1 ?_; intro t9 tk9) | (refine argK2 ?_; intro t9 t8 tk9) | (refine argKv ?_; intro tk9) | (refine argKvv ?_; intro tk9) | (refine argKvi ?_; intro t9 tk9) | (refine argKvii ?_; intro t9 t8 tk9) | (refine argKvvi ?_; intro t9 tk9) | (refine argKvvv ?_; intro tk9))
  k_with "mt" => (with_reducible first | exact mt_is_before | exact mt_put | exact mt_rise | exact mt_better_child | exact mt_sink | exact mt_push | exact mt_pop | exact mt_pop_best | exact mt_bump | exact mt_decay | exact mt_rescale | exact mt_rebuild | exact mt_grow | exact mt_many | exact mt_is_held | exact mt_size | exact mt_top)
  k_with "storeName" => ((with_reducible apply x_store); (k_extra "A"); (k_extra "A"); (k_extra "R"); (k_whole); (intro h9 tk9 F9 N9); (try k_sweep))
  k_with "call builtin:list.append" => ((with_reducible apply append_U); (k_extra "A"); (k_extra "A"); (k_dflt (k_extra "updF")); (k_dflt (rw [IntsAre.length (by k_extra "ints")]; k_extra "pre0")); (k_whole); (intro h9 tk9 F9 N9); (try k_sweep))
  k_with "call builtin:list.pop" => ((with_reducible apply pop_U); (k_extra "A"); (k_extra "A"); (k_dflt (k_extra "updF")); (k_dflt (k_extra "ints")); (k_dflt (k_extra "pre0")); (k_dflt (k_extra "pre0")); (k_whole); (intro t9 h9 tk9 F9 N9 ip9); (try k_sweep))
  k_with "eval Attribute Name" => ((with_reducible apply useV); (k_extra "A"); (k_extra "A"); (k_dflt (k_extra "evV")); (k_whole); (intro tk9))
  k_with "eval BinOp" => ((with_reducible apply useI); (k_extra "A"); (k_extra "A"); (k_dflt (k_extra "evI")); (k_whole); (intro t9 tk9))
  k_with "eval Subscript" => ((with_reducible apply useI); (k_extra "A"); (k_extra "A"); (k_dflt (k_extra "evI")); (k_whole); (intro t9 tk9))
  k_with "isTrue Compare" => ((with_reducible apply useT); (k_extra "A"); (k_extra "A"); (k_dflt (k_extra "evT")); all_goals (k_whole; intro hp9 tk9))
  k_with "execs nil" => (with_reducible refine wpAny_execs_nil ?_)
  k_with "SeqK" => (with_reducible first | refine seq_next ?_ | refine seq_ret ?_ | refine seq_brk ?_ | refine seq_cont ?_)
  k_with "updF" => (first | exact upH (by with_reducible assumption) | exact upP (by with_reducible assumption) | exact upA (by with_reducible assumption) | exact upD (by with_reducible assumption) | (refine' .tail ?_ ?_; (k_extra "k_ne"); (k_extra "updF")))
  k_with "room" => (exact room_le (by with_reducible assumption) rfl)
  k_with "hH" => (first | exact fun _ h => h | exact fun _ h => .tail _ h | exact fun _ h => .tail _ (.tail _ h) | exact fun _ h => .tail _ (.tail _ (.tail _ h)) | exact fun _ h => .tail _ (.tail _ (.tail _ (.tail _ h))))
  k_with "spl" => (first | exact spl_led | exact .keep (off5_all (by k_extra "off5")) (by k_extra "spl"))
  k_with "off5" => (k_extra "A")
  k_with "evIH" => ((with_reducible apply evIH_of); (k_dflt (k_extra "evI")))
  k_with "evTH" => ((with_reducible apply evTH_cmp); (k_dflt (k_extra "evIH")); (k_dflt (k_extra "evIH")); (k_dflt (k_extra "cop")); (k_extra "R"))
  k_with "evTH" => ((with_reducible apply evTH_or); (k_dflt (k_extra "evTH")); (intro hp9; k_dflt (k_extra "evTH")))
  k_with "evTH" => ((with_reducible apply evTH_and); (k_dflt (k_extra "evTH")); (intro hp9; k_dflt (k_extra "evTH")))
  k_with "evTH" => ((with_reducible apply evTH_not); (k_dflt (k_extra "evTH")))
  k_with "evTH" => ((with_reducible apply evTH_of); (k_dflt (k_extra "evT")))
  k_with "meq" => (first
    | exact MEq.rf
    | ((with_reducible apply MEq.l); (exact rfl); (k_extra "meq"))
    | ((with_reducible apply MEq.r); (exact rfl); (k_extra "meq"))
    | ((with_reducible apply MEq.n); (exact rfl); (k_extra "meq"))
    | ((with_reducible apply MEq.g); (exact rfl); (k_extra "meq")))
  k_with "openC" => (
    refine' ctr_introC ?mono ?ho ?hcd ?hb ?hkind ?c1 ?c2 ?c3 ?c4 ?c5 ?_;
    (case ho => (intro P; k_is)); (case hcd => (intro P; k_is)); (case hb => exact fun s => BindsTo.of_eq rfl); (case hkind => exact rfl); (case c1 => decide +kernel); (case c2 => exact fun _ => rfl); (case c3 => exact rfl); (case c4 => exact rfl); (case c5 => exact rfl); (case mono => k_extra "mono");
    intro G h gs dr tk0 os q oc B F X N d1 T l1 hD hU hret;
    (have hK := off5_lt l1); (have k1 := hK.1); (have k2 := hK.2.1); (have k3 := hK.2.2.1); (have k4 := hK.2.2.2.1); (have k5 := hK.2.2.2.2); clear l1;
    unfold led at N)
  k_with "evI" => ((with_reducible apply evI_cell); (k_extra "R"); (k_dflt k_memK); (k_extra "A"); (k_extra "R"))
  k_with "evV" => ((with_reducible apply evV_cell); (k_extra "R"); (k_dflt k_memK); (k_extra "A"); (k_extra "R"))
  k_with "setAttr ref" => (first
    | ((with_reducible apply set_step); (k_extra "A"); (k_extra "A"); (k_extra "A"); (k_dflt k_memK); (k_dflt k_memK); (k_dflt (k_extra "updF")); (k_whole); (intro h9 tk9 F9 N9); (try k_sweep))
    | ((with_reducible apply set_act); (k_extra "A"); (k_extra "A"); (k_extra "A"); (k_dflt k_memK); (k_dflt k_memK); (k_dflt (k_extra "updF")); (k_whole); (intro h9 tk9 F9 N9); (try k_sweep)))
  k_with "evI" => ((with_reducible apply evI_glob); (k_extra "A"); (exact topRead_of (by with_reducible assumption)); (with_reducible first | exact gl_first | exact gl_shrink); (k_extra "R"))
  k_with "execs cons" => ((with_reducible apply x_asgIC); (k_extra "A"); (k_extra "A"); (k_dflt (k_extra "evI")); (k_extra "R"); (k_dflt (k_extra "updC")); (k_extra "A"); (k_extra "R"); (k_extra "F"); (k_whole); (intro t9 h9 tk9 o9 F9 N9 d9); (try k_sweep))
  k_with "updC" => (exact upC (by with_reducible assumption))
  k_with "updF" => (first | exact upD1 (by with_reducible assumption) (by with_reducible assumption) | exact upA1 (by with_reducible assumption) (by with_reducible assumption))
  k_with "execs cons" => ((with_reducible apply x_setStep); (k_extra "A"); (k_extra "A"); (k_extra "A"); (k_dflt (k_extra "evI")); (k_dflt (k_extra "evV")); (k_dflt k_memK); (k_dflt k_memK); (k_dflt (k_extra "updF")); (k_extra "F"); (k_whole); (intro t9 h9 tk9 F9 N9); (try k_sweep))
  k_with "evT" => ((with_reducible apply evT_orc); (k_dflt (k_extra "evT")); (intro hp9; k_dflt (k_extra "evT")))
  k_with "evTH" => ((with_reducible apply evTH_orc); (k_dflt (k_extra "evTH")); (intro hp9; k_dflt (k_extra "evTH")))
  k_with "evT" => (first
    | ((with_reducible apply evT_or); (k_dflt (k_extra "evT")); (intro hp9; k_dflt (k_extra "evT"))))
  k_with "evTH" => ((with_reducible apply evTH_or); (k_dflt (k_extra "evTH")); (intro hp9; k_dflt (k_extra "evTH")))
  k_with "evTH" => ((with_reducible apply evTH_of); (k_dflt (k_extra "evT")))
  k_with "eval Call Name" => ((with_reducible apply call_fun); (k_extra "A"); (k_extra "A"); (k_extra "A"); (exact topRead_of (by with_reducible assumption)); (k_extra "fn"); (k_extra "R"); (k_extra "F"); (k_dflt (k_extra "evL")); (k_whole); k_dflt (k_extra "args"))
  k_with "fn" => (with_reducible first | exact fn_first | exact fn_in_order | exact fn_small | exact fn_bumped | exact fn_decayed | exact fn_same | exact fn_values | exact fn_best)
  k_with "hH" => k_allIn
  k_with "spl" => (first
    | exact .nil
    | (refine' .drop ?_ ?_; (first | exact .head _ | exact .tail _ (.head _) | exact .tail _ (.tail _ (.head _))); (k_extra "spl"))
    | (refine' .keep ?_ ?_; (k_extra "neall"); (k_extra "spl")))
  k_with "neall" => (first | exact List.forall_mem_nil _ | (refine List.forall_mem_cons.mpr ⟨?_, ?_⟩; (k_extra "k_ne"); (k_extra "neall")))
  k_with "args" => (refine argKv ?_; intro tk9)
  k_with "spl" => (exact spl2 (by with_reducible assumption) (by with_reducible assumption))
  k_with "evT" => ((with_reducible apply evT_chain); (k_dflt (k_extra "evI")); (k_dflt (k_extra "evI")); (k_dflt (k_extra "evI")); (k_dflt (k_extra "cop")); (k_dflt (k_extra "cop")); (k_extra "R"))
  k_with "evTH" => ((with_reducible apply evTH_minlt); (k_extra "R"); (k_extra "A"); (exact topRead_of (by with_reducible assumption)); (k_extra "R"); (k_dflt (k_extra "evV")); (k_dflt (k_extra "evI")); (k_extra "G"); (k_extra "F"); (k_dflt k_memK); (k_dflt (k_extra "ints")); (k_dflt (k_extra "pre0")); (k_dflt (k_extra "pre0")); (k_extra "R"))
  k_with "evTH" => ((with_reducible apply evTH_maxgt); (k_extra "R"); (k_extra "A"); (exact topRead_of (by with_reducible assumption)); (k_extra "R"); (k_dflt (k_extra "evV")); (k_dflt (k_extra "evI")); (k_extra "G"); (k_extra "F"); (k_dflt k_memK); (k_dflt (k_extra "ints")); (k_dflt (k_extra "pre0")); (k_dflt (k_extra "pre0")); (k_extra "R"))
  k_with "execs cons" => ((with_reducible apply x_copy); (k_extra "A"); (k_extra "A"); (k_extra "A"); (exact topRead_of (by with_reducible assumption)); (k_extra "R"); (k_extra "R"); (k_dflt (k_extra "evV")); (k_extra "G"); (k_extra "F"); (k_dflt k_memK); (k_dflt (k_extra "len9")); (k_extra "F"); (k_whole); (intro D9 c9 h9 tk9 f9 F9 N9); (try k_sweep); (k_extra "fresh"))
  k_with "fresh" => skip
  k_with "updF" => (exact upC (by with_reducible assumption))
  k_with "evBH" => ((with_reducible apply evBH_cmp); (k_dflt (k_extra "evIH")); (k_dflt (k_extra "evIH")); (k_dflt (k_extra "cop")); (k_extra "R"))
  k_with "evBH" => ((with_reducible apply evBH_andc); (k_dflt (k_extra "evBH")); (intro hp9; k_dflt (k_extra "evBH")))
  k_with "evBH" => ((with_reducible apply evBH_and); (k_dflt (k_extra "evBH")); (intro hp9; k_dflt (k_extra "evBH")))
  k_with "evBH" => ((with_reducible apply evBH_listeq); (k_dflt (k_extra "room")); (k_extra "A"); (exact topRead_of (by with_reducible assumption)); (k_extra "R"); (k_dflt (k_extra "evV")); (intro nw; k_dflt (k_extra "evV")); (k_extra "G"); (k_extra "F"); (k_dflt k_memK); (k_dflt k_memK); (k_dflt (k_extra "ints")); (k_dflt (k_extra "ints")); (k_dflt (k_extra "len9")); (k_extra "R"))
  k_with "evBH" => ((with_reducible apply evBH_small); (k_extra "A"); (k_extra "A"); (k_extra "A"); (k_dflt (k_extra "room")); (k_dflt (k_extra "room")); (k_extra "R"); (k_extra "R"); (k_dflt (k_extra "evV")); (k_dflt (k_extra "evI")); (k_dflt (k_extra "evV")); (k_dflt (k_extra "hH")); (k_dflt (k_extra "spl")); (k_extra "A"); (k_extra "off5"); (k_dflt (k_extra "ints")); (k_dflt (k_extra "ints")); (k_dflt (k_extra "pre0")); (k_dflt (k_extra "pre0")); (k_dflt (k_extra "pre0")); (k_dflt (k_extra "pre0")); (k_dflt (k_extra "pre0")); (k_dflt (k_extra "pre0")); (k_dflt (k_extra "pre0")); (k_extra "G"); (k_extra "G"); (k_extra "G"); (k_extra "F"))
  k_with "evTH" => ((with_reducible apply evTH_call); (k_dflt (k_extra "evBH")); (k_extra "F"))
  k_with "execs cons" => ((with_reducible apply x_retB); (k_extra "A"); (k_extra "A"); (k_dflt (k_extra "evBH")); (k_whole); (intro b9 h9 tk9 hb9 F9 N9); (try k_sweep))
  k_with "spl" => (exact spl6)
  k_with "evIH" => ((with_reducible apply evIH_first); (k_extra "A"); (k_extra "A"); (k_extra "A"); (k_dflt (k_extra "room")); (k_dflt (k_extra "room")); (k_extra "R"); (k_extra "R"); (k_dflt (k_extra "evV")); (k_dflt (k_extra "evV")); (k_dflt k_memK); (k_dflt k_memK); (k_dflt (k_extra "spl")); (k_dflt (k_extra "ints")); (k_dflt (k_extra "ints")); (k_dflt (k_extra "pre0")); (k_dflt (k_extra "pre0")); (k_extra "G"); (k_extra "G"); (k_extra "F"))
  k_with "evI" => ((with_reducible apply evI_name); (first | with_reducible assumption | k_dflt (first | exact rfl | exact dD | exact dL | exact dM | exact dV | exact dR)); (k_extra "R"))
  k_with "evV" => ((with_reducible apply evV_name); (first | with_reducible assumption | k_dflt (first | exact rfl | exact dH)); (k_extra "R"))
  k_with "spl" => (exact splT hI.fi hf.fl hf.fq hf.fb hf.fh)
  k_with "hH" => (exact fun _ h => .tail _ (.tail _ (.tail _ (.tail _ (.tail _ h)))))
  k_with "ite" => (first | (with_reducible refine ite_t (by first | omega | (simp only [decide_eq_true_eq, beq_iff_eq, bne_iff_ne, ne_eq]; omega)) ?_) | (with_reducible refine ite_f (by first | omega | (simp only [decide_eq_true_eq, beq_iff_eq, bne_iff_ne, ne_eq]; omega)) ?_) | fail "open")
  k_with "call ref" => ((with_reducible show wpAny _ _ (call (Value.ref 106) _) _ _ _); k_dflt (refine' ctr_use (c_pop ?za0 ?za1 ?za2 ?za3 ?za4 ?za5 ?za6 ?za7) G ?zF ?zN ?zB ?zX ?zT ?zk ?zH ?zR ?zd ?zu ?_; (case zF => assumption); (case zN => assumption); (case zH => k_extra "hH"); (case zR => k_extra "spl"); (case za0 => with_reducible assumption); (case za1 => k_extra "ints"); (case za2 => k_extra "ints"); (case za3 => k_extra "ints"); (case za4 => k_extra "pre0"); (case za5 => k_extra "pre0"); (case za6 => k_extra "pre0"); (case za7 => k_extra "pre0"); (case zB => assumption); (case zX => assumption); (case zT => assumption); (case zk => exact rfl); (case zd => k_extra "room"); (case zu => k_extra "room"); k_whole; intro t8 vh9 vp9 nh9 hp9' pl9 ih9 ip9 cs9 or9 sh9 h9 tk9 F9 N9 ap9; (try dsimp only [led, List.cons_append, List.nil_append] at N9); clear ap9; (try k_sweep)))
  trivial
section
variable {f : Addr} {cd : Value} {G : GC} {m : Str → Option Value} {Q : Flow → Shared → Prop} {l I : Addr} {ws : List Value} {oH oI : Obj} {o dx lh lp : Addr} {t1 t2 t3 t4 t5 tl tk3 tk4 : Tok} {limit vv rr : Int} {h : Heap} {gs : Array GenState} {dr : Drawn} {tk0 : Nat} {os : OsState}
set_option maxHeartbeats 8000000 in
theorem law_c (B : Below G.A₀ G.base G.outer G.h₀) (X : (K39 G.w.params).In G.h₀) (T : Top G.p G.loose G.mean G.mg G.mb G.h₀) (hD : G.dp + 40 < recursionLimit) (hU : G.un + 300 < cLine) (hoH : oH.data = .cell (some (.ref o))) (hlim1 : 1500 ≤ limit) (hlim2 : limit ≤ 5000000)
    (c : LS) (hf : LF l (G.L + 1 + 1) (G.L + 1) o dx lh lp limit c) (hI : LI I o dx lh lp c) (hX : LX I l (G.L + 1 + 1) (G.L + 1)) 
    (hm : LM limit tl c m) (F : Fr G.h₀ G.L h m) (N : News G.h₀ G.L h ((I, oI) :: lawLed G.w.params l (G.L + 1 + 1) (G.L + 1) ws oH o dx lh lp t1 t2 t3 t4 t5 tl limit c))
    (K : ∀ (c' : LS) m' h' tk', LF l (G.L + 1 + 1) (G.L + 1) o dx lh lp limit c' → LI I o dx lh lp c' → LM limit tl c' m' → MEq lawSt m' m → Fr G.h₀ G.L h' m' → News G.h₀ G.L h' ((I, oI) :: lawLed G.w.params l (G.L + 1 + 1) (G.L + 1) ws oH o dx lh lp t1 t2 t3 t4 t5 tl limit c') → Q .next ⟨h', gs, dr, tk', os⟩) :
    wpAny (gM G) (ktrTop G.dp G.un G.gd "law" lawScope G.L f cd (lawCl G.L) G.outer) (execs (lawKind 2) (envX "law" lawScope G.L f cd (lawCl G.L))) (LEnd Q) NoE ⟨h, gs, dr, tk0, os⟩ := by
  obtain ⟨S, hS⟩ : ∃ S, S = lawScope := ⟨_, rfl⟩
  rw [← hS]
  conv at hS => rhs; whnf
  subst hS
  conv in lawKind 2 => whnf
  unfold lawLed led at N
  have dM := hm.many
  have dH := hm.held
  have dD := hm.dec
  have dL := hm.lim
  have o5 := hf.o5
  have ia := hf.ia
  have ih := hf.ih
  have ip := hf.ip
  have iq := hf.iq
  have hcons := hf.inv.cons
  have hlen := hf.inv.len
  have hn9 := hf.inv.n9
  have hord := hf.inv.ord
  have hfst := held_first hcons hord
  have hrg := heldL_rng (pl := c.pl) hlen
  have hl9 := heldL_len9 hcons hn9
  obtain ⟨xcb, hcb⟩ := hf.cb
  k_with "spl" => (first | exact splT hI.fi hf.fl hf.fq hf.fb hf.fh | exact splA o5 hI.fi hf.fl hf.fq hf.fb hf.fh hI.iq hf.ql hf.qb hf.qh)
  k_with "execs cons" => ((with_reducible apply x_asgIHC); (k_extra "A"); (k_extra "A"); (k_dflt (k_extra "evIH")); (k_extra "R"); (k_dflt (exact upB hf.fb hX.ib hX.lb hf.qb hX.bh)); (k_extra "A"); (k_extra "R"); (k_extra "F"); (k_whole); (intro t9 h9 tk9 o9 F9 N9 d9); (try k_sweep))
  k_with "execs cons" => ((with_reducible show wpAny _ _ (execs (Stmt.If (PySem.Expr.Compare (PySem.Expr.Call _ _ _ _) _ _ _) _ _ _ :: _) _) _ _ _); k_dflt (refine x_ifRel rfl ?_))
  k_with "IfRel" => (k_dflt (refine ifRel F9 N9 (by k_extra "evI") .ne (fun hp9 => absurd hfst.symm hp9) (fun hp9 tk9 => ?_)))
  k_with "eval ListComp" => (k_dflt (refine LCt.ListComp_T (F₀ := by k_asm) (by with_unfolding_all rfl) (by decide) (by rfl) (by decide) (by rfl) ?_))
  k_with "CompEnd" => (k_dflt (refine LCg.CompEnd.intro (by assumption) (by assumption) _ (by kcf_all) off (by first | lcg_src | assumption | trivial) ?_))
  k_with "KCiEl" => (k_dflt (exact kci_el (if_pos (by first | assumption | omega)) rfl rfl))
  k_with "KCiNo" => (k_dflt (exact kci_no (if_neg (by first | assumption | omega)) rfl))
  k_with "CompSrcT" => (k_dflt (
    (rename Fr _ _ _ _ => lF); (rename News _ _ _ _ => lN);
    refine LCt.CompSrcT.ledger (its := c.vq.toArray) (k := c.nq) (by rfl) lF lN (by k_memK) (by (rw [List.size_toArray]; exact ints_small iq (by omega))) ?_;
    clear lF lN;
    intro gC;
    refine' kci_list (ns := heldL c.n c.pl) (heldF (lfirst c.act (heldL c.n c.pl))) iq ?_ ?_ (heldF_grows _);
    intro kC tC IC oI CC oC DC m2 ys lC hC tkC E9 hmem hIC hNs hx F1 N1 off ne mk9; clear mk9;
    (show wpAny _ _ _ _ _ _)))
  k_with "eval Name" => ((with_reducible apply useV); (k_extra "A"); (k_extra "A"); (k_dflt (k_extra "evV")); (k_whole); (intro tk9))
  have hcq := hf.cb
  k_with "KPfDone" => (k_dflt (
    kpf_rest; (rename List Value => ys8); (rename IntsAre _ (List.foldl _ _ _) => hi8); unfold LCg.FinA; intro D9 h9 tk9 F9 N9 f9; (replace F9 : Fr G.h₀ G.L h9 (upd m "held" (some (.ref D9))) := F9); (try k_sweep)))
  k_with "LEnd" => (k_dflt (
    (have hfx := f9); (obtain ⟨q1, q2, q3, q4, q5, q6, q7, q8, q9, q10, _⟩ := hfx);
    exact lEnd_ (K ⟨c.n, c.tn, c.la, c.step, c.ts, c.va, vh9, vp9, c.na, nh9, c.np, c.act, hp9', pl9, D9, ys8, ys8.length, c.dec, c.td, o9⟩ (upd m "held" (some (.ref D9))) _ _ ⟨ia, ih9, ip9, heldF_pop (by rw [hfst]; exact sh9) hi8, ⟨_, d9⟩, o5, hf.fl, ⟨Ne.symm q6, Ne.symm q7, Ne.symm q8, Ne.symm q9, Ne.symm q10⟩, hf.fb, hf.fh, Ne.symm q2, Ne.symm q4, Ne.symm q5, hf.inv.keep cs9 or9⟩ ⟨hI.fi, q1⟩ ⟨dM, rfl, dD, dL⟩ (.l rfl .rf) F9 (news_sub N9 (by unfold lawLed led; k_allIn)))))
  k_extra "steps"
end
example : True := by
  k_with_none
  k_with "A" => (with_reducible assumption)
  k_with "R" => (k_dflt (exact rfl))
  k_with "F" => (k_dflt (exact fun _ => rfl))
  k_with "G" => (k_dflt (exact fun _ _ => rfl))
  k_with "steps" => (repeat' (first | walk1 | (dsimp only; walk1) | fail "no step"))
  k_with "k_ne" => (first | (k_extra "A") | (refine Ne.symm ?_; with_reducible assumption))
  k_with "ints" => (first | with_reducible assumption | exact ints_set (by k_extra "ints") _ | exact ints_app1 (by k_extra "ints") _ _ | fail "no ints")
  k_with "pre0" => (first | with_reducible assumption | (with_reducible exact le_w (by assumption) rfl) | (with_reducible exact le_we (by assumption) (by assumption) rfl) | (with_reducible exact lt_we (by assumption) (by assumption)) | omega | (simp only [List.length_set, List.length_append, List.length_cons, List.length_nil, List.length_map]; omega) | k_extra "pre")
  k_with "mono" => (intro _ _ _ hk x; (intros; refine hk _ _ ?_; first | exact x | (apply x <;> assumption)))
  k_with "open" => (
    refine' ctr_intro ?mono ?ho ?hcd ?hb ?hloc ?c2 ?c3 ?c4 ?c5 ?_;
    (case ho => (intro P; k_is)); (case hcd => (intro P; k_is)); (case hb => exact fun s => BindsTo.of_eq rfl); (case hloc => exact locs rfl); (case c2 => exact rfl); (case c3 => exact rfl); (case c4 => exact rfl); (case c5 => decide); (case mono => k_extra "mono");
    intro G h gs dr tk0 os q B F X N T l1 hD hU hret;
    unfold led at N)
  k_with "evI" => (first
    | ((with_reducible apply evI_name); (k_extra "R"); (k_extra "R"))
    | (with_reducible exact evI_const)
    | ((with_reducible apply evI_neg); (k_dflt (k_extra "evI")))
    | ((with_reducible apply evI_op); (k_dflt (k_extra "evI")); (k_dflt (k_extra "evI")); (k_dflt (k_extra "iop")))
    | ((with_reducible apply evI_sub); (k_dflt (k_extra "evV")); (k_dflt (k_extra "evI")); (k_dflt k_memK); (k_dflt (k_extra "ints")); (k_dflt (k_extra "pre0")); (k_dflt (k_extra "pre0")); (k_dflt (k_extra "pre0")); (k_extra "F"))
    | ((with_reducible apply evI_limit); (k_dflt (k_extra "evV")); (k_extra "A"); (k_dflt k_memK); (k_dflt k_memK))
    | ((with_reducible apply evI_step); (k_dflt (k_extra "evV")); (k_extra "A"); (k_dflt k_memK); (k_dflt k_memK))
    | ((with_reducible apply evI_len); (k_extra "A"); (exact topRead_of (by with_reducible assumption)); (k_extra "R"); (k_dflt (k_extra "evV")); (k_extra "G"); (k_extra "F"); (k_dflt k_memK); (k_dflt (exact len_cast (by k_extra "ints"))); (k_dflt (k_extra "len9"))))
  k_with "len9" => (rw [IntsAre.length (by k_extra "ints")]; k_extra "pre0")
  k_with "iop" => (first | exact .add | exact .sub | exact .mul (by decide) | exact .fdiv (by decide) (by decide) | exact .mod (by decide))
  k_with "evV" => (first
    | ((with_reducible apply evV_name); (k_extra "R"); (k_extra "R"))
    | ((with_reducible apply evV_heap); (k_dflt (k_extra "evV")); (k_extra "A"); (k_dflt k_memK); (k_dflt k_memK))
    | ((with_reducible apply evV_act); (k_dflt (k_extra "evV")); (k_extra "A"); (k_dflt k_memK); (k_dflt k_memK))
    | ((with_reducible apply evV_place); (k_dflt (k_extra "evV")); (k_extra "A"); (k_dflt k_memK); (k_dflt k_memK)))
  k_with "cop" => (first | exact .lt | exact .le | exact .gt | exact .ge | exact .eq | exact .ne)
  k_with "evT" => (first
    | ((with_reducible apply evT_cmp); (k_dflt (k_extra "evI")); (k_dflt (k_extra "evI")); (k_dflt (k_extra "cop")); (k_extra "R"))
    | ((with_reducible apply evT_not); (k_dflt (k_extra "evT")))
    | ((with_reducible apply evT_and); (k_dflt (k_extra "evT")); (intro hp9; k_dflt (k_extra "evT")))
    | ((with_reducible apply evT_or); (k_dflt (k_extra "evT")); (intro hp9; k_dflt (k_extra "evT"))))
  k_with "exec If" => ((with_reducible apply x_ifH); (k_extra "A"); (k_extra "A"); (k_dflt (k_extra "evTH")); all_goals (k_whole; intro hp9 h9 tk9 F9 N9; (try k_sweep)))
  k_with "exec If" => ((with_reducible apply x_if); (k_extra "A"); (k_extra "A"); (k_dflt (k_extra "evT")); all_goals (k_whole; intro hp9 tk9))
  k_with "execs cons" => (with_reducible refine x_cons ?_)
  k_with "execs cons" => ((with_reducible apply x_setI); (k_extra "A"); (k_extra "A"); (k_dflt (k_extra "evI")); (k_dflt (k_extra "evV")); (k_dflt (k_extra "evI")); (k_dflt (k_extra "updF")); (k_dflt (k_extra "ints")); (k_dflt (k_extra "pre0")); (k_dflt (k_extra "pre0")); (k_dflt (k_extra "pre0")); (k_extra "F"); (k_whole); (intro t9 h9 tk9 F9 N9); (try k_sweep))
  k_with "execs cons" => ((with_reducible apply x_asgV); (k_extra "A"); (k_extra "A"); (k_dflt (k_extra "evV")); (k_extra "R"); (k_extra "F"); (k_whole); (intro h9 tk9 F9 N9); (try k_sweep))
  k_with "execs cons" => ((with_reducible apply x_asgI); (k_extra "A"); (k_extra "A"); (k_dflt (k_extra "evI")); (k_extra "R"); (k_extra "F"); (k_whole); (intro t9 h9 tk9 F9 N9); (try k_sweep))
  k_with "execs cons" => ((with_reducible apply x_retV); (k_extra "A"); (k_extra "A"); (k_dflt (k_extra "evV")); (k_whole); (intro tk9))
  k_with "execs cons" => ((with_reducible apply x_retI); (k_extra "A"); (k_extra "A"); (k_dflt (k_extra "evI")); (k_whole); (intro t9 tk9))
  k_with "execs cons" => ((with_reducible apply x_retC); (k_extra "A"); (k_extra "A"); (k_dflt (k_extra "evI")); (k_dflt (k_extra "evI")); (k_dflt (k_extra "cop")); (k_extra "R"); (k_whole); (intro b9 tk9 hb9))
  k_with "LEnd" => (with_reducible refine lEnd_ ?_; with_reducible first | (refine hret1 _ _ ?_) | (refine hbrk _ ?_) | (k_dflt (k_extra "wend")))
  k_with "eval Call Attribute" => ((with_reducible apply call_meth); (k_extra "A"); (k_extra "A"); (k_extra "mt"); (k_extra "F"); (k_dflt (k_extra "evV")); (k_extra "A"); (k_dflt k_memK); (k_dflt k_memK); (k_extra "R"); (k_dflt (k_extra "evL")); (k_whole); k_dflt (k_extra "args"))
  k_with "evL" => (first | exact .nil | ((with_reducible apply EvL.i); (k_dflt (k_extra "evI")); (k_extra "G"); (k_dflt (k_extra "evL"))) | ((with_reducible apply EvL.v); (k_dflt (k_extra "evV")); (k_extra "G"); (k_dflt (k_extra "evL"))))
  k_with "args" => (first | (refine argK0 ?_; intro tk9) | (refine argK1 ?_; intro t9 tk9) | (refine argK2 ?_; intro t9 t8 tk9) | (refine argKv ?_; intro tk9) | (refine argKvv ?_; intro tk9) | (refine argKvi ?_; intro t9 tk9) | (refine argKvii ?_; intro t9 t8 tk9) | (refine argKvvi ?_; intro t9 tk9) | (refine argKvvv ?_; intro tk9))
  k_with "mt" => (with_reducible first | exact mt_is_before | exact mt_put | exact mt_rise | exact mt_better_child | exact mt_sink | exact mt_push | exact mt_pop | exact mt_pop_best | exact mt_bump | exact mt_decay | exact mt_rescale | exact mt_rebuild | exact mt_grow | exact mt_many | exact mt_is_held | exact mt_size | exact mt_top)
  k_with "storeName" => ((with_reducible apply x_store); (k_extra "A"); (k_extra "A"); (k_extra "R"); (k_whole); (intro h9 tk9 F9 N9); (try k_sweep))
  k_with "call builtin:list.append" => ((with_reducible apply append_U); (k_extra "A"); (k_extra "A"); (k_dflt (k_extra "updF")); (k_dflt (rw [IntsAre.length (by k_extra "ints")]; k_extra "pre0")); (k_whole); (intro h9 tk9 F9 N9); (try k_sweep))
  k_with "call builtin:list.pop" => ((with_reducible apply pop_U); (k_extra "A"); (k_extra "A"); (k_dflt (k_extra "updF")); (k_dflt (k_extra "ints")); (k_dflt (k_extra "pre0")); (k_dflt (k_extra "pre0")); (k_whole); (intro t9 h9 tk9 F9 N9 ip9); (try k_sweep))
  k_with "eval Attribute Name" => ((with_reducible apply useV); (k_extra "A"); (k_extra "A"); (k_dflt (k_extra "evV")); (k_whole); (intro tk9))
  k_with "eval BinOp" => ((with_reducible apply useI); (k_extra "A"); (k_extra "A"); (k_dflt (k_extra "evI")); (k_whole); (intro t9 tk9))
  k_with "eval Subscript" => ((with_reducible apply useI); (k_extra "A"); (k_extra "A"); (k_dflt (k_extra "evI")); (k_whole); (intro t9 tk9))
  k_with "isTrue Compare" => ((with_reducible apply useT); (k_extra "A"); (k_extra "A"); (k_dflt (k_extra "evT")); all_goals (k_whole; intro hp9 tk9))
  k_with "execs nil" => (with_reducible refine wpAny_execs_nil ?_)
  k_with "SeqK" => (with_reducible first | refine seq_next ?_ | refine seq_ret ?_ | refine seq_brk ?_ | refine seq_cont ?_)
  k_with "updF" => (first | exact upH (by with_reducible assumption) | exact upP (by with_reducible assumption) | exact upA (by with_reducible assumption) | exact upD (by with_reducible assumption) | (refine' .tail ?_ ?_; (k_extra "k_ne"); (k_extra "updF")))
  k_with "room" => (exact room_le (by with_reducible assumption) rfl)
  k_with "hH" => (first | exact fun _ h => h | exact fun _ h => .tail _ h | exact fun _ h => .tail _ (.tail _ h) | exact fun _ h => .tail _ (.tail _ (.tail _ h)) | exact fun _ h => .tail _ (.tail _ (.tail _ (.tail _ h))))
  k_with "spl" => (first | exact spl_led | exact .keep (off5_all (by k_extra "off5")) (by k_extra "spl"))
  k_with "off5" => (k_extra "A")
  k_with "evIH" => ((with_reducible apply evIH_of); (k_dflt (k_extra "evI")))
  k_with "evTH" => ((with_reducible apply evTH_cmp); (k_dflt (k_extra "evIH")); (k_dflt (k_extra "evIH")); (k_dflt (k_extra "cop")); (k_extra "R"))
  k_with "evTH" => ((with_reducible apply evTH_or); (k_dflt (k_extra "evTH")); (intro hp9; k_dflt (k_extra "evTH")))
  k_with "evTH" => ((with_reducible apply evTH_and); (k_dflt (k_extra "evTH")); (intro hp9; k_dflt (k_extra "evTH")))
  k_with "evTH" => ((with_reducible apply evTH_not); (k_dflt (k_extra "evTH")))
  k_with "evTH" => ((with_reducible apply evTH_of); (k_dflt (k_extra "evT")))
  k_with "meq" => (first
    | exact MEq.rf
    | ((with_reducible apply MEq.l); (exact rfl); (k_extra "meq"))
    | ((with_reducible apply MEq.r); (exact rfl); (k_extra "meq"))
    | ((with_reducible apply MEq.n); (exact rfl); (k_extra "meq"))
    | ((with_reducible apply MEq.g); (exact rfl); (k_extra "meq")))
  k_with "openC" => (
    refine' ctr_introC ?mono ?ho ?hcd ?hb ?hkind ?c1 ?c2 ?c3 ?c4 ?c5 ?_;
    (case ho => (intro P; k_is)); (case hcd => (intro P; k_is)); (case hb => exact fun s => BindsTo.of_eq rfl); (case hkind => exact rfl); (case c1 => decide +kernel); (case c2 => exact fun _ => rfl); (case c3 => exact rfl); (case c4 => exact rfl); (case c5 => exact rfl); (case mono => k_extra "mono");
    intro G h gs dr tk0 os q oc B F X N d1 T l1 hD hU hret;
    (have hK := off5_lt l1); (have k1 := hK.1); (have k2 := hK.2.1); (have k3 := hK.2.2.1); (have k4 := hK.2.2.2.1); (have k5 := hK.2.2.2.2); clear l1;
    unfold led at N)
  k_with "evI" => ((with_reducible apply evI_cell); (k_extra "R"); (k_dflt k_memK); (k_extra "A"); (k_extra "R"))
  k_with "evV" => ((with_reducible apply evV_cell); (k_extra "R"); (k_dflt k_memK); (k_extra "A"); (k_extra "R"))
  k_with "setAttr ref" => (first
    | ((with_reducible apply set_step); (k_extra "A"); (k_extra "A"); (k_extra "A"); (k_dflt k_memK); (k_dflt k_memK); (k_dflt (k_extra "updF")); (k_whole); (intro h9 tk9 F9 N9); (try k_sweep))
    | ((with_reducible apply set_act); (k_extra "A"); (k_extra "A"); (k_extra "A"); (k_dflt k_memK); (k_dflt k_memK); (k_dflt (k_extra "updF")); (k_whole); (intro h9 tk9 F9 N9); (try k_sweep)))
  k_with "evI" => ((with_reducible apply evI_glob); (k_extra "A"); (exact topRead_of (by with_reducible assumption)); (with_reducible first | exact gl_first | exact gl_shrink); (k_extra "R"))
  k_with "execs cons" => ((with_reducible apply x_asgIC); (k_extra "A"); (k_extra "A"); (k_dflt (k_extra "evI")); (k_extra "R"); (k_dflt (k_extra "updC")); (k_extra "A"); (k_extra "R"); (k_extra "F"); (k_whole); (intro t9 h9 tk9 o9 F9 N9 d9); (try k_sweep))
  k_with "updC" => (exact upC (by with_reducible assumption))
  k_with "updF" => (first | exact upD1 (by with_reducible assumption) (by with_reducible assumption) | exact upA1 (by with_reducible assumption) (by with_reducible assumption))
  k_with "execs cons" => ((with_reducible apply x_setStep); (k_extra "A"); (k_extra "A"); (k_extra "A"); (k_dflt (k_extra "evI")); (k_dflt (k_extra "evV")); (k_dflt k_memK); (k_dflt k_memK); (k_dflt (k_extra "updF")); (k_extra "F"); (k_whole); (intro t9 h9 tk9 F9 N9); (try k_sweep))
  k_with "evT" => ((with_reducible apply evT_orc); (k_dflt (k_extra "evT")); (intro hp9; k_dflt (k_extra "evT")))
  k_with "evTH" => ((with_reducible apply evTH_orc); (k_dflt (k_extra "evTH")); (intro hp9; k_dflt (k_extra "evTH")))
  k_with "evT" => (first
    | ((with_reducible apply evT_or); (k_dflt (k_extra "evT")); (intro hp9; k_dflt (k_extra "evT"))))
  k_with "evTH" => ((with_reducible apply evTH_or); (k_dflt (k_extra "evTH")); (intro hp9; k_dflt (k_extra "evTH")))
  k_with "evTH" => ((with_reducible apply evTH_of); (k_dflt (k_extra "evT")))
  k_with "eval Call Name" => ((with_reducible apply call_fun); (k_extra "A"); (k_extra "A"); (k_extra "A"); (exact topRead_of (by with_reducible assumption)); (k_extra "fn"); (k_extra "R"); (k_extra "F"); (k_dflt (k_extra "evL")); (k_whole); k_dflt (k_extra "args"))
  k_with "fn" => (with_reducible first | exact fn_first | exact fn_in_order | exact fn_small | exact fn_bumped | exact fn_decayed | exact fn_same | exact fn_values | exact fn_best)
  k_with "hH" => k_allIn
  k_with "spl" => (first
    | exact .nil
    | (refine' .drop ?_ ?_; (first | exact .head _ | exact .tail _ (.head _) | exact .tail _ (.tail _ (.head _))); (k_extra "spl"))
    | (refine' .keep ?_ ?_; (k_extra "neall"); (k_extra "spl")))
  k_with "neall" => (first | exact List.forall_mem_nil _ | (refine List.forall_mem_cons.mpr ⟨?_, ?_⟩; (k_extra "k_ne"); (k_extra "neall")))
  k_with "args" => (refine argKv ?_; intro tk9)
  k_with "spl" => (exact spl2 (by with_reducible assumption) (by with_reducible assumption))
  k_with "evT" => ((with_reducible apply evT_chain); (k_dflt (k_extra "evI")); (k_dflt (k_extra "evI")); (k_dflt (k_extra "evI")); (k_dflt (k_extra "cop")); (k_dflt (k_extra "cop")); (k_extra "R"))
  k_with "evTH" => ((with_reducible apply evTH_minlt); (k_extra "R"); (k_extra "A"); (exact topRead_of (by with_reducible assumption)); (k_extra "R"); (k_dflt (k_extra "evV")); (k_dflt (k_extra "evI")); (k_extra "G"); (k_extra "F"); (k_dflt k_memK); (k_dflt (k_extra "ints")); (k_dflt (k_extra "pre0")); (k_dflt (k_extra "pre0")); (k_extra "R"))
  k_with "evTH" => ((with_reducible apply evTH_maxgt); (k_extra "R"); (k_extra "A"); (exact topRead_of (by with_reducible assumption)); (k_extra "R"); (k_dflt (k_extra "evV")); (k_dflt (k_extra "evI")); (k_extra "G"); (k_extra "F"); (k_dflt k_memK); (k_dflt (k_extra "ints")); (k_dflt (k_extra "pre0")); (k_dflt (k_extra "pre0")); (k_extra "R"))
  k_with "execs cons" => ((with_reducible apply x_copy); (k_extra "A"); (k_extra "A"); (k_extra "A"); (exact topRead_of (by with_reducible assumption)); (k_extra "R"); (k_extra "R"); (k_dflt (k_extra "evV")); (k_extra "G"); (k_extra "F"); (k_dflt k_memK); (k_dflt (k_extra "len9")); (k_extra "F"); (k_whole); (intro D9 c9 h9 tk9 f9 F9 N9); (try k_sweep); (k_extra "fresh"))
  k_with "fresh" => skip
  k_with "updF" => (exact upC (by with_reducible assumption))
  k_with "evBH" => ((with_reducible apply evBH_cmp); (k_dflt (k_extra "evIH")); (k_dflt (k_extra "evIH")); (k_dflt (k_extra "cop")); (k_extra "R"))
  k_with "evBH" => ((with_reducible apply evBH_andc); (k_dflt (k_extra "evBH")); (intro hp9; k_dflt (k_extra "evBH")))
  k_with "evBH" => ((with_reducible apply evBH_and); (k_dflt (k_extra "evBH")); (intro hp9; k_dflt (k_extra "evBH")))
  k_with "evBH" => ((with_reducible apply evBH_listeq); (k_dflt (k_extra "room")); (k_extra "A"); (exact topRead_of (by with_reducible assumption)); (k_extra "R"); (k_dflt (k_extra "evV")); (intro nw; k_dflt (k_extra "evV")); (k_extra "G"); (k_extra "F"); (k_dflt k_memK); (k_dflt k_memK); (k_dflt (k_extra "ints")); (k_dflt (k_extra "ints")); (k_dflt (k_extra "len9")); (k_extra "R"))
  k_with "evBH" => ((with_reducible apply evBH_small); (k_extra "A"); (k_extra "A"); (k_extra "A"); (k_dflt (k_extra "room")); (k_dflt (k_extra "room")); (k_extra "R"); (k_extra "R"); (k_dflt (k_extra "evV")); (k_dflt (k_extra "evI")); (k_dflt (k_extra "evV")); (k_dflt (k_extra "hH")); (k_dflt (k_extra "spl")); (k_extra "A"); (k_extra "off5"); (k_dflt (k_extra "ints")); (k_dflt (k_extra "ints")); (k_dflt (k_extra "pre0")); (k_dflt (k_extra "pre0")); (k_dflt (k_extra "pre0")); (k_dflt (k_extra "pre0")); (k_dflt (k_extra "pre0")); (k_dflt (k_extra "pre0")); (k_dflt (k_extra "pre0")); (k_extra "G"); (k_extra "G"); (k_extra "G"); (k_extra "F"))
  k_with "evTH" => ((with_reducible apply evTH_call); (k_dflt (k_extra "evBH")); (k_extra "F"))
  k_with "execs cons" => ((with_reducible apply x_retB); (k_extra "A"); (k_extra "A"); (k_dflt (k_extra "evBH")); (k_whole); (intro b9 h9 tk9 hb9 F9 N9); (try k_sweep))
  k_with "spl" => (exact spl6)
  k_with "evIH" => ((with_reducible apply evIH_first); (k_extra "A"); (k_extra "A"); (k_extra "A"); (k_dflt (k_extra "room")); (k_dflt (k_extra "room")); (k_extra "R"); (k_extra "R"); (k_dflt (k_extra "evV")); (k_dflt (k_extra "evV")); (k_dflt k_memK); (k_dflt k_memK); (k_dflt (k_extra "spl")); (k_dflt (k_extra "ints")); (k_dflt (k_extra "ints")); (k_dflt (k_extra "pre0")); (k_dflt (k_extra "pre0")); (k_extra "G"); (k_extra "G"); (k_extra "F"))
  k_with "evI" => ((with_reducible apply evI_name); (first | with_reducible assumption | k_dflt (first | exact rfl | exact dD | exact dL | exact dM | exact dV | exact dR)); (k_extra "R"))
  k_with "evV" => ((with_reducible apply evV_name); (first | with_reducible assumption | k_dflt (first | exact rfl | exact dH)); (k_extra "R"))
  k_with "spl" => (exact splT hI.fi hf.fl hf.fq hf.fb hf.fh)
  k_with "hH" => (exact fun _ h => .tail _ (.tail _ (.tail _ (.tail _ (.tail _ h)))))
  k_with "ite" => (first | (with_reducible refine ite_t (by first | omega | (simp only [decide_eq_true_eq, beq_iff_eq, bne_iff_ne, ne_eq]; omega)) ?_) | (with_reducible refine ite_f (by first | omega | (simp only [decide_eq_true_eq, beq_iff_eq, bne_iff_ne, ne_eq]; omega)) ?_) | fail "open")
  k_with "call ref" => ((with_reducible show wpAny _ _ (call (Value.ref 99) _) _ _ _); k_dflt (refine' ctr_use (c_push ?za0 ?za1 ?za2 ?za3 ?za4 ?za5 ?za6 ?za7 ?za8 ?za9) G ?zF ?zN ?zB ?zX ?zT ?zk ?zH ?zR ?zd ?zu ?_; (case zF => assumption); (case zN => assumption); (case zH => k_extra "hH"); (case zR => k_extra "spl"); (case za0 => with_reducible assumption); (case za1 => k_extra "ints"); (case za2 => k_extra "ints"); (case za3 => k_extra "ints"); (case za4 => k_extra "pre0"); (case za5 => k_extra "pre0"); (case za6 => k_extra "pre0"); (case za7 => k_extra "pre0"); (case za8 => k_extra "pre0"); (case za9 => k_extra "pre0"); (case zB => assumption); (case zX => assumption); (case zT => assumption); (case zk => exact rfl); (case zd => k_extra "room"); (case zu => k_extra "room"); k_whole; intro vh9 vp9 nh9 hp9' pl9 ih9 ip9 cs9 or9 sh9 h9 tk9 F9 N9 ap9; (try dsimp only [led, List.cons_append, List.nil_append] at N9); clear ap9; (try k_sweep)))
  trivial
section
variable {f : Addr} {cd : Value} {G : GC} {m : Str → Option Value} {Q : Flow → Shared → Prop} {l I : Addr} {ws : List Value} {oH oI : Obj} {o dx lh lp : Addr} {t1 t2 t3 t4 t5 tl tk3 tk4 : Tok} {limit vv rr : Int} {h : Heap} {gs : Array GenState} {dr : Drawn} {tk0 : Nat} {os : OsState}
set_option maxHeartbeats 8000000 in
theorem law_d (B : Below G.A₀ G.base G.outer G.h₀) (X : (K39 G.w.params).In G.h₀) (T : Top G.p G.loose G.mean G.mg G.mb G.h₀) (hD : G.dp + 40 < recursionLimit) (hU : G.un + 300 < cLine) (hoH : oH.data = .cell (some (.ref o))) (hlim1 : 1500 ≤ limit) (hlim2 : limit ≤ 5000000)
    (c : LS) (hf : LF l (G.L + 1 + 1) (G.L + 1) o dx lh lp limit c) (hI : LI I o dx lh lp c) (hX : LX I l (G.L + 1 + 1) (G.L + 1)) (hv1 : 1 ≤ vv) (hv2 : vv ≤ c.n) (dV : m "var" = some (.int vv tk3))
    (hm : LM limit tl c m) (F : Fr G.h₀ G.L h m) (N : News G.h₀ G.L h ((I, oI) :: lawLed G.w.params l (G.L + 1 + 1) (G.L + 1) ws oH o dx lh lp t1 t2 t3 t4 t5 tl limit c))
    (K : ∀ (c' : LS) m' h' tk', LF l (G.L + 1 + 1) (G.L + 1) o dx lh lp limit c' → LI I o dx lh lp c' → LM limit tl c' m' → MEq lawSt m' m → Fr G.h₀ G.L h' m' → News G.h₀ G.L h' ((I, oI) :: lawLed G.w.params l (G.L + 1 + 1) (G.L + 1) ws oH o dx lh lp t1 t2 t3 t4 t5 tl limit c') → Q .next ⟨h', gs, dr, tk', os⟩) :
    wpAny (gM G) (ktrTop G.dp G.un G.gd "law" lawScope G.L f cd (lawCl G.L) G.outer) (execs (lawKind 3) (envX "law" lawScope G.L f cd (lawCl G.L))) (LEnd Q) NoE ⟨h, gs, dr, tk0, os⟩ := by
  obtain ⟨S, hS⟩ : ∃ S, S = lawScope := ⟨_, rfl⟩
  rw [← hS]
  conv at hS => rhs; whnf
  subst hS
  conv in lawKind 3 => whnf
  unfold lawLed led at N
  have dM := hm.many
  have dH := hm.held
  have dD := hm.dec
  have dL := hm.lim
  have o5 := hf.o5
  have ia := hf.ia
  have ih := hf.ih
  have ip := hf.ip
  have iq := hf.iq
  have hcons := hf.inv.cons
  have hlen := hf.inv.len
  have hn9 := hf.inv.n9
  have hord := hf.inv.ord
  have hfst := held_first hcons hord
  have hrg := heldL_rng (pl := c.pl) hlen
  have hl9 := heldL_len9 hcons hn9
  k_with "spl" => (exact splT hI.fi hf.fl hf.fq hf.fb hf.fh)
  k_with "eval Name" => ((with_reducible apply useV); (k_extra "A"); (k_extra "A"); (k_dflt (k_extra "evV")); (k_whole); (intro tk9))
  k_with "eval Name" => ((with_reducible apply useI); (k_extra "A"); (k_extra "A"); (k_dflt (exact evI_name dV rfl)); (k_whole); (intro t9 tk9))
  k_with "binaryOp Add ref ref" => ((with_reducible show wpAny _ _ (binaryOp _ (Value.ref _) (Value.ref _)) _ _ _); k_dflt (
    (rename Fr _ _ _ _ => lF); (rename News _ _ _ _ => lN);
    refine' kmk_add_ints lF lN (News.isList lN (.tail _ (.tail _ (.tail _ (.head _))))) (News.isList lN (.head _)) iq (.cons _ _ .nil) ?_ ?zz; (case zz => (rw [PySem.sizeLine_eq]; (simp only [List.length_cons, List.length_nil]); omega)); k_whole; clear lF lN; intro D8 ws8 h8 F8 N8 l8 hi8; (try k_sweep)))
  k_with "call type:set cons nil" => ((with_reducible show wpAny _ _ (call (Value.type "set") [Value.ref _]) _ _ _); k_dflt (refine' set_N F8 N8 rfl (News.isList N8 (.head _)) hi8 (push_rng hn9 hv1 hv2) ?_; k_whole; intro S7 o7 h7 tk7 I7 F7 N7 l7; (try k_sweep)))
  k_with "call builtin:sorted" => ((with_reducible show wpAny _ _ (call (Value.builtin _) [Value.ref _]) _ _ _); k_dflt (refine' sortset_push F7 N7 rfl (.head _) I7 hv1 hv2 sh9 ?_; k_whole; intro D9 vs9 h9 tk9 F9 N9 l9 hi9; (try k_sweep)))
  k_with "LEnd" => (k_dflt (
    (have fr := freshQ fun p hp => l9 p (.tail _ (.tail _ (.tail _ hp))));
    exact lEnd_ (K ⟨c.n, c.tn, c.la, c.step, c.ts, c.va, vh9, vp9, c.na, nh9, c.np, c.act, hp9', pl9, D9, vs9, 2, c.dec, c.td, c.cb⟩ (upd m "held" (some (.ref D9))) _ _ ⟨ia, ih9, ip9, hi9, hf.cb, o5, hf.fl, fr.fq, hf.fb, hf.fh, fr.ql, fr.qb, fr.qh, hf.inv.keep cs9 or9⟩ ⟨hI.fi, fr.iq⟩ ⟨dM, rfl, dD, dL⟩ (.l rfl .rf) F9 (news_sub N9 (by unfold lawLed led; k_allIn)))))
  k_extra "steps"
end
example : True := by
  k_with_none
  k_with "A" => (with_reducible assumption)
  k_with "R" => (k_dflt (exact rfl))
  k_with "F" => (k_dflt (exact fun _ => rfl))
  k_with "G" => (k_dflt (exact fun _ _ => rfl))
  k_with "steps" => (repeat' (first | walk1 | (dsimp only; walk1) | fail "no step"))
  k_with "k_ne" => (first | (k_extra "A") | (refine Ne.symm ?_; with_reducible assumption))
  k_with "ints" => (first | with_reducible assumption | exact ints_set (by k_extra "ints") _ | exact ints_app1 (by k_extra "ints") _ _ | fail "no ints")
  k_with "pre0" => (first | with_reducible assumption | (with_reducible exact le_w (by assumption) rfl) | (with_reducible exact le_we (by assumption) (by assumption) rfl) | (with_reducible exact lt_we (by assumption) (by assumption)) | omega | (simp only [List.length_set, List.length_append, List.length_cons, List.length_nil, List.length_map]; omega) | k_extra "pre")
  k_with "mono" => (intro _ _ _ hk x; (intros; refine hk _ _ ?_; first | exact x | (apply x <;> assumption)))
  k_with "open" => (
    refine' ctr_intro ?mono ?ho ?hcd ?hb ?hloc ?c2 ?c3 ?c4 ?c5 ?_;
    (case ho => (intro P; k_is)); (case hcd => (intro P; k_is)); (case hb => exact fun s => BindsTo.of_eq rfl); (case hloc => exact locs rfl); (case c2 => exact rfl); (case c3 => exact rfl); (case c4 => exact rfl); (case c5 => decide); (case mono => k_extra "mono");
    intro G h gs dr tk0 os q B F X N T l1 hD hU hret;
    unfold led at N)
  k_with "evI" => (first
    | ((with_reducible apply evI_name); (k_extra "R"); (k_extra "R"))
    | (with_reducible exact evI_const)
    | ((with_reducible apply evI_neg); (k_dflt (k_extra "evI")))
    | ((with_reducible apply evI_op); (k_dflt (k_extra "evI")); (k_dflt (k_extra "evI")); (k_dflt (k_extra "iop")))
    | ((with_reducible apply evI_sub); (k_dflt (k_extra "evV")); (k_dflt (k_extra "evI")); (k_dflt k_memK); (k_dflt (k_extra "ints")); (k_dflt (k_extra "pre0")); (k_dflt (k_extra "pre0")); (k_dflt (k_extra "pre0")); (k_extra "F"))
    | ((with_reducible apply evI_limit); (k_dflt (k_extra "evV")); (k_extra "A"); (k_dflt k_memK); (k_dflt k_memK))
    | ((with_reducible apply evI_step); (k_dflt (k_extra "evV")); (k_extra "A"); (k_dflt k_memK); (k_dflt k_memK))
    | ((with_reducible apply evI_len); (k_extra "A"); (exact topRead_of (by with_reducible assumption)); (k_extra "R"); (k_dflt (k_extra "evV")); (k_extra "G"); (k_extra "F"); (k_dflt k_memK); (k_dflt (exact len_cast (by k_extra "ints"))); (k_dflt (k_extra "len9"))))
  k_with "len9" => (rw [IntsAre.length (by k_extra "ints")]; k_extra "pre0")
  k_with "iop" => (first | exact .add | exact .sub | exact .mul (by decide) | exact .fdiv (by decide) (by decide) | exact .mod (by decide))
  k_with "evV" => (first
    | ((with_reducible apply evV_name); (k_extra "R"); (k_extra "R"))
    | ((with_reducible apply evV_heap); (k_dflt (k_extra "evV")); (k_extra "A"); (k_dflt k_memK); (k_dflt k_memK))
    | ((with_reducible apply evV_act); (k_dflt (k_extra "evV")); (k_extra "A"); (k_dflt k_memK); (k_dflt k_memK))
    | ((with_reducible apply evV_place); (k_dflt (k_extra "evV")); (k_extra "A"); (k_dflt k_memK); (k_dflt k_memK)))
  k_with "cop" => (first | exact .lt | exact .le | exact .gt | exact .ge | exact .eq | exact .ne)
  k_with "evT" => (first
    | ((with_reducible apply evT_cmp); (k_dflt (k_extra "evI")); (k_dflt (k_extra "evI")); (k_dflt (k_extra "cop")); (k_extra "R"))
    | ((with_reducible apply evT_not); (k_dflt (k_extra "evT")))
    | ((with_reducible apply evT_and); (k_dflt (k_extra "evT")); (intro hp9; k_dflt (k_extra "evT")))
    | ((with_reducible apply evT_or); (k_dflt (k_extra "evT")); (intro hp9; k_dflt (k_extra "evT"))))
  k_with "exec If" => ((with_reducible apply x_ifH); (k_extra "A"); (k_extra "A"); (k_dflt (k_extra "evTH")); all_goals (k_whole; intro hp9 h9 tk9 F9 N9; (try k_sweep)))
  k_with "exec If" => ((with_reducible apply x_if); (k_extra "A"); (k_extra "A"); (k_dflt (k_extra "evT")); all_goals (k_whole; intro hp9 tk9))
  k_with "execs cons" => (with_reducible refine x_cons ?_)
  k_with "execs cons" => ((with_reducible apply x_setI); (k_extra "A"); (k_extra "A"); (k_dflt (k_extra "evI")); (k_dflt (k_extra "evV")); (k_dflt (k_extra "evI")); (k_dflt (k_extra "updF")); (k_dflt (k_extra "ints")); (k_dflt (k_extra "pre0")); (k_dflt (k_extra "pre0")); (k_dflt (k_extra "pre0")); (k_extra "F"); (k_whole); (intro t9 h9 tk9 F9 N9); (try k_sweep))
  k_with "execs cons" => ((with_reducible apply x_asgV); (k_extra "A"); (k_extra "A"); (k_dflt (k_extra "evV")); (k_extra "R"); (k_extra "F"); (k_whole); (intro h9 tk9 F9 N9); (try k_sweep))
  k_with "execs cons" => ((with_reducible apply x_asgI); (k_extra "A"); (k_extra "A"); (k_dflt (k_extra "evI")); (k_extra "R"); (k_extra "F"); (k_whole); (intro t9 h9 tk9 F9 N9); (try k_sweep))
  k_with "execs cons" => ((with_reducible apply x_retV); (k_extra "A"); (k_extra "A"); (k_dflt (k_extra "evV")); (k_whole); (intro tk9))
  k_with "execs cons" => ((with_reducible apply x_retI); (k_extra "A"); (k_extra "A"); (k_dflt (k_extra "evI")); (k_whole); (intro t9 tk9))
  k_with "execs cons" => ((with_reducible apply x_retC); (k_extra "A"); (k_extra "A"); (k_dflt (k_extra "evI")); (k_dflt (k_extra "evI")); (k_dflt (k_extra "cop")); (k_extra "R"); (k_whole); (intro b9 tk9 hb9))
  k_with "LEnd" => (with_reducible refine lEnd_ ?_; with_reducible first | (refine hret1 _ _ ?_) | (refine hbrk _ ?_) | (k_dflt (k_extra "wend")))
  k_with "eval Call Attribute" => ((with_reducible apply call_meth); (k_extra "A"); (k_extra "A"); (k_extra "mt"); (k_extra "F"); (k_dflt (k_extra "evV")); (k_extra "A"); (k_dflt k_memK); (k_dflt k_memK); (k_extra "R"); (k_dflt (k_extra "evL")); (k_whole); k_dflt (k_extra "args"))
  k_with "evL" => (first | exact .nil | ((with_reducible apply EvL.i); (k_dflt (k_extra "evI")); (k_extra "G"); (k_dflt (k_extra "evL"))) | ((with_reducible apply EvL.v); (k_dflt (k_extra "evV")); (k_extra "G"); (k_dflt (k_extra "evL"))))
  k_with "args" => (first | (refine argK0 ?_; intro tk9) | (refine argK1 ?_; intro t9 tk9) | (refine argK2 ?_; intro t9 t8 tk9) | (refine argKv ?_; intro tk9) | (refine argKvv ?_; intro tk9) | (refine argKvi ?_; intro t9 tk9) | (refine argKvii ?_; intro t9 t8 tk9) | (refine argKvvi ?_; intro t9 tk9) | (refine argKvvv ?_; intro tk9))
  k_with "mt" => (with_reducible first | exact mt_is_before | exact mt_put | exact mt_rise | exact mt_better_child | exact mt_sink | exact mt_push | exact mt_pop | exact mt_pop_best | exact mt_bump | exact mt_decay | exact mt_rescale | exact mt_rebuild | exact mt_grow | exact mt_many | exact mt_is_held | exact mt_size | exact mt_top)
  k_with "storeName" => ((with_reducible apply x_store); (k_extra "A"); (k_extra "A"); (k_extra "R"); (k_whole); (intro h9 tk9 F9 N9); (try k_sweep))
  k_with "call builtin:list.append" => ((with_reducible apply append_U); (k_extra "A"); (k_extra "A"); (k_dflt (k_extra "updF")); (k_dflt (rw [IntsAre.length (by k_extra "ints")]; k_extra "pre0")); (k_whole); (intro h9 tk9 F9 N9); (try k_sweep))
  k_with "call builtin:list.pop" => ((with_reducible apply pop_U); (k_extra "A"); (k_extra "A"); (k_dflt (k_extra "updF")); (k_dflt (k_extra "ints")); (k_dflt (k_extra "pre0")); (k_dflt (k_extra "pre0")); (k_whole); (intro t9 h9 tk9 F9 N9 ip9); (try k_sweep))
  k_with "eval Attribute Name" => ((with_reducible apply useV); (k_extra "A"); (k_extra "A"); (k_dflt (k_extra "evV")); (k_whole); (intro tk9))
  k_with "eval BinOp" => ((with_reducible apply useI); (k_extra "A"); (k_extra "A"); (k_dflt (k_extra "evI")); (k_whole); (intro t9 tk9))
  k_with "eval Subscript" => ((with_reducible apply useI); (k_extra "A"); (k_extra "A"); (k_dflt (k_extra "evI")); (k_whole); (intro t9 tk9))
  k_with "isTrue Compare" => ((with_reducible apply useT); (k_extra "A"); (k_extra "A"); (k_dflt (k_extra "evT")); all_goals (k_whole; intro hp9 tk9))
  k_with "execs nil" => (with_reducible refine wpAny_execs_nil ?_)
  k_with "SeqK" => (with_reducible first | refine seq_next ?_ | refine seq_ret ?_ | refine seq_brk ?_ | refine seq_cont ?_)
  k_with "updF" => (first | exact upH (by with_reducible assumption) | exact upP (by with_reducible assumption) | exact upA (by with_reducible assumption) | exact upD (by with_reducible assumption) | (refine' .tail ?_ ?_; (k_extra "k_ne"); (k_extra "updF")))
  k_with "room" => (exact room_le (by with_reducible assumption) rfl)
  k_with "hH" => (first | exact fun _ h => h | exact fun _ h => .tail _ h | exact fun _ h => .tail _ (.tail _ h) | exact fun _ h => .tail _ (.tail _ (.tail _ h)) | exact fun _ h => .tail _ (.tail _ (.tail _ (.tail _ h))))
  k_with "spl" => (first | exact spl_led | exact .keep (off5_all (by k_extra "off5")) (by k_extra "spl"))
  k_with "off5" => (k_extra "A")
  k_with "evIH" => ((with_reducible apply evIH_of); (k_dflt (k_extra "evI")))
  k_with "evTH" => ((with_reducible apply evTH_cmp); (k_dflt (k_extra "evIH")); (k_dflt (k_extra "evIH")); (k_dflt (k_extra "cop")); (k_extra "R"))
  k_with "evTH" => ((with_reducible apply evTH_or); (k_dflt (k_extra "evTH")); (intro hp9; k_dflt (k_extra "evTH")))
  k_with "evTH" => ((with_reducible apply evTH_and); (k_dflt (k_extra "evTH")); (intro hp9; k_dflt (k_extra "evTH")))
  k_with "evTH" => ((with_reducible apply evTH_not); (k_dflt (k_extra "evTH")))
  k_with "evTH" => ((with_reducible apply evTH_of); (k_dflt (k_extra "evT")))
  k_with "meq" => (first
    | exact MEq.rf
    | ((with_reducible apply MEq.l); (exact rfl); (k_extra "meq"))
    | ((with_reducible apply MEq.r); (exact rfl); (k_extra "meq"))
    | ((with_reducible apply MEq.n); (exact rfl); (k_extra "meq"))
    | ((with_reducible apply MEq.g); (exact rfl); (k_extra "meq")))
  k_with "openC" => (
    refine' ctr_introC ?mono ?ho ?hcd ?hb ?hkind ?c1 ?c2 ?c3 ?c4 ?c5 ?_;
    (case ho => (intro P; k_is)); (case hcd => (intro P; k_is)); (case hb => exact fun s => BindsTo.of_eq rfl); (case hkind => exact rfl); (case c1 => decide +kernel); (case c2 => exact fun _ => rfl); (case c3 => exact rfl); (case c4 => exact rfl); (case c5 => exact rfl); (case mono => k_extra "mono");
    intro G h gs dr tk0 os q oc B F X N d1 T l1 hD hU hret;
    (have hK := off5_lt l1); (have k1 := hK.1); (have k2 := hK.2.1); (have k3 := hK.2.2.1); (have k4 := hK.2.2.2.1); (have k5 := hK.2.2.2.2); clear l1;
    unfold led at N)
  k_with "evI" => ((with_reducible apply evI_cell); (k_extra "R"); (k_dflt k_memK); (k_extra "A"); (k_extra "R"))
  k_with "evV" => ((with_reducible apply evV_cell); (k_extra "R"); (k_dflt k_memK); (k_extra "A"); (k_extra "R"))
  k_with "setAttr ref" => (first
    | ((with_reducible apply set_step); (k_extra "A"); (k_extra "A"); (k_extra "A"); (k_dflt k_memK); (k_dflt k_memK); (k_dflt (k_extra "updF")); (k_whole); (intro h9 tk9 F9 N9); (try k_sweep))
    | ((with_reducible apply set_act); (k_extra "A"); (k_extra "A"); (k_extra "A"); (k_dflt k_memK); (k_dflt k_memK); (k_dflt (k_extra "updF")); (k_whole); (intro h9 tk9 F9 N9); (try k_sweep)))
  k_with "evI" => ((with_reducible apply evI_glob); (k_extra "A"); (exact topRead_of (by with_reducible assumption)); (with_reducible first | exact gl_first | exact gl_shrink); (k_extra "R"))
  k_with "execs cons" => ((with_reducible apply x_asgIC); (k_extra "A"); (k_extra "A"); (k_dflt (k_extra "evI")); (k_extra "R"); (k_dflt (k_extra "updC")); (k_extra "A"); (k_extra "R"); (k_extra "F"); (k_whole); (intro t9 h9 tk9 o9 F9 N9 d9); (try k_sweep))
  k_with "updC" => (exact upC (by with_reducible assumption))
  k_with "updF" => (first | exact upD1 (by with_reducible assumption) (by with_reducible assumption) | exact upA1 (by with_reducible assumption) (by with_reducible assumption))
  k_with "execs cons" => ((with_reducible apply x_setStep); (k_extra "A"); (k_extra "A"); (k_extra "A"); (k_dflt (k_extra "evI")); (k_dflt (k_extra "evV")); (k_dflt k_memK); (k_dflt k_memK); (k_dflt (k_extra "updF")); (k_extra "F"); (k_whole); (intro t9 h9 tk9 F9 N9); (try k_sweep))
  k_with "evT" => ((with_reducible apply evT_orc); (k_dflt (k_extra "evT")); (intro hp9; k_dflt (k_extra "evT")))
  k_with "evTH" => ((with_reducible apply evTH_orc); (k_dflt (k_extra "evTH")); (intro hp9; k_dflt (k_extra "evTH")))
  k_with "evT" => (first
    | ((with_reducible apply evT_or); (k_dflt (k_extra "evT")); (intro hp9; k_dflt (k_extra "evT"))))
  k_with "evTH" => ((with_reducible apply evTH_or); (k_dflt (k_extra "evTH")); (intro hp9; k_dflt (k_extra "evTH")))
  k_with "evTH" => ((with_reducible apply evTH_of); (k_dflt (k_extra "evT")))
  k_with "eval Call Name" => ((with_reducible apply call_fun); (k_extra "A"); (k_extra "A"); (k_extra "A"); (exact topRead_of (by with_reducible assumption)); (k_extra "fn"); (k_extra "R"); (k_extra "F"); (k_dflt (k_extra "evL")); (k_whole); k_dflt (k_extra "args"))
  k_with "fn" => (with_reducible first | exact fn_first | exact fn_in_order | exact fn_small | exact fn_bumped | exact fn_decayed | exact fn_same | exact fn_values | exact fn_best)
  k_with "hH" => k_allIn
  k_with "spl" => (first
    | exact .nil
    | (refine' .drop ?_ ?_; (first | exact .head _ | exact .tail _ (.head _) | exact .tail _ (.tail _ (.head _))); (k_extra "spl"))
    | (refine' .keep ?_ ?_; (k_extra "neall"); (k_extra "spl")))
  k_with "neall" => (first | exact List.forall_mem_nil _ | (refine List.forall_mem_cons.mpr ⟨?_, ?_⟩; (k_extra "k_ne"); (k_extra "neall")))
  k_with "args" => (refine argKv ?_; intro tk9)
  k_with "spl" => (exact spl2 (by with_reducible assumption) (by with_reducible assumption))
  k_with "evT" => ((with_reducible apply evT_chain); (k_dflt (k_extra "evI")); (k_dflt (k_extra "evI")); (k_dflt (k_extra "evI")); (k_dflt (k_extra "cop")); (k_dflt (k_extra "cop")); (k_extra "R"))
  k_with "evTH" => ((with_reducible apply evTH_minlt); (k_extra "R"); (k_extra "A"); (exact topRead_of (by with_reducible assumption)); (k_extra "R"); (k_dflt (k_extra "evV")); (k_dflt (k_extra "evI")); (k_extra "G"); (k_extra "F"); (k_dflt k_memK); (k_dflt (k_extra "ints")); (k_dflt (k_extra "pre0")); (k_dflt (k_extra "pre0")); (k_extra "R"))
  k_with "evTH" => ((with_reducible apply evTH_maxgt); (k_extra "R"); (k_extra "A"); (exact topRead_of (by with_reducible assumption)); (k_extra "R"); (k_dflt (k_extra "evV")); (k_dflt (k_extra "evI")); (k_extra "G"); (k_extra "F"); (k_dflt k_memK); (k_dflt (k_extra "ints")); (k_dflt (k_extra "pre0")); (k_dflt (k_extra "pre0")); (k_extra "R"))
  k_with "execs cons" => ((with_reducible apply x_copy); (k_extra "A"); (k_extra "A"); (k_extra "A"); (exact topRead_of (by with_reducible assumption)); (k_extra "R"); (k_extra "R"); (k_dflt (k_extra "evV")); (k_extra "G"); (k_extra "F"); (k_dflt k_memK); (k_dflt (k_extra "len9")); (k_extra "F"); (k_whole); (intro D9 c9 h9 tk9 f9 F9 N9); (try k_sweep); (k_extra "fresh"))
  k_with "fresh" => skip
  k_with "updF" => (exact upC (by with_reducible assumption))
  k_with "evBH" => ((with_reducible apply evBH_cmp); (k_dflt (k_extra "evIH")); (k_dflt (k_extra "evIH")); (k_dflt (k_extra "cop")); (k_extra "R"))
  k_with "evBH" => ((with_reducible apply evBH_andc); (k_dflt (k_extra "evBH")); (intro hp9; k_dflt (k_extra "evBH")))
  k_with "evBH" => ((with_reducible apply evBH_and); (k_dflt (k_extra "evBH")); (intro hp9; k_dflt (k_extra "evBH")))
  k_with "evBH" => ((with_reducible apply evBH_listeq); (k_dflt (k_extra "room")); (k_extra "A"); (exact topRead_of (by with_reducible assumption)); (k_extra "R"); (k_dflt (k_extra "evV")); (intro nw; k_dflt (k_extra "evV")); (k_extra "G"); (k_extra "F"); (k_dflt k_memK); (k_dflt k_memK); (k_dflt (k_extra "ints")); (k_dflt (k_extra "ints")); (k_dflt (k_extra "len9")); (k_extra "R"))
  k_with "evBH" => ((with_reducible apply evBH_small); (k_extra "A"); (k_extra "A"); (k_extra "A"); (k_dflt (k_extra "room")); (k_dflt (k_extra "room")); (k_extra "R"); (k_extra "R"); (k_dflt (k_extra "evV")); (k_dflt (k_extra "evI")); (k_dflt (k_extra "evV")); (k_dflt (k_extra "hH")); (k_dflt (k_extra "spl")); (k_extra "A"); (k_extra "off5"); (k_dflt (k_extra "ints")); (k_dflt (k_extra "ints")); (k_dflt (k_extra "pre0")); (k_dflt (k_extra "pre0")); (k_dflt (k_extra "pre0")); (k_dflt (k_extra "pre0")); (k_dflt (k_extra "pre0")); (k_dflt (k_extra "pre0")); (k_dflt (k_extra "pre0")); (k_extra "G"); (k_extra "G"); (k_extra "G"); (k_extra "F"))
  k_with "evTH" => ((with_reducible apply evTH_call); (k_dflt (k_extra "evBH")); (k_extra "F"))
  k_with "execs cons" => ((with_reducible apply x_retB); (k_extra "A"); (k_extra "A"); (k_dflt (k_extra "evBH")); (k_whole); (intro b9 h9 tk9 hb9 F9 N9); (try k_sweep))
  k_with "spl" => (exact spl6)
  k_with "evIH" => ((with_reducible apply evIH_first); (k_extra "A"); (k_extra "A"); (k_extra "A"); (k_dflt (k_extra "room")); (k_dflt (k_extra "room")); (k_extra "R"); (k_extra "R"); (k_dflt (k_extra "evV")); (k_dflt (k_extra "evV")); (k_dflt k_memK); (k_dflt k_memK); (k_dflt (k_extra "spl")); (k_dflt (k_extra "ints")); (k_dflt (k_extra "ints")); (k_dflt (k_extra "pre0")); (k_dflt (k_extra "pre0")); (k_extra "G"); (k_extra "G"); (k_extra "F"))
  k_with "evI" => ((with_reducible apply evI_name); (first | with_reducible assumption | k_dflt (first | exact rfl | exact dD | exact dL | exact dM | exact dV | exact dR)); (k_extra "R"))
  k_with "evV" => ((with_reducible apply evV_name); (first | with_reducible assumption | k_dflt (first | exact rfl | exact dH)); (k_extra "R"))
  k_with "spl" => (exact splT hI.fi hf.fl hf.fq hf.fb hf.fh)
  k_with "hH" => (exact fun _ h => .tail _ (.tail _ (.tail _ (.tail _ (.tail _ h)))))
  k_with "ite" => (first | (with_reducible refine ite_t (by first | omega | (simp only [decide_eq_true_eq, beq_iff_eq, bne_iff_ne, ne_eq]; omega)) ?_) | (with_reducible refine ite_f (by first | omega | (simp only [decide_eq_true_eq, beq_iff_eq, bne_iff_ne, ne_eq]; omega)) ?_) | fail "open")
  k_with "call ref" => ((with_reducible show wpAny _ _ (call (Value.ref 113) _) _ _ _); k_dflt (refine' ctr_use (c_pop_best ?za0 ?za1 ?za2 ?za3 ?za4 ?za5 ?za6 ?za7 ?za8 ?za9 ?za10) G ?zF ?zN ?zB ?zX ?zT ?zk ?zH ?zR ?zd ?zu ?_; (case zF => assumption); (case zN => assumption); (case zH => k_extra "hH"); (case zR => k_extra "spl"); (case za0 => with_reducible assumption); (case za1 => k_extra "off5"); (case za2 => k_extra "ints"); (case za3 => k_extra "ints"); (case za4 => k_extra "ints"); (case za5 => k_extra "ints"); (case za6 => k_extra "pre0"); (case za7 => k_extra "pre0"); (case za8 => k_extra "pre0"); (case za9 => k_extra "pre0"); (case za10 => k_extra "pre0"); (case zB => assumption); (case zX => assumption); (case zT => assumption); (case zk => exact rfl); (case zd => k_extra "room"); (case zu => k_extra "room"); k_whole; intro b8 t8 vh9 vp9 nh9 hp9' pl9 ih9 ip9 cs9 or9 pb9 h9 tk9 F9 N9 ap9; (try dsimp only [led, List.cons_append, List.nil_append] at N9); clear ap9; (try k_sweep)))
  k_with "call ref" => ((with_reducible show wpAny _ _ (call (Value.ref 231) _) _ _ _); k_dflt (refine' ctr_use (c_best ?za0 ?za1 ?za2 ?za3 ?za4 ?za5 ?za6 ?za7 ?za8 ?za9 ?za10) G ?zF ?zN ?zB ?zX ?zT ?zk ?zH ?zR ?zd ?zu ?_; (case zF => assumption); (case zN => assumption); (case zH => k_extra "hH"); (case zR => k_extra "spl"); (case za0 => k_extra "pre0"); (case za1 => k_extra "pre0"); (case za2 => k_extra "pre0"); (case za3 => k_extra "ints"); (case za4 => k_extra "ints"); (case za5 => k_extra "ints"); (case za6 => k_extra "pre0"); (case za7 => k_extra "pre0"); (case za8 => k_extra "pre0"); (case za9 => k_extra "pre0"); (case za10 => k_extra "pre0"); (case zB => assumption); (case zX => assumption); (case zT => assumption); (case zk => exact rfl); (case zd => k_extra "room"); (case zu => k_extra "room"); k_whole; intro b9 t9 lt9 l29 v29 n29 left9 i29 pb8 e1 e2 e3 e4 e5 e6 e7 h9 tk9 F9 N9 ap9; (try dsimp only [led, List.cons_append, List.nil_append] at N9); (have f2 := freshB (fun p hp => ap9 p hp _ (.tail _ (.head _))) e1); (have ft := freshB (fun p hp => ap9 p hp _ (.head _)) e4); clear ap9; (replace N9 := news_sub (news' := _) N9 (lawE_sub (lt := lt9))); (try k_sweep)))
  k_with "call ref" => ((with_reducible show wpAny _ _ (call (Value.ref 224) _) _ _ _); k_dflt (refine' ctr_use (c_values ?za0 ?za1) G ?zF ?zN ?zB ?zX ?zT ?zk ?zH ?zR ?zd ?zu ?_; (case zF => assumption); (case zN => assumption); (case zH => k_extra "hH"); (case zR => k_extra "spl"); (case za0 => k_extra "pre0"); (case za1 => k_extra "pre0"); (case zB => assumption); (case zX => assumption); (case zT => assumption); (case zk => exact rfl); (case zd => k_extra "room"); (case zu => k_extra "room"); k_whole; intro lk9 vk9 nk9 kn9 ik9 kl9 h9 tk9 F9 N9 ap9; (try dsimp only [led, List.cons_append, List.nil_append] at N9); (have fk := freshN fun p hp => ap9 p hp _ (.head _)); (have e0 := ap9 _ (.tail _ (.tail _ (.head _))) _ (.head _)); clear ap9; (try k_sweep)))
  trivial
section
variable {f : Addr} {cd : Value} {G : GC} {m : Str → Option Value} {Q : Flow → Shared → Prop} {l I : Addr} {ws : List Value} {oH oI : Obj} {o dx lh lp : Addr} {t1 t2 t3 t4 t5 tl tk3 tk4 : Tok} {limit vv rr : Int} {h : Heap} {gs : Array GenState} {dr : Drawn} {tk0 : Nat} {os : OsState}
set_option maxHeartbeats 8000000 in
theorem law_e (B : Below G.A₀ G.base G.outer G.h₀) (X : (K39 G.w.params).In G.h₀) (T : Top G.p G.loose G.mean G.mg G.mb G.h₀) (hD : G.dp + 40 < recursionLimit) (hU : G.un + 300 < cLine) (hoH : oH.data = .cell (some (.ref o))) (hlim1 : 1500 ≤ limit) (hlim2 : limit ≤ 5000000)
    (c : LS) (hf : LF l (G.L + 1 + 1) (G.L + 1) o dx lh lp limit c) (hI : LI I o dx lh lp c) (hX : LX I l (G.L + 1 + 1) (G.L + 1)) (dR : m "rest" = some (.int rr tk4))
    (hm : LM limit tl c m) (F : Fr G.h₀ G.L h m) (N : News G.h₀ G.L h ((I, oI) :: lawLed G.w.params l (G.L + 1 + 1) (G.L + 1) ws oH o dx lh lp t1 t2 t3 t4 t5 tl limit c))
    (K : ∀ (c' : LS) m' h' tk', LF l (G.L + 1 + 1) (G.L + 1) o dx lh lp limit c' → LI I o dx lh lp c' → LM limit tl c' m' → MEq lawSt m' m → Fr G.h₀ G.L h' m' → News G.h₀ G.L h' ((I, oI) :: lawLed G.w.params l (G.L + 1 + 1) (G.L + 1) ws oH o dx lh lp t1 t2 t3 t4 t5 tl limit c') → Q .next ⟨h', gs, dr, tk', os⟩) :
    wpAny (gM G) (ktrTop G.dp G.un G.gd "law" lawScope G.L f cd (lawCl G.L) G.outer) (execs (lawKind 4) (envX "law" lawScope G.L f cd (lawCl G.L))) (LEnd Q) NoE ⟨h, gs, dr, tk0, os⟩ := by
  obtain ⟨S, hS⟩ : ∃ S, S = lawScope := ⟨_, rfl⟩
  rw [← hS]
  conv at hS => rhs; whnf
  subst hS
  conv in lawKind 4 => whnf
  unfold lawLed led at N
  have dM := hm.many
  have dH := hm.held
  have dD := hm.dec
  have dL := hm.lim
  have o5 := hf.o5
  have ia := hf.ia
  have ih := hf.ih
  have ip := hf.ip
  have iq := hf.iq
  have hcons := hf.inv.cons
  have hlen := hf.inv.len
  have hn9 := hf.inv.n9
  have hord := hf.inv.ord
  have hfst := held_first hcons hord
  have hrg := heldL_rng (pl := c.pl) hlen
  have hl9 := heldL_len9 hcons hn9
  have hn1 := hf.inv.n1
  obtain ⟨xcb, hcb⟩ := hf.cb
  k_with "spl" => (first | exact spl_nil | exact splV o5 hI.fi hf.fl hf.fq hf.fb hf.fh hI.iq hf.ql hf.qb hf.qh fk | exact splW hI.fi hf.fl hf.fq hf.fb hf.fh e0 fk ft.fq e6 f2.fq e3)
  k_with "evI" => ((with_reducible apply evI_name); (k_dflt (exact dR)); (k_extra "R"))
  k_with "pre" => (first | exact heldL_rng1 | exact Ne.symm hf.fq.2.2.1 | exact Ne.symm fk.fq.2.2.1 | exact e0)
  k_with "eval Name" => ((with_reducible apply useV); (k_extra "A"); (k_extra "A"); (k_dflt (k_extra "evV")); (k_whole); (intro tk9))
  k_with "off5" => exact fk.fq
  k_with "storeName" => (k_dflt ((rename Fr _ _ _ _ => lF); (rename News _ _ _ _ => lN); refine' storeX_C lF lN (by exact rfl) (.tail ft.qb (.tail f2.qb (.tail fk.qb (upB hf.fb hX.ib hX.lb hf.qb hX.bh)))) hcb ?_; k_whole; clear lF lN; intro h9 o9 F9 N9 d9; (try k_sweep)))
  k_with "execs cons" => ((with_reducible show wpAny _ _ (execs (Stmt.If (PySem.Expr.Compare (PySem.Expr.Call _ _ _ _) _ _ _) _ _ _ :: _) _) _ _ _); k_dflt (refine x_ifRel rfl ?_))
  k_with "IfRel" => (k_dflt (refine ifRel F9 N9 (by k_extra "evI") .ne (fun hp9 => absurd (pb9.det pb8).1 hp9) (fun hp9 tk9 => ?_)))
  k_with "LEnd" => (k_dflt (
    exact lEnd_ (K ⟨c.n, c.tn, c.la, c.step, c.ts, c.va, vh9, vp9, c.na, nh9, c.np, c.act, hp9', pl9, l29, v29, n29, c.dec, c.td, o9⟩ (upd (upd m "known" (some (.ref lk9))) "held" (some (.ref l29))) _ _ ⟨ia, ih9, ip9, by rw [(pb9.det pb8).2]; exact i29, ⟨_, d9⟩, o5, hf.fl, f2.fq, hf.fb, hf.fh, f2.ql, f2.qb, f2.qh, hf.inv.keep cs9 or9⟩ ⟨hI.fi, f2.iq⟩ ⟨dM, rfl, dD, dL⟩ (.l rfl (.l rfl .rf)) F9 (news_sub N9 (by unfold lawLed led; k_allIn)))))
  k_extra "steps"
end
example : True := by
  k_with_none
  k_with "A" => (with_reducible assumption)
  k_with "R" => (k_dflt (exact rfl))
  k_with "F" => (k_dflt (exact fun _ => rfl))
  k_with "G" => (k_dflt (exact fun _ _ => rfl))
  k_with "steps" => (repeat' (first | walk1 | (dsimp only; walk1) | fail "no step"))
  k_with "k_ne" => (first | (k_extra "A") | (refine Ne.symm ?_; with_reducible assumption))
  k_with "ints" => (first | with_reducible assumption | exact ints_set (by k_extra "ints") _ | exact ints_app1 (by k_extra "ints") _ _ | fail "no ints")
  k_with "pre0" => (first | with_reducible assumption | (with_reducible exact le_w (by assumption) rfl) | (with_reducible exact le_we (by assumption) (by assumption) rfl) | (with_reducible exact lt_we (by assumption) (by assumption)) | omega | (simp only [List.length_set, List.length_append, List.length_cons, List.length_nil, List.length_map]; omega) | k_extra "pre")
  k_with "mono" => (intro _ _ _ hk x; (intros; refine hk _ _ ?_; first | exact x | (apply x <;> assumption)))
  k_with "open" => (
    refine' ctr_intro ?mono ?ho ?hcd ?hb ?hloc ?c2 ?c3 ?c4 ?c5 ?_;
    (case ho => (intro P; k_is)); (case hcd => (intro P; k_is)); (case hb => exact fun s => BindsTo.of_eq rfl); (case hloc => exact locs rfl); (case c2 => exact rfl); (case c3 => exact rfl); (case c4 => exact rfl); (case c5 => decide); (case mono => k_extra "mono");
    intro G h gs dr tk0 os q B F X N T l1 hD hU hret;
    unfold led at N)
  k_with "evI" => (first
    | ((with_reducible apply evI_name); (k_extra "R"); (k_extra "R"))
    | (with_reducible exact evI_const)
    | ((with_reducible apply evI_neg); (k_dflt (k_extra "evI")))
    | ((with_reducible apply evI_op); (k_dflt (k_extra "evI")); (k_dflt (k_extra "evI")); (k_dflt (k_extra "iop")))
    | ((with_reducible apply evI_sub); (k_dflt (k_extra "evV")); (k_dflt (k_extra "evI")); (k_dflt k_memK); (k_dflt (k_extra "ints")); (k_dflt (k_extra "pre0")); (k_dflt (k_extra "pre0")); (k_dflt (k_extra "pre0")); (k_extra "F"))
    | ((with_reducible apply evI_limit); (k_dflt (k_extra "evV")); (k_extra "A"); (k_dflt k_memK); (k_dflt k_memK))
    | ((with_reducible apply evI_step); (k_dflt (k_extra "evV")); (k_extra "A"); (k_dflt k_memK); (k_dflt k_memK))
    | ((with_reducible apply evI_len); (k_extra "A"); (exact topRead_of (by with_reducible assumption)); (k_extra "R"); (k_dflt (k_extra "evV")); (k_extra "G"); (k_extra "F"); (k_dflt k_memK); (k_dflt (exact len_cast (by k_extra "ints"))); (k_dflt (k_extra "len9"))))
  k_with "len9" => (rw [IntsAre.length (by k_extra "ints")]; k_extra "pre0")
  k_with "iop" => (first | exact .add | exact .sub | exact .mul (by decide) | exact .fdiv (by decide) (by decide) | exact .mod (by decide))
  k_with "evV" => (first
    | ((with_reducible apply evV_name); (k_extra "R"); (k_extra "R"))
    | ((with_reducible apply evV_heap); (k_dflt (k_extra "evV")); (k_extra "A"); (k_dflt k_memK); (k_dflt k_memK))
    | ((with_reducible apply evV_act); (k_dflt (k_extra "evV")); (k_extra "A"); (k_dflt k_memK); (k_dflt k_memK))
    | ((with_reducible apply evV_place); (k_dflt (k_extra "evV")); (k_extra "A"); (k_dflt k_memK); (k_dflt k_memK)))
  k_with "cop" => (first | exact .lt | exact .le | exact .gt | exact .ge | exact .eq | exact .ne)
  k_with "evT" => (first
    | ((with_reducible apply evT_cmp); (k_dflt (k_extra "evI")); (k_dflt (k_extra "evI")); (k_dflt (k_extra "cop")); (k_extra "R"))
    | ((with_reducible apply evT_not); (k_dflt (k_extra "evT")))
    | ((with_reducible apply evT_and); (k_dflt (k_extra "evT")); (intro hp9; k_dflt (k_extra "evT")))
    | ((with_reducible apply evT_or); (k_dflt (k_extra "evT")); (intro hp9; k_dflt (k_extra "evT"))))
  k_with "exec If" => ((with_reducible apply x_ifH); (k_extra "A"); (k_extra "A"); (k_dflt (k_extra "evTH")); all_goals (k_whole; intro hp9 h9 tk9 F9 N9; (try k_sweep)))
  k_with "exec If" => ((with_reducible apply x_if); (k_extra "A"); (k_extra "A"); (k_dflt (k_extra "evT")); all_goals (k_whole; intro hp9 tk9))
  k_with "execs cons" => (with_reducible refine x_cons ?_)
  k_with "execs cons" => ((with_reducible apply x_setI); (k_extra "A"); (k_extra "A"); (k_dflt (k_extra "evI")); (k_dflt (k_extra "evV")); (k_dflt (k_extra "evI")); (k_dflt (k_extra "updF")); (k_dflt (k_extra "ints")); (k_dflt (k_extra "pre0")); (k_dflt (k_extra "pre0")); (k_dflt (k_extra "pre0")); (k_extra "F"); (k_whole); (intro t9 h9 tk9 F9 N9); (try k_sweep))
  k_with "execs cons" => ((with_reducible apply x_asgV); (k_extra "A"); (k_extra "A"); (k_dflt (k_extra "evV")); (k_extra "R"); (k_extra "F"); (k_whole); (intro h9 tk9 F9 N9); (try k_sweep))
  k_with "execs cons" => ((with_reducible apply x_asgI); (k_extra "A"); (k_extra "A"); (k_dflt (k_extra "evI")); (k_extra "R"); (k_extra "F"); (k_whole); (intro t9 h9 tk9 F9 N9); (try k_sweep))
  k_with "execs cons" => ((with_reducible apply x_retV); (k_extra "A"); (k_extra "A"); (k_dflt (k_extra "evV")); (k_whole); (intro tk9))
  k_with "execs cons" => ((with_reducible apply x_retI); (k_extra "A"); (k_extra "A"); (k_dflt (k_extra "evI")); (k_whole); (intro t9 tk9))
  k_with "execs cons" => ((with_reducible apply x_retC); (k_extra "A"); (k_extra "A"); (k_dflt (k_extra "evI")); (k_dflt (k_extra "evI")); (k_dflt (k_extra "cop")); (k_extra "R"); (k_whole); (intro b9 tk9 hb9))
  k_with "LEnd" => (with_reducible refine lEnd_ ?_; with_reducible first | (refine hret1 _ _ ?_) | (refine hbrk _ ?_) | (k_dflt (k_extra "wend")))
  k_with "eval Call Attribute" => ((with_reducible apply call_meth); (k_extra "A"); (k_extra "A"); (k_extra "mt"); (k_extra "F"); (k_dflt (k_extra "evV")); (k_extra "A"); (k_dflt k_memK); (k_dflt k_memK); (k_extra "R"); (k_dflt (k_extra "evL")); (k_whole); k_dflt (k_extra "args"))
  k_with "evL" => (first | exact .nil | ((with_reducible apply EvL.i); (k_dflt (k_extra "evI")); (k_extra "G"); (k_dflt (k_extra "evL"))) | ((with_reducible apply EvL.v); (k_dflt (k_extra "evV")); (k_extra "G"); (k_dflt (k_extra "evL"))))
  k_with "args" => (first | (refine argK0 ?_; intro tk9) | (refine argK1 ?_; intro t9 tk9) | (refine argK2 ?_; intro t9 t8 tk9) | (refine argKv ?_; intro tk9) | (refine argKvv ?_; intro tk9) | (refine argKvi ?_; intro t9 tk9) | (refine argKvii ?_; intro t9 t8 tk9) | (refine argKvvi ?_; intro t9 tk9) | (refine argKvvv ?_; intro tk9))
  k_with "mt" => (with_reducible first | exact mt_is_before | exact mt_put | exact mt_rise | exact mt_better_child | exact mt_sink | exact mt_push | exact mt_pop | exact mt_pop_best | exact mt_bump | exact mt_decay | exact mt_rescale | exact mt_rebuild | exact mt_grow | exact mt_many | exact mt_is_held | exact mt_size | exact mt_top)
  k_with "storeName" => ((with_reducible apply x_store); (k_extra "A"); (k_extra "A"); (k_extra "R"); (k_whole); (intro h9 tk9 F9 N9); (try k_sweep))
  k_with "call builtin:list.append" => ((with_reducible apply append_U); (k_extra "A"); (k_extra "A"); (k_dflt (k_extra "updF")); (k_dflt (rw [IntsAre.length (by k_extra "ints")]; k_extra "pre0")); (k_whole); (intro h9 tk9 F9 N9); (try k_sweep))
  k_with "call builtin:list.pop" => ((with_reducible apply pop_U); (k_extra "A"); (k_extra "A"); (k_dflt (k_extra "updF")); (k_dflt (k_extra "ints")); (k_dflt (k_extra "pre0")); (k_dflt (k_extra "pre0")); (k_whole); (intro t9 h9 tk9 F9 N9 ip9); (try k_sweep))
  k_with "eval Attribute Name" => ((with_reducible apply useV); (k_extra "A"); (k_extra "A"); (k_dflt (k_extra "evV")); (k_whole); (intro tk9))
  k_with "eval BinOp" => ((with_reducible apply useI); (k_extra "A"); (k_extra "A"); (k_dflt (k_extra "evI")); (k_whole); (intro t9 tk9))
  k_with "eval Subscript" => ((with_reducible apply useI); (k_extra "A"); (k_extra "A"); (k_dflt (k_extra "evI")); (k_whole); (intro t9 tk9))
  k_with "isTrue Compare" => ((with_reducible apply useT); (k_extra "A"); (k_extra "A"); (k_dflt (k_extra "evT")); all_goals (k_whole; intro hp9 tk9))
  k_with "execs nil" => (with_reducible refine wpAny_execs_nil ?_)
  k_with "SeqK" => (with_reducible first | refine seq_next ?_ | refine seq_ret ?_ | refine seq_brk ?_ | refine seq_cont ?_)
  k_with "updF" => (first | exact upH (by with_reducible assumption) | exact upP (by with_reducible assumption) | exact upA (by with_reducible assumption) | exact upD (by with_reducible assumption) | (refine' .tail ?_ ?_; (k_extra "k_ne"); (k_extra "updF")))
  k_with "room" => (exact room_le (by with_reducible assumption) rfl)
  k_with "hH" => (first | exact fun _ h => h | exact fun _ h => .tail _ h | exact fun _ h => .tail _ (.tail _ h) | exact fun _ h => .tail _ (.tail _ (.tail _ h)) | exact fun _ h => .tail _ (.tail _ (.tail _ (.tail _ h))))
  k_with "spl" => (first | exact spl_led | exact .keep (off5_all (by k_extra "off5")) (by k_extra "spl"))
  k_with "off5" => (k_extra "A")
  k_with "evIH" => ((with_reducible apply evIH_of); (k_dflt (k_extra "evI")))
  k_with "evTH" => ((with_reducible apply evTH_cmp); (k_dflt (k_extra "evIH")); (k_dflt (k_extra "evIH")); (k_dflt (k_extra "cop")); (k_extra "R"))
  k_with "evTH" => ((with_reducible apply evTH_or); (k_dflt (k_extra "evTH")); (intro hp9; k_dflt (k_extra "evTH")))
  k_with "evTH" => ((with_reducible apply evTH_and); (k_dflt (k_extra "evTH")); (intro hp9; k_dflt (k_extra "evTH")))
  k_with "evTH" => ((with_reducible apply evTH_not); (k_dflt (k_extra "evTH")))
  k_with "evTH" => ((with_reducible apply evTH_of); (k_dflt (k_extra "evT")))
  k_with "meq" => (first
    | exact MEq.rf
    | ((with_reducible apply MEq.l); (exact rfl); (k_extra "meq"))
    | ((with_reducible apply MEq.r); (exact rfl); (k_extra "meq"))
    | ((with_reducible apply MEq.n); (exact rfl); (k_extra "meq"))
    | ((with_reducible apply MEq.g); (exact rfl); (k_extra "meq")))
  k_with "openC" => (
    refine' ctr_introC ?mono ?ho ?hcd ?hb ?hkind ?c1 ?c2 ?c3 ?c4 ?c5 ?_;
    (case ho => (intro P; k_is)); (case hcd => (intro P; k_is)); (case hb => exact fun s => BindsTo.of_eq rfl); (case hkind => exact rfl); (case c1 => decide +kernel); (case c2 => exact fun _ => rfl); (case c3 => exact rfl); (case c4 => exact rfl); (case c5 => exact rfl); (case mono => k_extra "mono");
    intro G h gs dr tk0 os q oc B F X N d1 T l1 hD hU hret;
    (have hK := off5_lt l1); (have k1 := hK.1); (have k2 := hK.2.1); (have k3 := hK.2.2.1); (have k4 := hK.2.2.2.1); (have k5 := hK.2.2.2.2); clear l1;
    unfold led at N)
  k_with "evI" => ((with_reducible apply evI_cell); (k_extra "R"); (k_dflt k_memK); (k_extra "A"); (k_extra "R"))
  k_with "evV" => ((with_reducible apply evV_cell); (k_extra "R"); (k_dflt k_memK); (k_extra "A"); (k_extra "R"))
  k_with "setAttr ref" => (first
    | ((with_reducible apply set_step); (k_extra "A"); (k_extra "A"); (k_extra "A"); (k_dflt k_memK); (k_dflt k_memK); (k_dflt (k_extra "updF")); (k_whole); (intro h9 tk9 F9 N9); (try k_sweep))
    | ((with_reducible apply set_act); (k_extra "A"); (k_extra "A"); (k_extra "A"); (k_dflt k_memK); (k_dflt k_memK); (k_dflt (k_extra "updF")); (k_whole); (intro h9 tk9 F9 N9); (try k_sweep)))
  k_with "evI" => ((with_reducible apply evI_glob); (k_extra "A"); (exact topRead_of (by with_reducible assumption)); (with_reducible first | exact gl_first | exact gl_shrink); (k_extra "R"))
  k_with "execs cons" => ((with_reducible apply x_asgIC); (k_extra "A"); (k_extra "A"); (k_dflt (k_extra "evI")); (k_extra "R"); (k_dflt (k_extra "updC")); (k_extra "A"); (k_extra "R"); (k_extra "F"); (k_whole); (intro t9 h9 tk9 o9 F9 N9 d9); (try k_sweep))
  k_with "updC" => (exact upC (by with_reducible assumption))
  k_with "updF" => (first | exact upD1 (by with_reducible assumption) (by with_reducible assumption) | exact upA1 (by with_reducible assumption) (by with_reducible assumption))
  k_with "execs cons" => ((with_reducible apply x_setStep); (k_extra "A"); (k_extra "A"); (k_extra "A"); (k_dflt (k_extra "evI")); (k_dflt (k_extra "evV")); (k_dflt k_memK); (k_dflt k_memK); (k_dflt (k_extra "updF")); (k_extra "F"); (k_whole); (intro t9 h9 tk9 F9 N9); (try k_sweep))
  k_with "evT" => ((with_reducible apply evT_orc); (k_dflt (k_extra "evT")); (intro hp9; k_dflt (k_extra "evT")))
  k_with "evTH" => ((with_reducible apply evTH_orc); (k_dflt (k_extra "evTH")); (intro hp9; k_dflt (k_extra "evTH")))
  k_with "evT" => (first
    | ((with_reducible apply evT_or); (k_dflt (k_extra "evT")); (intro hp9; k_dflt (k_extra "evT"))))
  k_with "evTH" => ((with_reducible apply evTH_or); (k_dflt (k_extra "evTH")); (intro hp9; k_dflt (k_extra "evTH")))
  k_with "evTH" => ((with_reducible apply evTH_of); (k_dflt (k_extra "evT")))
  k_with "eval Call Name" => ((with_reducible apply call_fun); (k_extra "A"); (k_extra "A"); (k_extra "A"); (exact topRead_of (by with_reducible assumption)); (k_extra "fn"); (k_extra "R"); (k_extra "F"); (k_dflt (k_extra "evL")); (k_whole); k_dflt (k_extra "args"))
  k_with "fn" => (with_reducible first | exact fn_first | exact fn_in_order | exact fn_small | exact fn_bumped | exact fn_decayed | exact fn_same | exact fn_values | exact fn_best)
  k_with "hH" => k_allIn
  k_with "spl" => (first
    | exact .nil
    | (refine' .drop ?_ ?_; (first | exact .head _ | exact .tail _ (.head _) | exact .tail _ (.tail _ (.head _))); (k_extra "spl"))
    | (refine' .keep ?_ ?_; (k_extra "neall"); (k_extra "spl")))
  k_with "neall" => (first | exact List.forall_mem_nil _ | (refine List.forall_mem_cons.mpr ⟨?_, ?_⟩; (k_extra "k_ne"); (k_extra "neall")))
  k_with "args" => (refine argKv ?_; intro tk9)
  k_with "spl" => (exact spl2 (by with_reducible assumption) (by with_reducible assumption))
  k_with "evT" => ((with_reducible apply evT_chain); (k_dflt (k_extra "evI")); (k_dflt (k_extra "evI")); (k_dflt (k_extra "evI")); (k_dflt (k_extra "cop")); (k_dflt (k_extra "cop")); (k_extra "R"))
  k_with "evTH" => ((with_reducible apply evTH_minlt); (k_extra "R"); (k_extra "A"); (exact topRead_of (by with_reducible assumption)); (k_extra "R"); (k_dflt (k_extra "evV")); (k_dflt (k_extra "evI")); (k_extra "G"); (k_extra "F"); (k_dflt k_memK); (k_dflt (k_extra "ints")); (k_dflt (k_extra "pre0")); (k_dflt (k_extra "pre0")); (k_extra "R"))
  k_with "evTH" => ((with_reducible apply evTH_maxgt); (k_extra "R"); (k_extra "A"); (exact topRead_of (by with_reducible assumption)); (k_extra "R"); (k_dflt (k_extra "evV")); (k_dflt (k_extra "evI")); (k_extra "G"); (k_extra "F"); (k_dflt k_memK); (k_dflt (k_extra "ints")); (k_dflt (k_extra "pre0")); (k_dflt (k_extra "pre0")); (k_extra "R"))
  k_with "execs cons" => ((with_reducible apply x_copy); (k_extra "A"); (k_extra "A"); (k_extra "A"); (exact topRead_of (by with_reducible assumption)); (k_extra "R"); (k_extra "R"); (k_dflt (k_extra "evV")); (k_extra "G"); (k_extra "F"); (k_dflt k_memK); (k_dflt (k_extra "len9")); (k_extra "F"); (k_whole); (intro D9 c9 h9 tk9 f9 F9 N9); (try k_sweep); (k_extra "fresh"))
  k_with "fresh" => skip
  k_with "updF" => (exact upC (by with_reducible assumption))
  k_with "evBH" => ((with_reducible apply evBH_cmp); (k_dflt (k_extra "evIH")); (k_dflt (k_extra "evIH")); (k_dflt (k_extra "cop")); (k_extra "R"))
  k_with "evBH" => ((with_reducible apply evBH_andc); (k_dflt (k_extra "evBH")); (intro hp9; k_dflt (k_extra "evBH")))
  k_with "evBH" => ((with_reducible apply evBH_and); (k_dflt (k_extra "evBH")); (intro hp9; k_dflt (k_extra "evBH")))
  k_with "evBH" => ((with_reducible apply evBH_listeq); (k_dflt (k_extra "room")); (k_extra "A"); (exact topRead_of (by with_reducible assumption)); (k_extra "R"); (k_dflt (k_extra "evV")); (intro nw; k_dflt (k_extra "evV")); (k_extra "G"); (k_extra "F"); (k_dflt k_memK); (k_dflt k_memK); (k_dflt (k_extra "ints")); (k_dflt (k_extra "ints")); (k_dflt (k_extra "len9")); (k_extra "R"))
  k_with "evBH" => ((with_reducible apply evBH_small); (k_extra "A"); (k_extra "A"); (k_extra "A"); (k_dflt (k_extra "room")); (k_dflt (k_extra "room")); (k_extra "R"); (k_extra "R"); (k_dflt (k_extra "evV")); (k_dflt (k_extra "evI")); (k_dflt (k_extra "evV")); (k_dflt (k_extra "hH")); (k_dflt (k_extra "spl")); (k_extra "A"); (k_extra "off5"); (k_dflt (k_extra "ints")); (k_dflt (k_extra "ints")); (k_dflt (k_extra "pre0")); (k_dflt (k_extra "pre0")); (k_dflt (k_extra "pre0")); (k_dflt (k_extra "pre0")); (k_dflt (k_extra "pre0")); (k_dflt (k_extra "pre0")); (k_dflt (k_extra "pre0")); (k_extra "G"); (k_extra "G"); (k_extra "G"); (k_extra "F"))
  k_with "evTH" => ((with_reducible apply evTH_call); (k_dflt (k_extra "evBH")); (k_extra "F"))
  k_with "execs cons" => ((with_reducible apply x_retB); (k_extra "A"); (k_extra "A"); (k_dflt (k_extra "evBH")); (k_whole); (intro b9 h9 tk9 hb9 F9 N9); (try k_sweep))
  k_with "spl" => (exact spl6)
  k_with "evIH" => ((with_reducible apply evIH_first); (k_extra "A"); (k_extra "A"); (k_extra "A"); (k_dflt (k_extra "room")); (k_dflt (k_extra "room")); (k_extra "R"); (k_extra "R"); (k_dflt (k_extra "evV")); (k_dflt (k_extra "evV")); (k_dflt k_memK); (k_dflt k_memK); (k_dflt (k_extra "spl")); (k_dflt (k_extra "ints")); (k_dflt (k_extra "ints")); (k_dflt (k_extra "pre0")); (k_dflt (k_extra "pre0")); (k_extra "G"); (k_extra "G"); (k_extra "F"))
  k_with "evI" => ((with_reducible apply evI_name); (first | with_reducible assumption | k_dflt (first | exact rfl | exact dD | exact dL | exact dM | exact dV | exact dR)); (k_extra "R"))
  k_with "evV" => ((with_reducible apply evV_name); (first | with_reducible assumption | k_dflt (first | exact rfl | exact dH)); (k_extra "R"))
  k_with "spl" => (exact splT hI.fi hf.fl hf.fq hf.fb hf.fh)
  k_with "hH" => (exact fun _ h => .tail _ (.tail _ (.tail _ (.tail _ (.tail _ h)))))
  k_with "ite" => (first | (with_reducible refine ite_t (by first | omega | (simp only [decide_eq_true_eq, beq_iff_eq, bne_iff_ne, ne_eq]; omega)) ?_) | (with_reducible refine ite_f (by first | omega | (simp only [decide_eq_true_eq, beq_iff_eq, bne_iff_ne, ne_eq]; omega)) ?_) | fail "open")
  k_with "call ref" => ((with_reducible show wpAny _ _ (call (Value.ref 64) _) _ _ _); k_dflt (refine' ctr_use (c_grow ?za0 ?za1 ?za2 ?za3 ?za4 ?za5 ?za6 ?za7 ?za8) G ?zF ?zN ?zB ?zX ?zT ?zk ?zH ?zR ?zd ?zu ?_; (case zF => assumption); (case zN => assumption); (case zH => k_extra "hH"); (case zR => k_extra "spl"); (case za0 => with_reducible assumption); (case za1 => k_extra "ints"); (case za2 => k_extra "ints"); (case za3 => k_extra "ints"); (case za4 => k_extra "pre0"); (case za5 => k_extra "pre0"); (case za6 => k_extra "pre0"); (case za7 => k_extra "pre0"); (case za8 => k_extra "pre0"); (case zB => assumption); (case zX => assumption); (case zT => assumption); (case zk => exact rfl); (case zd => k_extra "room"); (case zu => k_extra "room"); k_whole; intro va9 vh9 vp9 na9 nh9 np9 hp9' pl9 ia9 ih9 ip9 gi9 h9 tk9 F9 N9 ap9; (try dsimp only [led, List.cons_append, List.nil_append] at N9); clear ap9; (try k_sweep)))
  trivial
section
variable {f : Addr} {cd : Value} {G : GC} {m : Str → Option Value} {Q : Flow → Shared → Prop} {l I : Addr} {ws : List Value} {oH oI : Obj} {o dx lh lp : Addr} {t1 t2 t3 t4 t5 tl tk3 tk4 : Tok} {limit vv rr : Int} {h : Heap} {gs : Array GenState} {dr : Drawn} {tk0 : Nat} {os : OsState}
set_option maxHeartbeats 8000000 in
theorem law_f (B : Below G.A₀ G.base G.outer G.h₀) (X : (K39 G.w.params).In G.h₀) (T : Top G.p G.loose G.mean G.mg G.mb G.h₀) (hD : G.dp + 40 < recursionLimit) (hU : G.un + 300 < cLine) (hoH : oH.data = .cell (some (.ref o))) (hlim1 : 1500 ≤ limit) (hlim2 : limit ≤ 5000000)
    (c : LS) (hf : LF l (G.L + 1 + 1) (G.L + 1) o dx lh lp limit c) (hI : LI I o dx lh lp c) (hX : LX I l (G.L + 1 + 1) (G.L + 1)) (dR : m "rest" = some (.int rr tk4))
    (hm : LM limit tl c m) (F : Fr G.h₀ G.L h m) (N : News G.h₀ G.L h ((I, oI) :: lawLed G.w.params l (G.L + 1 + 1) (G.L + 1) ws oH o dx lh lp t1 t2 t3 t4 t5 tl limit c))
    (K : ∀ (c' : LS) m' h' tk', LF l (G.L + 1 + 1) (G.L + 1) o dx lh lp limit c' → LI I o dx lh lp c' → LM limit tl c' m' → MEq lawSt m' m → Fr G.h₀ G.L h' m' → News G.h₀ G.L h' ((I, oI) :: lawLed G.w.params l (G.L + 1 + 1) (G.L + 1) ws oH o dx lh lp t1 t2 t3 t4 t5 tl limit c') → Q .next ⟨h', gs, dr, tk', os⟩) :
    wpAny (gM G) (ktrTop G.dp G.un G.gd "law" lawScope G.L f cd (lawCl G.L) G.outer) (execs (lawKind 5) (envX "law" lawScope G.L f cd (lawCl G.L))) (LEnd Q) NoE ⟨h, gs, dr, tk0, os⟩ := by
  obtain ⟨S, hS⟩ : ∃ S, S = lawScope := ⟨_, rfl⟩
  rw [← hS]
  conv at hS => rhs; whnf
  subst hS
  conv in lawKind 5 => whnf
  unfold lawLed led at N
  have dM := hm.many
  have dH := hm.held
  have dD := hm.dec
  have dL := hm.lim
  have o5 := hf.o5
  have ia := hf.ia
  have ih := hf.ih
  have ip := hf.ip
  have iq := hf.iq
  have hcons := hf.inv.cons
  have hlen := hf.inv.len
  have hn9 := hf.inv.n9
  have hord := hf.inv.ord
  have hfst := held_first hcons hord
  have hrg := heldL_rng (pl := c.pl) hlen
  have hl9 := heldL_len9 hcons hn9
  have hn1 := hf.inv.n1
  have hv3 := Int.fmod_nonneg_of_pos rr (b := 3) (by decide)
  have hv4 := Int.fmod_lt_of_pos rr (b := 3) (by decide)
  have hN1 : c.n ≤ (if c.n + rr.fmod 3 < 9 then c.n + rr.fmod 3 else 9) := by split <;> omega
  have hN9 : (if c.n + rr.fmod 3 < 9 then c.n + rr.fmod 3 else 9) ≤ 9 := by split <;> omega
  have hn0 : 0 ≤ c.n := by omega
  k_with "spl" => (first | exact splT hI.fi hf.fl hf.fq hf.fb hf.fh)
  k_with "evI" => ((with_reducible apply evI_name); (k_dflt (exact dR)); (k_extra "R"))
  k_with "eval Name" => ((with_reducible apply useV); (k_extra "A"); (k_extra "A"); (k_dflt (k_extra "evV")); (k_whole); (intro tk9))
  k_with "binaryOp Add ref ref" => ((with_reducible show wpAny _ _ (binaryOp _ (Value.ref _) (Value.ref _)) _ _ _); k_dflt (
    (rename Fr _ _ _ _ => lF); (rename News _ _ _ _ => lN); (rename IntsAre _ (rangeKs _ _) => hr8);
    refine' kmk_add_ints lF lN (News.isList lN (.tail _ (.tail _ (.tail _ (.head _))))) (News.isList lN (.head _)) iq hr8 ?_ ?zz; (case zz => (rw [PySem.sizeLine_eq]; (simp only [rangeKs_length]); omega)); k_whole; clear lF lN hr8; intro D8 ws8 h8 F8 N8 l8 hi8; (try k_sweep)))
  k_with "LEnd" => (k_dflt (
    (have fr := freshQ fun p hp => l8 p (.tail _ hp));
    refine' lEnd_ (K ⟨(if c.n + rr.fmod 3 < 9 then c.n + rr.fmod 3 else 9), t9, c.la, c.step, c.ts, va9, vh9, vp9, na9, nh9, np9, c.act ++ List.replicate ((if c.n + rr.fmod 3 < 9 then c.n + rr.fmod 3 else 9) - c.n).toNat 0, hp9', pl9, D8, ws8, 0, c.dec, c.td, c.cb⟩ (upd (upd (upd m "late" _) "held" (some (.ref D8))) "many" (some (.int (if c.n + rr.fmod 3 < 9 then c.n + rr.fmod 3 else 9) t9))) _ _ ?lf ?li ?lm ?mq F9 (news_sub N9 ?ns));
    (case lm => exact ⟨rfl, rfl, dD, dL⟩);
    (case mq => exact .l rfl (.l rfl (.l rfl .rf)));
    (case li => exact ⟨hI.fi, fr.iq⟩);
    (case lf => exact ⟨ia9, ih9, ip9, held_grow_i hn0 hN1 gi9 hi8, hf.cb, o5, hf.fl, fr.fq, hf.fb, hf.fh, fr.ql, fr.qb, fr.qh, hf.inv.grow hN1 hN9 gi9⟩);
    (case ns => (unfold lawLed led; k_allIn))))
  k_extra "steps"
end
theorem MEq.tr {xs : List Str} {m1 m2 m3 : Str → Option Value} (h : MEq xs m1 m2) (k : MEq xs m2 m3) : MEq xs m1 m3 := fun y hy => (h y hy).trans (k y hy)
theorem execs_one {M : Model} {A : Around} {env : Env} {Q : Flow → Shared → Prop} {E : Value → Shared → Prop} {s : Shared} {st : Stmt} (h : wpAny M A (exec st env) Q E s) : wpAny M A (execs [st] env) Q E s :=
  x_cons (wpAny_mono h (fun f s' h => by
    cases f with
    | next => exact wpAny_execs_nil h
    | _ => exact h) fun _ _ x => x)
theorem kinds_of (x : Int) (h0 : ¬ x.fmod 7 < 2) : 2 ≤ x.fmod 7 := by omega
section
variable {f : Addr} {cd : Value} {G : GC} {m : Str → Option Value} {q : Flow → Shared → Prop} {l I : Addr} {ws : List Value} {oH oI : Obj} {o dx lh lp : Addr} {t1 t2 t3 t4 t5 tl t : Tok} {limit number : Int} {h : Heap} {gs : Array GenState} {dr : Drawn} {tk0 : Nat} {os : OsState}
set_option maxHeartbeats 8000000 in
theorem law_turn (B : Below G.A₀ G.base G.outer G.h₀) (X : (K39 G.w.params).In G.h₀) (T : Top G.p G.loose G.mean G.mg G.mb G.h₀) (hD : G.dp + 40 < recursionLimit) (hU : G.un + 300 < cLine) (hoH : oH.data = .cell (some (.ref o))) (hlim1 : 1500 ≤ limit) (hlim2 : limit ≤ 5000000)
    (c : LS) (hf : LF l (G.L + 1 + 1) (G.L + 1) o dx lh lp limit c) (hI : LI I o dx lh lp c) (hX : LX I l (G.L + 1 + 1) (G.L + 1)) (hm : LM limit tl c m)
    (F : Fr G.h₀ G.L h (upd m "number" (some (.int number t)))) (N : News G.h₀ G.L h ((I, oI) :: lawLed G.w.params l (G.L + 1 + 1) (G.L + 1) ws oH o dx lh lp t1 t2 t3 t4 t5 tl limit c))
    (K : ∀ (c' : LS) m' h' tk', LF l (G.L + 1 + 1) (G.L + 1) o dx lh lp limit c' → LI I o dx lh lp c' → LM limit tl c' m' → MEq lawSt m' m → Fr G.h₀ G.L h' m' → News G.h₀ G.L h' ((I, oI) :: lawLed G.w.params l (G.L + 1 + 1) (G.L + 1) ws oH o dx lh lp t1 t2 t3 t4 t5 tl limit c') → q .next ⟨h', gs, dr, tk', os⟩) :
    wpAny (gM G) (ktrTop G.dp G.un G.gd "law" lawScope G.L f cd (lawCl G.L) G.outer) (execs lawLoopBody (envX "law" lawScope G.L f cd (lawCl G.L))) (LEnd q) NoE ⟨h, gs, dr, tk0, os⟩ := by
  have hn1 := hf.inv.n1
  have dM := hm.many
  have hv1 := Int.fmod_nonneg_of_pos (Int.fdiv number 7) (b := c.n) (by omega)
  have hv2 := Int.fmod_lt_of_pos (Int.fdiv number 7) (b := c.n) (by omega)
  have K1 : ∀ (c' : LS) m' m'' h' tk', LF l (G.L + 1 + 1) (G.L + 1) o dx lh lp limit c' → LI I o dx lh lp c' → LM limit tl c' m' → MEq lawSt m' m'' → MEq lawSt m'' m → Fr G.h₀ G.L h' m' → News G.h₀ G.L h' ((I, oI) :: lawLed G.w.params l (G.L + 1 + 1) (G.L + 1) ws oH o dx lh lp t1 t2 t3 t4 t5 tl limit c') →
      SeqK (gM G) (ktrTop G.dp G.un G.gd "law" lawScope G.L f cd (lawCl G.L) G.outer) lawTail (envX "law" lawScope G.L f cd (lawCl G.L)) (LEnd q) NoE .next ⟨h', gs, dr, tk', os⟩ :=
    fun c' m' m'' h' tk' a1 a2 a3 a4 a5 F' N' => seq_next (law_tail B X T hD hU hoH c' a1 a2 a3.held a3.many F' N' fun h2 tk2 F2 N2 => K c' m' h2 tk2 a1 a2 a3 (a4.tr a5) F2 N2)
  conv in lawLoopBody => whnf
  refine x_asgI (i := number.fmod 7) F N (evI_op (evI_name rfl rfl) evI_const (.mod (by decide))) rfl (fun _ => rfl) fun t1 h1 tk1 F N => ?_
  refine x_asgI (i := number.fdiv 7) F N (evI_op (evI_name rfl rfl) evI_const (.fdiv (by decide) (by decide))) rfl (fun _ => rfl) fun t2 h2 tk2 F N => ?_
  refine x_asgI (i := 1 + (number.fdiv 7).fmod c.n) F N (evI_op evI_const (evI_op (evI_name rfl rfl) (evI_name dM rfl) (.mod (by omega))) .add) rfl (fun _ => rfl) fun t3 h3 tk3 F N => ?_
  have hm' : LM limit tl c (upd (upd (upd (upd m "number" (some (.int number t))) "kind" (some (.int (number.fmod 7) t1))) "rest" (some (.int (number.fdiv 7) t2))) "var" (some (.int (1 + (number.fdiv 7).fmod c.n) t3))) := ⟨hm.many, hm.held, hm.dec, hm.lim⟩
  have em : MEq lawSt (upd (upd (upd (upd m "number" (some (.int number t))) "kind" (some (.int (number.fmod 7) t1))) "rest" (some (.int (number.fdiv 7) t2))) "var" (some (.int (1 + (number.fdiv 7).fmod c.n) t3))) m := .l rfl (.l rfl (.l rfl (.l rfl .rf)))
  generalize hmm : (upd (upd (upd (upd m "number" (some (.int number t))) "kind" (some (.int (number.fmod 7) t1))) "rest" (some (.int (number.fdiv 7) t2))) "var" (some (.int (1 + (number.fdiv 7).fmod c.n) t3))) = m2 at F hm' em
  have dK : m2 "kind" = some (.int (number.fmod 7) t1) := hmm ▸ rfl
  have dR : m2 "rest" = some (.int (number.fdiv 7) t2) := hmm ▸ rfl
  have dV : m2 "var" = some (.int (1 + (number.fdiv 7).fmod c.n) t3) := hmm ▸ rfl
  clear hmm
  refine x_cons (x_if F N (evT_cmp (evI_name dK rfl) evI_const .lt rfl) (fun hk tk => ?_) fun hk tk => execs_one (x_if F N (evT_cmp (evI_name dK rfl) evI_const .eq rfl) (fun hk tk => ?_) fun hk tk => execs_one (x_if F N (evT_cmp (evI_name dK rfl) evI_const .eq rfl) (fun hk tk => ?_) fun hk tk => execs_one (x_if F N (evT_cmp (evI_name dK rfl) evI_const .eq rfl) (fun hk tk => ?_) fun hk tk => execs_one (x_if F N (evT_cmp (evI_name dK rfl) evI_const .eq rfl) (fun hk tk => ?_) fun hk tk => ?_)))))
  · exact law_a (Q := SeqK (gM G) (ktrTop G.dp G.un G.gd "law" lawScope G.L f cd (lawCl G.L) G.outer) lawTail (envX "law" lawScope G.L f cd (lawCl G.L)) (LEnd q) NoE) B X T hD hU hoH hlim1 hlim2 c hf hI (by omega) (by omega) hm' dV F N fun c' m' h' tk' b1 b2 b3 b4 F' N' => K1 c' m' m2 h' tk' b1 b2 b3 b4 em F' N'
  · exact law_b (Q := SeqK (gM G) (ktrTop G.dp G.un G.gd "law" lawScope G.L f cd (lawCl G.L) G.outer) lawTail (envX "law" lawScope G.L f cd (lawCl G.L)) (LEnd q) NoE) B X T hD hU hoH hlim1 hlim2 c hf hI hm' dR F N fun c' m' h' tk' b1 b2 b3 b4 F' N' => K1 c' m' m2 h' tk' b1 b2 b3 b4 em F' N'
  · exact law_c (Q := SeqK (gM G) (ktrTop G.dp G.un G.gd "law" lawScope G.L f cd (lawCl G.L) G.outer) lawTail (envX "law" lawScope G.L f cd (lawCl G.L)) (LEnd q) NoE) B X T hD hU hoH hlim1 hlim2 c hf hI hX hm' F N fun c' m' h' tk' b1 b2 b3 b4 F' N' => K1 c' m' m2 h' tk' b1 b2 b3 b4 em F' N'
  · exact law_d (Q := SeqK (gM G) (ktrTop G.dp G.un G.gd "law" lawScope G.L f cd (lawCl G.L) G.outer) lawTail (envX "law" lawScope G.L f cd (lawCl G.L)) (LEnd q) NoE) B X T hD hU hoH hlim1 hlim2 c hf hI hX (by omega) (by omega) dV hm' F N fun c' m' h' tk' b1 b2 b3 b4 F' N' => K1 c' m' m2 h' tk' b1 b2 b3 b4 em F' N'
  · exact law_e (Q := SeqK (gM G) (ktrTop G.dp G.un G.gd "law" lawScope G.L f cd (lawCl G.L) G.outer) lawTail (envX "law" lawScope G.L f cd (lawCl G.L)) (LEnd q) NoE) B X T hD hU hoH hlim1 hlim2 c hf hI hX dR hm' F N fun c' m' h' tk' b1 b2 b3 b4 F' N' => K1 c' m' m2 h' tk' b1 b2 b3 b4 em F' N'
  · exact law_f (Q := SeqK (gM G) (ktrTop G.dp G.un G.gd "law" lawScope G.L f cd (lawCl G.L) G.outer) lawTail (envX "law" lawScope G.L f cd (lawCl G.L)) (LEnd q) NoE) B X T hD hU hoH hlim1 hlim2 c hf hI hX dR hm' F N fun c' m' h' tk' b1 b2 b3 b4 F' N' => K1 c' m' m2 h' tk' b1 b2 b3 b4 em F' N'
end
def TupIn (tp : Led) (v : Value) (q : Int × Int) : Prop := ∃ a t u, v = .ref a ∧ (a, tup2 (.int q.1 t) (.int q.2 u)) ∈ tp
structure Tups (as : List Addr) (ys : List Value) (ps : List (Int × Int)) (tp : Led) : Prop where
  len : ys.length = ps.length
  at' : ∀ (i : Nat) v, ys[i]? = some v → ∃ q, ps[i]? = some q ∧ TupIn tp v q
  off : ∀ q ∈ tp, ∀ b ∈ as, @Ne Nat q.1 b
theorem Tups.nil {as : List Addr} : Tups as [] [] [] := ⟨rfl, fun i v h => by simp at h, fun _ h => nomatch h⟩
theorem TupIn.mono {tp tp' : Led} {v : Value} {q : Int × Int} (h : TupIn tp v q) (hs : ∀ p ∈ tp, p ∈ tp') : TupIn tp' v q := by
  obtain ⟨a, t, u, e, m⟩ := h
  exact ⟨a, t, u, e, hs _ m⟩
theorem Tups.snoc {as : List Addr} {ys : List Value} {ps : List (Int × Int)} {tp : Led} (h : Tups as ys ps tp) (a : Addr) (x y : Int) (t u : Tok) (ha : ∀ b ∈ as, @Ne Nat a b) :
    Tups as (ys ++ [.ref a]) (ps ++ [(x, y)]) (tp ++ [(a, tup2 (.int x t) (.int y u))]) := by
  refine ⟨by simp [h.len], fun i v hv => ?_, fun q hq b hb => ?_⟩
  · rcases Nat.lt_or_ge i ys.length with c | c
    · rw [List.getElem?_append_left c] at hv
      obtain ⟨q, hq, hT⟩ := h.at' i v hv
      refine ⟨q, ?_, hT.mono fun p hp => List.mem_append_left _ hp⟩
      rw [List.getElem?_append_left (by rw [← h.len]; exact c)]; exact hq
    · rw [List.getElem?_append_right c] at hv
      have hi : i - ys.length = 0 := by
        rcases Nat.eq_zero_or_pos (i - ys.length) with z | z
        · exact z
        · rw [List.getElem?_eq_none (by simp; omega)] at hv; cases hv
      rw [hi] at hv
      simp at hv
      subst hv
      refine ⟨(x, y), ?_, a, t, u, rfl, List.mem_append_right _ (.head _)⟩
      rw [List.getElem?_append_right (by rw [← h.len]; exact c), ← h.len, hi]; rfl
  · rcases List.mem_append.mp hq with hq | hq
    · exact h.off q hq b hb
    · rw [List.mem_singleton.mp hq]; exact ha b hb
open PyProof.Rows.LCg in
theorem comp1_rest {prog : Program} {w : World} {A : Around} {h₀ : Heap} {L : Addr} {m : Str → Option Value} {env : Env} {elt : Expr} {x : Str} {scope : Scope} {cl : List (Str × Addr)} {s : Shared} {S : Led → Prop} {Fin : List Value → Led → Prop}
    {vs : List Value} {ns : List Int} (as : List Addr) (g : Int → Int) (base : Led) (hi : IntsAre vs ns)
    (turn : ∀ k t I oI C oC D m₂ ys tp h tk (E' : Value → Shared → Prop), k ∈ ns → NsObj oC m₂ → m₂ x = some (.int k t) → Fr h₀ L h m → News h₀ L h ((I, oI) :: (C, oC) :: (D, lst ys) :: (base ++ tp)) → Off3 I C D (base ++ tp) → ((@Ne Nat I C) ∧ (@Ne Nat I D) ∧ (@Ne Nat C D)) →
      wpAny (model prog w) A (eval elt (compEnvC scope cl C env)) (CompEnd h₀ L m { s with heap := h, toks := tk } I oI C oC D (lst ys) S (fun y news' => ∃ a t1 t2, y = .ref a ∧ news' = base ++ (tp ++ [(a, tup2 (.int (g k) t1) (.int k t2))]) ∧ ∀ b ∈ as, @Ne Nat a b)) E' { s with heap := h, toks := tk })
    (fin : ∀ ys tp, Tups as ys (ns.map fun k => (g k, k)) tp → Fin ys (base ++ tp)) : CompRest prog w A h₀ L m env elt x scope cl s S (fun i v => vs.toArray[i]? = some v) Fin vs.toArray.size 0 [] (base ++ []) := by
  have key : ∀ (j i : Nat) (ys : List Value) (tp : Led), i + j = vs.length → Tups as ys ((ns.take i).map fun k => (g k, k)) tp → CompRest prog w A h₀ L m env elt x scope cl s S (fun i v => vs.toArray[i]? = some v) Fin j i ys (base ++ tp) := by
    intro j
    induction j with
    | zero =>
      intro i ys tp hij ht
      refine CompRest.zero (fin ys tp ?_)
      rw [List.take_of_length_le (by rw [← hi.length]; omega)] at ht
      exact ht
    | succ j ih =>
      intro i ys tp hij ht
      refine CompRest.succ ?_
      intro v I oI C oC D m₂ h tk E' hv hC hx F N off ne
      obtain ⟨k, t, rfl, hk⟩ := IntsAre.at hi i v (by simpa using hv)
      refine wpAny_mono (turn k t I oI C oC D m₂ ys tp h tk E' (List.mem_of_getElem? hk) hC hx F N off ne) (fun y s₂ hq => ?_) fun _ _ e => e
      obtain ⟨h', tk', nw, e, F', N', off', hS, a, t1, t2, rfl, rfl, ha⟩ := hq
      refine ⟨h', tk', _, e, F', N', off', hS, ih (i + 1) _ _ (by omega) ?_⟩
      have e2 : (ns.take (i + 1)).map (fun k => (g k, k)) = (ns.take i).map (fun k => (g k, k)) ++ [(g k, k)] := by
        rw [List.take_add_one, hk, List.map_append]; rfl
      rw [e2]
      exact ht.snoc a _ _ t1 t2 ha
  have := key vs.toArray.size 0 [] [] (by simp) (by simpa using Tups.nil)
  exact this
open PyProof.Rows.LCg in
theorem off3_snoc {I C D : Addr} {base tp : Led} {q : Addr × Obj} (h : Off3 I C D (base ++ tp)) (h1 : @Ne Nat q.1 I) (h2 : @Ne Nat q.1 C) (h3 : @Ne Nat q.1 D) : Off3 I C D (base ++ (tp ++ [q])) := by
  rw [← List.append_assoc]
  refine Off3.of fun p hp => ?_
  rcases List.mem_append.mp hp with hp | hp
  · exact Off3.mem h p hp
  · rw [List.mem_singleton.mp hp]; exact ⟨h1, h2, h3⟩
theorem in_app {base tp all : Led} {q : Addr × Obj} (h1 : ∀ p ∈ base, p ∈ all) (h2 : ∀ p ∈ tp, p ∈ all) (h3 : q ∈ all) : ∀ p ∈ base ++ (tp ++ [q]), p ∈ all := by
  intro p hp
  rcases List.mem_append.mp hp with hp | hp
  · exact h1 p hp
  · rcases List.mem_append.mp hp with hp | hp
    · exact h2 p hp
    · rw [List.mem_singleton.mp hp]; exact h3
theorem list_sort_one {prog : Program} {w : World} {A : Around} {E : Value → Shared → Prop} {s : Shared} {a : Addr} {v : Value} {n : Nat} {P : PySem.Fin → Shared → Prop} (ho : s.heap.get? a = some (seqObj "list" [v].toArray n))
    (h : P (.done (.ret .none)) { s with heap := sortedHeap s.heap a [v] [v].toArray }) : wpAny (model prog w) A (Builtin.«list.sort» ⟨[.ref a], []⟩) P E s := by
  rw [list_sort_plain]
  have ha : a < s.heap.objs.size := Heap.lt_size ho
  refine wpAny_bind (listItems_at ho rfl ?_)
  refine wpAny_bind (listUpdate_at ho rfl ?_)
  obtain ⟨e1, ho1⟩ : ∃ e1, (s.heap.update a (Obj.mapSeq fun _ => #[])).get? a = some (seqObj "list" #[] e1) := ⟨_, get?_update_seq ho (fun _ => #[])⟩
  refine wpAny_bind (seqEpoch_at ho1 rfl ?_)
  refine wpAny_bind (wpAny_newTuple ?_)
  refine wpAny_bind (wpAny_newList ?_)
  refine wpAny_holding ?_
  have ho6 : (((s.heap.update a (Obj.mapSeq fun _ => #[])).push (seqObj "tuple" [v].toArray 0)).push (seqObj "list" #[] 0)).get? a = some (seqObj "list" #[] e1) := by
    rw [Heap.get?_push_ne _ _ _ (by rw [size_push', Heap.size_update]; exact Nat.ne_of_lt (Nat.lt_succ_of_lt ha)), Heap.get?_push_ne _ _ _ (by rw [Heap.size_update]; exact Nat.ne_of_lt ha)]
    exact ho1
  show wpAny (model prog w) A _ P E { s with heap := ((s.heap.update a (Obj.mapSeq fun _ => #[])).push (seqObj "tuple" [v].toArray 0)).push (seqObj "list" #[] 0) }
  dsimp only
  have h2 : [v].toArray.size < 2 := by simp
  rw [if_pos h2, if_pos h2]
  refine wpAny_bind (wpAny_pure ?_)
  rw [StateT.run_pure]
  refine wpAny_bind (wpAny_pure ?_)
  dsimp only
  refine wpAny_bind (seqEpoch_at ho6 rfl ?_)
  refine wpAny_bind (listUpdate_at ho6 rfl ?_ (hsz2 := by rw [sizeLine_eq, Array.size_map]; show ([v].toArray.zip [v].toArray).size ≤ _; simp))
  simp only [bne_self_eq_false, Bool.false_eq_true, if_false]
  have e : Array.map (fun x : Keyed => x.2) ([v].toArray.zip [v].toArray) = [v].toArray := by simp
  refine wpAny_pure ?_
  show P _ { s with heap := sortedHeap s.heap a [v] (Array.map (fun x : Keyed => x.2) ([v].toArray.zip [v].toArray)) }
  rw [e]; exact h
theorem sorted_one {prog : Program} {w : World} {A : Around} {E : Value → Shared → Prop} {s : Shared} {h₀ : Heap} {L : Addr} {m : Str → Option Value} {news : Led} {l : Addr} {v : Value} {Q : Value → Shared → Prop} (F : Fr h₀ L s.heap m) (N : News h₀ L s.heap news) (hl : s.heap.IsList l [v].toArray)
    (h : ∀ D c h', Fr h₀ L h' m → News h₀ L h' ((D, seqObj "list" [v].toArray c) :: news) → (∀ q ∈ news, q.1 < D) → Q (.ref D) { s with heap := h' }) :
    wpAny (model prog w) A (call (.builtin "sorted") [.ref l]) Q E s := by
  refine Calls.call_function_entry kind_sorted plain_sorted entry_sorted (args_sorted1 _) ?_
  unfold Builtin.«sorted»
  refine wpAny_bind (m := checkCount "sorted" 1 1 _) (wpAny_pure ?_)
  refine wpAny_bind (collect_list hl ?_)
  refine wpAny_bind (wpAny_newList ?_)
  have hsz : ((s.heap.push (seqObj "list" #[] 0)).update s.heap.objs.size (Obj.mapSeq (· ++ [v].toArray))).objs.size = s.heap.objs.size + 1 := by
    rw [Heap.size_update, size_push']
  have hoL : (((s.heap.push (seqObj "list" #[] 0)).update s.heap.objs.size (Obj.mapSeq (· ++ [v].toArray))).push (seqObj "list" [v].toArray 0)).get? (s.heap.objs.size + 1) = some (seqObj "list" [v].toArray 0) := by
    rw [← hsz]; exact Heap.get?_push_size _ rfl
  show wpAny _ _ _ _ _ { s with heap := ((s.heap.push (seqObj "list" #[] 0)).update s.heap.objs.size (Obj.mapSeq (· ++ [v].toArray))).push (seqObj "list" [v].toArray 0) }
  rw [hsz]
  refine wpAny_bind (wpAny_holding (wpAny_call_entry slot_list_sort ⟨_, hoL, rfl⟩ entry_list_sort (list_sort_one hoL ⟨_, rfl, ?_⟩) (args_list_sort _)))
  obtain ⟨e, he⟩ := sortedAll_at s.heap [v] [v].toArray
  refine wpAny_pure ⟨_, rfl, h _ e _ (F.kept fun _ _ => sortedAll_old) (N.kept_cons F (fun _ _ => sortedAll_old) (Nat.le_succ _) he) fun q hq => Nat.lt_succ_of_lt (Heap.lt_size (N q hq).1)⟩
def lexLt (p q : Int × Int) : Bool := if p.1 = q.1 then decide (p.2 < q.2) else decide (p.1 < q.1)
theorem lex_lt {prog : Program} {w : World} {A : Around} {s : Shared} {tp : Led} {x y : Value} {p q : Int × Int} {C : Bool → Shared → Prop} (hT : ∀ r ∈ tp, s.heap.get? r.1 = some r.2) (hx : TupIn tp x p) (hy : TupIn tp y q) (h : C (lexLt p q) s) :
    wpAny (model prog w) A (keyLt' (tuples' true) x y) C (fun _ _ => False) s := by
  obtain ⟨a, t, u, rfl, ha⟩ := hx
  obtain ⟨b, t', u', rfl, hb⟩ := hy
  refine kat_lt (xs := #[.int p.1 t, .int p.2 u]) (ys := #[.int q.1 t', .int q.2 u']) (hT _ ha) rfl (hT _ hb) rfl ?_
  unfold lexLt at h
  show KatLex prog w A true _ C [(Value.int p.1 t, Value.int q.1 t'), (Value.int p.2 u, Value.int q.2 u')] 0 s
  refine kat_cons (wpAny_eqBool_int ?_)
  by_cases c : p.1 = q.1
  · rw [if_pos c] at h
    rw [show (p.1 == q.1) = true by simpa using c]
    refine kat_yes (kat_cons (wpAny_eqBool_int ?_))
    by_cases d : p.2 = q.2
    · rw [show (p.2 == q.2) = true by simpa using d]
      refine kat_yes (kat_nil ?_)
      rw [decide_eq_false (by omega)] at h
      exact h
    · rw [show (p.2 == q.2) = false by simpa using d]
      refine kat_no ?_
      show wpAny _ _ (oneLt' false _ _) _ _ _
      exact kat_one _ _ (wpAny_lt_int h)
  · rw [if_neg c] at h
    rw [show (p.1 == q.1) = false by simpa using c]
    refine kat_no ?_
    show wpAny _ _ (oneLt' true _ _) _ _ _
    exact oneLt_int h
theorem tups_firsts {s : Shared} {tp : Led} (hT : ∀ r ∈ tp, s.heap.get? r.1 = some r.2) : ∀ {ys : List Value} {ps : List (Int × Int)}, ys.length = ps.length → (∀ (i : Nat) v, ys[i]? = some v → ∃ q, ps[i]? = some q ∧ TupIn tp v q) → ∃ fs, KatTups s.heap ys fs ∧ fs.length = ys.length ∧ ∀ v ∈ fs, ∃ n t, v = Value.int n t
  | [], _, _, _ => ⟨[], KatTups.nil, rfl, fun _ h => nomatch h⟩
  | y :: ys, [], h, _ => by simp at h
  | y :: ys, p :: ps, h, hi => by
    obtain ⟨q, hq, a, t, u, rfl, ha⟩ := hi 0 y rfl
    obtain ⟨fs, h1, h2, h3⟩ := tups_firsts hT (ys := ys) (ps := ps) (by simpa using h) (fun i v hv => by simpa using hi (i + 1) v (by simpa using hv))
    refine ⟨.int q.1 t :: fs, KatTups.cons (o := tup2 (.int q.1 t) (.int q.2 u)) (hT _ ha) rfl rfl rfl h1, by simp [h2], fun v hv => ?_⟩
    rcases List.mem_cons.mp hv with rfl | hv
    · exact ⟨_, _, rfl⟩
    · exact h3 v hv
theorem Tups.pick {as : List Addr} {ys : List Value} {ps : List (Int × Int)} {tp : Led} (h : Tups as ys ps tp) {p : List Nat} (hp : p.Perm (List.range ys.length)) :
    Tups as (p.map fun i => ys.getD i Value.none) (p.map fun i => ps.getD i (0, 0)) tp ∧ (p.map fun i => ps.getD i (0, 0)).Perm ps := by
  refine ⟨⟨by simp, fun i v hv => ?_, h.off⟩, ?_⟩
  · rw [List.getElem?_map] at hv ⊢
    obtain ⟨j, hj, e⟩ := Option.map_eq_some_iff.mp hv
    rw [hj]
    have hm : j < ys.length := List.mem_range.mp (hp.mem_iff.mp (List.mem_of_getElem? hj))
    have e1 : ys[j]? = some (ys.getD j Value.none) := by rw [List.getD_eq_getElem?_getD, List.getElem?_eq_getElem hm]; rfl
    obtain ⟨q, hq, ht⟩ := h.at' j _ e1
    refine ⟨q, ?_, by rw [← e]; exact ht⟩
    show some (ps.getD j (0, 0)) = some q
    rw [List.getD_eq_getElem?_getD, hq]; rfl
  · have h1 := hp.map (fun i => ps.getD i (0, 0))
    have e : (List.range ys.length).map (fun i => ps.getD i (0, 0)) = ps := by
      rw [h.len]
      refine List.ext_getElem (by simp) fun i h1 h2 => ?_
      rw [List.getElem_map, List.getElem_range, List.getD_eq_getElem?_getD, List.getElem?_eq_getElem h2]; rfl
    rw [e] at h1; exact h1
set_option maxHeartbeats 1600000 in
theorem sorted_tups {prog : Program} {w : World} {A : Around} {E : Value → Shared → Prop} {s : Shared} {h₀ : Heap} {L : Addr} {m : Str → Option Value} {news : Led} {l : Addr} {as : List Addr} {ys : List Value} {ps : List (Int × Int)} {tp : Led} {Q : Value → Shared → Prop} (F : Fr h₀ L s.heap m) (N : News h₀ L s.heap news) (hl : s.heap.IsList l ys.toArray)
    (ht : Tups as ys ps tp) (hsub : ∀ q ∈ tp, q ∈ news) (h64 : ys.length < 64) (rank : Int × Int → Int) (hr : ∀ p q, p ∈ ps → q ∈ ps → lexLt p q = decide (rank p < rank q)) (hinj : ∀ i j, i < ps.length → j < ps.length → rank (ps.getD i (0, 0)) = rank (ps.getD j (0, 0)) → i = j)
    (h : ∀ D c h' ys' ps', Fr h₀ L h' m → News h₀ L h' ((D, seqObj "list" ys'.toArray c) :: news) → (∀ q ∈ news, q.1 < D) → Tups as ys' ps' tp → ps'.Perm ps → ps'.Pairwise (fun p q => rank p < rank q) → Q (.ref D) { s with heap := h' }) :
    wpAny (model prog w) A (call (.builtin "sorted") [.ref l]) Q E s := by
  rcases Nat.lt_or_ge ys.length 2 with c | c
  · match ys, ps, ht, hl, c with
    | [], [], ht, hl, _ =>
      refine sorted_N F N hl IntsAre.nil (by simp) fun h' vs' ns' e F' N' a1 a2 a3 => ?_
      have hn : ns' = [] := List.Perm.eq_nil a2
      subst hn
      cases a1
      exact h _ e h' [] [] F' N' (fun q hq => Nat.lt_succ_of_lt (Heap.lt_size (N q hq).1)) ht (.refl _) List.Pairwise.nil
    | [v], [p], ht, hl, _ => exact sorted_one F N hl fun D c h' F' N' l1 => h D c h' [v] [p] F' N' l1 ht (.refl _) (by simp)
    | [], _ :: _, ht, _, _ => exact absurd ht.len (by simp)
    | [_], [], ht, _, _ => exact absurd ht.len (by simp)
    | [_], _ :: _ :: _, ht, _, _ => exact absurd ht.len (by simp)
    | _ :: _ :: _, _, _, _, c => exact absurd c (by simp)
  · refine kat_sorted F N hl c h64 fun D e1 h' F' N' l1 => ?_
    have hT : ∀ r ∈ tp, h'.get? r.1 = some r.2 := fun r hr => (N' r (.tail _ (hsub r hr))).1
    obtain ⟨fs, k1, k2, k3⟩ := tups_firsts (s := { s with heap := h' }) hT ht.len ht.at'
    refine kat_kind (T := .type "int") k1 (by omega) (fun v hv => ?_) rfl ?_
    · obtain ⟨n, t, rfl⟩ := k3 v hv
      exact Looks.of_pure rfl
    show (kas_sort ys.length).kasWp (kas_ask prog w A.in1.in1 (tuples' true) ys) _ _
    refine KTr.wp (n := ys.length) (z := fun i => rank (ps.getD i (0, 0))) (R := fun q => PA ys.length q ∧ SA (fun i => rank (ps.getD i (0, 0))) q ys.length) (fun i j C hi hj hC => ?_) (fun q hq => ?_) _ (sort_ok (fun i j hi hj => hinj i j (by rw [← ht.len]; exact hi) (by rw [← ht.len]; exact hj)) (by omega))
    · unfold kas_ask
      have gi : ∀ i, i < ys.length → TupIn tp (ys.getD i Value.none) (ps.getD i (0, 0)) ∧ ps.getD i (0, 0) ∈ ps := by
        intro i hi
        have e1 : ys[i]? = some (ys.getD i Value.none) := by rw [List.getD_eq_getElem?_getD, List.getElem?_eq_getElem hi]; rfl
        obtain ⟨q, hq, hT⟩ := ht.at' i _ e1
        have e2 : ps.getD i (0, 0) = q := by rw [List.getD_eq_getElem?_getD, hq]; rfl
        rw [e2]; exact ⟨hT, List.mem_of_getElem? hq⟩
      refine lex_lt (s := { s with heap := h' }) hT (gi i hi).1 (gi j hj).1 ?_
      rw [hr _ _ (gi i hi).2 (gi j hj).2]
      exact hC
    · obtain ⟨hp, hs⟩ := hq
      obtain ⟨t1, t2⟩ := ht.pick hp.pm
      refine KasFin.intro F' N' (UpdF.head fun p hp => Nat.ne_of_lt (l1 p hp)) fun h2 c2 F2 N2 => ?_
      refine h D c2 h2 _ _ F2 N2 l1 t1 t2 ?_
      rw [List.pairwise_map, List.pairwise_iff_getElem]
      intro i j hi hj hij
      have gt : ∀ i (hi : i < q.toList.length), q.getD i 0 = q.toList[i] := fun i hi => by
        have : i < q.size := by simpa using hi
        simp [Array.getD, this]
      have hj' : j < ys.length := by rw [← hp.sz]; simpa using hj
      have := hs i j hij hj'
      rw [gt i hi, gt j hj] at this
      exact this
def rank (p : Int × Int) : Int := p.1 * 16 + p.2
def pairOf (act : List Int) (k : Int) : Int × Int := (-act.getD k.toNat 0, k)
theorem rank_lex {act held : List Int} (hr : ∀ v ∈ held, 1 ≤ v ∧ v ≤ 9) : ∀ p q, p ∈ held.map (pairOf act) → q ∈ held.map (pairOf act) → lexLt p q = decide (rank p < rank q) := by
  intro p q hp hq
  obtain ⟨a, ha, rfl⟩ := List.mem_map.mp hp
  obtain ⟨b, hb, rfl⟩ := List.mem_map.mp hq
  have := hr a ha
  have := hr b hb
  unfold lexLt rank pairOf
  dsimp only
  generalize act.getD a.toNat 0 = x
  generalize act.getD b.toNat 0 = y
  split
  · exact decide_eq_decide.mpr (by omega)
  · exact decide_eq_decide.mpr (by omega)
theorem rank_inj {act held : List Int} (hr : ∀ v ∈ held, 1 ≤ v ∧ v ≤ 9) (hd : held.Nodup) : ∀ i j, i < (held.map (pairOf act)).length → j < (held.map (pairOf act)).length → rank ((held.map (pairOf act)).getD i (0, 0)) = rank ((held.map (pairOf act)).getD j (0, 0)) → i = j := by
  intro i j hi hj e
  rw [List.getD_eq_getElem?_getD, List.getD_eq_getElem?_getD, List.getElem?_eq_getElem hi, List.getElem?_eq_getElem hj] at e
  simp only [Option.getD_some, List.getElem_map] at e
  have hi' : i < held.length := by simpa using hi
  have hj' : j < held.length := by simpa using hj
  have h1 := hr _ (List.getElem_mem hi')
  have h2 := hr _ (List.getElem_mem hj')
  unfold rank pairOf at e
  dsimp only at e
  have e2 : held[i] = held[j] := by
    generalize act.getD held[i].toNat 0 = x at e
    generalize act.getD held[j].toNat 0 = y at e
    omega
  rcases Nat.lt_trichotomy i j with c | c | c
  · exact absurd e2 (List.pairwise_iff_getElem.mp hd i j hi' hj' c)
  · exact c
  · exact absurd e2.symm (List.pairwise_iff_getElem.mp hd j i hj' hi' c)
def pops (act : List Int) : Nat → List Int → List Int × List Int
  | 0, H => ([], H)
  | k + 1, H => ((pops act k H).1 ++ [lfirst act (pops act k H).2], (pops act k H).2.erase (lfirst act (pops act k H).2))
theorem pops_front (act : List Int) : ∀ (k : Nat) (H : List Int), pops act (k + 1) H = (lfirst act H :: (pops act k (H.erase (lfirst act H))).1, (pops act k (H.erase (lfirst act H))).2)
  | 0, H => rfl
  | k + 1, H => by
    have ih := pops_front act k H
    show ((pops act (k + 1) H).1 ++ [lfirst act (pops act (k + 1) H).2], (pops act (k + 1) H).2.erase (lfirst act (pops act (k + 1) H).2)) = _
    rw [ih]; rfl
theorem bef_rank {act : List Int} {a b : Int} (ha : 1 ≤ a ∧ a ≤ 9) (hb : 1 ≤ b ∧ b ≤ 9) (h : rank (pairOf act a) < rank (pairOf act b)) : bef act a b = true := by
  unfold rank pairOf at h
  dsimp only at h
  refine bef_iff.mpr ?_
  show act.getD b.toNat 0 < act.getD a.toNat 0 ∨ (act.getD a.toNat 0 = act.getD b.toNat 0 ∧ a < b)
  omega
theorem pops_all {act : List Int} : ∀ (q H : List Int), q.Perm H → H.Nodup → (∀ v ∈ H, 1 ≤ v ∧ v ≤ 9) → (q.map (pairOf act)).Pairwise (fun a b => rank a < rank b) → pops act q.length H = (q, [])
  | [], H, hp, _, _, _ => by
    have : H = [] := List.Perm.eq_nil hp.symm
    subst this; rfl
  | b :: q, H, hp, hd, hr, hs => by
    have hb : b ∈ H := hp.mem_iff.mp (.head _)
    have hne : H ≠ [] := fun e => by rw [e] at hb; cases hb
    obtain ⟨h1, h2⟩ := lfirst_spec (act := act) hne (fun v hv => (hr v hv).1)
    have e : lfirst act H = b := by
      have hm : lfirst act H ∈ b :: q := hp.mem_iff.mpr h1
      rcases List.mem_cons.mp hm with c | c
      · exact c
      · have hlt := (List.pairwise_cons.mp hs).1 (pairOf act (lfirst act H)) (List.mem_map_of_mem c)
        have := bef_rank (hr b hb) (hr _ h1) hlt
        rw [h2 b hb] at this
        exact absurd this (by decide)
    rw [List.length_cons, pops_front, e]
    have hp' : q.Perm (H.erase b) := by
      have := hp.erase b
      rw [List.erase_cons_head] at this; exact this
    rw [pops_all q (H.erase b) hp' (hd.erase b) (fun v hv => hr v (List.mem_of_mem_erase hv)) (List.pairwise_cons.mp hs).2]
theorem pops_end {act q H : List Int} (hp : q.Perm H) (hd : H.Nodup) (hr : ∀ v ∈ H, 1 ≤ v ∧ v ≤ 9) (hs : (q.map (pairOf act)).Pairwise (fun a b => rank a < rank b)) : pops act (H.length + 1) H = (q ++ [0], []) := by
  show ((pops act H.length H).1 ++ [lfirst act (pops act H.length H).2], (pops act H.length H).2.erase (lfirst act (pops act H.length H).2)) = _
  rw [← hp.length_eq, pops_all q H hp hd hr hs]; rfl
theorem pairs_snd {act H : List Int} {ps : List (Int × Int)} (hp : ps.Perm (H.map (pairOf act))) (hs : ps.Pairwise (fun a b => rank a < rank b)) : (ps.map (·.2)).Perm H ∧ ((ps.map (·.2)).map (pairOf act)).Pairwise (fun a b => rank a < rank b) := by
  have h1 := hp.map (·.2)
  have e : (H.map (pairOf act)).map (·.2) = H := by rw [List.map_map]; exact (List.map_congr_left fun v _ => rfl).trans (List.map_id _)
  rw [e] at h1
  refine ⟨h1, ?_⟩
  have e2 : (ps.map (·.2)).map (pairOf act) = ps := by
    rw [List.map_map]
    refine (List.map_congr_left fun p hp' => ?_).trans (List.map_id _)
    obtain ⟨v, _, rfl⟩ := List.mem_map.mp (hp.mem_iff.mp hp')
    rfl
  rw [e2]; exact hs
structure PopI (n : Int) (act H0 : List Int) (i : Nat) (done hp pl : List Int) : Prop where
  cons : Cons n hp pl
  ord : OrdFrom act hp 0
  e : pops act i H0 = (done, heldL n pl)
theorem PopI.start {n : Int} {act hp pl : List Int} (hc : Cons n hp pl) (ho : OrdFrom act hp 0) : PopI n act (heldL n pl) 0 [] hp pl := ⟨hc, ho, rfl⟩
theorem PopI.step {n : Int} {act H0 hp pl hp' pl' done : List Int} {i : Nat} (h : PopI n act H0 i done hp pl) (hc : Cons n hp' pl') (ho : OrdFrom act hp' 0) (hs : ∀ v : Int, 0 ≤ v → v ≤ n → (0 ≤ at' pl' v ↔ (0 ≤ at' pl v ∧ v ≠ hp.getD (Int.toNat 0) 0))) :
    PopI n act H0 (i + 1) (done ++ [hp.getD (Int.toNat 0) 0]) hp' pl' := by
  refine ⟨hc, ho, ?_⟩
  show ((pops act i H0).1 ++ [lfirst act (pops act i H0).2], (pops act i H0).2.erase (lfirst act (pops act i H0).2)) = _
  rw [h.e, held_first h.cons h.ord, heldL_popE hs]
open PyProof.Rows.LCg in
theorem comp2_rest {σ : Type} {prog : Program} {w : World} {A : Around} {h₀ : Heap} {L : Addr} {m : Str → Option Value} {env : Env} {elt : Expr} {x : Str} {scope : Scope} {cl : List (Str × Addr)} {s : Shared} {S : Led → Prop} {P : Nat → Value → Prop} {Fin : List Value → Led → Prop} {n : Nat}
    (LedF : σ → Led) (inv : Nat → List Int → σ → Prop) (c0 : σ) (h0 : inv 0 [] c0)
    (turn : ∀ i c done v I oI C oC D m₂ ys h tk (E' : Value → Shared → Prop), i < n → inv i done c → IntsAre ys done → NsObj oC m₂ → m₂ x = some v → Fr h₀ L h m → News h₀ L h ((I, oI) :: (C, oC) :: (D, lst ys) :: LedF c) → Off3 I C D (LedF c) → ((@Ne Nat I C) ∧ (@Ne Nat I D) ∧ (@Ne Nat C D)) →
      wpAny (model prog w) A (eval elt (compEnvC scope cl C env)) (CompEnd h₀ L m { s with heap := h, toks := tk } I oI C oC D (lst ys) S (fun y news' => ∃ c' r t, y = .int r t ∧ news' = LedF c' ∧ inv (i + 1) (done ++ [r]) c')) E' { s with heap := h, toks := tk })
    (fin : ∀ c done ys, inv n done c → IntsAre ys done → Fin ys (LedF c)) : CompRest prog w A h₀ L m env elt x scope cl s S P Fin n 0 [] (LedF c0) := by
  have key : ∀ (j i : Nat) (done : List Int) (c : σ) (ys : List Value), i + j = n → inv i done c → IntsAre ys done → CompRest prog w A h₀ L m env elt x scope cl s S P Fin j i ys (LedF c) := by
    intro j
    induction j with
    | zero =>
      intro i done c ys hij hi hy
      have : i = n := by omega
      subst this
      exact CompRest.zero (fin c done ys hi hy)
    | succ j ih =>
      intro i done c ys hij hi hy
      refine CompRest.succ ?_
      intro v I oI C oC D m₂ h tk E' hv hC hx F N off ne
      refine wpAny_mono (turn i c done v I oI C oC D m₂ ys h tk E' (by omega) hi hy hC hx F N off ne) (fun y s₂ hq => ?_) fun _ _ e => e
      obtain ⟨h', tk', nw, e, F', N', off', hS, c', r, t, rfl, rfl, hi'⟩ := hq
      exact ⟨h', tk', _, e, F', N', off', hS, ih (i + 1) _ c' _ (by omega) hi' (ints_app1 hy r t)⟩
  exact key n 0 [] c0 [] (by omega) h0 IntsAre.nil
open PyProof.Rows.LCg PyProof.Rows.LCp in
theorem comp3_rest {prog : Program} {w : World} {A : Around} {h₀ : Heap} {L : Addr} {m : Str → Option Value} {env : Env} {elt : Expr} {x x₂ : Str} {scope : Scope} {cl : List (Str × Addr)} {s : Shared} {S : Led → Prop} {Fin : List Value → Led → Prop} {as : List Addr} {vs : List Value} {ps : List (Int × Int)} {tp news : Led}
    (hT : Tups as vs ps tp) (hsub : ∀ q ∈ tp, q ∈ news)
    (turn : ∀ (p : Int × Int) t u I oI C oC D m₂ ys h tk (E' : Value → Shared → Prop), NsObj oC m₂ → m₂ x = some (.int p.1 t) → m₂ x₂ = some (.int p.2 u) → Fr h₀ L h m → News h₀ L h ((I, oI) :: (C, oC) :: (D, lst ys) :: news) → Off3 I C D news → ((@Ne Nat I C) ∧ (@Ne Nat I D) ∧ (@Ne Nat C D)) →
      wpAny (model prog w) A (eval elt (compEnvC scope cl C env)) (CompEnd h₀ L m { s with heap := h, toks := tk } I oI C oC D (lst ys) S (fun y news' => news' = news ∧ ∃ t, y = .int p.2 t)) E' { s with heap := h, toks := tk })
    (fin : ∀ ys, IntsAre ys (ps.map (·.2)) → Fin ys news) : CompRestP prog w A h₀ L m env elt x x₂ scope cl s S (fun i v => vs.toArray[i]? = some v) Fin vs.toArray.size 0 [] news := by
  have key : ∀ (j i : Nat) (ys : List Value), i + j = vs.length → IntsAre ys ((ps.take i).map (·.2)) → CompRestP prog w A h₀ L m env elt x x₂ scope cl s S (fun i v => vs.toArray[i]? = some v) Fin j i ys news := by
    intro j
    induction j with
    | zero =>
      intro i ys hij hy
      rw [List.take_of_length_le (by rw [← hT.len]; omega)] at hy
      exact CompRestP.zero (fin ys hy)
    | succ j ih =>
      intro i ys hij hy
      refine CompRestP.succ ?_
      intro v hv
      obtain ⟨q, hq, a, t, u, rfl, ha⟩ := hT.at' i v (by simpa using hv)
      refine ⟨a, _, .int q.1 t, .int q.2 u, 0, rfl, hsub _ ha, rfl, rfl, ?_⟩
      intro I oI C oC D m₂ h tk E' hC hx hx2 F N off ne
      refine wpAny_mono (turn q t u I oI C oC D m₂ ys h tk E' hC hx hx2 F N off ne) (fun y s₂ hq' => ?_) fun _ _ e => e
      obtain ⟨h', tk', nw, e, F', N', off', hS, rfl, t', rfl⟩ := hq'
      refine ⟨h', tk', _, e, F', N', off', hS, ih (i + 1) _ (by omega) ?_⟩
      rw [List.take_add_one, hq, List.map_append]
      exact ints_app1 hy q.2 t'
  exact key vs.toArray.size 0 [] (by simp) IntsAre.nil
open PyProof.Rows.LCg in
theorem off3_congr {I C D : Addr} {a b : Led} (h : Off3 I C D a) (e : a.map (·.1) = b.map (·.1)) : Off3 I C D b := by
  refine Off3.of fun p hp => ?_
  have : p.1 ∈ a.map (·.1) := by rw [e]; exact List.mem_map_of_mem hp
  obtain ⟨q, hq, e2⟩ := List.mem_map.mp this
  rw [← e2]; exact Off3.mem h q hq
theorem spl_tail {as : List Addr} : ∀ {tp : Led}, (∀ q ∈ tp, ∀ b ∈ as, @Ne Nat q.1 b) → Spl as tp tp
  | [], _ => .nil
  | q :: r, h => .keep (fun a ha => h q (.head _) a ha) (spl_tail fun p hp => h p (.tail _ hp))
theorem pop_fin {n : Int} {act hp pl pl0 done : List Int} {ps : List (Int × Int)} (h9 : n ≤ 9) (h : PopI n act (heldL n pl0) ((heldL n pl0).length + 1) done hp pl) (hps : ps.Perm ((heldL n pl0).map (pairOf act))) (hs : ps.Pairwise (fun a b => rank a < rank b)) : done = ps.map (·.2) ++ [0] ∧ heldL n pl = [] := by
  obtain ⟨h1, h2⟩ := pairs_snd hps hs
  have e := pops_end h1 (heldL_nodup n pl0) (fun v hv => by have := heldL_rng1 v hv; omega) h2
  rw [h.e] at e
  injection e with e1 e2
  exact ⟨e1, e2⟩
example : True := by
  k_with_none
  k_with "A" => (with_reducible assumption)
  k_with "R" => (k_dflt (exact rfl))
  k_with "F" => (k_dflt (exact fun _ => rfl))
  k_with "G" => (k_dflt (exact fun _ _ => rfl))
  k_with "steps" => (repeat' (first | walk1 | (dsimp only; walk1) | fail "no step"))
  k_with "k_ne" => (first | (k_extra "A") | (refine Ne.symm ?_; with_reducible assumption))
  k_with "ints" => (first | with_reducible assumption | exact ints_set (by k_extra "ints") _ | exact ints_app1 (by k_extra "ints") _ _ | fail "no ints")
  k_with "pre0" => (first | with_reducible assumption | (with_reducible exact le_w (by assumption) rfl) | (with_reducible exact le_we (by assumption) (by assumption) rfl) | (with_reducible exact lt_we (by assumption) (by assumption)) | omega | (simp only [List.length_set, List.length_append, List.length_cons, List.length_nil, List.length_map]; omega) | k_extra "pre")
  k_with "mono" => (intro _ _ _ hk x; (intros; refine hk _ _ ?_; first | exact x | (apply x <;> assumption)))
  k_with "open" => (
    refine' ctr_intro ?mono ?ho ?hcd ?hb ?hloc ?c2 ?c3 ?c4 ?c5 ?_;
    (case ho => (intro P; k_is)); (case hcd => (intro P; k_is)); (case hb => exact fun s => BindsTo.of_eq rfl); (case hloc => exact locs rfl); (case c2 => exact rfl); (case c3 => exact rfl); (case c4 => exact rfl); (case c5 => decide); (case mono => k_extra "mono");
    intro G h gs dr tk0 os q B F X N T l1 hD hU hret;
    unfold led at N)
  k_with "evI" => (first
    | ((with_reducible apply evI_name); (k_extra "R"); (k_extra "R"))
    | (with_reducible exact evI_const)
    | ((with_reducible apply evI_neg); (k_dflt (k_extra "evI")))
    | ((with_reducible apply evI_op); (k_dflt (k_extra "evI")); (k_dflt (k_extra "evI")); (k_dflt (k_extra "iop")))
    | ((with_reducible apply evI_sub); (k_dflt (k_extra "evV")); (k_dflt (k_extra "evI")); (k_dflt k_memK); (k_dflt (k_extra "ints")); (k_dflt (k_extra "pre0")); (k_dflt (k_extra "pre0")); (k_dflt (k_extra "pre0")); (k_extra "F"))
    | ((with_reducible apply evI_limit); (k_dflt (k_extra "evV")); (k_extra "A"); (k_dflt k_memK); (k_dflt k_memK))
    | ((with_reducible apply evI_step); (k_dflt (k_extra "evV")); (k_extra "A"); (k_dflt k_memK); (k_dflt k_memK))
    | ((with_reducible apply evI_len); (k_extra "A"); (exact topRead_of (by with_reducible assumption)); (k_extra "R"); (k_dflt (k_extra "evV")); (k_extra "G"); (k_extra "F"); (k_dflt k_memK); (k_dflt (exact len_cast (by k_extra "ints"))); (k_dflt (k_extra "len9"))))
  k_with "len9" => (rw [IntsAre.length (by k_extra "ints")]; k_extra "pre0")
  k_with "iop" => (first | exact .add | exact .sub | exact .mul (by decide) | exact .fdiv (by decide) (by decide) | exact .mod (by decide))
  k_with "evV" => (first
    | ((with_reducible apply evV_name); (k_extra "R"); (k_extra "R"))
    | ((with_reducible apply evV_heap); (k_dflt (k_extra "evV")); (k_extra "A"); (k_dflt k_memK); (k_dflt k_memK))
    | ((with_reducible apply evV_act); (k_dflt (k_extra "evV")); (k_extra "A"); (k_dflt k_memK); (k_dflt k_memK))
    | ((with_reducible apply evV_place); (k_dflt (k_extra "evV")); (k_extra "A"); (k_dflt k_memK); (k_dflt k_memK)))
  k_with "cop" => (first | exact .lt | exact .le | exact .gt | exact .ge | exact .eq | exact .ne)
  k_with "evT" => (first
    | ((with_reducible apply evT_cmp); (k_dflt (k_extra "evI")); (k_dflt (k_extra "evI")); (k_dflt (k_extra "cop")); (k_extra "R"))
    | ((with_reducible apply evT_not); (k_dflt (k_extra "evT")))
    | ((with_reducible apply evT_and); (k_dflt (k_extra "evT")); (intro hp9; k_dflt (k_extra "evT")))
    | ((with_reducible apply evT_or); (k_dflt (k_extra "evT")); (intro hp9; k_dflt (k_extra "evT"))))
  k_with "exec If" => ((with_reducible apply x_ifH); (k_extra "A"); (k_extra "A"); (k_dflt (k_extra "evTH")); all_goals (k_whole; intro hp9 h9 tk9 F9 N9; (try k_sweep)))
  k_with "exec If" => ((with_reducible apply x_if); (k_extra "A"); (k_extra "A"); (k_dflt (k_extra "evT")); all_goals (k_whole; intro hp9 tk9))
  k_with "execs cons" => (with_reducible refine x_cons ?_)
  k_with "execs cons" => ((with_reducible apply x_setI); (k_extra "A"); (k_extra "A"); (k_dflt (k_extra "evI")); (k_dflt (k_extra "evV")); (k_dflt (k_extra "evI")); (k_dflt (k_extra "updF")); (k_dflt (k_extra "ints")); (k_dflt (k_extra "pre0")); (k_dflt (k_extra "pre0")); (k_dflt (k_extra "pre0")); (k_extra "F"); (k_whole); (intro t9 h9 tk9 F9 N9); (try k_sweep))
  k_with "execs cons" => ((with_reducible apply x_asgV); (k_extra "A"); (k_extra "A"); (k_dflt (k_extra "evV")); (k_extra "R"); (k_extra "F"); (k_whole); (intro h9 tk9 F9 N9); (try k_sweep))
  k_with "execs cons" => ((with_reducible apply x_asgI); (k_extra "A"); (k_extra "A"); (k_dflt (k_extra "evI")); (k_extra "R"); (k_extra "F"); (k_whole); (intro t9 h9 tk9 F9 N9); (try k_sweep))
  k_with "execs cons" => ((with_reducible apply x_retV); (k_extra "A"); (k_extra "A"); (k_dflt (k_extra "evV")); (k_whole); (intro tk9))
  k_with "execs cons" => ((with_reducible apply x_retI); (k_extra "A"); (k_extra "A"); (k_dflt (k_extra "evI")); (k_whole); (intro t9 tk9))
  k_with "execs cons" => ((with_reducible apply x_retC); (k_extra "A"); (k_extra "A"); (k_dflt (k_extra "evI")); (k_dflt (k_extra "evI")); (k_dflt (k_extra "cop")); (k_extra "R"); (k_whole); (intro b9 tk9 hb9))
  k_with "LEnd" => (with_reducible refine lEnd_ ?_; with_reducible first | (refine hret1 _ _ ?_) | (refine hbrk _ ?_) | (k_dflt (k_extra "wend")))
  k_with "eval Call Attribute" => ((with_reducible apply call_meth); (k_extra "A"); (k_extra "A"); (k_extra "mt"); (k_extra "F"); (k_dflt (k_extra "evV")); (k_extra "A"); (k_dflt k_memK); (k_dflt k_memK); (k_extra "R"); (k_dflt (k_extra "evL")); (k_whole); k_dflt (k_extra "args"))
  k_with "evL" => (first | exact .nil | ((with_reducible apply EvL.i); (k_dflt (k_extra "evI")); (k_extra "G"); (k_dflt (k_extra "evL"))) | ((with_reducible apply EvL.v); (k_dflt (k_extra "evV")); (k_extra "G"); (k_dflt (k_extra "evL"))))
  k_with "args" => (first | (refine argK0 ?_; intro tk9) | (refine argK1 ?_; intro t9 tk9) | (refine argK2 ?_; intro t9 t8 tk9) | (refine argKv ?_; intro tk9) | (refine argKvv ?_; intro tk9) | (refine argKvi ?_; intro t9 tk9) | (refine argKvii ?_; intro t9 t8 tk9) | (refine argKvvi ?_; intro t9 tk9) | (refine argKvvv ?_; intro tk9))
  k_with "mt" => (with_reducible first | exact mt_is_before | exact mt_put | exact mt_rise | exact mt_better_child | exact mt_sink | exact mt_push | exact mt_pop | exact mt_pop_best | exact mt_bump | exact mt_decay | exact mt_rescale | exact mt_rebuild | exact mt_grow | exact mt_many | exact mt_is_held | exact mt_size | exact mt_top)
  k_with "storeName" => ((with_reducible apply x_store); (k_extra "A"); (k_extra "A"); (k_extra "R"); (k_whole); (intro h9 tk9 F9 N9); (try k_sweep))
  k_with "call builtin:list.append" => ((with_reducible apply append_U); (k_extra "A"); (k_extra "A"); (k_dflt (k_extra "updF")); (k_dflt (rw [IntsAre.length (by k_extra "ints")]; k_extra "pre0")); (k_whole); (intro h9 tk9 F9 N9); (try k_sweep))
  k_with "call builtin:list.pop" => ((with_reducible apply pop_U); (k_extra "A"); (k_extra "A"); (k_dflt (k_extra "updF")); (k_dflt (k_extra "ints")); (k_dflt (k_extra "pre0")); (k_dflt (k_extra "pre0")); (k_whole); (intro t9 h9 tk9 F9 N9 ip9); (try k_sweep))
  k_with "eval Attribute Name" => ((with_reducible apply useV); (k_extra "A"); (k_extra "A"); (k_dflt (k_extra "evV")); (k_whole); (intro tk9))
  k_with "eval BinOp" => ((with_reducible apply useI); (k_extra "A"); (k_extra "A"); (k_dflt (k_extra "evI")); (k_whole); (intro t9 tk9))
  k_with "eval Subscript" => ((with_reducible apply useI); (k_extra "A"); (k_extra "A"); (k_dflt (k_extra "evI")); (k_whole); (intro t9 tk9))
  k_with "isTrue Compare" => ((with_reducible apply useT); (k_extra "A"); (k_extra "A"); (k_dflt (k_extra "evT")); all_goals (k_whole; intro hp9 tk9))
  k_with "execs nil" => (with_reducible refine wpAny_execs_nil ?_)
  k_with "SeqK" => (with_reducible first | refine seq_next ?_ | refine seq_ret ?_ | refine seq_brk ?_ | refine seq_cont ?_)
  k_with "updF" => (first | exact upH (by with_reducible assumption) | exact upP (by with_reducible assumption) | exact upA (by with_reducible assumption) | exact upD (by with_reducible assumption) | (refine' .tail ?_ ?_; (k_extra "k_ne"); (k_extra "updF")))
  k_with "room" => (exact room_le (by with_reducible assumption) rfl)
  k_with "hH" => (first | exact fun _ h => h | exact fun _ h => .tail _ h | exact fun _ h => .tail _ (.tail _ h) | exact fun _ h => .tail _ (.tail _ (.tail _ h)) | exact fun _ h => .tail _ (.tail _ (.tail _ (.tail _ h))))
  k_with "spl" => (first | exact spl_led | exact .keep (off5_all (by k_extra "off5")) (by k_extra "spl"))
  k_with "off5" => (k_extra "A")
  k_with "evIH" => ((with_reducible apply evIH_of); (k_dflt (k_extra "evI")))
  k_with "evTH" => ((with_reducible apply evTH_cmp); (k_dflt (k_extra "evIH")); (k_dflt (k_extra "evIH")); (k_dflt (k_extra "cop")); (k_extra "R"))
  k_with "evTH" => ((with_reducible apply evTH_or); (k_dflt (k_extra "evTH")); (intro hp9; k_dflt (k_extra "evTH")))
  k_with "evTH" => ((with_reducible apply evTH_and); (k_dflt (k_extra "evTH")); (intro hp9; k_dflt (k_extra "evTH")))
  k_with "evTH" => ((with_reducible apply evTH_not); (k_dflt (k_extra "evTH")))
  k_with "evTH" => ((with_reducible apply evTH_of); (k_dflt (k_extra "evT")))
  k_with "meq" => (first
    | exact MEq.rf
    | ((with_reducible apply MEq.l); (exact rfl); (k_extra "meq"))
    | ((with_reducible apply MEq.r); (exact rfl); (k_extra "meq"))
    | ((with_reducible apply MEq.n); (exact rfl); (k_extra "meq"))
    | ((with_reducible apply MEq.g); (exact rfl); (k_extra "meq")))
  k_with "openC" => (
    refine' ctr_introC ?mono ?ho ?hcd ?hb ?hkind ?c1 ?c2 ?c3 ?c4 ?c5 ?_;
    (case ho => (intro P; k_is)); (case hcd => (intro P; k_is)); (case hb => exact fun s => BindsTo.of_eq rfl); (case hkind => exact rfl); (case c1 => decide +kernel); (case c2 => exact fun _ => rfl); (case c3 => exact rfl); (case c4 => exact rfl); (case c5 => exact rfl); (case mono => k_extra "mono");
    intro G h gs dr tk0 os q oc B F X N d1 T l1 hD hU hret;
    (have hK := off5_lt l1); (have k1 := hK.1); (have k2 := hK.2.1); (have k3 := hK.2.2.1); (have k4 := hK.2.2.2.1); (have k5 := hK.2.2.2.2); clear l1;
    unfold led at N)
  k_with "evI" => ((with_reducible apply evI_cell); (k_extra "R"); (k_dflt k_memK); (k_extra "A"); (k_extra "R"))
  k_with "evV" => ((with_reducible apply evV_cell); (k_extra "R"); (k_dflt k_memK); (k_extra "A"); (k_extra "R"))
  k_with "setAttr ref" => (first
    | ((with_reducible apply set_step); (k_extra "A"); (k_extra "A"); (k_extra "A"); (k_dflt k_memK); (k_dflt k_memK); (k_dflt (k_extra "updF")); (k_whole); (intro h9 tk9 F9 N9); (try k_sweep))
    | ((with_reducible apply set_act); (k_extra "A"); (k_extra "A"); (k_extra "A"); (k_dflt k_memK); (k_dflt k_memK); (k_dflt (k_extra "updF")); (k_whole); (intro h9 tk9 F9 N9); (try k_sweep)))
  k_with "evI" => ((with_reducible apply evI_glob); (k_extra "A"); (exact topRead_of (by with_reducible assumption)); (with_reducible first | exact gl_first | exact gl_shrink); (k_extra "R"))
  k_with "execs cons" => ((with_reducible apply x_asgIC); (k_extra "A"); (k_extra "A"); (k_dflt (k_extra "evI")); (k_extra "R"); (k_dflt (k_extra "updC")); (k_extra "A"); (k_extra "R"); (k_extra "F"); (k_whole); (intro t9 h9 tk9 o9 F9 N9 d9); (try k_sweep))
  k_with "updC" => (exact upC (by with_reducible assumption))
  k_with "updF" => (first | exact upD1 (by with_reducible assumption) (by with_reducible assumption) | exact upA1 (by with_reducible assumption) (by with_reducible assumption))
  k_with "execs cons" => ((with_reducible apply x_setStep); (k_extra "A"); (k_extra "A"); (k_extra "A"); (k_dflt (k_extra "evI")); (k_dflt (k_extra "evV")); (k_dflt k_memK); (k_dflt k_memK); (k_dflt (k_extra "updF")); (k_extra "F"); (k_whole); (intro t9 h9 tk9 F9 N9); (try k_sweep))
  k_with "evT" => ((with_reducible apply evT_orc); (k_dflt (k_extra "evT")); (intro hp9; k_dflt (k_extra "evT")))
  k_with "evTH" => ((with_reducible apply evTH_orc); (k_dflt (k_extra "evTH")); (intro hp9; k_dflt (k_extra "evTH")))
  k_with "evT" => (first
    | ((with_reducible apply evT_or); (k_dflt (k_extra "evT")); (intro hp9; k_dflt (k_extra "evT"))))
  k_with "evTH" => ((with_reducible apply evTH_or); (k_dflt (k_extra "evTH")); (intro hp9; k_dflt (k_extra "evTH")))
  k_with "evTH" => ((with_reducible apply evTH_of); (k_dflt (k_extra "evT")))
  k_with "eval Call Name" => ((with_reducible apply call_fun); (k_extra "A"); (k_extra "A"); (k_extra "A"); (exact topRead_of (by with_reducible assumption)); (k_extra "fn"); (k_extra "R"); (k_extra "F"); (k_dflt (k_extra "evL")); (k_whole); k_dflt (k_extra "args"))
  k_with "fn" => (with_reducible first | exact fn_first | exact fn_in_order | exact fn_small | exact fn_bumped | exact fn_decayed | exact fn_same | exact fn_values | exact fn_best)
  k_with "hH" => k_allIn
  k_with "spl" => (first
    | exact .nil
    | (refine' .drop ?_ ?_; (first | exact .head _ | exact .tail _ (.head _) | exact .tail _ (.tail _ (.head _))); (k_extra "spl"))
    | (refine' .keep ?_ ?_; (k_extra "neall"); (k_extra "spl")))
  k_with "neall" => (first | exact List.forall_mem_nil _ | (refine List.forall_mem_cons.mpr ⟨?_, ?_⟩; (k_extra "k_ne"); (k_extra "neall")))
  k_with "args" => (refine argKv ?_; intro tk9)
  k_with "spl" => (exact spl2 (by with_reducible assumption) (by with_reducible assumption))
  k_with "evT" => ((with_reducible apply evT_chain); (k_dflt (k_extra "evI")); (k_dflt (k_extra "evI")); (k_dflt (k_extra "evI")); (k_dflt (k_extra "cop")); (k_dflt (k_extra "cop")); (k_extra "R"))
  k_with "evTH" => ((with_reducible apply evTH_minlt); (k_extra "R"); (k_extra "A"); (exact topRead_of (by with_reducible assumption)); (k_extra "R"); (k_dflt (k_extra "evV")); (k_dflt (k_extra "evI")); (k_extra "G"); (k_extra "F"); (k_dflt k_memK); (k_dflt (k_extra "ints")); (k_dflt (k_extra "pre0")); (k_dflt (k_extra "pre0")); (k_extra "R"))
  k_with "evTH" => ((with_reducible apply evTH_maxgt); (k_extra "R"); (k_extra "A"); (exact topRead_of (by with_reducible assumption)); (k_extra "R"); (k_dflt (k_extra "evV")); (k_dflt (k_extra "evI")); (k_extra "G"); (k_extra "F"); (k_dflt k_memK); (k_dflt (k_extra "ints")); (k_dflt (k_extra "pre0")); (k_dflt (k_extra "pre0")); (k_extra "R"))
  k_with "execs cons" => ((with_reducible apply x_copy); (k_extra "A"); (k_extra "A"); (k_extra "A"); (exact topRead_of (by with_reducible assumption)); (k_extra "R"); (k_extra "R"); (k_dflt (k_extra "evV")); (k_extra "G"); (k_extra "F"); (k_dflt k_memK); (k_dflt (k_extra "len9")); (k_extra "F"); (k_whole); (intro D9 c9 h9 tk9 f9 F9 N9); (try k_sweep); (k_extra "fresh"))
  k_with "fresh" => skip
  k_with "updF" => (exact upC (by with_reducible assumption))
  k_with "evBH" => ((with_reducible apply evBH_cmp); (k_dflt (k_extra "evIH")); (k_dflt (k_extra "evIH")); (k_dflt (k_extra "cop")); (k_extra "R"))
  k_with "evBH" => ((with_reducible apply evBH_andc); (k_dflt (k_extra "evBH")); (intro hp9; k_dflt (k_extra "evBH")))
  k_with "evBH" => ((with_reducible apply evBH_and); (k_dflt (k_extra "evBH")); (intro hp9; k_dflt (k_extra "evBH")))
  k_with "evBH" => ((with_reducible apply evBH_listeq); (k_dflt (k_extra "room")); (k_extra "A"); (exact topRead_of (by with_reducible assumption)); (k_extra "R"); (k_dflt (k_extra "evV")); (intro nw; k_dflt (k_extra "evV")); (k_extra "G"); (k_extra "F"); (k_dflt k_memK); (k_dflt k_memK); (k_dflt (k_extra "ints")); (k_dflt (k_extra "ints")); (k_dflt (k_extra "len9")); (k_extra "R"))
  k_with "evBH" => ((with_reducible apply evBH_small); (k_extra "A"); (k_extra "A"); (k_extra "A"); (k_dflt (k_extra "room")); (k_dflt (k_extra "room")); (k_extra "R"); (k_extra "R"); (k_dflt (k_extra "evV")); (k_dflt (k_extra "evI")); (k_dflt (k_extra "evV")); (k_dflt (k_extra "hH")); (k_dflt (k_extra "spl")); (k_extra "A"); (k_extra "off5"); (k_dflt (k_extra "ints")); (k_dflt (k_extra "ints")); (k_dflt (k_extra "pre0")); (k_dflt (k_extra "pre0")); (k_dflt (k_extra "pre0")); (k_dflt (k_extra "pre0")); (k_dflt (k_extra "pre0")); (k_dflt (k_extra "pre0")); (k_dflt (k_extra "pre0")); (k_extra "G"); (k_extra "G"); (k_extra "G"); (k_extra "F"))
  k_with "evTH" => ((with_reducible apply evTH_call); (k_dflt (k_extra "evBH")); (k_extra "F"))
  k_with "execs cons" => ((with_reducible apply x_retB); (k_extra "A"); (k_extra "A"); (k_dflt (k_extra "evBH")); (k_whole); (intro b9 h9 tk9 hb9 F9 N9); (try k_sweep))
  k_with "spl" => (exact spl6)
  k_with "evIH" => ((with_reducible apply evIH_first); (k_extra "A"); (k_extra "A"); (k_extra "A"); (k_dflt (k_extra "room")); (k_dflt (k_extra "room")); (k_extra "R"); (k_extra "R"); (k_dflt (k_extra "evV")); (k_dflt (k_extra "evV")); (k_dflt k_memK); (k_dflt k_memK); (k_dflt (k_extra "spl")); (k_dflt (k_extra "ints")); (k_dflt (k_extra "ints")); (k_dflt (k_extra "pre0")); (k_dflt (k_extra "pre0")); (k_extra "G"); (k_extra "G"); (k_extra "F"))
  k_with "evI" => ((with_reducible apply evI_name); (first | with_reducible assumption | k_dflt (first | exact rfl | exact dD | exact dL | exact dM | exact dV | exact dR)); (k_extra "R"))
  k_with "evV" => ((with_reducible apply evV_name); (first | with_reducible assumption | k_dflt (first | exact rfl | exact dH)); (k_extra "R"))
  k_with "spl" => (exact splT hI.fi hf.fl hf.fq hf.fb hf.fh)
  k_with "hH" => (exact fun _ h => .tail _ (.tail _ (.tail _ (.tail _ (.tail _ h)))))
  k_with "ite" => (first | (with_reducible refine ite_t (by first | omega | (simp only [decide_eq_true_eq, beq_iff_eq, bne_iff_ne, ne_eq]; omega)) ?_) | (with_reducible refine ite_f (by first | omega | (simp only [decide_eq_true_eq, beq_iff_eq, bne_iff_ne, ne_eq]; omega)) ?_) | fail "open")
  k_with "call ref" => ((with_reducible show wpAny _ _ (call (Value.ref 106) _) _ _ _); k_dflt (refine' ctr_use (c_pop ?za0 ?za1 ?za2 ?za3 ?za4 ?za5 ?za6 ?za7) G ?zF ?zN ?zB ?zX ?zT ?zk ?zH ?zR ?zd ?zu ?_; (case zF => assumption); (case zN => assumption); (case zH => k_extra "hH"); (case zR => k_extra "spl"); (case za0 => with_reducible assumption); (case za1 => k_extra "ints"); (case za2 => k_extra "ints"); (case za3 => k_extra "ints"); (case za4 => k_extra "pre0"); (case za5 => k_extra "pre0"); (case za6 => k_extra "pre0"); (case za7 => k_extra "pre0"); (case zB => assumption); (case zX => assumption); (case zT => assumption); (case zk => exact rfl); (case zd => k_extra "room"); (case zu => k_extra "room"); k_whole; intro t8 vh9 vp9 nh9 hp9' pl9 ih9 ip9 cs9 or9 sh9 h9 tk9 F9 N9 ap9; (try dsimp only [led, List.cons_append, List.nil_append] at N9); clear ap9; (try k_sweep)))
  trivial
section
variable {l D2 cB cH o dx la lh lp lq IC CC DC : Addr} {x1 x2 x3 x4 x5 y2 y3 y4 y5 z1 z2 z3 d : Obj} {tp : Led}
theorem off3_mem {R : Led} {q : Addr × Obj} (h : LCg.Off3 IC CC DC R) (m : q ∈ R) : @Ne Nat IC q.1 ∧ @Ne Nat CC q.1 ∧ @Ne Nat DC q.1 := by
  obtain ⟨a, b, c⟩ := LCg.Off3.mem h q m
  exact ⟨Ne.symm a, Ne.symm b, Ne.symm c⟩
theorem splE (off : LCg.Off3 IC CC DC ((D2, d) :: (l, y2) :: (lq, y3) :: (cB, y4) :: (cH, y5) :: (o, x1) :: (dx, x2) :: (la, x3) :: (lh, x4) :: (lp, x5) :: tp)) (k : Off5 D2 o dx la lh lp) (h2 : Off5 l o dx la lh lp) (h3 : Off5 lq o dx la lh lp) (h4 : Off5 cB o dx la lh lp) (h5 : Off5 cH o dx la lh lp) (ht : ∀ q ∈ tp, ∀ b ∈ [o, dx, la, lh, lp], @Ne Nat q.1 b) :
    Spl [o, dx, la, lh, lp] ((IC, z1) :: (CC, z2) :: (DC, z3) :: (D2, d) :: (l, y2) :: (lq, y3) :: (cB, y4) :: (cH, y5) :: (o, x1) :: (dx, x2) :: (la, x3) :: (lh, x4) :: (lp, x5) :: tp) ((IC, z1) :: (CC, z2) :: (DC, z3) :: (D2, d) :: (l, y2) :: (lq, y3) :: (cB, y4) :: (cH, y5) :: tp) :=
  have m1 := off3_mem off (q := (o, x1)) (.tail _ (.tail _ (.tail _ (.tail _ (.tail _ (.head _))))))
  have m2 := off3_mem off (q := (dx, x2)) (.tail _ (.tail _ (.tail _ (.tail _ (.tail _ (.tail _ (.head _)))))))
  have m3 := off3_mem off (q := (la, x3)) (.tail _ (.tail _ (.tail _ (.tail _ (.tail _ (.tail _ (.tail _ (.head _))))))))
  have m4 := off3_mem off (q := (lh, x4)) (.tail _ (.tail _ (.tail _ (.tail _ (.tail _ (.tail _ (.tail _ (.tail _ (.head _)))))))))
  have m5 := off3_mem off (q := (lp, x5)) (.tail _ (.tail _ (.tail _ (.tail _ (.tail _ (.tail _ (.tail _ (.tail _ (.tail _ (.head _))))))))))
  .keep (all5 m1.1 m2.1 m3.1 m4.1 m5.1) (.keep (all5 m1.2.1 m2.2.1 m3.2.1 m4.2.1 m5.2.1) (.keep (all5 m1.2.2 m2.2.2 m3.2.2 m4.2.2 m5.2.2) (.keep (off5_all k) (.keep (off5_all h2) (.keep (off5_all h3) (.keep (off5_all h4) (.keep (off5_all h5)
    (.drop (.head _) (.drop (.tail _ (.head _)) (.drop (.tail _ (.tail _ (.head _))) (.drop (.tail _ (.tail _ (.tail _ (.head _)))) (.drop (.tail _ (.tail _ (.tail _ (.tail _ (.head _))))) (spl_tail ht)))))))))))))
theorem subE : ∀ p ∈ (IC, z1) :: (CC, z2) :: (DC, z3) :: (D2, d) :: (l, y2) :: (lq, y3) :: (cB, y4) :: (cH, y5) :: (o, x1) :: (dx, x2) :: (la, x3) :: (lh, x4) :: (lp, x5) :: tp, p ∈ (IC, z1) :: (CC, z2) :: (DC, z3) :: (D2, d) :: (l, y2) :: (lq, y3) :: (cB, y4) :: (cH, y5) :: (tp ++ [(o, x1), (dx, x2), (la, x3), (lh, x4), (lp, x5)]) := by
  intro p hp
  simp only [List.mem_cons, List.mem_append, List.not_mem_nil, or_false] at hp ⊢
  rcases hp with h | h | h | h | h | h | h | h | h | h | h | h | h | h <;> simp only [h, true_or, or_true]
end
section
variable {f : Addr} {cd : Value} {G : GC} {m : Str → Option Value} {Q : Flow → Shared → Prop} {l : Addr} {ws : List Value} {oH : Obj} {o dx lh lp : Addr} {t1 t2 t3 t4 t5 tl : Tok} {limit : Int} {h : Heap} {gs : Array GenState} {dr : Drawn} {tk0 : Nat} {os : OsState}
set_option maxHeartbeats 8000000 in
theorem law_end (B : Below G.A₀ G.base G.outer G.h₀) (X : (K39 G.w.params).In G.h₀) (T : Top G.p G.loose G.mean G.mg G.mb G.h₀) (hD : G.dp + 40 < recursionLimit) (hU : G.un + 300 < cLine) (hoH : oH.data = .cell (some (.ref o)))
    (c : LS) (hf : LF l (G.L + 1 + 1) (G.L + 1) o dx lh lp limit c) (hm : LM limit tl c m) (F : Fr G.h₀ G.L h m) (N : News G.h₀ G.L h (lawLed G.w.params l (G.L + 1 + 1) (G.L + 1) ws oH o dx lh lp t1 t2 t3 t4 t5 tl limit c))
    (K : ∀ m' h' tk', Fr G.h₀ G.L h' m' → Q (.ret (.bool true)) ⟨h', gs, dr, tk', os⟩) :
    wpAny (gM G) (ktrTop G.dp G.un G.gd "law" lawScope G.L f cd (lawCl G.L) G.outer) (execs lawRest (envX "law" lawScope G.L f cd (lawCl G.L))) (LEnd Q) NoE ⟨h, gs, dr, tk0, os⟩ := by
  obtain ⟨S, hS⟩ : ∃ S, S = lawScope := ⟨_, rfl⟩
  rw [← hS]
  conv at hS => rhs; whnf
  subst hS
  conv in lawRest => whnf
  unfold lawLed led at N
  have dM := hm.many
  have dH := hm.held
  have dD := hm.dec
  have dL := hm.lim
  have o5 := hf.o5
  have ia := hf.ia
  have ih := hf.ih
  have ip := hf.ip
  have iq := hf.iq
  have hcons := hf.inv.cons
  have hlen := hf.inv.len
  have hn9 := hf.inv.n9
  have hord := hf.inv.ord
  have hrg := heldL_rng (pl := c.pl) hlen
  have hl9 := heldL_len9 hcons hn9
  k_with "eval Name" => ((with_reducible apply useV); (k_extra "A"); (k_extra "A"); (k_dflt (k_extra "evV")); (k_whole); (intro tk9))
  k_with "eval Name" => ((with_reducible apply useI); (k_extra "A"); (k_extra "A"); (k_dflt (exact evI_name dM rfl)); (k_whole); (intro t9 tk9))
  k_with "eval ListComp" => (k_dflt (first
    | ((with_reducible show wpAny _ _ (eval (PySem.Expr.ListComp _ [⟨PySem.Expr.Name _ _, _, _, _⟩] _ _) _) _ _ _); refine LCg.ListComp_U (F₀ := by k_asm) (by with_unfolding_all rfl) (by decide) (by rfl) (by decide) (by rfl) ?_)
    | ((with_reducible show wpAny _ _ (eval (PySem.Expr.ListComp _ [⟨PySem.Expr.Tuple _ _ _, _, _, _⟩] _ _) _) _ _ _); refine LCp.ListComp_P (F₀ := by k_asm) (by with_unfolding_all rfl) (by decide) (by rfl) (by decide) (by rfl) (by rfl) (by decide) ?_)))
  k_with "CompSrc" => (k_dflt (
    (with_reducible show LCg.CompSrc _ _ _ _ _ _ _ (PySem.Expr.Tuple _ _ _) _ _ _ _ _ _);
    (rename Fr _ _ _ _ => lF); (rename News _ _ _ _ => lN);
    refine LCg.CompSrc.ledger (its := c.vq.toArray) (k := c.nq) (by rfl) lF lN (by k_memK) (by (rw [List.size_toArray]; exact ints_small iq (by omega))) ?_;
    clear lF lN;
    intro gC;
    refine' comp1_rest [o, dx, c.la, lh, lp] (fun k => -c.act.getD k.toNat 0) (lawLed G.w.params l (G.L + 1 + 1) (G.L + 1) ws oH o dx lh lp t1 t2 t3 t4 t5 tl limit c) iq ?_ ?_;
    intro kC tC IC oIC CC oC DC m2 ys tp hC tkC E9 hk hNs hx F2 N2 off0 ne9;
    (have hk9 := hrg kC hk);
    unfold lawLed led at N2; simp only [List.cons_append, List.nil_append] at N2;
    (show wpAny _ _ _ _ _ _);
    rotate_left;
    intro ysT tpT tUT; rotate_right))
  k_with "CompEnd" => (k_dflt (
    (rename Fr _ _ _ _ => lF); (rename News _ _ _ _ => lN); (rename LT.lt _ _ ∧ _ => l8);
    obtain ⟨p1, p2, p3, _, _, _, _, q1, q2, q3, q4, q5, _⟩ := l8;
    exact LCg.CompEnd.intro lF lN (lawLed G.w.params l (G.L + 1 + 1) (G.L + 1) ws oH o dx lh lp t1 t2 t3 t4 t5 tl limit c ++ (tp ++ [_])) (List.forall_mem_cons.mpr ⟨by k_memK, List.forall_mem_cons.mpr ⟨by k_memK, List.forall_mem_cons.mpr ⟨by k_memK, in_app (by unfold lawLed led; k_allIn) (fun p hp => by simp only [List.mem_cons, hp, or_true]) (List.Mem.head _)⟩⟩⟩) (off3_snoc off0 (Nat.ne_of_gt p1) (Nat.ne_of_gt p2) (Nat.ne_of_gt p3)) (Or.inr ⟨_, List.mem_append_left _ (.tail _ (.head _)), rfl, _, rfl⟩) ⟨_, _, _, rfl, rfl, off5_all ⟨Nat.ne_of_gt q1, Nat.ne_of_gt q2, Nat.ne_of_gt q3, Nat.ne_of_gt q4, Nat.ne_of_gt q5⟩⟩))
  k_with "call builtin:sorted" => (
    (with_reducible show wpAny _ _ (call (Value.builtin _) [Value.ref _]) _ _ _); k_dflt (
    (rename Fr _ _ _ _ => lF); (rename News _ _ _ _ => lN);
    (have tL := tUT.len); (have tO := tUT.off); (rw [List.length_map] at tL);
    refine' sorted_tups lF lN ⟨_, (lN _ (List.Mem.head _)).1, rfl, _, rfl⟩ tUT (fun q hq => List.Mem.tail _ (List.mem_append_right _ hq)) (by omega) rank (rank_lex (fun v hv => by have := heldL_rng1 v hv; omega)) (rank_inj (fun v hv => by have := heldL_rng1 v hv; omega) (heldL_nodup _ _)) ?_;
    intro D2 c2 h2 ys2 ps2 F2 N2 l2 tU2 hp2 hs2;
    clear lF lN;
    (have k2 := off5_new fun q hq => l2 q (.tail _ (List.mem_append_left _ (.tail _ (.tail _ (.tail _ (.tail _ hq)))))));
    clear l2;
    (try k_sweep)))
  k_with "exec Assign cons ListComp" => (k_dflt (refine LCg.Assign_ListComp_U (F₀ := by k_asm) (by rfl) (by with_unfolding_all rfl) (by rfl) (by decide) (by rfl) (by decide) (by rfl) (by rfl) (by rfl) ?_))
  k_with "spl" => (exact splE off0 k2 hf.fl hf.fq hf.fb hf.fh tO)
  k_with "CompSrc" => (k_dflt (
    (with_reducible show LCg.CompSrc _ _ _ _ _ _ _ (PySem.Expr.Call _ _ _ _) _ _ _ _ _ _);
    (rename Fr _ _ _ _ => lF); (rename News _ _ _ _ => lN); (rename IsRange _ _ _ _ _ _ _ _ => rgX);
    refine LCg.CompSrc.range (news := (D2, seqObj "list" ys2.toArray c2) :: (lawLed G.w.params l (G.L + 1 + 1) (G.L + 1) ws oH o dx lh lp t1 t2 t3 t4 t5 tl limit c ++ tpT)) (by rfl) lF (news_sub lN fun p hp => (List.mem_cons.mp hp).elim (fun h => h ▸ .head _) fun h => .tail _ (.tail _ h)) rgX (small_one (by omega) (by omega) (by omega) (by omega)) (rangeSize_nat _ _) (by (rw [PySem.sizeLine_eq]; omega)) ?_;
    clear lF lN rgX;
    intro gC;
    refine' comp2_rest (σ := List Value × List Value × Nat × List Int × List Int) (fun e => (D2, seqObj "list" ys2.toArray c2) :: (lawLed G.w.params l (G.L + 1 + 1) (G.L + 1) ws oH o dx lh lp t1 t2 t3 t4 t5 tl limit ⟨c.n, c.tn, c.la, c.step, c.ts, c.va, e.1, e.2.1, c.na, e.2.2.1, c.np, c.act, e.2.2.2.1, e.2.2.2.2, c.lq, c.vq, c.nq, c.dec, c.td, c.cb⟩ ++ tpT)) (fun i done e => PopI c.n c.act (heldL c.n c.pl) i done e.2.2.2.1 e.2.2.2.2 ∧ IntsAre e.1 e.2.2.2.1 ∧ IntsAre e.2.1 e.2.2.2.2) (c.vh, c.vp, c.nh, c.hp, c.pl) ⟨PopI.start hcons hord, ih, ip⟩ ?_ ?_;
    rintro iC ⟨vhA, vpA, nhA, hpA, plA⟩ doneA vC IC oIC CC oC DC m2 ysA hC tkC E9 hiA ⟨hPA, ihA, ipA⟩ hyA hNs hx F2 N2 off0 ne9;
    dsimp only at hPA ihA ipA N2 off0;
    (have hcA := hPA.cons); (have hoA := hPA.ord);
    unfold lawLed led at N2; simp only [List.cons_append, List.nil_append] at N2;
    (show wpAny _ _ _ _ _ _);
    rotate_left;
    rintro ⟨vhB, vpB, nhB, hpB, plB⟩ doneB ysB ⟨hPB, ihB, ipB⟩ hyB;
    dsimp only at hPB ihB ipB;
    (rw [show ((↑(heldL c.n c.pl).length : Int) + 1 - 0).toNat = (heldL c.n c.pl).length + 1 by omega] at hPB);
    obtain ⟨hdB, hzB⟩ := pop_fin hn9 hPB hp2 hs2;
    subst hdB;
    (have hcB := hPB.cons); (have hoB := hPB.ord);
    (unfold LCg.FinA); intro D3 h3 tk3 F3 N3 o3; clear o3; (replace F3 : Fr G.h₀ G.L h3 (upd (upd m "order" (some (.ref D2))) "came" (some (.ref D3))) := F3);
    (try dsimp only);
    rotate_right))
  k_with "CompEnd" => (k_dflt (exact LCg.CompEnd.intro F9 N9 ((D2, seqObj "list" ys2.toArray c2) :: (lawLed G.w.params l (G.L + 1 + 1) (G.L + 1) ws oH o dx lh lp t1 t2 t3 t4 t5 tl limit ⟨c.n, c.tn, c.la, c.step, c.ts, c.va, vh9, vp9, c.na, nh9, c.np, c.act, hp9', pl9, c.lq, c.vq, c.nq, c.dec, c.td, c.cb⟩ ++ tpT)) subE (off3_congr off0 rfl) trivial ⟨(vh9, vp9, nh9, hp9', pl9), _, _, rfl, rfl, hPA.step cs9 or9 sh9, ih9, ip9⟩))
  k_with "SrcLP" => (k_dflt (
    refine LCp.SrcLP.ledger (its := ys2.toArray) (k := c2) (news := (D3, LCg.lst ysB) :: (D2, seqObj "list" ys2.toArray c2) :: (lawLed G.w.params l (G.L + 1 + 1) (G.L + 1) ws oH o dx lh lp t1 t2 t3 t4 t5 tl limit ⟨c.n, c.tn, c.la, c.step, c.ts, c.va, vhB, vpB, c.na, nhB, c.np, c.act, hpB, plB, c.lq, c.vq, c.nq, c.dec, c.td, c.cb⟩ ++ tpT)) (by rfl) F3 N3 (List.Mem.tail _ (List.Mem.head _)) (by (rw [List.size_toArray, PySem.sizeLine_eq]; (have q9 := tU2.len); (have q8 := hp2.length_eq); (rw [List.length_map] at q8); omega)) ?_;
    intro gP;
    refine' comp3_rest tU2 (fun q hq => List.Mem.tail _ (List.Mem.tail _ (List.mem_append_right _ hq))) ?_ ?_;
    rintro pP tP uP IC oIC CC oC DC m2 ysP hC tkC E9 hNs hx hx2 F2 N2 off0 ne9;
    (show wpAny _ _ _ _ _ _);
    rotate_left;
    intro ysQ hyQ;
    (unfold LCg.FinE); intro D4 h4 tk4 F4 N4 o4;
    (replace N4 := news_sub (news := (D4, LCg.lst ysQ) :: (D3, LCg.lst ysB) :: lawLed G.w.params l (G.L + 1 + 1) (G.L + 1) ws oH o dx lh lp t1 t2 t3 t4 t5 tl limit ⟨c.n, c.tn, c.la, c.step, c.ts, c.va, vhB, vpB, c.na, nhB, c.np, c.act, hpB, plB, c.lq, c.vq, c.nq, c.dec, c.td, c.cb⟩) N4 (List.forall_mem_cons.mpr ⟨List.Mem.head _, List.forall_mem_cons.mpr ⟨List.Mem.tail _ (List.Mem.head _), fun p hp => List.Mem.tail _ (List.Mem.tail _ (List.Mem.tail _ (List.mem_append_left _ hp)))⟩⟩));
    unfold lawLed led at N4; dsimp only at N4; clear o4;
    (try dsimp only);
    rotate_right))
  k_with "CompEnd" => (k_dflt ((rename Fr _ _ _ _ => lF); (rename News _ _ _ _ => lN); exact LCg.CompEnd.intro lF lN _ (fun p hp => hp) off0 (Or.inr ⟨_, List.Mem.tail _ (List.Mem.head _), rfl, _, rfl⟩) ⟨rfl, _, rfl⟩))
  k_with "binaryOp Add ref ref" => ((with_reducible show wpAny _ _ (binaryOp _ (Value.ref _) (Value.ref _)) _ _ _); k_dflt (
    (rename Fr _ _ _ _ => lF); (rename News _ _ _ _ => lN);
    refine' kmk_add_ints lF lN (News.isList lN (.tail _ (.head _))) (News.isList lN (.head _)) hyQ (.cons _ _ .nil) ?_ ?zz; (case zz => (rw [PySem.sizeLine_eq]; (have q8 := hp2.length_eq); (rw [List.length_map] at q8); (simp only [List.length_cons, List.length_nil, List.length_map]); omega)); k_whole; clear lF lN; intro D8 ws8 h8 F8 N8 l8 hi8; (try k_sweep)))
  k_with "compareOp Eq ref ref" => ((with_reducible show wpAny _ _ (compareOp _ (Value.ref _) (Value.ref _)) _ _ _); k_dflt (refine ke_eq_ints (News.isList N8 (.tail _ (.tail _ (.tail _ (.head _))))) (News.isList N8 (.head _)) hyB hi8 (by k_extra "room") ?_; (rw [decide_eq_true rfl])))
  k_with "ite" => (with_reducible refine ite_t rfl ?_)
  k_with "call ref" => ((with_reducible show wpAny _ _ (call (Value.ref 219) _) _ _ _); k_dflt (
    (rename Fr _ _ _ _ => lF); (rename News _ _ _ _ => lN); (rename LT.lt _ _ ∧ _ => l7);
    obtain ⟨_, _, _, _, _, _, _, _, q1, q2, q3, q4, q5⟩ := l7;
    refine ctr_use0 (c_same (vq := []) (nq := 0) (t1 := t1) (t2 := t2) (t3 := t3) (t4 := t4) (t5 := t5) (tl := tl) (ts := c.ts) (limit := limit) (step := c.step) (na := c.na) (nh := nhB) (np := c.np) o5 ⟨Nat.ne_of_gt q1, Nat.ne_of_gt q2, Nat.ne_of_gt q3, Nat.ne_of_gt q4, Nat.ne_of_gt q5⟩ ia ihB ipB (by rw [hzB]; exact .nil) hcB hlen hn9 hoB) G lF (news_sub lN ?zn) B X T rfl (by k_extra "room") (by k_extra "room") ?_;
    (case zn => (unfold led; k_allIn));
    k_whole; clear lF lN; intro h9 tk9 F9 _ _))
  k_with "LEnd" => (exact lEnd_ (K _ _ _ F9))
  k_extra "steps"
end
section
variable {P : Params} {I l cB cH o dx lh lp : Addr} {ws : List Value} {oH : Obj} {t1 t2 t3 t4 t5 tl : Tok} {limit : Int} {c : LS}
theorem law_sep (h : LI I o dx lh lp c) (h1 : @Ne Nat I l) (h2 : @Ne Nat I cB) (h3 : @Ne Nat I cH) : ∀ p ∈ lawLed P l cB cH ws oH o dx lh lp t1 t2 t3 t4 t5 tl limit c, @Ne Nat I p.1 :=
  List.forall_mem_cons.mpr ⟨h1, List.forall_mem_cons.mpr ⟨h.iq, List.forall_mem_cons.mpr ⟨h2, List.forall_mem_cons.mpr ⟨h3, List.forall_mem_cons.mpr ⟨h.fi.1, List.forall_mem_cons.mpr ⟨h.fi.2.1, List.forall_mem_cons.mpr ⟨h.fi.2.2.1, List.forall_mem_cons.mpr ⟨h.fi.2.2.2.1, List.forall_mem_cons.mpr ⟨h.fi.2.2.2.2, List.forall_mem_nil _⟩⟩⟩⟩⟩⟩⟩⟩⟩
theorem li_of_sep (h : ∀ p ∈ lawLed P l cB cH ws oH o dx lh lp t1 t2 t3 t4 t5 tl limit c, @Ne Nat I p.1) : LI I o dx lh lp c ∧ @Ne Nat I l ∧ @Ne Nat I cB ∧ @Ne Nat I cH :=
  have h1 := (List.forall_mem_cons.mp h)
  have h2 := (List.forall_mem_cons.mp h1.2)
  have h3 := (List.forall_mem_cons.mp h2.2)
  have h4 := (List.forall_mem_cons.mp h3.2)
  have h5 := (List.forall_mem_cons.mp h4.2)
  have h6 := (List.forall_mem_cons.mp h5.2)
  have h7 := (List.forall_mem_cons.mp h6.2)
  have h8 := (List.forall_mem_cons.mp h7.2)
  have h9 := (List.forall_mem_cons.mp h8.2)
  ⟨⟨⟨h5.1, h6.1, h7.1, h8.1, h9.1⟩, h2.1⟩, h1.1, h3.1, h4.1⟩
end
section
variable {f : Addr} {cd : Value} {G : GC} {m : Str → Option Value} {Q : Flow → Shared → Prop} {l : Addr} {ws : List Value} {sn : List Int} {oH : Obj} {o dx lh lp : Addr} {t1 t2 t3 t4 t5 tl : Tok} {limit : Int} {h : Heap} {gs : Array GenState} {dr : Drawn} {tk0 : Nat} {os : OsState}
theorem law_loop (B : Below G.A₀ G.base G.outer G.h₀) (X : (K39 G.w.params).In G.h₀) (T : Top G.p G.loose G.mean G.mg G.mb G.h₀) (hD : G.dp + 40 < recursionLimit) (hU : G.un + 300 < cLine) (hoH : oH.data = .cell (some (.ref o))) (hlim1 : 1500 ≤ limit) (hlim2 : limit ≤ 5000000)
    (hi : IntsAre ws sn) (lb : @Ne Nat l (G.L + 1 + 1)) (lh' : @Ne Nat l (G.L + 1))
    (c : LS) (hf : LF l (G.L + 1 + 1) (G.L + 1) o dx lh lp limit c) (hm : LM limit tl c m) (F : Fr G.h₀ G.L h m) (N : News G.h₀ G.L h (lawLed G.w.params l (G.L + 1 + 1) (G.L + 1) ws oH o dx lh lp t1 t2 t3 t4 t5 tl limit c))
    (K : ∀ m' h' tk', Fr G.h₀ G.L h' m' → Q (.ret (.bool true)) ⟨h', gs, dr, tk', os⟩) :
    wpAny (gM G) (ktrTop G.dp G.un G.gd "law" lawScope G.L f cd (lawCl G.L) G.outer) (pyIter (.ref l)) (fun it s₂ => LoopAtV G.prog G.w (ktrTop G.dp G.un G.gd "law" lawScope G.L f cd (lawCl G.L) G.outer) G.h₀ (envX "law" lawScope G.L f cd (lawCl G.L)) "number" lawLoopBody
      (SeqK (gM G) (ktrTop G.dp G.un G.gd "law" lawScope G.L f cd (lawCl G.L) G.outer) lawRest (envX "law" lawScope G.L f cd (lawCl G.L)) (LEnd Q) NoE) NoE it s₂) NoE ⟨h, gs, dr, tk0, os⟩ := by
  refine forL (σ := LS × (Str → Option Value)) (vs := ws) (ns := sn) (nn := 0) (fun c => lawLed G.w.params l (G.L + 1 + 1) (G.L + 1) ws oH o dx lh lp t1 t2 t3 t4 t5 tl limit c.1) (fun c => c.2) (fun _ c => LF l (G.L + 1 + 1) (G.L + 1) o dx lh lp limit c.1 ∧ LM limit tl c.1 c.2) (c, m) F N .rf ⟨hf, hm⟩ (fun _ => .head _) hi rfl ?_ ?_
  · intro c1 pre post k t h1 tk1 I oI q _ hsep hP F1 N1 hnext _ _
    obtain ⟨a1, a2, a3, a4⟩ := li_of_sep hsep
    exact law_turn B X T hD hU hoH hlim1 hlim2 c1.1 hP.1 a1 ⟨a3, lb, a4, lh', Nat.succ_ne_self _⟩ hP.2 F1 N1 fun c' m' h' tk' b1 b2 b3 _ F' N' => hnext (c', m') m' h' tk' ⟨b1, b3⟩ .rf (law_sep b2 a2 a3 a4) F' N'
  · intro c1 u h1 tk1 hP F1 N1
    exact seq_next (law_end (m := upd c1.2 "number" u) B X T hD hU hoH c1.1 hP.1 ⟨hP.2.many, hP.2.held, hP.2.dec, hP.2.lim⟩ F1 N1 K)
end
example : True := by
  k_with_none
  k_with "A" => (with_reducible assumption)
  k_with "R" => (k_dflt (exact rfl))
  k_with "F" => (k_dflt (exact fun _ => rfl))
  k_with "G" => (k_dflt (exact fun _ _ => rfl))
  k_with "steps" => (repeat' (first | walk1 | (dsimp only; walk1) | fail "no step"))
  k_with "k_ne" => (first | (k_extra "A") | (refine Ne.symm ?_; with_reducible assumption))
  k_with "ints" => (first | with_reducible assumption | exact ints_set (by k_extra "ints") _ | exact ints_app1 (by k_extra "ints") _ _ | fail "no ints")
  k_with "pre0" => (first | with_reducible assumption | (with_reducible exact le_w (by assumption) rfl) | (with_reducible exact le_we (by assumption) (by assumption) rfl) | (with_reducible exact lt_we (by assumption) (by assumption)) | omega | (simp only [List.length_set, List.length_append, List.length_cons, List.length_nil, List.length_map]; omega) | k_extra "pre")
  k_with "evI" => (first
    | ((with_reducible apply evI_name); (k_extra "R"); (k_extra "R"))
    | (with_reducible exact evI_const)
    | ((with_reducible apply evI_neg); (k_dflt (k_extra "evI")))
    | ((with_reducible apply evI_op); (k_dflt (k_extra "evI")); (k_dflt (k_extra "evI")); (k_dflt (k_extra "iop")))
    | ((with_reducible apply evI_sub); (k_dflt (k_extra "evV")); (k_dflt (k_extra "evI")); (k_dflt k_memK); (k_dflt (k_extra "ints")); (k_dflt (k_extra "pre0")); (k_dflt (k_extra "pre0")); (k_dflt (k_extra "pre0")); (k_extra "F"))
    | ((with_reducible apply evI_limit); (k_dflt (k_extra "evV")); (k_extra "A"); (k_dflt k_memK); (k_dflt k_memK))
    | ((with_reducible apply evI_step); (k_dflt (k_extra "evV")); (k_extra "A"); (k_dflt k_memK); (k_dflt k_memK))
    | ((with_reducible apply evI_len); (k_extra "A"); (exact topRead_of (by with_reducible assumption)); (k_extra "R"); (k_dflt (k_extra "evV")); (k_extra "G"); (k_extra "F"); (k_dflt k_memK); (k_dflt (exact len_cast (by k_extra "ints"))); (k_dflt (k_extra "len9"))))
  k_with "len9" => (rw [IntsAre.length (by k_extra "ints")]; k_extra "pre0")
  k_with "iop" => (first | exact .add | exact .sub | exact .mul (by decide) | exact .fdiv (by decide) (by decide) | exact .mod (by decide))
  k_with "evV" => (first
    | ((with_reducible apply evV_name); (k_extra "R"); (k_extra "R"))
    | ((with_reducible apply evV_heap); (k_dflt (k_extra "evV")); (k_extra "A"); (k_dflt k_memK); (k_dflt k_memK))
    | ((with_reducible apply evV_act); (k_dflt (k_extra "evV")); (k_extra "A"); (k_dflt k_memK); (k_dflt k_memK))
    | ((with_reducible apply evV_place); (k_dflt (k_extra "evV")); (k_extra "A"); (k_dflt k_memK); (k_dflt k_memK)))
  k_with "cop" => (first | exact .lt | exact .le | exact .gt | exact .ge | exact .eq | exact .ne)
  k_with "evT" => (first
    | ((with_reducible apply evT_cmp); (k_dflt (k_extra "evI")); (k_dflt (k_extra "evI")); (k_dflt (k_extra "cop")); (k_extra "R"))
    | ((with_reducible apply evT_not); (k_dflt (k_extra "evT")))
    | ((with_reducible apply evT_and); (k_dflt (k_extra "evT")); (intro hp9; k_dflt (k_extra "evT")))
    | ((with_reducible apply evT_or); (k_dflt (k_extra "evT")); (intro hp9; k_dflt (k_extra "evT"))))
  k_with "execs cons" => (with_reducible refine x_cons ?_)
  k_with "eval Call Attribute" => ((with_reducible apply call_meth); (k_extra "A"); (k_extra "A"); (k_extra "mt"); (k_extra "F"); (k_dflt (k_extra "evV")); (k_extra "A"); (k_dflt k_memK); (k_dflt k_memK); (k_extra "R"); (k_dflt (k_extra "evL")); (k_whole); k_dflt (k_extra "args"))
  k_with "evL" => (first | exact .nil | ((with_reducible apply EvL.i); (k_dflt (k_extra "evI")); (k_extra "G"); (k_dflt (k_extra "evL"))) | ((with_reducible apply EvL.v); (k_dflt (k_extra "evV")); (k_extra "G"); (k_dflt (k_extra "evL"))))
  k_with "args" => (first | (refine argK0 ?_; intro tk9) | (refine argK1 ?_; intro t9 tk9) | (refine argK2 ?_; intro t9 t8 tk9) | (refine argKv ?_; intro tk9) | (refine argKvv ?_; intro tk9) | (refine argKvi ?_; intro t9 tk9) | (refine argKvii ?_; intro t9 t8 tk9) | (refine argKvvi ?_; intro t9 tk9) | (refine argKvvv ?_; intro tk9))
  k_with "mt" => (with_reducible first | exact mt_is_before | exact mt_put | exact mt_rise | exact mt_better_child | exact mt_sink | exact mt_push | exact mt_pop | exact mt_pop_best | exact mt_bump | exact mt_decay | exact mt_rescale | exact mt_rebuild | exact mt_grow | exact mt_many | exact mt_is_held | exact mt_size | exact mt_top)
  k_with "storeName" => ((with_reducible apply x_store); (k_extra "A"); (k_extra "A"); (k_extra "R"); (k_whole); (intro h9 tk9 F9 N9); (try k_sweep))
  k_with "eval BinOp" => ((with_reducible apply useI); (k_extra "A"); (k_extra "A"); (k_dflt (k_extra "evI")); (k_whole); (intro t9 tk9))
  k_with "isTrue Compare" => ((with_reducible apply useT); (k_extra "A"); (k_extra "A"); (k_dflt (k_extra "evT")); all_goals (k_whole; intro hp9 tk9))
  k_with "execs nil" => (with_reducible refine wpAny_execs_nil ?_)
  k_with "SeqK" => (with_reducible first | refine seq_next ?_ | refine seq_ret ?_ | refine seq_brk ?_ | refine seq_cont ?_)
  k_with "room" => (exact room_le (by with_reducible assumption) rfl)
  k_with "hH" => (first | exact fun _ h => h | exact fun _ h => .tail _ h | exact fun _ h => .tail _ (.tail _ h) | exact fun _ h => .tail _ (.tail _ (.tail _ h)) | exact fun _ h => .tail _ (.tail _ (.tail _ (.tail _ h))))
  k_with "evI" => ((with_reducible apply evI_cell); (k_extra "R"); (k_dflt k_memK); (k_extra "A"); (k_extra "R"))
  k_with "evV" => ((with_reducible apply evV_cell); (k_extra "R"); (k_dflt k_memK); (k_extra "A"); (k_extra "R"))
  trivial
theorem LawInv.start {limit n : Int} {hp pl : List Int} (h : GInv 0 n [0] [-1] n ([0] ++ List.replicate (n - 0).toNat 0) hp pl) (h1 : 1 ≤ n) (h9 : n ≤ 9) (hl : 1500 ≤ limit) : LawInv limit n ([0] ++ List.replicate (n - 0).toNat 0) hp pl 1024 := by
  refine ⟨h1, h9, h.la, h.cons, h.ord, by decide, by omega, fun a ha => ?_⟩
  rcases List.mem_append.mp ha with h | h
  · have := List.mem_singleton.mp h; omega
  · have := List.eq_of_mem_replicate h; omega
theorem OrdFrom.nil {act : List Int} {k : Int} : OrdFrom act [] k := fun i h1 h2 => by simp at h2; omega
def CutEnd (h₀ : Heap) (L : Addr) (m : Str → Option Value) (news : Led) (s : Shared) (v : Value) (s' : Shared) : Prop := (∃ x t, v = .int x t) ∧ ∃ h tk, s' = { s with heap := h, toks := tk } ∧ Fr h₀ L h m ∧ News h₀ L h news
theorem cut_int {M : Model} {A : Around} {h₀ : Heap} {L : Addr} {m : Str → Option Value} {news : Led} {s : Shared} {c : Sem Value} {Q E : Value → Shared → Prop} (_F0 : Fr h₀ L s.heap m) (_N0 : News h₀ L s.heap news)
    (h1 : wpAny M A c (CutEnd h₀ L m news s) (fun _ _ => False) s) (h2 : ∀ x t h tk, Fr h₀ L h m → News h₀ L h news → Q (.int x t) { s with heap := h, toks := tk }) : wpAny M A c Q E s :=
  wpAny_mono h1 (fun v s' hc => by obtain ⟨⟨x, t, rfl⟩, h, tk, rfl, F, N⟩ := hc; exact h2 x t h tk F N) fun _ _ h => h.elim
theorem menu_lim {k : Int} (h0 : 0 ≤ k) (h1 : k < 4) : 1500 ≤ [(1500 : Int), 5000, 60000, 2000000].getD k.toNat 0 ∧ [(1500 : Int), 5000, 60000, 2000000].getD k.toNat 0 ≤ 5000000 := by
  have : k = 0 ∨ k = 1 ∨ k = 2 ∨ k = 3 := by omega
  rcases this with rfl | rfl | rfl | rfl <;> decide
theorem fresh5 {o dx la lh lp D0 D1 c2 c1 : Nat} (a : lh < lp ∧ la < lp ∧ o < lp ∧ dx < lp ∧ D0 < lp ∧ D1 < lp ∧ c2 < lp ∧ c1 < lp) (b : la < lh ∧ o < lh ∧ dx < lh ∧ D0 < lh ∧ D1 < lh ∧ c2 < lh ∧ c1 < lh) (c : o < la ∧ dx < la ∧ D0 < la ∧ D1 < la ∧ c2 < la ∧ c1 < la) (d : D0 < dx ∧ D1 < dx ∧ c2 < dx ∧ c1 < dx) (e : dx < o) :
    Ord5 o dx la lh lp ∧ Off5 D0 o dx la lh lp ∧ Off5 D1 o dx la lh lp ∧ Off5 c2 o dx la lh lp ∧ Off5 c1 o dx la lh lp := by
  unfold Ord5 Off5
  omega
theorem spl_start {o dx la lh lp D0 D1 c2 c1 : Addr} {x1 x2 x3 x4 x5 z0 z1 z2 z3 : Obj} (h1 : Off5 D0 o dx la lh lp) (h2 : Off5 D1 o dx la lh lp) (h3 : Off5 c2 o dx la lh lp) (h4 : Off5 c1 o dx la lh lp) : Spl [o, dx, la, lh, lp] [(lp, x5), (lh, x4), (la, x3), (o, x1), (dx, x2), (D0, z0), (D1, z1), (c2, z2), (c1, z3)] [(D0, z0), (D1, z1), (c2, z2), (c1, z3)] :=
  .drop (.tail _ (.tail _ (.tail _ (.tail _ (.head _))))) (.drop (.tail _ (.tail _ (.tail _ (.head _)))) (.drop (.tail _ (.tail _ (.head _))) (.drop (.head _) (.drop (.tail _ (.head _)) (.keep (off5_all h1) (.keep (off5_all h2) (.keep (off5_all h3) (.keep (off5_all h4) .nil))))))))
section
variable {f : Addr} {cd : Value} {G : GC} {m : Str → Option Value} {Q : Flow → Shared → Prop} {as : Addr} {sv : List Value} {sn : List Int} {oB oH : Obj} {h : Heap} {gs : Array GenState} {dr : Drawn} {tk0 : Nat} {os : OsState}
set_option maxHeartbeats 8000000 in
theorem law_body (B : Below G.A₀ G.base G.outer G.h₀) (X : (K39 G.w.params).In G.h₀) (T : Top G.p G.loose G.mean G.mg G.mb G.h₀) (hD : G.dp + 40 < recursionLimit) (hU : G.un + 300 < cLine)
    (hL : G.h₀.IsList as sv.toArray) (hI : IntsAre sv sn) (h63 : sn.length ≤ 63) (hB : oB.data = .cell none) (hH : oH.data = .cell none) (dS : m "script" = some (.ref as))
    (F : Fr G.h₀ G.L h m) (N : News G.h₀ G.L h [(G.L + 1 + 1, oB), (G.L + 1, oH)])
    (K : ∀ m' h' tk', Fr G.h₀ G.L h' m' → Q (.ret (.bool true)) ⟨h', gs, dr, tk', os⟩) :
    wpAny (gM G) (ktrTop G.dp G.un G.gd "law" lawScope G.L f cd (lawCl G.L) G.outer) (execs lawFn.1 (envX "law" lawScope G.L f cd (lawCl G.L))) (LEnd Q) NoE ⟨h, gs, dr, tk0, os⟩ := by
  obtain ⟨S, hS⟩ : ∃ S, S = lawScope := ⟨_, rfl⟩
  rw [← hS]
  conv at hS => rhs; whnf
  subst hS
  conv in lawFn.1 => whnf
  k_with "evV" => ((with_reducible apply evV_name); (k_dflt (exact dS)); (k_extra "R"))
  k_with "eval Name" => ((with_reducible apply useV); (k_extra "A"); (k_extra "A"); (k_dflt (k_extra "evV")); (k_whole); (intro tk9))
  k_with "CutEnd" => (refine ⟨⟨_, _, rfl⟩, _, _, rfl, ?_, ?_⟩ <;> assumption)
  k_with "eval IfExp" => (k_dflt ((fail_if_success (with_reducible show wpAny _ _ _ (CutEnd _ _ _ _ _) _ _)); (rename Fr _ _ _ _ => lF); (rename News _ _ _ _ => lN); refine cut_int lF lN ?_ ?_; rotate_left; clear lF lN; intro opening to h tk F1 N1; (have hm1 := Int.fmod_nonneg_of_pos opening (b := 5) (by decide)); (have hm2 := Int.fmod_lt_of_pos opening (b := 5) (by decide)); (try dsimp only); rotate_right))
  k_with "subscriptTail" => (k_dflt (
    (with_reducible show wpAny _ _ (subscriptTail _ _ (Value.ref _) (Value.int (Int.fmod _ _) _)) _ _ _);
    (rename News _ _ _ _ => lN);
    refine item_anyT (News.isTup lN (by k_memK)) (ns := [1500, 5000, 60000, 2000000]) (.cons _ _ (.cons _ _ (.cons _ _ (.cons _ _ .nil)))) (Int.fmod_nonneg_of_pos _ (by decide)) (Int.fmod_lt_of_pos _ (by decide)) (by have := Int.fmod_lt_of_pos (Int.fdiv opening 5) (b := 4) (by decide); omega) ?_;
    (have hlim := menu_lim (k := Int.fmod (Int.fdiv opening 5) 4) (Int.fmod_nonneg_of_pos _ (by decide)) (Int.fmod_lt_of_pos _ (by decide)));
    generalize [(1500 : Int), 5000, 60000, 2000000].getD (Int.fmod (Int.fdiv opening 5) 4).toNat 0 = limit at hlim ⊢;
    intro tlim; (try dsimp only)))
  k_with "pre" => (first | exact Cons.init | exact OrdFrom.nil | (simp; done))
  k_with "ints" => (first | with_reducible assumption | exact .nil | exact .cons _ _ .nil)
  k_with "call ref" => ((with_reducible show wpAny _ _ (call (Value.ref 64) _) _ _ _); k_dflt (
    (rename Fr _ _ _ _ => lF); (rename News _ _ _ _ => lN); (rename LT.lt _ _ => e5);
    (rename LT.lt _ _ ∧ LT.lt _ _ ∧ LT.lt _ _ ∧ LT.lt _ _ ∧ LT.lt _ _ ∧ LT.lt _ _ ∧ LT.lt _ _ ∧ LT.lt _ _ => a5); (rename LT.lt _ _ ∧ LT.lt _ _ ∧ LT.lt _ _ ∧ LT.lt _ _ ∧ LT.lt _ _ ∧ LT.lt _ _ ∧ LT.lt _ _ => b5); (rename LT.lt _ _ ∧ LT.lt _ _ ∧ LT.lt _ _ ∧ LT.lt _ _ ∧ LT.lt _ _ ∧ LT.lt _ _ => c5); (rename LT.lt _ _ ∧ LT.lt _ _ ∧ LT.lt _ _ ∧ LT.lt _ _ => d5);
    obtain ⟨hO, g0, g1, g2, g3⟩ := fresh5 a5 b5 c5 d5 e5;
    refine' ctr_use (c_grow (n0 := 0) (N := 1 + opening.fmod 5) hO (.cons _ _ .nil) .nil (.cons _ _ .nil) Cons.init rfl ?za6 ?za7 OrdFrom.nil) G lF lN B X T rfl ?zH (spl_start g0 g1 g2 g3) ?zd ?zu ?_; (case zH => k_allIn); (case za6 => omega); (case za7 => omega); (case zd => k_extra "room"); (case zu => k_extra "room"); k_whole; clear lF lN; intro va9 vh9 vp9 na9 nh9 np9 hp9' pl9 ia9 ih9 ip9 gi9 h9 tk9 F9 N9 ap9; (try dsimp only [led, List.cons_append, List.nil_append] at N9); clear ap9; (try k_sweep)))
  k_with "pyIter ref" => (refine stop ?_)
  k_extra "steps"
  unfold Stop
  rename Fr _ _ _ _ => lF
  rename News _ _ _ _ => lN
  rename IntsAre _ (List.drop _ _) => hw
  rename IntsAre _ (rangeKs _ _) => hq
  rename _ = Data.cell (some (Value.ref _)) => hz
  rename LT.lt _ _ ∧ LT.lt _ _ ∧ LT.lt _ _ ∧ LT.lt _ _ ∧ LT.lt _ _ ∧ LT.lt _ _ ∧ LT.lt _ _ ∧ LT.lt _ _ ∧ LT.lt _ _ ∧ LT.lt _ _ => a6
  rename LT.lt _ _ ∧ LT.lt _ _ ∧ LT.lt _ _ ∧ LT.lt _ _ ∧ LT.lt _ _ ∧ LT.lt _ _ ∧ LT.lt _ _ ∧ LT.lt _ _ ∧ LT.lt _ _ => b6
  obtain ⟨p1, _, _, p2, p3, p4, p5, p6, p7, p8⟩ := a6
  obtain ⟨_, _, q2, q3, q4, q5, q6, q7, q8⟩ := b6
  have hA : 1 ≤ 1 + opening.fmod 5 := by omega
  have hA9 : 1 + opening.fmod 5 ≤ 9 := by omega
  exact law_loop (limit := limit) B X T hD hU hz hlim.1 hlim.2 hw (Nat.ne_of_gt p2) (Nat.ne_of_gt p3) ⟨1 + opening.fmod 5, _, _, 1024, _, va9, vh9, vp9, na9, nh9, np9, _, hp9', pl9, _, _, _, 0, _, oB⟩
    ⟨ia9, ih9, ip9, (by rw [← held_start gi9]; exact hq), ⟨_, hB⟩, hO, ⟨Nat.ne_of_gt p4, Nat.ne_of_gt p5, Nat.ne_of_gt p6, Nat.ne_of_gt p7, Nat.ne_of_gt p8⟩, ⟨Nat.ne_of_gt q4, Nat.ne_of_gt q5, Nat.ne_of_gt q6, Nat.ne_of_gt q7, Nat.ne_of_gt q8⟩, g2, g3, Nat.ne_of_lt p1, Nat.ne_of_gt q2, Nat.ne_of_gt q3, LawInv.start gi9 hA hA9 hlim.1⟩ ⟨rfl, rfl, rfl, rfl⟩ lF (news_sub lN (by unfold lawLed led; k_allIn)) K
end
theorem post_true (as bs : List WData) : PySem.Challenge.rw_no0005_01.row.claim.post as (.bool true) bs = true := by
  show (WShape.has PySem.Challenge.rw_no0005_01.row.records (.bool true) .bool && WTm.holds PySem.Challenge.rw_no0005_01.row.records (.eq .res (.lit (.bool true))) { args := as, res := some (.bool true), after := bs }) = true
  unfold WTm.holds
  rw [w_eq_bool (k := true) (l := true) (by simp [WTm.value]) (by simp [WTm.value])]
  rfl
set_option maxHeartbeats 8000000 in
theorem t0 : PySem.Challenge.rw_no0005_01.Holds := by
  w_on
  o_law
  rename _ = true => said
  refine holds_open (q := V39) (loose := []) (Xt := fun s => xlAt V39 [] s && recOk (RowW.records rrW) s) (XP := XL V39 []) (Yf := hk39.obs) (Ya := hk39.val) (YP := hk39.says) (N := 2836) hl39 hk39.of hk39.keeps (fun s e => xl_of s (Bool.and_eq_true_iff.mp e).1) XL.keeps (by rfl) (by rfl) (by rfl) (fun s e => recFacts_of (Bool.and_eq_true_iff.mp e).2) (by rfl) said (by kernel_rfl) ⟨rfl, rfl, rfl, rfl, rfl, by decide +kernel⟩ ?hw ?hc
  case hw => w_witness2
  k_go0
  (all_goals try k_fold)
  rename Fr _ _ _ _ => F
  rename News _ _ _ _ => N
  rename Heap.IsList _ _ _ => hL
  rename IntsAre _ _ => hI
  rename Below _ _ _ _ => B
  rename Top _ _ _ _ _ _ => T
  rename (K39 _).In _ => X
  rename ¬ _ => h63
  rename Obj.data _ = Data.cell (bindC _ _ _ (Str.ofString "best")) => hB
  rename Obj.data _ = Data.cell (bindC _ _ _ (Str.ofString "heap")) => hH
  refine wpAny_mono (law_body (G := ⟨rrW.prog, _, _, _, _, _, _, _, _, _, [], callerA, _, _, _⟩) (Q := fun fl s' => fl = .ret (.bool true) ∧ ∃ m' h' tk', s' = ⟨h', _, _, tk', _⟩ ∧ Fr _ _ h' m') B X T (Nat.le_of_ble_eq_true rfl) (Nat.le_of_ble_eq_true rfl) hL hI (by omega) hB hH rfl F N (fun m' h' tk' F' => ⟨rfl, m', h', tk', rfl, F'⟩)) (fun fl s' hq => ?_) fun _ _ x => x.elim
  obtain ⟨rfl, m', h', tk', rfl, fz⟩ := hq
  refine ⟨.inl ⟨.bool true, .bool true, [], rfl, ?_, .bool true, ?_, fun _ => ⟨List.nodup_nil, fun a ha => nomatch ha⟩⟩, ?_, rfl, ?_⟩
  · intro cls
    rfl
  · exact post_true _ _
  · exact fz.keep
  · assumption
end
end Mine
theorem PySem.Challenge.cw_no0005_01_holds : PySem.Challenge.rw_no0005_01.Holds := by
  exact Mine.t0
