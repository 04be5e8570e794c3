import PyProof.Rows.All
import Wide.All
import OpenK.AllK
import Wide.FinOn
import HandS.ForMost
import HandS.TupSets
import HandS.SetFor
import HandS.SortRule
import HandS.SortOrd
import KE.GoesEnum
import KE.DataMinMax
import HandS.Zip
import HandS.Style
import HandS.Wide
import HandS.IsInst
import HandS.Walk
import HandS.Evl
import PySem.Challenge.RW_closehaul_k24_whole_reach
set_option Elab.async false
set_option linter.all false
namespace CH
abbrev P2 := Int × Int
def cr (a b : P2) : Int := a.1 * b.2 - a.2 * b.1
def dt (a b : P2) : Int := a.1 * b.1 + a.2 * b.2
def ad (a b : P2) : P2 := (a.1 + b.1, a.2 + b.2)
def sb (a b : P2) : P2 := (a.1 - b.1, a.2 - b.2)
def ng (a : P2) : P2 := (-a.1, -a.2)
def zz : P2 := (0, 0)
/-- east, or straight north -/
def h0 (e : P2) : Bool := decide (0 < e.1) || (decide (e.1 = 0) && decide (0 < e.2))
theorem h0_iff {e : P2} : h0 e = true ↔ (0 < e.1 ∨ (e.1 = 0 ∧ 0 < e.2)) := by simp [h0]
def soon (a b : P2) : Bool := if h0 a = h0 b then decide (0 < cr a b) else h0 a
theorem h0_ne {e : P2} (h : h0 e = true) : e ≠ zz := by
  rintro rfl
  exact absurd h (by decide)
theorem h0_ng {e : P2} (h : e ≠ zz) : h0 (ng e) = !h0 e := by
  rw [Bool.eq_iff_iff, Bool.not_eq_true', ← Bool.not_eq_true, h0_iff, h0_iff]
  have h2 : ¬ (e.1 = 0 ∧ e.2 = 0) := fun q => h (Prod.ext q.1 q.2)
  show (0 < -e.1 ∨ (-e.1 = 0 ∧ 0 < -e.2)) ↔ _
  omega
theorem ng_ng (e : P2) : ng (ng e) = e := by
  show ((- -e.1, - -e.2) : P2) = e
  rw [Int.neg_neg, Int.neg_neg]
theorem cr_ng_l (a b : P2) : cr (ng a) b = - cr a b := by
  show -a.1 * b.2 - -a.2 * b.1 = -(a.1 * b.2 - a.2 * b.1)
  grind
theorem cr_ng_r (a b : P2) : cr a (ng b) = - cr a b := by
  show a.1 * -b.2 - a.2 * -b.1 = -(a.1 * b.2 - a.2 * b.1)
  grind
theorem cr_ng (a b : P2) : cr (ng a) (ng b) = cr a b := by rw [cr_ng_l, cr_ng_r, Int.neg_neg]
theorem dt_ng_r (a b : P2) : dt a (ng b) = - dt a b := by
  show a.1 * -b.1 + a.2 * -b.2 = -(a.1 * b.1 + a.2 * b.2)
  grind
theorem dt_ng_l (a b : P2) : dt (ng a) b = - dt a b := by
  show -a.1 * b.1 + -a.2 * b.2 = -(a.1 * b.1 + a.2 * b.2)
  grind
theorem cr_sw (a b : P2) : cr a b = - cr b a := by
  show a.1 * b.2 - a.2 * b.1 = -(b.1 * a.2 - b.2 * a.1)
  grind
theorem cr_ad (f a b : P2) : cr f (ad a b) = cr f a + cr f b := by
  show f.1 * (a.2 + b.2) - f.2 * (a.1 + b.1) = (f.1 * a.2 - f.2 * a.1) + (f.1 * b.2 - f.2 * b.1)
  grind
theorem dt_ad (f a b : P2) : dt f (ad a b) = dt f a + dt f b := by
  show f.1 * (a.1 + b.1) + f.2 * (a.2 + b.2) = (f.1 * a.1 + f.2 * a.2) + (f.1 * b.1 + f.2 * b.2)
  grind
theorem cr_ad_l (a b f : P2) : cr (ad a b) f = cr a f + cr b f := by rw [cr_sw, cr_ad, cr_sw a f, cr_sw b f]; omega
theorem cr_self (a : P2) : cr a a = 0 := by
  show a.1 * a.2 - a.2 * a.1 = 0
  grind
theorem mulp {a b : Int} (ha : 0 ≤ a) (hb : 0 ≤ b) : 0 ≤ a * b := Int.mul_nonneg ha hb
/-- transitivity in the half -/
theorem tr0 {a b c : P2} (ha : h0 a = true) (hb : h0 b = true) (hc : h0 c = true) (h1 : 0 ≤ cr a b) (h2 : 0 < cr b c) : 0 < cr a c := by
  rw [h0_iff] at ha hb hc
  have id1 : b.1 * cr a c = a.1 * cr b c + c.1 * cr a b := by unfold cr; grind
  rcases hb with hb | ⟨hb1, hb2⟩
  · have ha' : 0 < a.1 := by
      rcases ha with h | ⟨h, h'⟩
      · exact h
      · exfalso
        unfold cr at h1
        rw [h, Int.zero_mul] at h1
        have := Int.mul_pos h' hb
        omega
    have hc' : 0 ≤ c.1 := by omega
    have p1 := Int.mul_pos ha' h2
    have p2 := Int.mul_nonneg hc' h1
    have p3 : 0 < b.1 * cr a c := by omega
    exact Int.pos_of_mul_pos_right p3 hb
  · exfalso
    unfold cr at h2
    rw [hb1, Int.zero_mul] at h2
    have hc' : 0 ≤ c.1 := by omega
    have := Int.mul_nonneg (show 0 ≤ b.2 by omega) hc'
    omega
theorem tr0' {a b c : P2} (ha : h0 a = true) (hb : h0 b = true) (hc : h0 c = true) (h1 : 0 < cr a b) (h2 : 0 ≤ cr b c) : 0 < cr a c := by
  rw [h0_iff] at ha hb hc
  have id1 : b.1 * cr a c = a.1 * cr b c + c.1 * cr a b := by unfold cr; grind
  have ha' : 0 ≤ a.1 := by omega
  rcases hb with hb | ⟨hb1, hb2⟩
  · rcases hc with hc | ⟨hc1, hc2⟩
    · have p1 := Int.mul_nonneg ha' h2
      have p2 := Int.mul_pos hc h1
      have p3 : 0 < b.1 * cr a c := by omega
      exact Int.pos_of_mul_pos_right p3 hb
    · unfold cr
      rw [hc1, Int.mul_zero]
      have ha2 : 0 < a.1 := by
        rcases ha with h | ⟨h, h'⟩
        · exact h
        · exfalso
          unfold cr at h1
          rw [h, Int.zero_mul] at h1
          have := Int.mul_pos h' hb
          omega
      have := Int.mul_pos ha2 hc2
      omega
  · rcases hc with hc | ⟨hc1, hc2⟩
    · exfalso
      unfold cr at h2
      rw [hb1, Int.zero_mul] at h2
      have := Int.mul_pos hb2 hc
      omega
    · unfold cr
      rw [hc1, Int.mul_zero]
      unfold cr at h1
      rw [hb1, Int.mul_zero] at h1
      have ha2 : 0 < a.1 := by
        rcases ha with h | ⟨h, h'⟩
        · exact h
        · rw [h, Int.zero_mul] at h1
          omega
      have := Int.mul_pos ha2 hc2
      omega
theorem tr0_le {a b c : P2} (ha : h0 a = true) (hb : h0 b = true) (hc : h0 c = true) (h1 : 0 ≤ cr a b) (h2 : 0 ≤ cr b c) : 0 ≤ cr a c := by
  rcases Int.lt_or_le (cr a c) 0 with h | h
  · exfalso
    have h3 : 0 < cr c a := by rw [cr_sw]; omega
    have := tr0' hc ha hb h3 h1
    rw [cr_sw] at this
    omega
  · exact h
/-- same way in the half -/
theorem dt0 {a b : P2} (ha : h0 a = true) (hb : h0 b = true) (h : cr a b = 0) : 0 < dt a b := by
  rw [h0_iff] at ha hb
  unfold cr at h
  unfold dt
  rcases ha with ha | ⟨ha1, ha2⟩
  · rcases hb with hb | ⟨hb1, hb2⟩
    · have p := Int.mul_pos ha hb
      have q : 0 ≤ a.2 * b.2 := by
        have e : (a.1 * b.1) * (a.2 * b.2) = (a.2 * b.1) * (a.2 * b.1) := by grind
        have e2 : 0 ≤ (a.2 * b.1) * (a.2 * b.1) := by
          rcases Int.le_total 0 (a.2 * b.1) with k | k
          · exact Int.mul_nonneg k k
          · exact Int.mul_nonneg_of_nonpos_of_nonpos k k
        rcases Int.lt_or_le (a.2 * b.2) 0 with k | k
        · have := Int.mul_neg_of_pos_of_neg p k
          omega
        · exact k
      omega
    · rw [hb1, Int.mul_zero] at h
      have := Int.mul_pos ha hb2
      omega
  · rw [ha1, Int.zero_mul] at h
    rcases hb with hb | ⟨hb1, hb2⟩
    · have := Int.mul_pos ha2 hb
      omega
    · have := Int.mul_pos ha2 hb2
      rw [ha1, Int.zero_mul]
      omega
/-! the total order of a direction, turned back a little -/
def pos (f v : P2) : Prop := 0 < cr f v ∨ (cr f v = 0 ∧ 0 < dt f v)
theorem pos_ad {f a b : P2} (ha : pos f a) (hb : pos f b) : pos f (ad a b) := by
  unfold pos at *
  rw [cr_ad, dt_ad]
  omega
theorem pos_zz (f : P2) : ¬ pos f zz := by
  unfold pos cr dt zz
  simp
theorem pos_ng {f v : P2} (h : pos f v) : ¬ pos f (ng v) := by
  unfold pos at *
  rw [cr_ng_r, dt_ng_r]
  omega
theorem sq_pos {a b : Int} (h : ¬ (a = 0 ∧ b = 0)) : 0 < a * a + b * b := by
  have e1 : 0 ≤ a * a := by
    rcases Int.le_total 0 a with k | k
    · exact Int.mul_nonneg k k
    · exact Int.mul_nonneg_of_nonpos_of_nonpos k k
  have e2 : 0 ≤ b * b := by
    rcases Int.le_total 0 b with k | k
    · exact Int.mul_nonneg k k
    · exact Int.mul_nonneg_of_nonpos_of_nonpos k k
  rcases Classical.em (a = 0) with k | k
  · have hb : b ≠ 0 := fun q => h ⟨k, q⟩
    have : b * b ≠ 0 := fun q => by rcases Int.mul_eq_zero.mp q with q | q <;> exact hb q
    omega
  · have : a * a ≠ 0 := fun q => by rcases Int.mul_eq_zero.mp q with q | q <;> exact k q
    omega
theorem dt_self_pos {f : P2} (h : f ≠ zz) : 0 < dt f f := sq_pos fun q => h (Prod.ext q.1 q.2)
/-- two coordinates in the frame of f tell a vector -/
theorem eq_zz_of {f v : P2} (hf : f ≠ zz) (h1 : cr f v = 0) (h2 : dt f v = 0) : v = zz := by
  have hp := dt_self_pos hf
  have e1 : dt f f * v.1 = f.1 * dt f v - f.2 * cr f v := by unfold dt cr; grind
  have e2 : dt f f * v.2 = f.2 * dt f v + f.1 * cr f v := by unfold dt cr; grind
  rw [h1, h2, Int.mul_zero, Int.mul_zero] at e1 e2
  have a1 : v.1 = 0 := by
    rcases Int.mul_eq_zero.mp (show dt f f * v.1 = 0 by omega) with q | q
    · omega
    · exact q
  have a2 : v.2 = 0 := by
    rcases Int.mul_eq_zero.mp (show dt f f * v.2 = 0 by omega) with q | q
    · omega
    · exact q
  exact Prod.ext a1 a2
theorem pos_or {f v : P2} (hf : f ≠ zz) (hv : v ≠ zz) : pos f v ∨ pos f (ng v) := by
  unfold pos
  rw [cr_ng_r, dt_ng_r]
  have : ¬ (cr f v = 0 ∧ dt f v = 0) := fun q => hv (eq_zz_of hf q.1 q.2)
  omega
theorem pos_self {f : P2} (h : f ≠ zz) : pos f f := .inr ⟨cr_self f, dt_self_pos h⟩
theorem pos_ff {f v : P2} : pos (ng f) (ng v) ↔ pos f v := by
  unfold pos
  rw [cr_ng, dt_ng_r, dt_ng_l, Int.neg_neg]
/-- in the half: pos is "not sooner" -/
theorem pos_h0 {f v : P2} (hf : h0 f = true) (hv : h0 v = true) : pos f v ↔ 0 ≤ cr f v := by
  unfold pos
  constructor
  · omega
  · intro h
    rcases Int.lt_or_le 0 (cr f v) with k | k
    · exact .inl k
    · have e : cr f v = 0 := by omega
      exact .inr ⟨e, dt0 hf hv e⟩
theorem soon_same {a b : P2} (h : h0 a = h0 b) : soon a b = true ↔ 0 < cr a b := by
  unfold soon
  rw [if_pos h, decide_eq_true_iff]
theorem soon_diff {a b : P2} (h : h0 a ≠ h0 b) : soon a b = h0 a := by
  unfold soon
  rw [if_neg h]
theorem soon_irr (a : P2) : soon a a = false := by
  rw [← Bool.not_eq_true, soon_same rfl, cr_self]
  omega
theorem cr_soon {a b : P2} (ha : h0 a = h0 b) (h : 0 < cr a b) : soon a b = true := (soon_same ha).mpr h
/-- transitivity -/
theorem soon_tr {a b c : P2} (ha : a ≠ zz) (hb : b ≠ zz) (hc : c ≠ zz) (h1 : soon a b = true) (h2 : soon b c = true) : soon a c = true := by
  by_cases e1 : h0 a = h0 b
  · by_cases e2 : h0 b = h0 c
    · rw [soon_same e1] at h1
      rw [soon_same e2] at h2
      rw [soon_same (e1.trans e2)]
      cases k : h0 b with
      | true => exact tr0 (e1.trans k) k (e2.symm.trans k) (by omega) h2
      | false =>
        have kb := h0_ng hb; have ka := h0_ng ha; have kc := h0_ng hc
        rw [k] at kb; rw [e1, k] at ka; rw [← e2, k] at kc
        rw [← cr_ng] at h1 h2 ⊢
        exact tr0 ka kb kc (by omega) h2
    · rw [soon_diff e2] at h2
      rw [soon_diff (fun q => e2 (e1.symm.trans q)), e1]
      exact h2
  · rw [soon_diff e1] at h1
    by_cases e2 : h0 b = h0 c
    · rw [soon_diff (fun q => e1 (q.trans e2.symm))]
      exact h1
    · rw [soon_diff e2] at h2
      exact absurd (h1.trans h2.symm) e1
theorem soon_asym {a b : P2} (h : soon a b = true) : soon b a = false := by
  by_cases e : h0 a = h0 b
  · rw [soon_same e] at h
    rw [← Bool.not_eq_true, soon_same e.symm, cr_sw]
    omega
  · rw [soon_diff e] at h
    rw [soon_diff (fun q => e q.symm)]
    cases k : h0 b with
    | true => exact absurd (h.trans k.symm) e
    | false => rfl
/-- neither sooner: one way; against a third alike -/
theorem same_l {a b f : P2} (ha : a ≠ zz) (hb : b ≠ zz) (hf : f ≠ zz) (h1 : soon a b = false) (h2 : soon b a = false) (h : soon a f = true) : soon b f = true := by
  have e : h0 a = h0 b := by
    by_cases e : h0 a = h0 b
    · exact e
    · rw [soon_diff e] at h1
      rw [soon_diff (fun q => e q.symm)] at h2
      exact h1.trans h2.symm
  rw [← Bool.not_eq_true, soon_same e] at h1
  rw [← Bool.not_eq_true, soon_same e.symm] at h2
  have hz : cr b a = 0 := by rw [cr_sw] at h1; omega
  by_cases e2 : h0 a = h0 f
  · rw [soon_same e2] at h
    rw [soon_same (e.symm.trans e2)]
    cases k : h0 a with
    | true => exact tr0 (e.symm.trans k) k (e2.symm.trans k) (by omega) h
    | false =>
      have ka := h0_ng ha; have kb := h0_ng hb; have kf := h0_ng hf
      rw [k] at ka; rw [← e, k] at kb; rw [← e2, k] at kf
      rw [← cr_ng] at h hz ⊢
      exact tr0 kb ka kf (by omega) h
  · rw [soon_diff e2] at h
    rw [soon_diff (fun q => e2 (e.trans q)), ← e]
    exact h
theorem same_r {a b f : P2} (ha : a ≠ zz) (hb : b ≠ zz) (hf : f ≠ zz) (h1 : soon a b = false) (h2 : soon b a = false) (h : soon f a = true) : soon f b = true := by
  have e : h0 a = h0 b := by
    by_cases e : h0 a = h0 b
    · exact e
    · rw [soon_diff e] at h1
      rw [soon_diff (fun q => e q.symm)] at h2
      exact h1.trans h2.symm
  rw [← Bool.not_eq_true, soon_same e] at h1
  rw [← Bool.not_eq_true, soon_same e.symm] at h2
  have hz : cr a b = 0 := by rw [cr_sw] at h2; omega
  by_cases e2 : h0 f = h0 a
  · rw [soon_same e2] at h
    rw [soon_same (e2.trans e)]
    cases k : h0 a with
    | true => exact tr0' (e2.trans k) k (e.symm.trans k) h (by omega)
    | false =>
      have ka := h0_ng ha; have kb := h0_ng hb; have kf := h0_ng hf
      rw [k] at ka; rw [← e, k] at kb; rw [e2, k] at kf
      rw [← cr_ng] at h hz ⊢
      exact tr0' kf ka kb h (by omega)
  · rw [soon_diff e2] at h
    rw [soon_diff (fun q => e2 (q.trans e.symm))]
    exact h
/-- f in the first half: what is sooner lies behind -/
theorem neg_of_soon0 {f e : P2} (hf : h0 f = true) (he : e ≠ zz) (h : soon e f = true) : pos f (ng e) := by
  have k : h0 e = true := by
    by_cases q : h0 e = h0 f
    · exact q.trans hf
    · rw [soon_diff q] at h; exact h
  rw [soon_same (k.trans hf.symm)] at h
  refine .inl ?_
  rw [cr_ng_r, ← cr_sw]
  exact h
/-- f in the other half: what is not sooner lies ahead -/
theorem pos_of_not1 {f e : P2} (hf : h0 f = false) (hfz : f ≠ zz) (he : e ≠ zz) (h : soon e f = false) : pos f e := by
  have k : h0 e = false := by
    by_cases q : h0 e = h0 f
    · exact q.trans hf
    · rw [soon_diff q] at h; exact h
  rw [← Bool.not_eq_true, soon_same (k.trans hf.symm)] at h
  have kf := h0_ng hfz; have ke := h0_ng he
  rw [hf] at kf; rw [k] at ke
  rw [← pos_ff, pos_h0 kf ke, cr_ng, cr_sw]
  omega
/-- f in the first half, q not sooner, behind: what is later than q is behind -/
theorem neg_on {f q r : P2} (hf : h0 f = true) (hq : q ≠ zz) (hr : r ≠ zz) (h : soon q f = false) (hn : pos f (ng q)) (hs : soon q r = true) : pos f (ng r) := by
  have k : h0 q = false := by
    cases k : h0 q with
    | false => rfl
    | true =>
      exfalso
      rw [← Bool.not_eq_true, soon_same (k.trans hf.symm)] at h
      exact pos_ng ((pos_h0 hf k).mpr (by rw [cr_sw]; omega)) hn
  have kr : h0 r = false := by
    by_cases e : h0 q = h0 r
    · exact e.symm.trans k
    · rw [soon_diff e, k] at hs; cases hs
  have nq := h0_ng hq; have nr := h0_ng hr
  rw [k] at nq; rw [kr] at nr
  rw [pos_h0 hf nq] at hn
  rw [pos_h0 hf nr]
  rw [soon_same (k.trans kr.symm), ← cr_ng] at hs
  have := tr0 hf nq nr hn hs
  omega
/-- f in the other half, p sooner, ahead: what is sooner than p is ahead -/
theorem pos_back {f p r : P2} (hf : h0 f = false) (hfz : f ≠ zz) (hp : p ≠ zz) (hr : r ≠ zz) (h : soon p f = true) (hn : pos f p) (hs : soon r p = true) : pos f r := by
  have nf := h0_ng hfz
  rw [hf] at nf
  have k : h0 p = true := by
    cases k : h0 p with
    | true => rfl
    | false =>
      exfalso
      rw [soon_same (k.trans hf.symm)] at h
      have np := h0_ng hp
      rw [k] at np
      rw [← pos_ff, pos_h0 nf np, cr_ng, cr_sw] at hn
      omega
  have kr : h0 r = true := by
    by_cases e : h0 r = h0 p
    · exact e.trans k
    · rw [soon_diff e] at hs; exact hs
  rw [soon_same (kr.trans k.symm)] at hs
  -- pos f p: cr f p > 0 or opposite excluded
  have e1 : 0 < cr f p := by
    rcases hn with q | ⟨q1, q2⟩
    · exact q
    · exfalso
      have := dt0 (a := ng f) (b := p) nf k (by rw [cr_ng_l]; omega)
      rw [dt_ng_l] at this
      omega
  refine .inl ?_
  have e2 : 0 < cr p (ng f) := by rw [cr_ng_r, ← cr_sw]; exact e1
  have := tr0 kr k nf (by omega) e2
  rw [cr_ng_r, ← cr_sw] at this
  exact this
end CH

namespace CH
def sumP : List P2 → P2
  | [] => zz
  | e :: r => ad e (sumP r)
theorem ad_zz (a : P2) : ad a zz = a := by
  show ((a.1 + 0, a.2 + 0) : P2) = a
  rw [Int.add_zero, Int.add_zero]
theorem zz_ad (a : P2) : ad zz a = a := by
  show ((0 + a.1, 0 + a.2) : P2) = a
  rw [Int.zero_add, Int.zero_add]
theorem ad_as (a b c : P2) : ad (ad a b) c = ad a (ad b c) := by
  show ((a.1 + b.1 + c.1, a.2 + b.2 + c.2) : P2) = (a.1 + (b.1 + c.1), a.2 + (b.2 + c.2))
  rw [Int.add_assoc, Int.add_assoc]
theorem ad_cm (a b : P2) : ad a b = ad b a := by
  show ((a.1 + b.1, a.2 + b.2) : P2) = (b.1 + a.1, b.2 + a.2)
  rw [Int.add_comm, Int.add_comm a.2]
theorem p2_ext {a b : P2} (h1 : a.1 = b.1) (h2 : a.2 = b.2) : a = b := Prod.ext h1 h2
theorem sumP_app : ∀ a b : List P2, sumP (a ++ b) = ad (sumP a) (sumP b)
  | [], b => (zz_ad _).symm
  | e :: a, b => by
    show ad e (sumP (a ++ b)) = ad (ad e (sumP a)) (sumP b)
    rw [sumP_app a b, ad_as]
theorem sumP_perm {a b : List P2} (h : a.Perm b) : sumP a = sumP b := by
  induction h with
  | nil => rfl
  | cons x _ ih => show ad x _ = ad x _; rw [ih]
  | swap x y l => show ad y (ad x _) = ad x (ad y _); rw [← ad_as, ← ad_as, ad_cm x y]
  | trans _ _ i1 i2 => exact i1.trans i2
/-- a sum within a cone -/
theorem sum_in {p : P2 → Prop} (hp : ∀ a b, p a → p b → p (ad a b)) : ∀ l : List P2, l ≠ [] → (∀ e ∈ l, p e) → p (sumP l)
  | [], h, _ => absurd rfl h
  | [e], _, h => by
    show p (ad e zz)
    rw [ad_zz]
    exact h e List.mem_cons_self
  | e :: x :: r, _, h => hp _ _ (h e List.mem_cons_self) (sum_in hp (x :: r) (by simp) fun y hy => h y (List.mem_cons_of_mem _ hy))
theorem ng_ad (a b : P2) : ng (ad a b) = ad (ng a) (ng b) := by
  refine p2_ext ?_ ?_
  · show -(a.1 + b.1) = -a.1 + -b.1; omega
  · show -(a.2 + b.2) = -a.2 + -b.2; omega
theorem posn_ad {f : P2} (a b : P2) (ha : pos f (ng a)) (hb : pos f (ng b)) : pos f (ng (ad a b)) := by
  rw [ng_ad]
  exact pos_ad ha hb
theorem sum_pos {f : P2} {l : List P2} (h : l ≠ []) (hl : ∀ e ∈ l, pos f e) : pos f (sumP l) := sum_in (fun _ _ => pos_ad) l h hl
theorem sum_neg {f : P2} {l : List P2} (h : l ≠ []) (hl : ∀ e ∈ l, pos f (ng e)) : pos f (ng (sumP l)) := sum_in (p := fun e => pos f (ng e)) posn_ad l h hl
structure Canon (E : List P2) : Prop where
  srt : E.Pairwise (fun a b => soon a b = true)
  nz : ∀ e ∈ E, e ≠ zz
  sum : sumP E = zz
/-- the edges ahead of a direction -/
def pre (f : P2) (E : List P2) : List P2 := E.filter (fun e => soon e f)
def suf (f : P2) (E : List P2) : List P2 := E.filter (fun e => !soon e f)
theorem pre_suf {f : P2} (hf : f ≠ zz) : ∀ {E : List P2}, E.Pairwise (fun a b => soon a b = true) → (∀ e ∈ E, e ≠ zz) → E = pre f E ++ suf f E
  | [], _, _ => rfl
  | e :: r, hs, hn => by
    obtain ⟨h1, h2⟩ := List.pairwise_cons.mp hs
    have ih := pre_suf hf h2 fun x hx => hn x (List.mem_cons_of_mem _ hx)
    unfold pre suf at ih ⊢
    cases k : soon e f with
    | true =>
      rw [List.filter_cons_of_pos (by simp [k]), List.filter_cons_of_neg (by simp [k]), List.cons_append, ← ih]
    | false =>
      have none : r.filter (fun e => soon e f) = [] := by
        rw [List.filter_eq_nil_iff]
        intro x hx q
        have := soon_tr (hn e List.mem_cons_self) (hn x (List.mem_cons_of_mem _ hx)) hf (h1 x hx) q
        rw [k] at this
        cases this
      rw [List.filter_cons_of_neg (by simp [k]), List.filter_cons_of_pos (by simp [k]), none, List.nil_append]
      rw [none, List.nil_append] at ih
      rw [← ih]
theorem pre_at {P R : List P2} {e : P2} (h : (P ++ e :: R).Pairwise (fun a b => soon a b = true)) : pre e (P ++ e :: R) = P := by
  obtain ⟨h1, h2, h3⟩ := List.pairwise_append.mp h
  obtain ⟨h4, h5⟩ := List.pairwise_cons.mp h2
  unfold pre
  rw [List.filter_append, List.filter_cons_of_neg (by rw [soon_irr]; decide)]
  have e1 : P.filter (fun x => soon x e) = P := List.filter_eq_self.mpr fun x hx => h3 x hx e List.mem_cons_self
  have e2 : R.filter (fun x => soon x e) = [] := by
    rw [List.filter_eq_nil_iff]
    intro x hx q
    rw [soon_asym (h4 x hx)] at q
    cases q
  rw [e1, e2, List.append_nil]
theorem sb_eq_zz {a b : P2} (h : sb a b = zz) : a = b := by
  have h1 : a.1 - b.1 = 0 := congrArg Prod.fst h
  have h2 : a.2 - b.2 = 0 := congrArg Prod.snd h
  exact p2_ext (by omega) (by omega)
theorem sb_self (a : P2) : sb a a = zz := by
  refine p2_ext ?_ ?_
  · show a.1 - a.1 = 0; omega
  · show a.2 - a.2 = 0; omega
/-- the first one of the edges of a direction is the least vertex in it -/
theorem least_at {E P R : List P2} {e f : P2} (C : Canon E) (hf : f ≠ zz) (hE : E = P ++ e :: R) :
    P = pre f E ∨ (pre f E = E ∧ P = []) ∨ pos f (sb (sumP P) (sumP (pre f E))) := by
  have sp := pre_suf hf C.srt C.nz
  have hS : ∀ x ∈ pre f E, x ∈ E ∧ soon x f = true := fun x hx => List.mem_filter.mp hx
  have hT : ∀ x ∈ suf f E, x ∈ E ∧ soon x f = false := fun x hx => by
    obtain ⟨a, b⟩ := List.mem_filter.mp hx
    exact ⟨a, by simpa using b⟩
  have hs := C.srt
  have hz := C.sum
  generalize hSd : pre f E = S at *
  generalize hTd : suf f E = T at *
  have p1 : P <+: E := ⟨e :: R, hE.symm⟩
  have p2 : S <+: E := ⟨T, sp.symm⟩
  rcases Nat.le_total P.length S.length with hl | hl
  · obtain ⟨P', hP'⟩ := List.prefix_of_prefix_length_le p1 p2 hl
    have e1 : e :: R = P' ++ T := by
      have q := sp
      rw [hE, ← hP', List.append_assoc] at q
      exact List.append_cancel_left q
    cases P' with
    | nil => left; rw [← hP', List.append_nil]
    | cons x P'' =>
      right
      have hx : x = e := by
        have := congrArg List.head? e1
        simp at this
        exact this.symm
      subst hx
      have hxS : x ∈ S := by rw [← hP']; simp
      have hxE := (hS x hxS).1
      have dif : sb (sumP P) (sumP S) = ng (sumP (x :: P'')) := by
        rw [← hP', sumP_app]
        refine p2_ext ?_ ?_
        · show (sumP P).1 - ((sumP P).1 + (sumP (x :: P'')).1) = -(sumP (x :: P'')).1; omega
        · show (sumP P).2 - ((sumP P).2 + (sumP (x :: P'')).2) = -(sumP (x :: P'')).2; omega
      have inS : ∀ y ∈ x :: P'', y ∈ S := fun y hy => by rw [← hP']; exact List.mem_append_right _ hy
      cases hh : h0 f with
      | true =>
        right
        rw [dif]
        refine sum_neg (by simp) fun y hy => ?_
        obtain ⟨a, b⟩ := hS y (inS y hy)
        exact neg_of_soon0 hh (C.nz y a) b
      | false =>
        have tp : ∀ y ∈ T, pos f y := fun y hy => pos_of_not1 hh hf (C.nz y (hT y hy).1) (hT y hy).2
        have srtS : ∀ r ∈ P, soon r x = true := fun r hr => by
          rw [hE] at hs
          exact (List.pairwise_append.mp hs).2.2 r hr x List.mem_cons_self
        have srtP : ∀ r ∈ P'', soon x r = true := fun r hr => by
          have q : (S ++ T).Pairwise (fun a b => soon a b = true) := by rw [← sp]; exact hs
          have q2 := (List.pairwise_append.mp q).1
          rw [← hP'] at q2
          exact (List.pairwise_cons.mp (List.pairwise_append.mp q2).2.1).1 r hr
        have memP : ∀ r ∈ P, r ∈ E := fun r hr => by rw [hE]; exact List.mem_append_left _ hr
        rcases pos_or hf (C.nz x hxE) with k | k
        · have pp : ∀ r ∈ P, pos f r := fun r hr => pos_back hh hf (C.nz x hxE) (C.nz r (memP r hr)) (hS x hxS).2 k (srtS r hr)
          have dif2 : sb (sumP P) (sumP S) = sumP (P ++ T) := by
            have q : ad (sumP S) (sumP T) = zz := by rw [← sumP_app, ← sp]; exact hz
            have q1 : (sumP S).1 + (sumP T).1 = 0 := congrArg Prod.fst q
            have q2 : (sumP S).2 + (sumP T).2 = 0 := congrArg Prod.snd q
            rw [sumP_app]
            refine p2_ext ?_ ?_
            · show (sumP P).1 - (sumP S).1 = (sumP P).1 + (sumP T).1; omega
            · show (sumP P).2 - (sumP S).2 = (sumP P).2 + (sumP T).2; omega
          by_cases hn : P ++ T = []
          · obtain ⟨a, b⟩ := List.append_eq_nil_iff.mp hn
            left
            refine ⟨?_, a⟩
            rw [sp, b, List.append_nil]
          · right
            rw [dif2]
            refine sum_pos hn fun y hy => ?_
            rcases List.mem_append.mp hy with q | q
            · exact pp y q
            · exact tp y q
        · right
          rw [dif]
          refine sum_neg (by simp) fun y hy => ?_
          rcases List.mem_cons.mp hy with q | q
          · rw [q]; exact k
          · have hyS := inS y (List.mem_cons_of_mem _ q)
            have hyE := (hS y hyS).1
            rcases pos_or hf (C.nz y hyE) with z | z
            · exact absurd k (pos_ng (pos_back hh hf (C.nz y hyE) (C.nz x hxE) (hS y hyS).2 z (srtP y q)))
            · exact z
  · obtain ⟨Q, hQ⟩ := List.prefix_of_prefix_length_le p2 p1 hl
    have e1 : Q ++ e :: R = T := by
      have q := sp
      rw [hE, ← hQ, List.append_assoc] at q
      exact List.append_cancel_left q
    have dif : sb (sumP P) (sumP S) = sumP Q := by
      rw [← hQ, sumP_app]
      refine p2_ext ?_ ?_
      · show (sumP S).1 + (sumP Q).1 - (sumP S).1 = (sumP Q).1; omega
      · show (sumP S).2 + (sumP Q).2 - (sumP S).2 = (sumP Q).2; omega
    by_cases hQn : Q = []
    · left; rw [← hQ, hQn, List.append_nil]
    · right; right
      have inT : ∀ y ∈ Q, y ∈ T := fun y hy => by rw [← e1]; exact List.mem_append_left _ hy
      cases hh : h0 f with
      | false =>
        rw [dif]
        exact sum_pos hQn fun y hy => pos_of_not1 hh hf (C.nz y (hT y (inT y hy)).1) (hT y (inT y hy)).2
      | true =>
        have sn : ∀ y ∈ S, pos f (ng y) := fun y hy => neg_of_soon0 hh (C.nz y (hS y hy).1) (hS y hy).2
        obtain ⟨Q0, q, hq⟩ : ∃ Q0 q, Q = Q0 ++ [q] := ⟨Q.dropLast, Q.getLast hQn, (List.dropLast_concat_getLast hQn).symm⟩
        have hqT : q ∈ T := inT q (by rw [hq]; simp)
        have hqE := hT q hqT
        have sT : T.Pairwise (fun a b => soon a b = true) := by
          have z : (S ++ T).Pairwise (fun a b => soon a b = true) := by rw [← sp]; exact hs
          exact (List.pairwise_append.mp z).2.1
        have sT2 : (Q ++ e :: R).Pairwise (fun a b => soon a b = true) := by rw [e1]; exact sT
        obtain ⟨s1, s2, s3⟩ := List.pairwise_append.mp sT2
        rcases pos_or hf (C.nz q hqE.1) with k | k
        · rw [dif]
          refine sum_pos hQn fun y hy => ?_
          rw [hq] at hy
          rcases List.mem_append.mp hy with z | z
          · have hyT : y ∈ T := inT y (by rw [hq]; exact List.mem_append_left _ z)
            have hyE := hT y hyT
            rcases pos_or hf (C.nz y hyE.1) with u | u
            · exact u
            · rw [hq] at s1
              have so := (List.pairwise_append.mp s1).2.2 y z q (List.mem_singleton.mpr rfl)
              exact absurd (neg_on hh (C.nz y hyE.1) (C.nz q hqE.1) hyE.2 u so) (pos_ng k)
          · rw [List.mem_singleton.mp z]; exact k
        · have rn : ∀ y ∈ e :: R, pos f (ng y) := fun y hy => by
            have hyE : y ∈ E := by rw [hE]; exact List.mem_append_right _ hy
            exact neg_on hh (C.nz q hqE.1) (C.nz y hyE) hqE.2 k (s3 q (by rw [hq]; simp) y hy)
          have dif2 : sb (sumP P) (sumP S) = ng (sumP (S ++ e :: R)) := by
            have z : sumP (S ++ (Q ++ e :: R)) = zz := by rw [e1, ← sp]; exact hz
            rw [sumP_app, sumP_app] at z
            have q1 : (sumP S).1 + ((sumP Q).1 + (sumP (e :: R)).1) = 0 := congrArg Prod.fst z
            have q2 : (sumP S).2 + ((sumP Q).2 + (sumP (e :: R)).2) = 0 := congrArg Prod.snd z
            rw [dif, sumP_app]
            refine p2_ext ?_ ?_
            · show (sumP Q).1 = -((sumP S).1 + (sumP (e :: R)).1); omega
            · show (sumP Q).2 = -((sumP S).2 + (sumP (e :: R)).2); omega
          rw [dif2]
          refine sum_neg (by simp) fun y hy => ?_
          rcases List.mem_append.mp hy with z | z
          · exact sn y z
          · exact rn y z
theorem Canon.not_one {E : List P2} (C : Canon E) : E.length ≠ 1 := fun h => by
  match E, h with
  | [e], _ =>
    have := C.sum
    have q : sumP [e] = e := ad_zz e
    rw [q] at this
    exact C.nz e List.mem_cons_self this
/-- a proper row of edges that stand next to each other is not nought -/
theorem Canon.apart {E A B R : List P2} (C : Canon E) (hE : E = A ++ B ++ R) (hB : B ≠ []) (hR : R ≠ []) : sumP B ≠ zz := fun h => by
  obtain ⟨b, B', hb⟩ := List.exists_cons_of_ne_nil hB
  obtain ⟨r, R', hr⟩ := List.exists_cons_of_ne_nil hR
  have hs := C.srt
  have e1 : E = A ++ b :: (B' ++ R) := by rw [hE, hb]; simp
  have e2 : E = (A ++ B) ++ r :: R' := by rw [hE, hr]
  have hbE : b ∈ E := by rw [e1]; simp
  have pa : pre b E = A := by rw [e1]; exact pre_at (by rw [← e1]; exact hs)
  rcases least_at C (C.nz b hbE) e2 with z | ⟨z1, z2⟩ | z
  · rw [pa] at z
    have := congrArg List.length z
    rw [List.length_append] at this
    have : B.length = 0 := by omega
    exact hB (List.length_eq_zero_iff.mp this)
  · have := (List.append_eq_nil_iff.mp z2).2
    exact hB this
  · rw [pa, sumP_app, h, ad_zz, sb_self] at z
    exact pos_zz b z
/-- two polygons that lead alike in every direction are one -/
theorem canon_uniq {s s' : P2} {E E' : List P2} (C : Canon E) (C' : Canon E') (H : ∀ f, f ≠ zz → ad s (sumP (pre f E)) = ad s' (sumP (pre f E'))) : E = E' ∧ s = s' := by
  have canc : ∀ {a b c : P2}, ad a b = ad a c → b = c := fun {a b c} h => by
    have q1 : a.1 + b.1 = a.1 + c.1 := congrArg Prod.fst h
    have q2 : a.2 + b.2 = a.2 + c.2 := congrArg Prod.snd h
    exact p2_ext (by omega) (by omega)
  have cancr : ∀ {a b c : P2}, ad a c = ad b c → a = b := fun {a b c} h => by
    rw [ad_cm a c, ad_cm b c] at h
    exact canc h
  -- an empty one
  have empty : ∀ (s s' : P2) (E' : List P2), Canon E' → (∀ f, f ≠ zz → ad s (sumP (pre f [])) = ad s' (sumP (pre f E'))) → E' = [] := fun s s' E' C' H => by
    match E', C' with
    | [], _ => rfl
    | [e], C' => exact absurd rfl C'.not_one
    | e :: x :: r, C' =>
      exfalso
      have p1 : pre e (e :: x :: r) = [] := pre_at (P := []) C'.srt
      have p2 : pre x (e :: x :: r) = [e] := pre_at (P := [e]) C'.srt
      have h1 := H e (C'.nz e (by simp))
      have h2 := H x (C'.nz x (by simp))
      rw [p1] at h1
      rw [p2] at h2
      have q : ad s (sumP (pre e [])) = ad s (sumP (pre x [])) := rfl
      rw [h1, h2] at q
      have z := canc q
      exact C'.apart (A := []) (B := [e]) (R := x :: r) rfl (by simp) (by simp) z.symm
  -- the same start, a common beginning
  have key : ∀ (R R' P : List P2), E = P ++ R → E' = P ++ R' → s = s' → R = R' := by
    -- a first edge that is sooner in one can't be
    have less : ∀ (s : P2) (F F' P R R' : List P2) (e e' : P2), Canon F → Canon F' → (∀ f, f ≠ zz → ad s (sumP (pre f F)) = ad s (sumP (pre f F'))) → F = P ++ e :: R → F' = P ++ e' :: R' → soon e e' = false := fun s F F' P R R' e e' D D' HF hF hF' => by
      rw [← Bool.not_eq_true]
      intro so
      have he : e ∈ F := by rw [hF]; simp
      have he' : e' ∈ F' := by rw [hF']; simp
      have p1 : pre e F = P := by rw [hF]; exact pre_at (by rw [← hF]; exact D.srt)
      have p2 : pre e' F' = P := by rw [hF']; exact pre_at (by rw [← hF']; exact D'.srt)
      have h2 := canc (HF e' (D'.nz e' he'))
      rw [p2] at h2
      -- in F the edges sooner than e' are P, e, and more
      have sp := pre_suf (D'.nz e' he') D.srt D.nz
      have hPe : pre e' F = P ++ e :: pre e' R := by
        have ss := D.srt
        rw [hF] at ss ⊢
        unfold pre
        obtain ⟨a1, a2, a3⟩ := List.pairwise_append.mp ss
        have mP : ∀ x ∈ P, x ∈ F := fun x hx => by rw [hF]; exact List.mem_append_left _ hx
        rw [List.filter_append, List.filter_cons_of_pos (by rw [so]), List.filter_eq_self.mpr fun x hx => ?_]
        exact soon_tr (D.nz x (mP x hx)) (D.nz e he) (D'.nz e' he') (a3 x hx e List.mem_cons_self) so
      rw [hPe, sumP_app] at h2
      have z : sumP (e :: pre e' R) = zz := by
        have q : ad (sumP P) (sumP (e :: pre e' R)) = ad (sumP P) zz := by rw [h2, ad_zz]
        exact canc q
      by_cases hT : suf e' F = []
      · -- all of F is sooner than e'
        rw [hT, List.append_nil] at sp
        by_cases hP : P = []
        · subst hP
          -- the last edge of F
          have hne : F ≠ [] := by rw [hF]; simp
          have hl := (List.dropLast_concat_getLast hne).symm
          have hm : F.getLast hne ∈ F := List.getLast_mem hne
          have pl : pre (F.getLast hne) F = F.dropLast := by
            have := pre_at (P := F.dropLast) (R := []) (e := F.getLast hne) (by rw [← hl]; exact D.srt)
            rwa [← hl] at this
          have all : ∀ x ∈ F, soon x e' = true := fun x hx => by
            have : x ∈ pre e' F := by rw [← sp]; exact hx
            exact (List.mem_filter.mp this).2
          have none : pre (F.getLast hne) F' = [] := by
            unfold pre
            rw [List.filter_eq_nil_iff]
            intro y hy q
            have l1 := all _ hm
            have hy2 : y = e' ∨ soon e' y = true := by
              rw [hF'] at hy
              rcases List.mem_cons.mp hy with a | a
              · exact .inl a
              · right
                have ss := D'.srt
                rw [hF'] at ss
                exact (List.pairwise_cons.mp ss).1 y a
            have hyz := D'.nz y hy
            rcases hy2 with a | a
            · rw [a] at q
              rw [soon_asym l1] at q; cases q
            · have := soon_tr (D.nz _ hm) (D'.nz e' he') hyz l1 a
              rw [soon_asym this] at q; cases q
          have h3 := canc (HF _ (D.nz _ hm))
          rw [pl, none] at h3
          by_cases hd : F.dropLast = []
          · have : F.length = 1 := by
              have := congrArg List.length hl
              rw [hd] at this
              simpa using this
            exact D.not_one this
          · exact D.apart (A := []) (B := F.dropLast) (R := [F.getLast hne]) (by simpa using hl) hd (by simp) h3
        · -- P in front: the rest of the circle, P, is nought too
          have hz : sumP P = zz := by
            have q := D.sum
            rw [sp, hPe, sumP_app, z, ad_zz] at q
            exact q
          exact D.apart (A := []) (B := P) (R := e :: R) (by simpa using hF) hP (by simp) hz
      · exact D.apart (A := P) (B := e :: pre e' R) (R := suf e' F) (by rw [← hPe]; exact sp) (by simp) hT z
    have step : ∀ (s : P2) (F F' P R R' : List P2) (e e' : P2), Canon F → Canon F' → (∀ f, f ≠ zz → ad s (sumP (pre f F)) = ad s (sumP (pre f F'))) → F = P ++ e :: R → F' = P ++ e' :: R' → soon e e' = false → soon e' e = false →
        ∀ r R2, R = r :: R2 → (∀ r' R2', R' = r' :: R2' → soon r' r = false) → e = e' := fun s F F' P R R' e e' D D' HF hF hF' n1 n2 r R2 hR hR' => by
      have he : e ∈ F := by rw [hF]; simp
      have he' : e' ∈ F' := by rw [hF']; simp
      have hr : r ∈ F := by rw [hF, hR]; simp
      have p1 : pre r F = P ++ [e] := by
        have q : F = (P ++ [e]) ++ r :: R2 := by rw [hF, hR]; simp
        rw [q]
        exact pre_at (by rw [← q]; exact D.srt)
      have ss := D.srt
      rw [hF, hR] at ss
      have ser : soon e r = true := (List.pairwise_cons.mp (List.pairwise_append.mp ss).2.1).1 r List.mem_cons_self
      have sPr : ∀ x ∈ P, soon x r = true := fun x hx => (List.pairwise_append.mp ss).2.2 x hx r (by simp)
      have ser' : soon e' r = true := same_l (D.nz e he) (D'.nz e' he') (D.nz r hr) n1 n2 ser
      have p2 : pre r F' = P ++ [e'] := by
        rw [hF']
        unfold pre
        rw [List.filter_append, List.filter_cons_of_pos (by rw [ser']), List.filter_eq_self.mpr sPr]
        have : R'.filter (fun x => soon x r) = [] := by
          rw [List.filter_eq_nil_iff]
          intro y hy q
          match R', hy, hR', hF' with
          | r' :: R2', hy, hR', hF' =>
            have h1 := hR' r' R2' rfl
            have ss' := D'.srt
            rw [hF'] at ss'
            have ss2 := (List.pairwise_cons.mp (List.pairwise_append.mp ss').2.1).2
            have hr' : r' ∈ F' := by rw [hF']; simp
            rcases List.mem_cons.mp hy with a | a
            · rw [a, h1] at q; cases q
            · have hyF : y ∈ F' := by rw [hF']; simp [a]
              have := soon_tr (D'.nz r' hr') (D'.nz y hyF) (D.nz r hr) ((List.pairwise_cons.mp ss2).1 y a) q
              rw [h1] at this; cases this
        rw [this]
      have h := canc (HF r (D.nz r hr))
      rw [p1, p2, sumP_app, sumP_app] at h
      have h2 := canc h
      rwa [show sumP [e] = e from ad_zz e, show sumP [e'] = e' from ad_zz e'] at h2
    intro R
    induction R with
    | nil =>
      intro R' P hE hE' hs
      cases R' with
      | nil => rfl
      | cons e' R' =>
        exfalso
        rw [List.append_nil] at hE
        by_cases hP : P = []
        · subst hP
          have := empty s s' E' C' (by rw [hE] at H; exact H)
          rw [hE'] at this
          cases this
        · have hz : sumP P = zz := by rw [← hE]; exact C.sum
          exact C'.apart (A := []) (B := P) (R := e' :: R') (by simpa using hE') hP (by simp) hz
    | cons e R ih =>
      intro R' P hE hE' hs
      subst hs
      cases R' with
      | nil =>
        exfalso
        rw [List.append_nil] at hE'
        by_cases hP : P = []
        · subst hP
          have := empty s s E C (by rw [hE'] at H; exact fun f hf => (H f hf).symm)
          rw [hE] at this
          cases this
        · have hz : sumP P = zz := by rw [← hE']; exact C'.sum
          exact C.apart (A := []) (B := P) (R := e :: R) (by simpa using hE) hP (by simp) hz
      | cons e' R' =>
        have n1 := less s E E' P R R' e e' C C' H hE hE'
        have n2 := less s E' E P R' R e' e C' C (fun f hf => (H f hf).symm) hE' hE
        have ee : e = e' := by
          cases hR : R with
          | nil =>
            cases hR' : R' with
            | nil =>
              have z1 := C.sum
              have z2 := C'.sum
              rw [hE, hR, sumP_app] at z1
              rw [hE', hR', sumP_app] at z2
              have := canc (z1.trans z2.symm)
              rwa [show sumP [e] = e from ad_zz e, show sumP [e'] = e' from ad_zz e'] at this
            | cons r' R2' =>
              exact (step s E' E P R' R e' e C' C (fun f hf => (H f hf).symm) hE' hE n2 n1 r' R2' hR' (fun r R2 h => by rw [hR] at h; cases h)).symm
          | cons r R2 =>
            cases hR' : R' with
            | nil => exact step s E E' P R R' e e' C C' H hE hE' n1 n2 r R2 hR (fun r' R2' h => by rw [hR'] at h; cases h)
            | cons r' R2' =>
              cases k : soon r' r with
              | false =>
                refine step s E E' P R R' e e' C C' H hE hE' n1 n2 r R2 hR (fun r2 R3 h => ?_)
                rw [hR'] at h
                injection h with h1 h2
                rw [← h1]; exact k
              | true =>
                refine (step s E' E P R' R e' e C' C (fun f hf => (H f hf).symm) hE' hE n2 n1 r' R2' hR' (fun r2 R3 h => ?_)).symm
                rw [hR] at h
                injection h with h1 h2
                rw [← h1]; exact soon_asym k
        subst ee
        have := ih R' (P ++ [e]) (by rw [hE]; simp) (by rw [hE']; simp) rfl
        rw [this]
  -- the same start
  have hs : s = s' := by
    cases hE : E with
    | nil =>
      have := empty s s' E' C' (by rw [hE] at H; exact H)
      have h := H (1, 0) (by decide)
      rw [hE, this] at h
      exact cancr h
    | cons e R =>
      cases hE' : E' with
      | nil =>
        have := empty s' s E C (by rw [hE'] at H; exact fun f hf => (H f hf).symm)
        rw [hE] at this
        cases this
      | cons e' R' =>
        have he : e ∈ E := by rw [hE]; simp
        have he' : e' ∈ E' := by rw [hE']; simp
        have p1 : pre e E = [] := by rw [hE]; exact pre_at (P := []) (by rw [← hE]; exact C.srt)
        have p2 : pre e' E' = [] := by rw [hE']; exact pre_at (P := []) (by rw [← hE']; exact C'.srt)
        have one : ∀ {F : List P2} {x y : P2} {r : List P2}, Canon F → F = x :: r → y ≠ zz → soon x y = false → pre y F = [] := fun {F x y r} D hF hy hn => by
          unfold pre
          rw [List.filter_eq_nil_iff]
          intro z hz q
          have ss := D.srt
          rw [hF] at ss hz
          have hx : x ∈ F := by rw [hF]; simp
          rcases List.mem_cons.mp hz with a | a
          · rw [a, hn] at q; cases q
          · have hzF : z ∈ F := by rw [hF]; simp [a]
            have := soon_tr (D.nz x hx) (D.nz z hzF) hy ((List.pairwise_cons.mp ss).1 z a) q
            rw [hn] at this; cases this
        cases k : soon e' e with
        | false =>
          have := H e (C.nz e he)
          rw [p1, one C' hE' (C.nz e he) k] at this
          exact cancr this
        | true =>
          have := H e' (C'.nz e' he')
          rw [p2, one C hE (C'.nz e' he') (soon_asym k)] at this
          exact cancr this
  exact ⟨key E E' [] rfl rfl hs, hs⟩
end CH

namespace CH
/-! corners by edges -/
def vs : P2 → List P2 → List P2
  | s, [] => [s]
  | s, e :: r => s :: vs (ad s e) r
def verts (s : P2) (E : List P2) : List P2 := vs s E.dropLast
theorem vs_len : ∀ (s : P2) (E : List P2), (vs s E).length = E.length + 1
  | _, [] => rfl
  | s, e :: r => by
    show (vs (ad s e) r).length + 1 = r.length + 1 + 1
    rw [vs_len]
theorem vs_get : ∀ (s : P2) (E : List P2) (k : Nat), k ≤ E.length → (vs s E)[k]? = some (ad s (sumP (E.take k)))
  | s, [], 0, _ => by show some s = some (ad s zz); rw [ad_zz]
  | s, e :: r, 0, _ => by show some s = some (ad s zz); rw [ad_zz]
  | s, e :: r, k + 1, h => by
    show (vs (ad s e) r)[k]? = some (ad s (ad e (sumP (r.take k))))
    rw [vs_get (ad s e) r k (by simpa using h), ad_as]
theorem vs_app : ∀ (s : P2) (A B : List P2), vs s (A ++ B) = (vs s A).dropLast ++ vs (ad s (sumP A)) B
  | s, [], B => by
    show vs s B = [] ++ vs (ad s zz) B
    rw [ad_zz]
    rfl
  | s, e :: A, B => by
    show s :: vs (ad s e) (A ++ B) = (s :: vs (ad s e) A).dropLast ++ vs (ad s (ad e (sumP A))) B
    rw [vs_app (ad s e) A B, ad_as]
    have : vs (ad s e) A ≠ [] := by
      intro q
      have := vs_len (ad s e) A
      rw [q] at this
      simp at this
    rw [List.dropLast_cons_of_ne_nil this]
    rfl
theorem vs_drop : ∀ (s : P2) (E : List P2), E ≠ [] → (vs s E).dropLast = vs s E.dropLast := fun s E h => by
  have e := (List.dropLast_concat_getLast h).symm
  have q := vs_app s E.dropLast [E.getLast h]
  rw [← e] at q
  rw [q]
  show ((vs s E.dropLast).dropLast ++ ad s (sumP E.dropLast) :: [ad (ad s (sumP E.dropLast)) (E.getLast h)]).dropLast = _
  have l := vs_get s E.dropLast E.dropLast.length (Nat.le_refl _)
  rw [List.take_length] at l
  have hne : vs s E.dropLast ≠ [] := by
    intro q
    have := vs_len s E.dropLast
    rw [q] at this
    simp at this
  have l2 : (vs s E.dropLast).getLast hne = ad s (sumP E.dropLast) := by
    have := List.getLast?_eq_some_getLast hne
    rw [List.getLast?_eq_getElem?, vs_len, Nat.add_sub_cancel, l] at this
    exact (Option.some.inj this).symm
  rw [show ∀ (x : List P2) (a b : P2), (x ++ a :: [b]).dropLast = x ++ [a] from fun x a b => by
    rw [List.dropLast_append_of_ne_nil (by simp)]; rfl]
  rw [← l2]
  exact List.dropLast_concat_getLast hne
theorem verts_len (s : P2) (E : List P2) : (verts s E).length = max 1 E.length := by
  unfold verts
  rw [vs_len, List.length_dropLast]
  omega
theorem verts_get (s : P2) (E : List P2) (k : Nat) (h : k < max 1 E.length) : (verts s E)[k]? = some (ad s (sumP (E.take k))) := by
  unfold verts
  rw [vs_get s E.dropLast k (by rw [List.length_dropLast]; omega)]
  have : E.dropLast.take k = E.take k := by
    rw [List.dropLast_eq_take, List.take_take]
    congr 1
    omega
  rw [this]
theorem verts_ne (s : P2) (E : List P2) : verts s E ≠ [] := fun h => by
  have := verts_len s E
  rw [h] at this
  simp at this
  omega
theorem mem_verts {s : P2} {E : List P2} {x : P2} : x ∈ verts s E ↔ ∃ P R, E = P ++ R ∧ (R ≠ [] ∨ E = []) ∧ x = ad s (sumP P) := by
  constructor
  · intro h
    obtain ⟨k, hk⟩ := List.getElem?_of_mem h
    have hl := (List.getElem?_eq_some_iff.mp hk).1
    rw [verts_len] at hl
    rw [verts_get s E k hl] at hk
    refine ⟨E.take k, E.drop k, (List.take_append_drop k E).symm, ?_, (Option.some.inj hk).symm⟩
    by_cases hE : E = []
    · exact .inr hE
    · left
      intro q
      have := List.drop_eq_nil_iff.mp q
      have : 0 < E.length := List.length_pos_iff.mpr hE
      omega
  · rintro ⟨P, R, hE, hR, rfl⟩
    have hk : P.length < max 1 E.length := by
      rcases hR with h | h
      · have : 0 < R.length := List.length_pos_iff.mpr h
        have := congrArg List.length hE
        rw [List.length_append] at this
        omega
      · have := congrArg List.length hE
        rw [List.length_append, h] at this
        simp at this
        omega
    have g := verts_get s E P.length hk
    have t : E.take P.length = P := by rw [hE]; simp
    rw [t] at g
    exact List.mem_of_getElem? g
def IsMin (f : P2) (W : List P2) (x : P2) : Prop := x ∈ W ∧ ∀ p ∈ W, x = p ∨ pos f (sb p x)
theorem sb_sw (a b : P2) : sb a b = ng (sb b a) := by
  refine p2_ext ?_ ?_
  · show a.1 - b.1 = -(b.1 - a.1); omega
  · show a.2 - b.2 = -(b.2 - a.2); omega
theorem IsMin.uniq {f : P2} {W : List P2} {x y : P2} (h : IsMin f W x) (h' : IsMin f W y) : x = y := by
  rcases h.2 y h'.1 with e | p
  · exact e
  · rcases h'.2 x h.1 with e | q
    · exact e.symm
    · rw [sb_sw] at q
      exact absurd q (pos_ng p)
theorem sb_ad (s a b : P2) : sb (ad s a) (ad s b) = sb a b := by
  refine p2_ext ?_ ?_
  · show s.1 + a.1 - (s.1 + b.1) = a.1 - b.1; omega
  · show s.2 + a.2 - (s.2 + b.2) = a.2 - b.2; omega
/-- the least corner of a direction -/
theorem verts_min {s : P2} {E : List P2} (C : Canon E) {f : P2} (hf : f ≠ zz) : IsMin f (verts s E) (ad s (sumP (pre f E))) := by
  have sp := pre_suf hf C.srt C.nz
  constructor
  · by_cases hT : suf f E = []
    · -- all are sooner: the sum is nought
      rw [hT, List.append_nil] at sp
      rw [← sp, C.sum, mem_verts]
      by_cases hE : E = []
      · exact ⟨[], E, rfl, .inr hE, rfl⟩
      · exact ⟨[], E, rfl, .inl hE, rfl⟩
    · rw [mem_verts]
      exact ⟨_, _, sp, .inl hT, rfl⟩
  · intro p hp
    obtain ⟨P, R, hE, hR, rfl⟩ := mem_verts.mp hp
    cases R with
    | nil =>
      rcases hR with h | h
      · exact absurd rfl h
      · rw [h] at hE ⊢
        have : P = [] := (List.append_eq_nil_iff.mp hE.symm).1
        left
        rw [this] <;> rfl
    | cons e R =>
      rcases least_at C hf hE with z | ⟨z1, z2⟩ | z
      · left; rw [← z]
      · left; rw [z1, z2, C.sum] <;> rfl
      · right; rw [sb_ad]; exact z
/-! the order of pairs -/
def lexlt (a b : P2) : Prop := h0 (sb b a) = true
instance (a b : P2) : Decidable (lexlt a b) := inferInstanceAs (Decidable (_ = true))
theorem lexlt_iff {a b : P2} : lexlt a b ↔ (a.1 < b.1 ∨ (a.1 = b.1 ∧ a.2 < b.2)) := by
  unfold lexlt
  rw [h0_iff]
  show (0 < b.1 - a.1 ∨ (b.1 - a.1 = 0 ∧ 0 < b.2 - a.2)) ↔ _
  omega
theorem lexlt_tr {a b c : P2} (h1 : lexlt a b) (h2 : lexlt b c) : lexlt a c := by
  rw [lexlt_iff] at *
  omega
theorem lexlt_irr (a : P2) : ¬ lexlt a a := by
  rw [lexlt_iff]
  omega
theorem lex_or {a b : P2} (h : a ≠ b) : lexlt a b ∨ lexlt b a := by
  rw [lexlt_iff, lexlt_iff]
  have : ¬ (a.1 = b.1 ∧ a.2 = b.2) := fun q => h (p2_ext q.1 q.2)
  omega
theorem h0_ad {a b : P2} (ha : h0 a = true) (hb : h0 b = true) : h0 (ad a b) = true := by
  rw [h0_iff] at *
  show 0 < a.1 + b.1 ∨ (a.1 + b.1 = 0 ∧ 0 < a.2 + b.2)
  omega
theorem h1_ad {a b : P2} (ha : h0 (ng a) = true) (hb : h0 (ng b) = true) : h0 (ng (ad a b)) = true := by
  rw [ng_ad]
  exact h0_ad ha hb
/-- the start is the least of the corners -/
theorem verts_first {s : P2} {E : List P2} (C : Canon E) : ∀ x ∈ verts s E, x = s ∨ lexlt s x := by
  intro x hx
  obtain ⟨P, R, hE, hR, rfl⟩ := mem_verts.mp hx
  by_cases hP : P = []
  · left; rw [hP]; exact ad_zz s
  · right
    have dif : sb (ad s (sumP P)) s = sumP P := by
      refine p2_ext ?_ ?_
      · show s.1 + (sumP P).1 - s.1 = (sumP P).1; omega
      · show s.2 + (sumP P).2 - s.2 = (sumP P).2; omega
    unfold lexlt
    rw [dif]
    have hs := C.srt
    rw [hE] at hs
    obtain ⟨s1, s2, s3⟩ := List.pairwise_append.mp hs
    -- the last of P
    have hl := (List.dropLast_concat_getLast hP).symm
    have hm : P.getLast hP ∈ P := List.getLast_mem hP
    have hmE : P.getLast hP ∈ E := by rw [hE]; exact List.mem_append_left _ hm
    cases k : h0 (P.getLast hP) with
    | true =>
      refine sum_in (p := fun e => h0 e = true) (fun a b => h0_ad) P hP fun e he => ?_
      rw [hl] at he
      rcases List.mem_append.mp he with q | q
      · rw [hl] at s1
        have so := (List.pairwise_append.mp s1).2.2 e q _ (List.mem_singleton.mpr rfl)
        by_cases e1 : h0 e = h0 (P.getLast hP)
        · exact e1.trans k
        · rw [soon_diff e1] at so; exact so
      · rw [List.mem_singleton.mp q]; exact k
    | false =>
      have hRne : R ≠ [] := by
        rcases hR with h | h
        · exact h
        · rw [h] at hE
          exact absurd (List.append_eq_nil_iff.mp hE.symm).1 hP
      have all : ∀ e ∈ R, h0 (ng e) = true := fun e he => by
        have heE : e ∈ E := by rw [hE]; exact List.mem_append_right _ he
        rw [h0_ng (C.nz e heE)]
        have so := s3 _ hm e he
        by_cases e1 : h0 (P.getLast hP) = h0 e
        · rw [← e1, k]; rfl
        · rw [soon_diff e1, k] at so; cases so
      have := sum_in (p := fun e => h0 (ng e) = true) (fun a b => h1_ad) R hRne all
      have z := C.sum
      rw [hE, sumP_app] at z
      have q1 : (sumP P).1 + (sumP R).1 = 0 := congrArg Prod.fst z
      have q2 : (sumP P).2 + (sumP R).2 = 0 := congrArg Prod.snd z
      have e : ng (sumP R) = sumP P := by
        refine p2_ext ?_ ?_
        · show -(sumP R).1 = (sumP P).1; omega
        · show -(sumP R).2 = (sumP P).2; omega
      rw [← e]
      exact this
/-- no corner stands twice -/
theorem verts_nodup {s : P2} {E : List P2} (C : Canon E) : (verts s E).Nodup := by
  rw [List.Nodup, List.pairwise_iff_getElem]
  intro i j hi hj hij h
  rw [verts_len] at hi hj
  have gi := verts_get s E i hi
  have gj := verts_get s E j hj
  rw [List.getElem?_eq_getElem (by rw [verts_len]; exact hi)] at gi
  rw [List.getElem?_eq_getElem (by rw [verts_len]; exact hj)] at gj
  have e := (Option.some.inj gi).symm.trans (h.trans (Option.some.inj gj))
  have hjE : j < E.length := by omega
  have sp1 : E = E.take j ++ E.drop j := (List.take_append_drop j E).symm
  have sp2 : E.take j = E.take i ++ (E.take j).drop i := by
    have := (List.take_append_drop i (E.take j)).symm
    rwa [List.take_take, Nat.min_eq_left (by omega)] at this
  rw [sp2, sumP_app] at e
  have z : sumP ((E.take j).drop i) = zz := by
    have q1 : s.1 + (sumP (E.take i)).1 = s.1 + ((sumP (E.take i)).1 + (sumP ((E.take j).drop i)).1) := congrArg Prod.fst e
    have q2 : s.2 + (sumP (E.take i)).2 = s.2 + ((sumP (E.take i)).2 + (sumP ((E.take j).drop i)).2) := congrArg Prod.snd e
    refine p2_ext ?_ ?_
    · show _ = (0 : Int); omega
    · show _ = (0 : Int); omega
  refine C.apart (A := E.take i) (B := (E.take j).drop i) (R := E.drop j) (by rw [← sp2, ← sp1]) ?_ ?_ z
  · intro q
    have := List.drop_eq_nil_iff.mp q
    rw [List.length_take] at this
    omega
  · intro q
    have := List.drop_eq_nil_iff.mp q
    omega
/-! the chain -/
def pops (v : P2) : List P2 → List P2
  | d :: c :: r => if cr (sb d c) (sb v d) ≤ 0 then pops v (c :: r) else d :: c :: r
  | l => l
def chainR (row : List P2) : List P2 := row.foldl (fun st v => v :: pops v st) []
def chain (row : List P2) : List P2 := (chainR row).reverse
def hullOf (row : List P2) : List P2 := if row.length = 1 then row else (chain row).dropLast ++ (chain row.reverse).dropLast
/-- steps, the last one first -/
def difR : List P2 → List P2
  | d :: c :: r => sb d c :: difR (c :: r)
  | _ => []
def lef (f c p : P2) : Prop := c = p ∨ pos f (sb p c)
theorem sb_tr (a b c : P2) : ad (sb b c) (sb a b) = sb a c := by
  refine p2_ext ?_ ?_
  · show b.1 - c.1 + (a.1 - b.1) = a.1 - c.1; omega
  · show b.2 - c.2 + (a.2 - b.2) = a.2 - c.2; omega
theorem lef_tr {f a b c : P2} (h1 : lef f a b) (h2 : lef f b c) : lef f a c := by
  rcases h1 with e | p
  · rw [e]; exact h2
  · rcases h2 with e | q
    · rw [← e]; exact .inr p
    · right
      rw [← sb_tr c b a]
      exact pos_ad p q
/-- a step of the half -/
def Stp (hb : Bool) (a b : P2) : Prop := sb b a ≠ zz ∧ h0 (sb b a) = hb
/-- what is popped is told by what stands -/
theorem pop_dom {hb : Bool} {f c d v : P2} (hf : f ≠ zz) (hh : h0 f = hb) (h1 : Stp hb c d) (h2 : Stp hb d v) (hc : cr (sb d c) (sb v d) ≤ 0) : lef f c d ∨ lef f v d := by
  by_cases hl : lef f c d
  · exact .inl hl
  · right; right
    have n1 : pos f (ng (sb d c)) := by
      rcases pos_or hf h1.1 with p | p
      · exact absurd (.inr p) hl
      · exact p
    rw [sb_sw]
    rcases pos_or hf h2.1 with p | p
    · exfalso
      cases hb with
      | true =>
        have q1 := (pos_h0 hh h2.2).mp p
        have q2 : ¬ 0 ≤ cr f (sb d c) := fun z => pos_ng ((pos_h0 hh h1.2).mpr z) n1
        have q3 : 0 < cr (sb d c) f := by rw [cr_sw]; omega
        have := tr0' h1.2 hh h2.2 q3 q1
        omega
      | false =>
        have kf := h0_ng hf; have k1 := h0_ng h1.1; have k2 := h0_ng h2.1
        rw [hh] at kf; rw [h1.2] at k1; rw [h2.2] at k2
        have q1 := (pos_h0 kf k2).mp (pos_ff.mpr p)
        have q2 : ¬ 0 ≤ cr (ng f) (ng (sb d c)) := fun z => pos_ng (pos_ff.mp ((pos_h0 kf k1).mpr z)) n1
        rw [cr_ng] at q1 q2
        have q3 : 0 < cr (ng (sb d c)) (ng f) := by rw [cr_ng, cr_sw]; omega
        have := tr0' k1 kf k2 q3 (by rw [cr_ng]; exact q1)
        rw [cr_ng] at this
        omega
    · exact p
theorem Stp.tr {hb : Bool} {a b c : P2} (h1 : Stp hb a b) (h2 : Stp hb b c) : Stp hb a c := by
  have e := sb_tr c b a
  cases hb with
  | true =>
    have := h0_ad h1.2 h2.2
    rw [e] at this
    exact ⟨h0_ne this, this⟩
  | false =>
    have k1 := h0_ng h1.1; have k2 := h0_ng h2.1
    rw [h1.2] at k1; rw [h2.2] at k2
    have := h1_ad k1 k2
    rw [e] at this
    have nz : sb c a ≠ zz := fun q => by rw [q] at this; exact absurd this (by decide)
    refine ⟨nz, ?_⟩
    rw [h0_ng nz] at this
    simpa using this
structure Stack (hb : Bool) (st : List P2) : Prop where
  stp : st.Pairwise (fun l e => Stp hb e l)
  cv : (difR st).Pairwise (fun l e => soon e l = true)
theorem pops_suf (v : P2) : ∀ st : List P2, pops v st <:+ st
  | [] => List.suffix_refl _
  | [d] => List.suffix_refl _
  | d :: c :: r => by
    unfold pops
    split
    · exact List.IsSuffix.trans (pops_suf v (c :: r)) (List.suffix_cons _ _)
    · exact List.suffix_refl _
theorem pops_ne (v : P2) : ∀ st : List P2, st ≠ [] → pops v st ≠ []
  | [], h => h
  | [d], h => h
  | d :: c :: r, h => by
    unfold pops
    split
    · exact pops_ne v (c :: r) (by simp)
    · exact h
theorem pops_last (v : P2) (st : List P2) (h : st ≠ []) : (pops v st).getLast? = st.getLast? := by
  obtain ⟨a, ha⟩ := pops_suf v st
  have hn := pops_ne v st h
  conv => rhs; rw [← ha]
  rw [List.getLast?_append]
  cases q : (pops v st).getLast? with
  | none => exact absurd (List.getLast?_eq_none_iff.mp q) hn
  | some x => rfl
theorem dif_cons {d : P2} {l : List P2} (h : l ≠ []) : difR (d :: l) = sb d (l.head h) :: difR l := by
  cases l with
  | nil => exact absurd rfl h
  | cons c r => rfl
theorem dif_nz {hb : Bool} : ∀ {st : List P2}, st.Pairwise (fun l e => Stp hb e l) → ∀ e ∈ difR st, e ≠ zz ∧ h0 e = hb
  | [], _, _, h => by cases h
  | [_], _, _, h => by cases h
  | d :: c :: r, hp, e, h => by
    rcases List.mem_cons.mp (show e ∈ sb d c :: difR (c :: r) from h) with q | q
    · rw [q]
      exact (List.pairwise_cons.mp hp).1 c List.mem_cons_self
    · exact dif_nz (List.pairwise_cons.mp hp).2 e q
theorem push_ok {hb : Bool} {v : P2} : ∀ {st : List P2}, st ≠ [] → Stack hb st → (∀ x ∈ st, Stp hb x v) →
    Stack hb (v :: pops v st) ∧ ∀ f, f ≠ zz → h0 f = hb → ∀ x ∈ st, ∃ c ∈ v :: pops v st, lef f c x
  | [], h, _, _ => absurd rfl h
  | [d], _, S, hv => by
    refine ⟨⟨?_, List.pairwise_singleton _ _⟩, fun f _ _ x hx => ⟨x, List.mem_cons_of_mem _ hx, .inl rfl⟩⟩
    exact List.pairwise_cons.mpr ⟨hv, S.stp⟩
  | d :: c :: r, _, S, hv => by
    have S' : Stack hb (c :: r) := ⟨(List.pairwise_cons.mp S.stp).2, (List.pairwise_cons.mp S.cv).2⟩
    have hcd : Stp hb c d := (List.pairwise_cons.mp S.stp).1 c List.mem_cons_self
    have hdv := hv d List.mem_cons_self
    unfold pops
    split
    · rename_i hle
      obtain ⟨i1, i2⟩ := push_ok (st := c :: r) (by simp) S' fun x hx => hv x (List.mem_cons_of_mem _ hx)
      refine ⟨i1, fun f hf hh x hx => ?_⟩
      rcases List.mem_cons.mp hx with q | q
      · rw [q]
        rcases pop_dom hf hh hcd hdv hle with z | z
        · obtain ⟨y, hy, l⟩ := i2 f hf hh c List.mem_cons_self
          exact ⟨y, hy, lef_tr l z⟩
        · exact ⟨v, List.mem_cons_self, z⟩
      · exact i2 f hf hh x q
    · rename_i hgt
      refine ⟨⟨List.pairwise_cons.mpr ⟨hv, S.stp⟩, ?_⟩, fun f _ _ x hx => ⟨x, List.mem_cons_of_mem _ hx, .inl rfl⟩⟩
      show (sb v d :: difR (d :: c :: r)).Pairwise _
      have so : soon (sb d c) (sb v d) = true := cr_soon (hcd.2.trans hdv.2.symm) (by omega)
      refine List.pairwise_cons.mpr ⟨fun x hx => ?_, S.cv⟩
      rcases List.mem_cons.mp (show x ∈ sb d c :: difR (c :: r) from hx) with q | q
      · rw [q]; exact so
      · have h1 := (List.pairwise_cons.mp S.cv).1 x q
        exact soon_tr (dif_nz S'.stp x q).1 hcd.1 hdv.1 h1 so
structure ChainOk (hb : Bool) (row st : List P2) : Prop where
  ne : st ≠ []
  hd : st.head? = row.getLast?
  lst : st.getLast? = row.head?
  sub : st.reverse.Sublist row
  ok : Stack hb st
  dom : ∀ f, f ≠ zz → h0 f = hb → ∀ p ∈ row, ∃ c ∈ st, lef f c p
theorem chain_go {hb : Bool} : ∀ (rest done st : List P2), (done ++ rest).Pairwise (Stp hb) → ChainOk hb done st → done ≠ [] →
    ChainOk hb (done ++ rest) (rest.foldl (fun st v => v :: pops v st) st)
  | [], done, st, _, h, _ => by rw [List.append_nil]; exact h
  | v :: rest, done, st, hp, h, hd => by
    have hq : ((done ++ [v]) ++ rest).Pairwise (Stp hb) := by simpa using hp
    have hv : ∀ x ∈ st, Stp hb x v := fun x hx => by
      have hx' : x ∈ done := h.sub.subset (List.mem_reverse.mpr hx)
      exact (List.pairwise_append.mp hp).2.2 x hx' v List.mem_cons_self
    obtain ⟨p1, p2⟩ := push_ok h.ne h.ok hv
    have := chain_go (hb := hb) rest (done ++ [v]) (v :: pops v st) hq ⟨by simp, by simp, ?_, ?_, p1, fun f hf hh p hp => ?_⟩ (by simp)
    · simpa using this
    · have hn := pops_ne v st h.ne
      rw [List.getLast?_cons_of_ne_nil hn, pops_last v st h.ne, h.lst]
      cases done with
      | nil => exact absurd rfl hd
      | cons a b => rfl
    · have s1 : (pops v st).reverse.Sublist done := (List.reverse_sublist.mpr (pops_suf v st).sublist).trans h.sub
      rw [List.reverse_cons]
      exact s1.append (List.Sublist.refl _)
    · rcases List.mem_append.mp hp with q | q
      · obtain ⟨c, hc, l⟩ := h.dom f hf hh p q
        obtain ⟨y, hy, l2⟩ := p2 f hf hh c hc
        exact ⟨y, hy, lef_tr l2 l⟩
      · rw [List.mem_singleton.mp q]
        exact ⟨v, List.mem_cons_self, .inl rfl⟩
theorem chain_ok {hb : Bool} {row : List P2} (hp : row.Pairwise (Stp hb)) (h : row ≠ []) : ChainOk hb row (chainR row) := by
  cases row with
  | nil => exact absurd rfl h
  | cons v r =>
    show ChainOk hb ([v] ++ r) (r.foldl _ (v :: pops v []))
    exact chain_go r [v] [v] hp ⟨by simp, rfl, rfl, by simp, ⟨by simp, List.Pairwise.nil⟩, fun f _ _ p hp => ⟨p, hp, .inl rfl⟩⟩ (by simp)
/-- the corners of a stack by its steps -/
theorem stack_vs : ∀ (st : List P2) (b : P2), st.getLast? = some b → vs b (difR st).reverse = st.reverse ∧ ∀ t, st.head? = some t → ad b (sumP (difR st).reverse) = t
  | [], b, h => by cases h
  | [d], b, h => by
    have e : d = b := Option.some.inj h
    subst e
    refine ⟨rfl, fun t ht => ?_⟩
    have : d = t := Option.some.inj ht
    rw [← this]
    exact ad_zz d
  | d :: c :: r, b, h => by
    obtain ⟨h1, h2⟩ := stack_vs (c :: r) b (by rw [← h, List.getLast?_cons_cons])
    have h3 := h2 c rfl
    have e : (difR (d :: c :: r)).reverse = (difR (c :: r)).reverse ++ [sb d c] := by
      show (sb d c :: difR (c :: r)).reverse = _
      rw [List.reverse_cons]
    have hcd : ad c (sb d c) = d := by
      refine p2_ext ?_ ?_
      · show c.1 + (d.1 - c.1) = d.1; omega
      · show c.2 + (d.2 - c.2) = d.2; omega
    rw [e]
    refine ⟨?_, fun t ht => ?_⟩
    · rw [vs_app, h3, h1]
      show (c :: r).reverse.dropLast ++ c :: [ad c (sb d c)] = (d :: c :: r).reverse
      rw [hcd, List.reverse_cons, List.dropLast_concat]
      simp
    · have : d = t := Option.some.inj ht
      rw [← this, sumP_app, ← ad_as, h3, show sumP [sb d c] = sb d c from ad_zz _, hcd]
/-- the hull of a row in order -/
theorem hull_ok {row : List P2} (hs : row.Pairwise lexlt) (hn : row ≠ []) : ∃ s E, Canon E ∧ hullOf row = verts s E ∧ ∀ f, f ≠ zz → IsMin f row (ad s (sumP (pre f E))) := by
  by_cases h1 : row.length = 1
  · match row, h1 with
    | [p], _ =>
      refine ⟨p, [], ⟨List.Pairwise.nil, fun e h => (by cases h), rfl⟩, rfl, fun f hf => ⟨?_, fun q hq => ?_⟩⟩
      · show ad p zz ∈ [p]
        rw [ad_zz]; simp
      · left
        show ad p zz = q
        rw [ad_zz, List.mem_singleton.mp hq]
  · have hp1 : row.Pairwise (Stp true) := hs.imp fun {a b} h => ⟨h0_ne h, h⟩
    have hp2 : row.reverse.Pairwise (Stp false) := by
      rw [List.pairwise_reverse]
      refine hs.imp fun {a b} h => ?_
      have nz : sb a b ≠ zz := fun q => by
        have := sb_eq_zz q
        rw [this] at h
        exact lexlt_irr _ h
      refine ⟨nz, ?_⟩
      have h' : h0 (sb b a) = true := h
      rw [sb_sw, h0_ng nz] at h'
      simpa using h'
    have c1 := chain_ok hp1 hn
    have c2 := chain_ok hp2 (by simpa using hn)
    obtain ⟨s, hhd⟩ : ∃ s, row.head? = some s := ⟨row.head hn, List.head?_eq_some_head hn⟩
    obtain ⟨t, hlt⟩ : ∃ t, row.getLast? = some t := ⟨row.getLast hn, List.getLast?_eq_some_getLast hn⟩
    obtain ⟨v1, w1⟩ := stack_vs (chainR row) s (by rw [c1.lst, hhd])
    obtain ⟨v2, w2⟩ := stack_vs (chainR row.reverse) t (by rw [c2.lst, List.head?_reverse, hlt])
    have w1 := w1 t (by rw [c1.hd, hlt])
    have w2 := w2 s (by rw [c2.hd, List.getLast?_reverse, hhd])
    generalize hL : (difR (chainR row)).reverse = EL at *
    generalize hU : (difR (chainR row.reverse)).reverse = EU at *
    have nzL : ∀ e ∈ EL, e ≠ zz ∧ h0 e = true := fun e he => dif_nz c1.ok.stp e (by rw [← hL] at he; exact List.mem_reverse.mp he)
    have nzU : ∀ e ∈ EU, e ≠ zz ∧ h0 e = false := fun e he => dif_nz c2.ok.stp e (by rw [← hU] at he; exact List.mem_reverse.mp he)
    have st : s ≠ t := by
      intro q
      match row, hn, h1, hs, hhd, hlt with
      | a :: b :: r, _, _, hs, hhd, hlt =>
        have e1 : a = s := Option.some.inj hhd
        have hm : t ∈ b :: r := by
          rw [List.getLast?_cons_cons] at hlt
          exact List.mem_of_getLast? hlt
        have := (List.pairwise_cons.mp hs).1 t hm
        rw [e1, q] at this
        exact lexlt_irr _ this
    have neL : EL ≠ [] := fun q => by
      rw [q] at w1
      exact st ((ad_zz s).symm.trans w1)
    have neU : EU ≠ [] := fun q => by
      rw [q] at w2
      exact st ((ad_zz t).symm.trans w2).symm
    have C : Canon (EL ++ EU) := by
      refine ⟨List.pairwise_append.mpr ⟨?_, ?_, fun a ha b hb => ?_⟩, fun e he => ?_, ?_⟩
      · rw [← hL, List.pairwise_reverse]; exact c1.ok.cv
      · rw [← hU, List.pairwise_reverse]; exact c2.ok.cv
      · have q1 := (nzL a ha).2
        have q2 := (nzU b hb).2
        rw [soon_diff (by rw [q1, q2]; decide)]
        exact q1
      · rcases List.mem_append.mp he with q | q
        · exact (nzL e q).1
        · exact (nzU e q).1
      · rw [sumP_app]
        have q1 : s.1 + (sumP EL).1 = t.1 := congrArg Prod.fst w1
        have q2 : s.2 + (sumP EL).2 = t.2 := congrArg Prod.snd w1
        have q3 : t.1 + (sumP EU).1 = s.1 := congrArg Prod.fst w2
        have q4 : t.2 + (sumP EU).2 = s.2 := congrArg Prod.snd w2
        refine p2_ext ?_ ?_
        · show (sumP EL).1 + (sumP EU).1 = 0; omega
        · show (sumP EL).2 + (sumP EU).2 = 0; omega
    have hv : hullOf row = verts s (EL ++ EU) := by
      unfold hullOf chain
      rw [if_neg h1, ← v1, ← v2]
      unfold verts
      rw [← vs_drop s (EL ++ EU) (by simp [neL]), vs_app, w1]
      rw [List.dropLast_append_of_ne_nil]
      intro q
      have := vs_len t EU
      rw [q] at this
      simp at this
    refine ⟨s, EL ++ EU, C, hv, fun f hf => ?_⟩
    have m := verts_min (s := s) C hf
    have low : ∀ x, x ∈ chainR row → x ∈ verts s (EL ++ EU) := fun x hx => by
      rw [← hv]
      unfold hullOf chain
      rw [if_neg h1]
      have hx' : x ∈ (chainR row).reverse := List.mem_reverse.mpr hx
      have hne : (chainR row).reverse ≠ [] := by simpa using c1.ne
      rw [← List.dropLast_concat_getLast hne] at hx'
      rcases List.mem_append.mp hx' with q | q
      · exact List.mem_append_left _ q
      · apply List.mem_append_right
        have xt : x = t := by
          rw [List.mem_singleton.mp q, List.getLast_reverse]
          have := c1.hd
          rw [List.head?_eq_some_head c1.ne, hlt] at this
          exact Option.some.inj this
        rw [xt, ← v2]
        obtain ⟨u, U, hu⟩ := List.exists_cons_of_ne_nil neU
        rw [hu]
        show t ∈ (t :: vs (ad t u) U).dropLast
        rw [List.dropLast_cons_of_ne_nil]
        · exact List.mem_cons_self
        · intro q
          have := vs_len (ad t u) U
          rw [q] at this
          simp at this
    have upp : ∀ x, x ∈ chainR row.reverse → x ∈ verts s (EL ++ EU) := fun x hx => by
      rw [← hv]
      unfold hullOf chain
      rw [if_neg h1]
      have hx' : x ∈ (chainR row.reverse).reverse := List.mem_reverse.mpr hx
      have hne : (chainR row.reverse).reverse ≠ [] := by simpa using c2.ne
      rw [← List.dropLast_concat_getLast hne] at hx'
      rcases List.mem_append.mp hx' with q | q
      · exact List.mem_append_right _ q
      · apply List.mem_append_left
        have xs : x = s := by
          rw [List.mem_singleton.mp q, List.getLast_reverse]
          have := c2.hd
          rw [List.head?_eq_some_head c2.ne, List.getLast?_reverse, hhd] at this
          exact Option.some.inj this
        rw [xs, ← v1]
        obtain ⟨u, U, hu⟩ := List.exists_cons_of_ne_nil neL
        rw [hu]
        show s ∈ (s :: vs (ad s u) U).dropLast
        rw [List.dropLast_cons_of_ne_nil]
        · exact List.mem_cons_self
        · intro q
          have := vs_len (ad s u) U
          rw [q] at this
          simp at this
    have inrow : ∀ x ∈ verts s (EL ++ EU), x ∈ row := fun x hx => by
      rw [← hv] at hx
      unfold hullOf chain at hx
      rw [if_neg h1] at hx
      rcases List.mem_append.mp hx with q | q
      · exact c1.sub.subset (List.dropLast_subset _ q)
      · exact List.mem_reverse.mp (c2.sub.subset (List.dropLast_subset _ q))
    refine ⟨inrow _ m.1, fun p hp => ?_⟩
    cases hh : h0 f with
    | true =>
      obtain ⟨c, hc, l⟩ := c1.dom f hf hh p hp
      exact lef_tr (m.2 c (low c hc)) l
    | false =>
      obtain ⟨c, hc, l⟩ := c2.dom f hf hh p (List.mem_reverse.mpr hp)
      exact lef_tr (m.2 c (upp c hc)) l
end CH

namespace CH
/-! a wind in order -/
def ins (x : P2) : List P2 → List P2
  | [] => [x]
  | y :: r => if lexlt x y then x :: y :: r else if x = y then y :: r else y :: ins x r
def sortd (W : List P2) : List P2 := W.foldr ins []
theorem mem_ins2 {x z : P2} : ∀ {l : List P2}, z ∈ ins x l ↔ z = x ∨ z ∈ l
  | [] => by simp [ins]
  | y :: r => by
    unfold ins
    split
    · simp
    · split
      · rename_i h
        rw [h]; simp
      · rw [List.mem_cons, mem_ins2, List.mem_cons]
        constructor
        · rintro (h | h | h) <;> simp [h]
        · rintro (h | h | h) <;> simp [h]
theorem ins_pw {x : P2} : ∀ {l : List P2}, l.Pairwise lexlt → (ins x l).Pairwise lexlt
  | [], _ => List.pairwise_singleton _ _
  | y :: r, h => by
    obtain ⟨h1, h2⟩ := List.pairwise_cons.mp h
    unfold ins
    split
    · rename_i k
      refine List.pairwise_cons.mpr ⟨fun z hz => ?_, h⟩
      rcases List.mem_cons.mp hz with q | q
      · rw [q]; exact k
      · exact lexlt_tr k (h1 z q)
    · split
      · exact h
      · rename_i k1 k2
        refine List.pairwise_cons.mpr ⟨fun z hz => ?_, ins_pw h2⟩
        rcases mem_ins2.mp hz with q | q
        · rw [q]
          rcases lex_or k2 with z | z
          · exact absurd z k1
          · exact z
        · exact h1 z q
theorem mem_sortd {z : P2} : ∀ {W : List P2}, z ∈ sortd W ↔ z ∈ W
  | [] => Iff.rfl
  | x :: W => by
    show z ∈ ins x (sortd W) ↔ _
    rw [mem_ins2, mem_sortd, List.mem_cons]
theorem sortd_pw : ∀ W : List P2, (sortd W).Pairwise lexlt
  | [] => List.Pairwise.nil
  | x :: W => ins_pw (sortd_pw W)
/-- one order -/
theorem pw_uniq : ∀ {a b : List P2}, a.Pairwise lexlt → b.Pairwise lexlt → (∀ z, z ∈ a ↔ z ∈ b) → a = b
  | [], [], _, _, _ => rfl
  | [], y :: b, _, _, h => absurd ((h y).mpr List.mem_cons_self) (by simp)
  | x :: a, [], _, _, h => absurd ((h x).mp List.mem_cons_self) (by simp)
  | x :: a, y :: b, ha, hb, h => by
    obtain ⟨a1, a2⟩ := List.pairwise_cons.mp ha
    obtain ⟨b1, b2⟩ := List.pairwise_cons.mp hb
    have e : x = y := by
      rcases List.mem_cons.mp ((h x).mp List.mem_cons_self) with q | q
      · exact q
      · rcases List.mem_cons.mp ((h y).mpr List.mem_cons_self) with p | p
        · exact p.symm
        · exact absurd (lexlt_tr (b1 x q) (a1 y p)) (lexlt_irr _)
    subst e
    rw [pw_uniq a2 b2 fun z => ?_]
    constructor
    · intro hz
      rcases List.mem_cons.mp ((h z).mp (List.mem_cons_of_mem _ hz)) with q | q
      · have := a1 z hz
        rw [q] at this
        exact absurd this (lexlt_irr _)
      · exact q
    · intro hz
      rcases List.mem_cons.mp ((h z).mpr (List.mem_cons_of_mem _ hz)) with q | q
      · have := b1 z hz
        rw [q] at this
        exact absurd this (lexlt_irr _)
      · exact q
def least (W : List P2) : List P2 := hullOf (sortd W)
theorem sub_len : ∀ (W l : List P2), l.Nodup → (∀ x ∈ l, x ∈ W) → l.length ≤ W.length
  | [], [], _, _ => Nat.le_refl _
  | [], x :: l, _, h => absurd (h x List.mem_cons_self) (by simp)
  | v :: W, l, hn, h => by
    by_cases hv : v ∈ l
    · have step := sub_len W (l.erase v) (hn.erase v) fun x hx => by
        rcases List.mem_cons.mp (h x (List.mem_of_mem_erase hx)) with e | e
        · subst e
          exact absurd hx hn.not_mem_erase
        · exact e
      rw [List.length_erase_of_mem hv] at step
      rw [List.length_cons]
      omega
    · exact Nat.le_succ_of_le (sub_len W l hn fun x hx => (List.mem_cons.mp (h x hx)).resolve_left fun e => hv (e ▸ hx))
/-- the least corner of an edge's own direction -/
theorem edge_pre {E : List P2} (C : Canon E) {k : Nat} {e : P2} (h : E[k]? = some e) : pre e E = E.take k := by
  obtain ⟨hk, he⟩ := List.getElem?_eq_some_iff.mp h
  have sp : E = E.take k ++ e :: E.drop (k + 1) := by
    rw [← he, List.getElem_cons_drop, List.take_append_drop]
  have := pre_at (P := E.take k) (R := E.drop (k + 1)) (e := e) (by rw [← sp]; exact C.srt)
  rwa [← sp] at this
theorem least_ok {W : List P2} (h : W ≠ []) : ∃ s E, Canon E ∧ least W = verts s E ∧ (∀ f, f ≠ zz → IsMin f W (ad s (sumP (pre f E)))) ∧ (least W).length ≤ W.length := by
  have hne : sortd W ≠ [] := by
    obtain ⟨x, r, hx⟩ := List.exists_cons_of_ne_nil h
    intro q
    have : x ∈ sortd W := mem_sortd.mpr (by rw [hx]; exact List.mem_cons_self)
    rw [q] at this
    cases this
  obtain ⟨s, E, C, hv, hm⟩ := hull_ok (sortd_pw W) hne
  have hm' : ∀ f, f ≠ zz → IsMin f W (ad s (sumP (pre f E))) := fun f hf => ⟨mem_sortd.mp (hm f hf).1, fun p hp => (hm f hf).2 p (mem_sortd.mpr hp)⟩
  refine ⟨s, E, C, hv, hm', ?_⟩
  show (hullOf (sortd W)).length ≤ _
  rw [hv]
  refine sub_len _ _ (verts_nodup C) fun x hx => ?_
  obtain ⟨P, R, hE, hR, rfl⟩ := mem_verts.mp hx
  cases R with
  | nil =>
    rcases hR with q | q
    · exact absurd rfl q
    · have e : P = [] := by rw [q] at hE; exact (List.append_eq_nil_iff.mp hE.symm).1
      have := (hm' (1, 0) (by decide)).1
      rw [q] at this
      rw [e]
      exact this
  | cons e R =>
    have he : e ≠ zz := C.nz e (by rw [hE]; simp)
    have := (hm' e he).1
    rw [show pre e E = P by rw [hE]; exact pre_at (by rw [← hE]; exact C.srt)] at this
    exact this
/-! edges -/
def edgeAt (C : List P2) (k : Nat) : Option P2 := if C.getD ((k + 1) % C.length) zz = C.getD k zz then none else some (sb (C.getD ((k + 1) % C.length) zz) (C.getD k zz))
def edgesTo (C : List P2) (i : Nat) : List P2 := (List.range i).filterMap (edgeAt C)
def edgesOf (C : List P2) : List P2 := edgesTo C C.length
theorem edgesTo_succ (C : List P2) (i : Nat) : edgesTo C (i + 1) = edgesTo C i ++ (edgeAt C i).toList := by
  unfold edgesTo
  rw [List.range_succ, List.filterMap_append]
  congr 1
theorem edgesTo_len (C : List P2) : ∀ i, (edgesTo C i).length ≤ i
  | 0 => Nat.le_refl _
  | i + 1 => by
    rw [edgesTo_succ, List.length_append]
    have := edgesTo_len C i
    cases edgeAt C i <;> simp <;> omega
theorem getD_of {l : List P2} {k : Nat} {x : P2} (h : l[k]? = some x) : l.getD k zz = x := by rw [List.getD_eq_getElem?_getD, h]; rfl
/-- the corner behind a corner -/
theorem verts_next {s : P2} {E : List P2} (C : Canon E) {k : Nat} {e v : P2} (h : E[k]? = some e) (hv : (verts s E)[k]? = some v) : (verts s E)[(k + 1) % E.length]? = some (ad v e) := by
  obtain ⟨hk, he⟩ := List.getElem?_eq_some_iff.mp h
  have g := verts_get s E k (by omega)
  rw [hv] at g
  have ev := Option.some.inj g
  have e1 : sumP (E.take (k + 1)) = ad (sumP (E.take k)) e := by
    rw [List.take_succ, h, sumP_app]
    show ad _ (ad e zz) = _
    rw [ad_zz]
  by_cases hl : k + 1 < E.length
  · rw [Nat.mod_eq_of_lt hl, verts_get s E (k + 1) (by omega), e1, ← ad_as, ← ev]
  · have hkn : k + 1 = E.length := by omega
    rw [hkn, Nat.mod_self, verts_get s E 0 (by omega)]
    have z := C.sum
    rw [← List.take_length (l := E), ← hkn, e1] at z
    rw [ev, ad_as, z] <;> rfl
theorem edges_at {s : P2} {E : List P2} (C : Canon E) {k : Nat} {e : P2} (h : E[k]? = some e) : edgeAt (verts s E) k = some e := by
  obtain ⟨hk, he⟩ := List.getElem?_eq_some_iff.mp h
  have hlen : (verts s E).length = E.length := by rw [verts_len]; omega
  obtain ⟨v, hv⟩ : ∃ v, (verts s E)[k]? = some v := ⟨_, verts_get s E k (by omega)⟩
  have hn := verts_next C h hv
  unfold edgeAt
  rw [hlen, getD_of hn, getD_of hv]
  have dif : sb (ad v e) v = e := by
    refine p2_ext ?_ ?_
    · show v.1 + e.1 - v.1 = e.1; omega
    · show v.2 + e.2 - v.2 = e.2; omega
  rw [if_neg (fun q => by
    have : e = zz := by rw [← dif, q, sb_self]
    exact C.nz e (List.mem_of_getElem? h) this), dif]
theorem edgesOf_verts {s : P2} {E : List P2} (C : Canon E) : edgesOf (verts s E) = E := by
  by_cases hE : E = []
  · subst hE
    show edgesTo [s] 1 = []
    show (List.filterMap (edgeAt [s]) [0]) = []
    have : edgeAt [s] 0 = none := by
      unfold edgeAt
      rw [show (0 + 1) % [s].length = 0 from by rw [List.length_singleton]]
      exact if_pos rfl
    simp [this]
  · have hlen : (verts s E).length = E.length := by
      have : 0 < E.length := List.length_pos_iff.mpr hE
      rw [verts_len]; omega
    unfold edgesOf
    rw [hlen]
    have key : ∀ k, k ≤ E.length → edgesTo (verts s E) k = E.take k := by
      intro k
      induction k with
      | zero => intro _; rfl
      | succ k ih =>
        intro hk
        have hg : E[k]? = some E[k] := List.getElem?_eq_getElem (by omega)
        rw [edgesTo_succ, ih (by omega), edges_at C hg, List.take_succ, hg]
    rw [key _ (Nat.le_refl _), List.take_length]
/-! edges put together -/
def mergeE : List P2 → List P2 → List P2
  | [], ys => ys
  | x :: xs, [] => x :: xs
  | x :: xs, y :: ys => if soon x y then x :: mergeE xs (y :: ys) else if soon y x then y :: mergeE (x :: xs) ys else ad x y :: mergeE xs ys
termination_by xs ys => xs.length + ys.length
theorem merge_nil (ys : List P2) : mergeE [] ys = ys := by unfold mergeE; rfl
theorem merge_nil_r (xs : List P2) : mergeE xs [] = xs := by cases xs <;> (unfold mergeE; rfl)
theorem merge_cc (x y : P2) (xs ys : List P2) : mergeE (x :: xs) (y :: ys) = if soon x y then x :: mergeE xs (y :: ys) else if soon y x then y :: mergeE (x :: xs) ys else ad x y :: mergeE xs ys := by
  conv => lhs; unfold mergeE
theorem same_half {x y : P2} (h1 : soon x y = false) (h2 : soon y x = false) : h0 x = h0 y ∧ cr x y = 0 := by
  by_cases e : h0 x = h0 y
  · refine ⟨e, ?_⟩
    rw [← Bool.not_eq_true, soon_same e] at h1
    rw [← Bool.not_eq_true, soon_same e.symm, cr_sw] at h2
    omega
  · rw [soon_diff e] at h1
    rw [soon_diff (fun q => e q.symm)] at h2
    exact absurd (h1.trans h2.symm) e
theorem same_sum {x y : P2} (hx : x ≠ zz) (hy : y ≠ zz) (h1 : soon x y = false) (h2 : soon y x = false) : ad x y ≠ zz ∧ h0 (ad x y) = h0 x ∧ cr x (ad x y) = 0 := by
  obtain ⟨e, c⟩ := same_half h1 h2
  have cc : cr x (ad x y) = 0 := by rw [cr_ad, cr_self, c]; rfl
  cases k : h0 x with
  | true =>
    have := h0_ad k (e.symm.trans k)
    exact ⟨h0_ne this, this, cc⟩
  | false =>
    have kx := h0_ng hx; have ky := h0_ng hy
    rw [k] at kx; rw [← e, k] at ky
    have := h1_ad kx ky
    have nz : ad x y ≠ zz := fun q => by rw [q] at this; exact absurd this (by decide)
    refine ⟨nz, ?_, cc⟩
    rw [h0_ng nz] at this
    simpa using this
theorem same_not {x y : P2} (hx : x ≠ zz) (hy : y ≠ zz) (h1 : soon x y = false) (h2 : soon y x = false) : soon x (ad x y) = false ∧ soon (ad x y) x = false := by
  obtain ⟨_, e, c⟩ := same_sum hx hy h1 h2
  constructor
  · rw [← Bool.not_eq_true, soon_same e.symm, c]; omega
  · rw [← Bool.not_eq_true, soon_same e, cr_sw, c]; omega
structure Rows (E : List P2) : Prop where
  srt : E.Pairwise (fun a b => soon a b = true)
  nz : ∀ e ∈ E, e ≠ zz
theorem Rows.tail {x : P2} {E : List P2} (r : Rows (x :: E)) : Rows E := ⟨(List.pairwise_cons.mp r.srt).2, fun e he => r.nz e (List.mem_cons_of_mem _ he)⟩
theorem merge_low {z : P2} (hz : z ≠ zz) (X Y : List P2) (rx : Rows X) (ry : Rows Y) (hx : ∀ x ∈ X, soon z x = true) (hy : ∀ y ∈ Y, soon z y = true) : ∀ m ∈ mergeE X Y, soon z m = true ∧ m ≠ zz := by
  match X, Y with
  | [], Y => rw [merge_nil]; exact fun m hm => ⟨hy m hm, ry.nz m hm⟩
  | x :: X, [] => rw [merge_nil_r]; exact fun m hm => ⟨hx m hm, rx.nz m hm⟩
  | x :: X, y :: Y =>
    intro m hm
    rw [merge_cc] at hm
    have xz := rx.nz x List.mem_cons_self
    have yz := ry.nz y List.mem_cons_self
    split at hm
    · rcases List.mem_cons.mp hm with q | q
      · rw [q]; exact ⟨hx x List.mem_cons_self, xz⟩
      · exact merge_low hz X (y :: Y) rx.tail ry (fun w hw => hx w (List.mem_cons_of_mem _ hw)) hy m q
    · split at hm
      · rcases List.mem_cons.mp hm with q | q
        · rw [q]; exact ⟨hy y List.mem_cons_self, yz⟩
        · exact merge_low hz (x :: X) Y rx ry.tail hx (fun w hw => hy w (List.mem_cons_of_mem _ hw)) m q
      · rename_i h1 h2
        have h1 : soon x y = false := by simpa using h1
        have h2 : soon y x = false := by simpa using h2
        rcases List.mem_cons.mp hm with q | q
        · obtain ⟨a, b⟩ := same_not xz yz h1 h2
          have nz := (same_sum xz yz h1 h2).1
          rw [q]
          exact ⟨same_r xz nz hz a b (hx x List.mem_cons_self), nz⟩
        · exact merge_low hz X Y rx.tail ry.tail (fun w hw => hx w (List.mem_cons_of_mem _ hw)) (fun w hw => hy w (List.mem_cons_of_mem _ hw)) m q
termination_by X.length + Y.length
theorem merge_rows (X Y : List P2) (rx : Rows X) (ry : Rows Y) : Rows (mergeE X Y) := by
  match X, Y with
  | [], Y => rw [merge_nil]; exact ry
  | x :: X, [] => rw [merge_nil_r]; exact rx
  | x :: X, y :: Y =>
    rw [merge_cc]
    have xz := rx.nz x List.mem_cons_self
    have yz := ry.nz y List.mem_cons_self
    obtain ⟨x1, x2⟩ := List.pairwise_cons.mp rx.srt
    obtain ⟨y1, y2⟩ := List.pairwise_cons.mp ry.srt
    split
    · rename_i h
      have r := merge_rows X (y :: Y) rx.tail ry
      have low := merge_low xz X (y :: Y) rx.tail ry x1 fun w hw => by
        rcases List.mem_cons.mp hw with q | q
        · rw [q]; exact h
        · exact soon_tr xz yz (ry.nz w hw) h (y1 w q)
      refine ⟨List.pairwise_cons.mpr ⟨fun m hm => (low m hm).1, r.srt⟩, fun e he => ?_⟩
      rcases List.mem_cons.mp he with q | q
      · rw [q]; exact xz
      · exact r.nz e q
    · split
      · rename_i _ h
        have r := merge_rows (x :: X) Y rx ry.tail
        have low := merge_low yz (x :: X) Y rx ry.tail (fun w hw => by
          rcases List.mem_cons.mp hw with q | q
          · rw [q]; exact h
          · exact soon_tr yz xz (rx.nz w hw) h (x1 w q)) y1
        refine ⟨List.pairwise_cons.mpr ⟨fun m hm => (low m hm).1, r.srt⟩, fun e he => ?_⟩
        rcases List.mem_cons.mp he with q | q
        · rw [q]; exact yz
        · exact r.nz e q
      · rename_i h1 h2
        have h1 : soon x y = false := by simpa using h1
        have h2 : soon y x = false := by simpa using h2
        have r := merge_rows X Y rx.tail ry.tail
        obtain ⟨a, b⟩ := same_not xz yz h1 h2
        have nz := (same_sum xz yz h1 h2).1
        have low := merge_low nz X Y rx.tail ry.tail
          (fun w hw => same_l xz nz (rx.tail.nz w hw) a b (x1 w hw))
          (fun w hw => same_l xz nz (ry.tail.nz w hw) a b (same_l yz xz (ry.tail.nz w hw) h2 h1 (y1 w hw)))
        refine ⟨List.pairwise_cons.mpr ⟨fun m hm => (low m hm).1, r.srt⟩, fun e he => ?_⟩
        rcases List.mem_cons.mp he with q | q
        · rw [q]; exact nz
        · exact r.nz e q
termination_by X.length + Y.length
theorem ad_lc (a b c : P2) : ad a (ad b c) = ad b (ad a c) := by rw [← ad_as, ← ad_as, ad_cm a b]
/-- a sum over a property of the way alone is the sum of both -/
theorem merge_sum {g : P2 → Bool} (X Y : List P2) (hg : ∀ x y, x ≠ zz → y ≠ zz → soon x y = false → soon y x = false → g x = g y ∧ g (ad x y) = g x) (rx : Rows X) (ry : Rows Y) :
    sumP ((mergeE X Y).filter g) = ad (sumP (X.filter g)) (sumP (Y.filter g)) := by
  match X, Y with
  | [], Y => rw [merge_nil]; exact (zz_ad _).symm
  | x :: X, [] => rw [merge_nil_r]; exact (ad_zz _).symm
  | x :: X, y :: Y =>
    rw [merge_cc]
    have xz := rx.nz x List.mem_cons_self
    have yz := ry.nz y List.mem_cons_self
    have cons : ∀ (z : P2) (l : List P2), sumP ((z :: l).filter g) = ad (if g z = true then z else zz) (sumP (l.filter g)) := fun z l => by
      by_cases k : g z = true
      · rw [List.filter_cons_of_pos k, if_pos k] <;> rfl
      · rw [List.filter_cons_of_neg k, if_neg k, zz_ad]
    split
    · rw [cons, merge_sum X (y :: Y) hg rx.tail ry, cons x X, ad_as]
    · split
      · rw [cons, merge_sum (x :: X) Y hg rx ry.tail, cons y Y, ad_lc]
      · rename_i h1 h2
        obtain ⟨g1, g2⟩ := hg x y xz yz (by simpa using h1) (by simpa using h2)
        rw [cons, merge_sum X Y hg rx.tail ry.tail, cons x X, cons y Y, g2, ← g1]
        by_cases k : g x = true
        · simp only [if_pos k]
          rw [ad_as, ad_as, ad_lc y]
        · simp only [if_neg k]
          rw [zz_ad, zz_ad, zz_ad]
termination_by X.length + Y.length
theorem merge_len (X Y : List P2) : (mergeE X Y).length ≤ X.length + Y.length := by
  match X, Y with
  | [], Y => rw [merge_nil]; simp
  | x :: X, [] => rw [merge_nil_r]; simp
  | x :: X, y :: Y =>
    rw [merge_cc]
    split
    · have := merge_len X (y :: Y)
      simp only [List.length_cons] at *; omega
    · split
      · have := merge_len (x :: X) Y
        simp only [List.length_cons] at *; omega
      · have := merge_len X Y
        simp only [List.length_cons] at *; omega
termination_by X.length + Y.length
theorem merge_canon {X Y : List P2} (cx : Canon X) (cy : Canon Y) : Canon (mergeE X Y) ∧ ∀ f, f ≠ zz → sumP (pre f (mergeE X Y)) = ad (sumP (pre f X)) (sumP (pre f Y)) := by
  have rx : Rows X := ⟨cx.srt, cx.nz⟩
  have ry : Rows Y := ⟨cy.srt, cy.nz⟩
  have r := merge_rows X Y rx ry
  refine ⟨⟨r.srt, r.nz, ?_⟩, fun f hf => ?_⟩
  · have := merge_sum (g := fun _ => true) X Y (fun _ _ _ _ _ _ => ⟨rfl, rfl⟩) rx ry
    have ft : ∀ l : List P2, l.filter (fun _ => true) = l := fun l => List.filter_eq_self.mpr fun _ _ => rfl
    rw [ft, ft, ft] at this
    rw [this, cx.sum, cy.sum] <;> rfl
  · refine merge_sum (g := fun e => soon e f) X Y (fun x y hx hy h1 h2 => ?_) rx ry
    have eqv : ∀ a b : P2, a ≠ zz → b ≠ zz → soon a b = false → soon b a = false → soon a f = soon b f := fun a b ha hb h1 h2 => by
      rw [Bool.eq_iff_iff]
      exact ⟨same_l ha hb hf h1 h2, same_l hb ha hf h2 h1⟩
    obtain ⟨a, b⟩ := same_not hx hy h1 h2
    exact ⟨eqv x y hx hy h1 h2, eqv _ _ (same_sum hx hy h1 h2).1 hx b a⟩
/-! joined -/
def join (A B : List P2) : List P2 := vs (ad ((least A).headD zz) ((least B).headD zz)) (mergeE (edgesOf (least A)) (edgesOf (least B))).dropLast
def joinAll (Ws : List (List P2)) : List P2 := Ws.foldl join [zz]
theorem verts_head (s : P2) (E : List P2) : (verts s E).headD zz = s := by
  have := verts_get s E 0 (by omega)
  rw [← List.head?_eq_getElem?] at this
  rw [List.headD_eq_head?_getD, this]
  exact ad_zz s
def cnt (A : List P2) : Nat := if A.length ≤ 1 then 0 else A.length
theorem cnt_le (A : List P2) : cnt A ≤ A.length := by unfold cnt; split <;> omega
theorem len_cnt (A : List P2) : A.length ≤ max 1 (cnt A) := by unfold cnt; split <;> omega
theorem join_ok {A B : List P2} (hA : A ≠ []) (hB : B ≠ []) : ∃ s E, Canon E ∧ join A B = verts s E ∧ (∀ f a b, f ≠ zz → IsMin f A a → IsMin f B b → ad s (sumP (pre f E)) = ad a b) ∧ cnt (join A B) ≤ cnt A + cnt B := by
  obtain ⟨s1, E1, C1, e1, m1, l1⟩ := least_ok hA
  obtain ⟨s2, E2, C2, e2, m2, l2⟩ := least_ok hB
  obtain ⟨C, hm⟩ := merge_canon C1 C2
  have hj : join A B = verts (ad s1 s2) (mergeE E1 E2) := by
    unfold join verts
    rw [e1, e2, edgesOf_verts C1, edgesOf_verts C2, verts_head, verts_head]
  refine ⟨ad s1 s2, mergeE E1 E2, C, hj, fun f a b hf ha hb => ?_, ?_⟩
  · rw [hm f hf, ← (m1 f hf).uniq ha, ← (m2 f hf).uniq hb, ad_as, ad_as, ad_lc (s2)]
  · have small : ∀ {A s E}, Canon E → least A = verts s E → (least A).length ≤ A.length → E.length ≤ cnt A := fun {A s E} C e l => by
      rw [e, verts_len] at l
      have := C.not_one
      unfold cnt
      split <;> omega
    have a1 := small C1 e1 l1
    have a2 := small C2 e2 l2
    have a3 := merge_len E1 E2
    have a4 := C.not_one
    rw [hj]
    unfold cnt at *
    rw [verts_len]
    split <;> omega
noncomputable def mn (f : P2) (W : List P2) : P2 := open Classical in if h : ∃ x, IsMin f W x then Classical.choose h else zz
theorem mn_eq {f : P2} {W : List P2} {x : P2} (h : IsMin f W x) : mn f W = x := by
  unfold mn
  rw [dif_pos ⟨x, h⟩]
  exact (Classical.choose_spec (⟨x, h⟩ : ∃ x, IsMin f W x)).uniq h
theorem mn_is {f : P2} (hf : f ≠ zz) {W : List P2} (h : W ≠ []) : IsMin f W (mn f W) := by
  obtain ⟨s, E, C, e, m, l⟩ := least_ok h
  rw [mn_eq (m f hf)]
  exact m f hf
/-- a polygon that is reached -/
structure Rch (C : List P2) (m : P2 → P2) (s : P2) (E : List P2) : Prop where
  can : Canon E
  eq : C = verts s E
  at_ : ∀ f, f ≠ zz → ad s (sumP (pre f E)) = m f
theorem join_rch {C : List P2} {m : P2 → P2} {s : P2} {E B : List P2} (R : Rch C m s E) (hB : B ≠ []) : (∃ s' E', Rch (join C B) (fun f => ad (m f) (mn f B)) s' E') ∧ cnt (join C B) ≤ cnt C + cnt B := by
  have hC : C ≠ [] := by rw [R.eq]; exact verts_ne s E
  obtain ⟨s', E', C', e, h, l⟩ := join_ok hC hB
  refine ⟨⟨s', E', C', e, fun f hf => ?_⟩, l⟩
  have mi : IsMin f C (m f) := by
    have := verts_min (s := s) R.can hf
    rw [R.at_ f hf, ← R.eq] at this
    exact this
  exact h f _ _ hf mi (mn_is hf hB)
theorem joinAll_go : ∀ (Ws : List (List P2)) (C : List P2) (m : P2 → P2) (s : P2) (E : List P2), (∀ W ∈ Ws, W ≠ []) → Rch C m s E →
    (∃ s' E', Rch (Ws.foldl join C) (fun f => ad (m f) (sumP (Ws.map (mn f)))) s' E') ∧ cnt (Ws.foldl join C) ≤ cnt C + (Ws.map cnt).sum
  | [], C, m, s, E, _, R => ⟨⟨s, E, R.can, R.eq, fun f hf => by rw [R.at_ f hf]; exact (ad_zz _).symm⟩, by simp⟩
  | W :: Ws, C, m, s, E, h, R => by
    obtain ⟨⟨s1, E1, R1⟩, l1⟩ := join_rch R (h W List.mem_cons_self)
    obtain ⟨⟨s2, E2, R2⟩, l2⟩ := joinAll_go Ws (join C W) _ s1 E1 (fun V hV => h V (List.mem_cons_of_mem _ hV)) R1
    refine ⟨⟨s2, E2, R2.can, R2.eq, fun f hf => ?_⟩, ?_⟩
    · rw [R2.at_ f hf]
      show ad (ad (m f) (mn f W)) (sumP (Ws.map (mn f))) = ad (m f) (ad (mn f W) (sumP (Ws.map (mn f))))
      rw [ad_as]
    · simp only [List.map_cons, List.sum_cons]
      show cnt (Ws.foldl join (join C W)) ≤ _
      omega
theorem joinAll_ok (Ws : List (List P2)) (h : ∀ W ∈ Ws, W ≠ []) : (∃ s E, Rch (joinAll Ws) (fun f => sumP (Ws.map (mn f))) s E) ∧ cnt (joinAll Ws) ≤ (Ws.map cnt).sum := by
  have R0 : Rch [zz] (fun _ => zz) zz [] := ⟨⟨List.Pairwise.nil, fun e h => (by cases h), rfl⟩, rfl, fun f _ => ad_zz _⟩
  obtain ⟨⟨s, E, R⟩, l⟩ := joinAll_go Ws [zz] _ zz [] h R0
  refine ⟨⟨s, E, R.can, R.eq, fun f hf => ?_⟩, ?_⟩
  · rw [R.at_ f hf]; exact zz_ad _
  · have : cnt [zz] = 0 := rfl
    rw [this, Nat.zero_add] at l
    exact l
abbrev Wt := List P2 × P2
def shifted (w : Wt) : List P2 := w.1.map fun h => ad h w.2
def drift (w : Wt) : List P2 := least (shifted w)
def reach (ws : List Wt) : List P2 := joinAll (ws.map drift)
theorem drift_ne {w : Wt} (h : w.1 ≠ []) : drift w ≠ [] := by
  obtain ⟨s, E, C, e, _⟩ := least_ok (W := shifted w) (by unfold shifted; simpa using h)
  unfold drift
  rw [e]
  exact verts_ne s E
theorem drift_mn {w : Wt} (h : w.1 ≠ []) {f : P2} (hf : f ≠ zz) : mn f (drift w) = mn f (shifted w) := by
  obtain ⟨s, E, C, e, m, _⟩ := least_ok (W := shifted w) (by unfold shifted; simpa using h)
  rw [mn_eq (m f hf)]
  refine mn_eq ?_
  unfold drift
  rw [e]
  exact verts_min C hf
theorem drift_len {w : Wt} (h : w.1 ≠ []) : (drift w).length ≤ w.1.length := by
  obtain ⟨s, E, C, e, m, l⟩ := least_ok (W := shifted w) (by unfold shifted; simpa using h)
  unfold drift
  refine Nat.le_trans l ?_
  unfold shifted
  simp
theorem sum_le_sum {α : Type} {f g : α → Nat} : ∀ {l : List α}, (∀ x ∈ l, f x ≤ g x) → (l.map f).sum ≤ (l.map g).sum
  | [], _ => Nat.le_refl _
  | x :: l, h => by
    simp only [List.map_cons, List.sum_cons]
    have := h x List.mem_cons_self
    have := sum_le_sum (l := l) fun y hy => h y (List.mem_cons_of_mem _ hy)
    omega
theorem reach_ok {ws : List Wt} (h : ∀ w ∈ ws, w.1 ≠ []) : (∃ s E, Rch (reach ws) (fun f => sumP (ws.map fun w => mn f (shifted w))) s E) ∧ (reach ws).length ≤ max 1 (ws.map fun w => w.1.length).sum := by
  obtain ⟨⟨s, E, R⟩, l⟩ := joinAll_ok (ws.map drift) (fun W hW => by
    obtain ⟨w, hw, rfl⟩ := List.mem_map.mp hW
    exact drift_ne (h w hw))
  refine ⟨⟨s, E, R.can, R.eq, fun f hf => ?_⟩, ?_⟩
  · rw [R.at_ f hf]
    rw [List.map_map]
    congr 1
    exact List.map_congr_left fun w hw => drift_mn (h w hw) hf
  · have a := len_cnt (reach ws)
    have b : ((ws.map drift).map cnt).sum ≤ (ws.map fun w => w.1.length).sum := by
      rw [List.map_map]
      exact sum_le_sum fun w hw => Nat.le_trans (cnt_le _) (drift_len (h w hw))
    unfold reach at a ⊢
    omega
/-- the order of the watches does not matter -/
theorem reach_perm {ws ws' : List Wt} (h : ∀ w ∈ ws, w.1 ≠ []) (p : ws'.Perm ws) : reach ws' = reach ws := by
  obtain ⟨⟨s, E, R⟩, _⟩ := reach_ok h
  obtain ⟨⟨s', E', R'⟩, _⟩ := reach_ok (ws := ws') fun w hw => h w (p.mem_iff.mp hw)
  obtain ⟨e1, e2⟩ := canon_uniq R'.can R.can fun f hf => by
    rw [R.at_ f hf, R'.at_ f hf]
    exact sumP_perm (p.map _)
  rw [R.eq, R'.eq, e1, e2]
end CH

namespace CH
def maxL : List Int → Int
  | [] => 0
  | [x] => x
  | x :: y :: r => max x (maxL (y :: r))
theorem maxL_ok : ∀ {l : List Int}, l ≠ [] → maxL l ∈ l ∧ ∀ x ∈ l, x ≤ maxL l
  | [], h => absurd rfl h
  | [x], _ => ⟨by simp [maxL], fun y hy => by rw [List.mem_singleton.mp hy]; exact Int.le_refl _⟩
  | x :: y :: r, _ => by
    obtain ⟨h1, h2⟩ := maxL_ok (l := y :: r) (by simp)
    have e : maxL (x :: y :: r) = max x (maxL (y :: r)) := rfl
    constructor
    · rw [e]
      rcases Int.le_total x (maxL (y :: r)) with k | k
      · rw [Int.max_eq_right k]; exact List.mem_cons_of_mem _ h1
      · rw [Int.max_eq_left k]; exact List.mem_cons_self
    · intro z hz
      rw [e]
      rcases List.mem_cons.mp hz with q | q
      · rw [q]; exact Int.le_max_left _ _
      · exact Int.le_trans (h2 z q) (Int.le_max_right _ _)
theorem maxL_eq {l : List Int} {m : Int} (hm : m ∈ l) (h : ∀ x ∈ l, x ≤ m) : m = maxL l := by
  have hn : l ≠ [] := List.ne_nil_of_mem hm
  obtain ⟨a, b⟩ := maxL_ok hn
  exact Int.le_antisymm (b m hm) (h _ a)
def farw (b : P2) (w : Wt) : Int := maxL (w.1.map (dt b)) + dt b w.2
def farOf (ws : List Wt) (b : P2) : Int := (ws.map (farw b)).sum
def rot (b : P2) : P2 := (-b.2, b.1)
theorem dt_rot (b p : P2) : dt b p = - cr (rot b) p := by
  show b.1 * p.1 + b.2 * p.2 = -(-b.2 * p.2 - b.1 * p.1)
  grind
theorem rot_nz {b : P2} (h : b ≠ zz) : rot b ≠ zz := fun q => h (by
  have h1 : -b.2 = 0 := congrArg Prod.fst q
  have h2 : b.1 = 0 := congrArg Prod.snd q
  exact p2_ext h2 (by show b.2 = 0; omega))
theorem dt_sb (b p x : P2) : dt b (sb p x) = dt b p - dt b x := by
  show b.1 * (p.1 - x.1) + b.2 * (p.2 - x.2) = b.1 * p.1 + b.2 * p.2 - (b.1 * x.1 + b.2 * x.2)
  grind
theorem cr_sb (b p x : P2) : cr b (sb p x) = cr b p - cr b x := by
  show b.1 * (p.2 - x.2) - b.2 * (p.1 - x.1) = b.1 * p.2 - b.2 * p.1 - (b.1 * x.2 - b.2 * x.1)
  grind
theorem min_dt {b : P2} {W : List P2} {x : P2} (h : IsMin (rot b) W x) : ∀ p ∈ W, dt b p ≤ dt b x := fun p hp => by
  rcases h.2 p hp with q | q
  · rw [q]; exact Int.le_refl _
  · have : 0 ≤ cr (rot b) (sb p x) := by
      rcases q with q | q <;> omega
    rw [cr_sb] at this
    rw [dt_rot, dt_rot]
    omega
theorem farw_eq {b : P2} (hb : b ≠ zz) {w : Wt} (h : w.1 ≠ []) : farw b w = dt b (mn (rot b) (shifted w)) := by
  have m := mn_is (rot_nz hb) (W := shifted w) (by unfold shifted; simpa using h)
  obtain ⟨h0, hh, e⟩ := List.mem_map.mp m.1
  have le := min_dt m
  have mx : dt b h0 = maxL (w.1.map (dt b)) := maxL_eq (List.mem_map.mpr ⟨h0, hh, rfl⟩) fun x hx => by
    obtain ⟨p, hp, rfl⟩ := List.mem_map.mp hx
    have := le (ad p w.2) (List.mem_map.mpr ⟨p, hp, rfl⟩)
    rw [← e, dt_ad, dt_ad] at this
    omega
  unfold farw
  rw [← mx, ← e, dt_ad]
theorem dt_sum (b : P2) : ∀ l : List P2, dt b (sumP l) = (l.map (dt b)).sum
  | [] => by show b.1 * 0 + b.2 * 0 = 0; simp
  | e :: l => by
    show dt b (ad e (sumP l)) = _
    rw [dt_ad, dt_sum b l] <;> rfl
theorem farOf_eq {b : P2} (hb : b ≠ zz) {ws : List Wt} (h : ∀ w ∈ ws, w.1 ≠ []) {s : P2} {E : List P2} (R : Rch (reach ws) (fun f => sumP (ws.map fun w => mn f (shifted w))) s E) :
    farOf ws b = dt b (ad s (sumP (pre (rot b) E))) := by
  rw [R.at_ _ (rot_nz hb), dt_sum]
  unfold farOf
  rw [List.map_map]
  congr 1
  exact List.map_congr_left fun w hw => farw_eq hb (h w hw)
/-- what is met -/
theorem met_of {b c : P2} (hb : b ≠ zz) {ws : List Wt} (h : ∀ w ∈ ws, w.1 ≠ []) (hc : c ∈ reach ws) (hm : ∀ p ∈ reach ws, dt b p ≤ dt b c) : farOf ws b = dt b c := by
  obtain ⟨⟨s, E, R⟩, _⟩ := reach_ok h
  rw [farOf_eq hb h R]
  have m := verts_min (s := s) R.can (rot_nz hb)
  rw [← R.eq] at m
  exact Int.le_antisymm (hm _ m.1) (min_dt m c hc)
def outw (one other : P2) : P2 := (other.2 - one.2, one.1 - other.1)
theorem out_dt (one other p : P2) : dt (outw one other) p = - cr (sb other one) p := by
  show (other.2 - one.2) * p.1 + (one.1 - other.1) * p.2 = -((other.1 - one.1) * p.2 - (other.2 - one.2) * p.1)
  grind
theorem out_cr (a b c d : P2) : cr (outw a b) (outw c d) = cr (sb b a) (sb d c) := by
  show (b.2 - a.2) * (c.1 - d.1) - (a.1 - b.1) * (d.2 - c.2) = (b.1 - a.1) * (d.2 - c.2) - (b.2 - a.2) * (d.1 - c.1)
  grind
theorem out_nz {a b : P2} (h : a ≠ b) : outw a b ≠ zz := fun q => h (by
  have h1 : b.2 - a.2 = 0 := congrArg Prod.fst q
  have h2 : a.1 - b.1 = 0 := congrArg Prod.snd q
  exact p2_ext (by omega) (by omega))
theorem sb_nz {a b : P2} (h : a ≠ b) : sb b a ≠ zz := fun q => h (sb_eq_zz q).symm
/-- the reach's form -/
theorem reach_form {ws : List Wt} (h : ∀ w ∈ ws, w.1 ≠ []) : reach ws ≠ [] ∧ (reach ws).Nodup ∧ ∀ x ∈ (reach ws).tail, lexlt ((reach ws).headD zz) x := by
  obtain ⟨⟨s, E, R⟩, _⟩ := reach_ok h
  rw [R.eq]
  refine ⟨verts_ne s E, verts_nodup R.can, fun x hx => ?_⟩
  rw [verts_head]
  have hx' : x ∈ verts s E := List.mem_of_mem_tail hx
  rcases verts_first R.can x hx' with q | q
  · exfalso
    have nd := verts_nodup (s := s) R.can
    have hd := verts_head s E
    obtain ⟨y, r, hyr⟩ := List.exists_cons_of_ne_nil (verts_ne s E)
    rw [hyr] at nd hx hd
    have e : y = s := hd
    rw [q, ← e] at hx
    exact (List.nodup_cons.mp nd).1 hx
  · exact q
/-- one corner -/
theorem few_one {ws : List Wt} (h : ∀ w ∈ ws, w.1 ≠ []) {one : P2} (e : reach ws = [one]) {b : P2} (hb : b ≠ zz) : farOf ws b = dt b one :=
  met_of hb h (by rw [e]; simp) fun p hp => by
    rw [e] at hp
    rw [List.mem_singleton.mp hp]
    exact Int.le_refl _
theorem sq_nn (a : P2) : 0 ≤ dt a a := by
  by_cases h : a = zz
  · rw [h]; decide
  · exact Int.le_of_lt (dt_self_pos h)
/-- two corners -/
theorem few_two {ws : List Wt} (h : ∀ w ∈ ws, w.1 ≠ []) {one two : P2} (e : reach ws = [one, two]) :
    farOf ws (sb two one) = dt (sb two one) two ∧ farOf ws (ng (sb two one)) = dt (ng (sb two one)) one ∧ farOf ws (outw one two) = dt (outw one two) one ∧ farOf ws (outw two one) = dt (outw two one) one := by
  obtain ⟨_, nd, _⟩ := reach_form h
  rw [e] at nd
  have ne : one ≠ two := fun q => by rw [q] at nd; simp at nd
  have hn := sb_nz ne
  have m1 : one ∈ reach ws := by rw [e]; simp
  have m2 : two ∈ reach ws := by rw [e]; simp
  have two_cases : ∀ {b c : P2}, dt b one ≤ dt b c → dt b two ≤ dt b c → ∀ p ∈ reach ws, dt b p ≤ dt b c := fun {b c} a1 a2 p hp => by
    rw [e] at hp
    rcases List.mem_cons.mp hp with q | q
    · rw [q]; exact a1
    · rw [List.mem_singleton.mp q]; exact a2
  have ab := dt_sb (sb two one) two one
  have nn := sq_nn (sb two one)
  refine ⟨met_of hn h m2 (two_cases (by omega) (Int.le_refl _)), met_of (fun q => hn ?_) h m1 (two_cases (Int.le_refl _) ?_), met_of (out_nz ne) h m1 (two_cases (Int.le_refl _) ?_), met_of (out_nz ne.symm) h m1 (two_cases (Int.le_refl _) ?_)⟩
  · rw [← ng_ng (sb two one), q] <;> rfl
  · rw [dt_ng_l, dt_ng_l]; omega
  · rw [out_dt, out_dt]
    have := cr_sb (sb two one) two one
    rw [cr_self] at this
    omega
  · rw [out_dt, out_dt]
    have := cr_sb (sb one two) one two
    rw [cr_self] at this
    omega
/-- each step is met at its begin and its end -/
theorem edge_low {s : P2} {E : List P2} (C : Canon E) {k : Nat} {e v : P2} (h : E[k]? = some e) (hv : (verts s E)[k]? = some v) : ∀ p ∈ verts s E, v = p ∨ pos e (sb p v) := by
  obtain ⟨hk, he⟩ := List.getElem?_eq_some_iff.mp h
  have g := verts_get s E k (by omega)
  rw [hv] at g
  have ev := Option.some.inj g
  have m := verts_min (s := s) C (C.nz e (List.mem_of_getElem? h))
  rw [edge_pre C h, ← ev] at m
  exact m.2
/-- with three corners and more each turn is a true one -/
theorem turn_true {s : P2} {E : List P2} (C : Canon E) (hn : 3 ≤ E.length) {k : Nat} {a b : P2} (ha : E[k]? = some a) (hb : E[(k + 1) % E.length]? = some b) : 0 < cr a b := by
  obtain ⟨hk, _⟩ := List.getElem?_eq_some_iff.mp ha
  have hlen : (verts s E).length = E.length := by rw [verts_len]; omega
  have hj : (k + 1) % E.length < E.length := Nat.mod_lt _ (by omega)
  have hl : ((k + 1) % E.length + 1) % E.length < E.length := Nat.mod_lt _ (by omega)
  obtain ⟨vi, hvi⟩ : ∃ v, (verts s E)[k]? = some v := ⟨_, verts_get s E k (by omega)⟩
  have hvj := verts_next C ha hvi
  have hvl := verts_next C hb hvj
  obtain ⟨c, hc⟩ : ∃ c, E[((k + 1) % E.length + 1) % E.length]? = some c := ⟨_, List.getElem?_eq_getElem hl⟩
  have d1 : (k + 1) % E.length ≠ k := by
    by_cases q : k + 1 < E.length
    · rw [Nat.mod_eq_of_lt q]; omega
    · have : k + 1 = E.length := by omega
      rw [this, Nat.mod_self]; omega
  have d2 : ((k + 1) % E.length + 1) % E.length ≠ (k + 1) % E.length := by
    generalize (k + 1) % E.length = j at hj ⊢
    by_cases q : j + 1 < E.length
    · rw [Nat.mod_eq_of_lt q]; omega
    · have : j + 1 = E.length := by omega
      rw [this, Nat.mod_self]; omega
  have d3 : ((k + 1) % E.length + 1) % E.length ≠ k := by
    by_cases q : k + 1 < E.length
    · rw [Nat.mod_eq_of_lt q]
      by_cases q2 : k + 2 < E.length
      · rw [Nat.mod_eq_of_lt q2]; omega
      · have : k + 2 = E.length := by omega
        rw [show k + 1 + 1 = E.length by omega, Nat.mod_self]; omega
    · have : k + 1 = E.length := by omega
      rw [this, Nat.mod_self, Nat.mod_eq_of_lt (by omega)]; omega
  have nd := verts_nodup (s := s) C
  have dist : ∀ {i j : Nat} {x y : P2}, i ≠ j → (verts s E)[i]? = some x → (verts s E)[j]? = some y → x ≠ y := fun {i j x y} hij hx hy q => by
    obtain ⟨h1, g1⟩ := List.getElem?_eq_some_iff.mp hx
    obtain ⟨h2, g2⟩ := List.getElem?_eq_some_iff.mp hy
    have pw := List.pairwise_iff_getElem.mp nd
    rcases Nat.lt_or_gt_of_ne hij with w | w
    · exact pw i j h1 h2 w (g1.trans (q.trans g2.symm))
    · exact pw j i h2 h1 w (g2.trans (q.symm.trans g1.symm))
  have n1 := dist d1 hvj hvi
  have n2 := dist d2 hvl hvj
  have n3 := dist d3 hvl hvi
  have az := C.nz a (List.mem_of_getElem? ha)
  have mi := List.mem_of_getElem? hvi
  have mj := List.mem_of_getElem? hvj
  have ml := List.mem_of_getElem? hvl
  -- seen from a: the third corner
  have A : pos a (ad a b) := by
    rcases edge_low C ha hvi _ ml with q | q
    · exact absurd q.symm n3
    · have e : sb (ad (ad vi a) b) vi = ad a b := by
        refine p2_ext ?_ ?_
        · show vi.1 + a.1 + b.1 - vi.1 = a.1 + b.1; omega
        · show vi.2 + a.2 + b.2 - vi.2 = a.2 + b.2; omega
      rwa [e] at q
  have c1 : cr a (ad a b) = cr a b := by rw [cr_ad, cr_self, Int.zero_add]
  rcases Int.lt_or_le 0 (cr a b) with k1 | k1
  · exact k1
  · exfalso
    have z : cr a b = 0 := by
      rcases A with q | q
      · rw [c1] at q; omega
      · rw [c1] at q; exact q.1
    have A2 : 0 < dt a a + dt a b := by
      rcases A with q | q
      · rw [c1] at q; omega
      · rw [dt_ad] at q; exact q.2
    have B : dt a b < 0 := by
      rcases edge_low C hb hvj _ mi with q | q
      · exact absurd q n1
      · have e : sb vi (ad vi a) = ng a := by
          refine p2_ext ?_ ?_
          · show vi.1 - (vi.1 + a.1) = -a.1; omega
          · show vi.2 - (vi.2 + a.2) = -a.2; omega
        rw [e] at q
        have e2 : dt b a = dt a b := by show b.1 * a.1 + b.2 * a.2 = a.1 * b.1 + a.2 * b.2; rw [Int.mul_comm b.1, Int.mul_comm b.2]
        rcases q with q | q
        · rw [cr_ng_r, ← cr_sw] at q; omega
        · rw [dt_ng_r, e2] at q; omega
    -- seen from c: both others
    have P1 : pos c (ng (ad a b)) := by
      rcases edge_low C hc hvl _ mi with q | q
      · exact absurd q n3
      · have e : sb vi (ad (ad vi a) b) = ng (ad a b) := by
          refine p2_ext ?_ ?_
          · show vi.1 - (vi.1 + a.1 + b.1) = -(a.1 + b.1); omega
          · show vi.2 - (vi.2 + a.2 + b.2) = -(a.2 + b.2); omega
        rwa [e] at q
    have P2 : pos c (ng b) := by
      rcases edge_low C hc hvl _ mj with q | q
      · exact absurd q n2
      · have e : sb (ad vi a) (ad (ad vi a) b) = ng b := by
          refine p2_ext ?_ ?_
          · show vi.1 + a.1 - (vi.1 + a.1 + b.1) = -b.1; omega
          · show vi.2 + a.2 - (vi.2 + a.2 + b.2) = -b.2; omega
        rwa [e] at q
    have ncr : dt a a * cr c b = dt a b * cr c a := by
      have : dt a a * cr c b = dt a b * cr c a + cr a b * dt c a := by unfold dt cr; grind
      rw [z, Int.zero_mul, Int.add_zero] at this
      exact this
    have ndt : dt a a * dt c b = dt a b * dt c a := by
      have : dt a a * dt c b = dt a b * dt c a - cr a b * cr c a := by unfold dt cr; grind
      rw [z, Int.zero_mul, Int.sub_zero] at this
      exact this
    have pN := dt_self_pos az
    generalize dt a a = N at *
    generalize dt a b = M at *
    unfold pos at P1 P2
    rw [cr_ng_r, dt_ng_r, cr_ad, dt_ad] at P1
    rw [cr_ng_r, dt_ng_r] at P2
    generalize cr c a = x at *
    generalize cr c b = y at *
    generalize dt c a = u at *
    generalize dt c b = v at *
    -- N y = M x, N v = M u, M < 0, 0 < N + M; -(x + y), -y not below nought
    have hx : x = 0 ∧ y = 0 := by
      have y0 : y ≤ 0 := by omega
      have xy : x + y ≤ 0 := by omega
      have x0 : 0 ≤ x := by
        rcases Int.lt_or_le x 0 with q | q
        · have h1 := Int.mul_pos_of_neg_of_neg B q
          have h2 : N * y ≤ 0 := Int.mul_nonpos_of_nonneg_of_nonpos (by omega) y0
          omega
        · exact q
      have h3 : N * (x + y) = (N + M) * x := by rw [Int.mul_add, ncr, Int.add_mul]
      have h4 : N * (x + y) ≤ 0 := Int.mul_nonpos_of_nonneg_of_nonpos (by omega) xy
      have xz : x = 0 := by
        rcases Int.lt_or_le 0 x with q | q
        · have := Int.mul_pos A2 q
          omega
        · omega
      refine ⟨xz, ?_⟩
      rw [xz, Int.mul_zero] at ncr
      rcases Int.mul_eq_zero.mp ncr with q | q
      · omega
      · exact q
    obtain ⟨hx, hy⟩ := hx
    have v0 : v < 0 := by omega
    have uv : u + v < 0 := by omega
    have u0 : 0 < u := by
      rcases Int.lt_or_le 0 u with q | q
      · exact q
      · have h1 : 0 ≤ M * u := Int.mul_nonneg_of_nonpos_of_nonpos (by omega) q
        have h2 : N * v < 0 := Int.mul_neg_of_pos_of_neg pN v0
        omega
    have h3 : N * (u + v) = (N + M) * u := by rw [Int.mul_add, ndt, Int.add_mul]
    have h4 : N * (u + v) < 0 := Int.mul_neg_of_pos_of_neg pN uv
    have := Int.mul_pos A2 u0
    omega
/-- three corners and more -/
theorem many {ws : List Wt} (h : ∀ w ∈ ws, w.1 ≠ []) (hn : 3 ≤ (reach ws).length) {k j : Nat} {here ahd bhd : P2} (hj : j < (reach ws).length) (hkj : (j + 1) % (reach ws).length = k)
    (h1 : (reach ws)[k]? = some here) (h2 : (reach ws)[j]? = some ahd) (h3 : (reach ws)[(k + 1) % (reach ws).length]? = some bhd) :
    0 < cr (outw ahd here) (outw here bhd) ∧ farOf ws (outw here bhd) = dt (outw here bhd) here ∧ farOf ws (ad (outw ahd here) (outw here bhd)) = dt (ad (outw ahd here) (outw here bhd)) here := by
  obtain ⟨⟨s, E, R⟩, _⟩ := reach_ok h
  have eq := R.eq
  have C := R.can
  have hk : k < (reach ws).length := (List.getElem?_eq_some_iff.mp h1).1
  have hlen : (reach ws).length = E.length := by
    have := verts_len s E
    rw [← eq] at this
    omega
  rw [hlen] at hn hj hkj h3 hk
  obtain ⟨e, he⟩ : ∃ e, E[k]? = some e := ⟨_, List.getElem?_eq_getElem hk⟩
  obtain ⟨d, hd⟩ : ∃ d, E[j]? = some d := ⟨_, List.getElem?_eq_getElem hj⟩
  have g1 : (verts s E)[k]? = some here := by rw [← eq]; exact h1
  have g2 : (verts s E)[j]? = some ahd := by rw [← eq]; exact h2
  have g3 : (verts s E)[(k + 1) % E.length]? = some bhd := by rw [← eq]; exact h3
  have n1 := verts_next C he g1
  have n2 := verts_next C hd g2
  rw [hkj] at n2
  have e1 : here = ad ahd d := Option.some.inj (g1.symm.trans n2)
  have e2 : bhd = ad here e := Option.some.inj (g3.symm.trans n1)
  have s1 : sb here ahd = d := by
    rw [e1]
    refine p2_ext ?_ ?_
    · show ahd.1 + d.1 - ahd.1 = d.1; omega
    · show ahd.2 + d.2 - ahd.2 = d.2; omega
  have s2 : sb bhd here = e := by
    rw [e2]
    refine p2_ext ?_ ?_
    · show here.1 + e.1 - here.1 = e.1; omega
    · show here.2 + e.2 - here.2 = e.2; omega
  have t : 0 < cr d e := turn_true (s := s) C hn hd (by rw [hkj]; exact he)
  have hm : here ∈ reach ws := List.mem_of_getElem? h1
  have l2 : ∀ p ∈ reach ws, cr e here ≤ cr e p := fun p hp => by
    rw [eq] at hp
    rcases edge_low C he g1 p hp with q | q
    · rw [q]; exact Int.le_refl _
    · have := cr_sb e p here
      rcases q with q | q <;> omega
  have l1 : ∀ p ∈ reach ws, cr d here ≤ cr d p := fun p hp => by
    rw [eq] at hp
    have hd0 : cr d here = cr d ahd := by rw [e1, cr_ad, cr_self, Int.add_zero]
    rw [hd0]
    rcases edge_low C hd g2 p hp with q | q
    · rw [q]; exact Int.le_refl _
    · have := cr_sb d p ahd
      rcases q with q | q <;> omega
  have o2 : ∀ p, dt (outw here bhd) p = - cr e p := fun p => by rw [out_dt, s2]
  have o1 : ∀ p, dt (outw ahd here) p = - cr d p := fun p => by rw [out_dt, s1]
  have turn : 0 < cr (outw ahd here) (outw here bhd) := by rw [out_cr, s1, s2]; exact t
  have addl : ∀ a b p : P2, dt (ad a b) p = dt a p + dt b p := fun a b p => by
    show (a.1 + b.1) * p.1 + (a.2 + b.2) * p.2 = a.1 * p.1 + a.2 * p.2 + (b.1 * p.1 + b.2 * p.2)
    grind
  refine ⟨turn, met_of (fun q => ?_) h hm fun p hp => ?_, met_of (fun q => ?_) h hm fun p hp => ?_⟩
  · rw [q] at turn
    have : cr (outw ahd here) zz = 0 := by show _ * 0 - _ * 0 = (0 : Int); simp
    omega
  · rw [o2, o2]
    have := l2 p hp
    omega
  · have : cr (outw ahd here) (ad (outw ahd here) (outw here bhd)) = 0 := by rw [q]; show _ * 0 - _ * 0 = (0 : Int); simp
    rw [cr_ad, cr_self] at this
    omega
  · rw [addl, addl, o1, o1, o2, o2]
    have := l1 p hp
    have := l2 p hp
    omega
end CH

namespace CH
theorem verts_sub {s : P2} {E W : List P2} (C : Canon E) (h : ∀ f, f ≠ zz → ad s (sumP (pre f E)) ∈ W) : ∀ x ∈ verts s E, x ∈ W := fun x hx => by
  obtain ⟨P, R, hE, hR, rfl⟩ := mem_verts.mp hx
  cases R with
  | nil =>
    rcases hR with q | q
    · exact absurd rfl q
    · have e : P = [] := by rw [q] at hE; exact (List.append_eq_nil_iff.mp hE.symm).1
      have := h (1, 0) (by decide)
      rw [q] at this
      rw [e]
      exact this
  | cons e R =>
    have he : e ≠ zz := C.nz e (by rw [hE]; simp)
    have := h e he
    rw [show pre e E = P by rw [hE]; exact pre_at (by rw [← hE]; exact C.srt)] at this
    exact this
theorem least_sub {W : List P2} (h : W ≠ []) : ∀ x ∈ least W, x ∈ W := fun x hx => by
  obtain ⟨s, E, C, hv, hm, _⟩ := least_ok h
  rw [hv] at hx
  exact verts_sub C (fun f hf => (hm f hf).1) x hx
theorem least_ne {W : List P2} (h : W ≠ []) : least W ≠ [] := by
  obtain ⟨s, E, C, hv, _⟩ := least_ok h
  rw [hv]
  exact verts_ne s E
theorem least_len {W : List P2} (h : W ≠ []) : (least W).length ≤ W.length := by
  obtain ⟨s, E, C, hv, hm, l⟩ := least_ok h
  exact l
theorem edge_mem {C : List P2} {e : P2} (h : e ∈ edgesOf C) : ∃ x y, x ∈ C ∧ y ∈ C ∧ e = sb x y := by
  unfold edgesOf edgesTo at h
  obtain ⟨k, hk, he⟩ := List.mem_filterMap.mp h
  have hk := List.mem_range.mp hk
  unfold edgeAt at he
  split at he
  · cases he
  · have hj : (k + 1) % C.length < C.length := Nat.mod_lt _ (by omega)
    refine ⟨_, _, ?_, ?_, (Option.some.inj he).symm⟩
    · rw [List.getD_eq_getElem?_getD, List.getElem?_eq_getElem hj]
      exact List.getElem_mem hj
    · rw [List.getD_eq_getElem?_getD, List.getElem?_eq_getElem hk]
      exact List.getElem_mem hk
def In (M : Nat) (p : P2) : Prop := p.1.natAbs ≤ M ∧ p.2.natAbs ≤ M
theorem in_ad {M N : Nat} {p q : P2} (hp : In M p) (hq : In N q) : In (M + N) (ad p q) := by
  have h1 := hp.1
  have h2 := hp.2
  have h3 := hq.1
  have h4 := hq.2
  refine ⟨?_, ?_⟩
  · show (p.1 + q.1).natAbs ≤ _; omega
  · show (p.2 + q.2).natAbs ≤ _; omega
theorem in_mono {M N : Nat} {p : P2} (h : M ≤ N) (hp : In M p) : In N p := ⟨Nat.le_trans hp.1 h, Nat.le_trans hp.2 h⟩
theorem join_in {A B : List P2} {M N : Nat} (hA : A ≠ []) (hB : B ≠ []) (ha : ∀ x ∈ A, In M x) (hb : ∀ x ∈ B, In N x) : ∀ x ∈ join A B, In (M + N) x := fun x hx => by
  obtain ⟨s, E, C, e, h, _⟩ := join_ok hA hB
  rw [e] at hx
  have key : ∀ f, f ≠ zz → In (M + N) (ad s (sumP (pre f E))) := fun f hf => by
    have m1 := mn_is hf hA
    have m2 := mn_is hf hB
    rw [h f _ _ hf m1 m2]
    exact in_ad (ha _ m1.1) (hb _ m2.1)
  obtain ⟨P, R, hE, hR, rfl⟩ := mem_verts.mp hx
  cases R with
  | nil =>
    rcases hR with q | q
    · exact absurd rfl q
    · have e : P = [] := by rw [q] at hE; exact (List.append_eq_nil_iff.mp hE.symm).1
      have := key (1, 0) (by decide)
      rw [q] at this
      rw [e]
      exact this
  | cons e R =>
    have he : e ≠ zz := C.nz e (by rw [hE]; simp)
    have := key e he
    rw [show pre e E = P by rw [hE]; exact pre_at (by rw [← hE]; exact C.srt)] at this
    exact this
theorem join_ne {A B : List P2} (hA : A ≠ []) (hB : B ≠ []) : join A B ≠ [] := by
  obtain ⟨s, E, C, e, h, _⟩ := join_ok hA hB
  rw [e]
  exact verts_ne s E
theorem joinAll_snoc (Ws : List (List P2)) (W : List P2) : joinAll (Ws ++ [W]) = join (joinAll Ws) W := by
  unfold joinAll
  rw [List.foldl_append] <;> rfl
theorem joinAll_bd {M : Nat} : ∀ (Ws : List (List P2)) , (∀ W ∈ Ws, W ≠ [] ∧ ∀ x ∈ W, In M x) → joinAll Ws ≠ [] ∧ (∀ x ∈ joinAll Ws, In (Ws.length * M) x) := by
  have key : ∀ (n : Nat) (Ws : List (List P2)), Ws.length = n → (∀ W ∈ Ws, W ≠ [] ∧ ∀ x ∈ W, In M x) → joinAll Ws ≠ [] ∧ (∀ x ∈ joinAll Ws, In (Ws.length * M) x) := by
    intro n
    induction n with
    | zero =>
      intro Ws hl h
      have e : Ws = [] := List.length_eq_zero_iff.mp hl
      subst e
      refine ⟨by simp [joinAll], fun x hx => ?_⟩
      have : x = zz := List.mem_singleton.mp hx
      rw [this]
      exact ⟨Nat.zero_le _, Nat.zero_le _⟩
    | succ n ih =>
      intro Ws hl h
      have hne : Ws ≠ [] := fun q => by rw [q] at hl; cases hl
      obtain ⟨Vs, W, e⟩ : ∃ Vs W, Ws = Vs ++ [W] := ⟨Ws.dropLast, Ws.getLast hne, (List.dropLast_concat_getLast hne).symm⟩
      subst e
      have hl' : Vs.length = n := by simpa using hl
      obtain ⟨i1, i2⟩ := ih Vs hl' fun V hV => h V (List.mem_append_left _ hV)
      obtain ⟨w1, w2⟩ := h W (by simp)
      rw [joinAll_snoc]
      refine ⟨join_ne i1 w1, fun x hx => ?_⟩
      have := join_in i1 w1 i2 w2 x hx
      refine in_mono ?_ this
      rw [List.length_append, List.length_singleton, Nat.add_mul, Nat.one_mul]
      exact Nat.le_refl _
  exact fun Ws => key Ws.length Ws rfl
theorem vs_snoc (s : P2) (L : List P2) (e : P2) : vs s (L ++ [e]) = vs s L ++ [ad (ad s (sumP L)) e] := by
  have hne : vs s L ≠ [] := fun q => by
    have := vs_len s L
    rw [q] at this
    simp at this
  have l := vs_get s L L.length (Nat.le_refl _)
  rw [List.take_length] at l
  have l2 : (vs s L).getLast hne = ad s (sumP L) := by
    have := List.getLast?_eq_some_getLast hne
    rw [List.getLast?_eq_getElem?, vs_len, Nat.add_sub_cancel, l] at this
    exact (Option.some.inj this).symm
  rw [vs_app]
  show (vs s L).dropLast ++ ad s (sumP L) :: [ad (ad s (sumP L)) e] = _
  conv => rhs; rw [← List.dropLast_concat_getLast hne, l2]
  simp
end CH

set_option maxRecDepth 100000
namespace CHr
open PySem PySem.Spec PyProof.Rows L2
/-! set(t), t a tuple of tuples of ints -/
section
variable {P : Program} {w : World} {A : Around} {E : Value → Shared → Prop} {s : Shared}
/-- the set before its first member -/
abbrev set0 (w : World) : Obj := { cls := .type "set", dict := none, data := .set #[] 0 (.fresh 0 0 (!w.params.followText "set-order")) }
/-- the tuple's own iterator, at its begin -/
abbrev tupIt (l : Addr) : Obj := { cls := .type "tuple_iterator", data := .fields #[.ref l, .int 0 0] }
theorem above_none {h : Heap} {b : Addr} (hb : h.objs.size ≤ b) : h.get? b = none := by
  cases q : h.get? b with
  | none => rfl
  | some o => exact absurd (Heap.lt_size q) (Nat.not_lt.mpr hb)
set_option maxHeartbeats 3200000 in
theorem set_of_tuple {l : Addr} {items : Array Value} (ks : List (Addr × List Int)) {Q : Value → Shared → Prop} (calm : A.handled = none) (src : s.heap.IsTuple l items) (vals : items.toList = ks.map fun p => Value.ref p.1)
    (tups : ∀ p ∈ ks, IsT P w s.heap p.2 p.1) (few : ks.length < 64) (room : A.units + 3 < cLine)
    (got : ∀ (g : Heap) (tk : Nat) L es ep t, SetTR P w g s.heap.objs.size L es ep t → Got ks ks.length L → (∀ b o, s.heap.get? b = some o → g.get? b = some o) → Q (.ref s.heap.objs.size) { s with heap := g, toks := tk }) :
    wpAny (model P w) A (call (.type "set") [.ref l]) Q E s := by
  have size_eq : items.size = ks.length := by
    rw [← Array.length_toList, vals, List.length_map]
  obtain ⟨_, _, mro⟩ := F.called_set.mro
  have f1 := F.called_set.made
  have f2 := F.called_set.sub
  have f3 := F.called_set.notType
  have f4 := F.called_set.canCreate
  have f5 := F.typeCall_set_1 (.ref l)
  refine wpAny_call (codeAny_of_tree ?_)
  show wpAny _ _ (callAny (.type "set") _) _ _ _
  refine wpAny_pure ⟨Code.quiet_builtin _ (by decide +kernel), codeAny_builtin F.entry_type_call ?_⟩
  rw [Around.under_plain (weight_type_call_type "set" [.ref l] []) rfl]
  repeat (any_goals (first | assumption | wp_step))
  -- the new set is laid
  refine codeAny_mono (code_set_led1 (.ref l) (E := E) (Q₁ := fun made s' => made = .ref s.heap.objs.size ∧ s' = { s with heap := s.heap.push (set0 w) }) ⟨rfl, rfl⟩) fun r s' hr => ?_
  cases r with
  | error e => exact hr
  | ok fl =>
    cases fl with
    | next => exact hr.elim
    | brk => exact hr.elim
    | cont => exact hr.elim
    | ret made =>
      obtain ⟨rfl, rfl⟩ := hr
      have laid : (s.heap.push (set0 w)).get? s.heap.objs.size = some (set0 w) := Heap.get?_push_size _ rfl
      have kind : Shared.TypeIs { s with heap := s.heap.push (set0 w) } (.ref s.heap.objs.size) "set" := ⟨_, laid, rfl⟩
      have f6 := F.called_set.init.lookup
      have f7 := F.called_set.init.bind (.ref s.heap.objs.size)
      repeat (any_goals (first | assumption | wp_step))
      -- its __init__
      refine codeAny_mono (codeAny_call_builtin (R := wants (fun r s₂ => r = .none ∧ ∃ g tk L es ep t, s₂ = { s with heap := g, toks := tk } ∧ SetTR P w g s.heap.objs.size L es ep t ∧ Got ks ks.length L ∧
          (∀ b o, s.heap.get? b = some o → g.get? b = some o)) E) F.called_set.init.plain F.entry_set_init (check_set_init_1 kind ?_)) fun r₂ s₂ hr₂ => ?_
      · obtain ⟨ol, hol, hcl, nl, hdl⟩ := src
        obtain ⟨ocls, odict, odata, oslots⟩ := ol
        simp only at hcl hdl
        subst hcl; subst hdl
        have there : (s.heap.push (set0 w)).get? l = some { cls := .type "tuple", dict := odict, data := .seq items nl, slots := oslots } := Heap.get?_push_of_some _ hol
        have g1 := F.sub_tuple_set
        have g2 := F.sub_tuple_frozenset
        have g3 : (Value.type "tuple" == Value.type "dict") = false := by decide
        have src1 : (s.heap.push (set0 w)).IsTuple l items := ⟨_, there, rfl, nl, rfl⟩
        unfold Builtin.«set.__init__» noKeywords Builtin.Frozenset.updateFrom
        generalize hPI : pyIter = PI
        wp_walk
        subst hPI
        refine wpAny_pyIter_tuple src1 ?_
        refine wpAny_bind (wpAny_runValue ?_)
        have llt : l < s.heap.objs.size := Heap.lt_size hol
        have calm3 : A.in1.in1.in1.handled = none := by simp [calm]
        have sz1 : (s.heap.push (set0 w)).objs.size = s.heap.objs.size + 1 := Heap.size_push ..
        have ne1 : l ≠ (s.heap.push (set0 w)).objs.size := by rw [sz1]; exact Nat.ne_of_lt (Nat.lt_succ_of_lt llt)
        have notin : s.heap.objs.size ∉ [(s.heap.push (set0 w)).objs.size, l] := by
          rw [sz1]
          simp only [List.mem_cons, List.mem_singleton, List.not_mem_nil, or_false, not_or]
          exact ⟨Nat.ne_of_lt (Nat.lt_succ_self _), Nat.ne_of_gt llt⟩
        have item : ∀ (i : Nat) (v : Value), items[i]? = some v → ∃ p, ks[i]? = some p ∧ v = .ref p.1 := fun i v hv => by
          rw [← Array.getElem?_toList, vals, List.getElem?_map] at hv
          cases hq : ks[i]? with
          | none => rw [hq] at hv; cases hv
          | some p => rw [hq] at hv; exact ⟨p, rfl, (Option.some.inj hv).symm⟩
        have new1 : ∀ b ∈ [(s.heap.push (set0 w)).objs.size], s.heap.get? b = none := fun b hb => above_none (by
          rw [List.mem_singleton.mp hb, sz1]
          exact Nat.le_succ _)
        have set1 : ((s.heap.push (set0 w)).push (tupIt l)).get? s.heap.objs.size = some (set0 w) := Heap.get?_push_of_some _ laid
        refine set_update_tups ((Walks.tuple calm3 _ l ne1 items).toS) s.heap.objs.size notin ks size_eq few item s.heap tups (above_none (Nat.le_refl _)) new1 room (items.size - 0) 0 _ (by omega) (Nat.zero_le _)
          ⟨⟨_, Heap.get?_push_size _ rfl, rfl, rfl⟩, src1.push _⟩ (fun b o e => Heap.get?_push_of_some _ (Heap.get?_push_of_some _ e)) ⟨[], #[], 0, _, setTR_fresh set1, Got.zero ks⟩ ?_
        intro z L es ep t mv hz gz kz
        obtain ⟨h', g', d', tk', os'⟩ := z
        have e1 : g' = s.gens := mv.gens
        have e2 : d' = s.drawn := mv.drawn
        have e3 : os' = s.os := mv.os
        subst e1; subst e2; subst e3
        show wpAny _ _ _ _ _ _
        refine wpAny_pure ?_
        show wpAny _ _ (ret Value.none) _ _ _
        rw [size_eq] at gz
        exact wpAny_pure ⟨rfl, h', tk', L, es, ep, t, rfl, hz, gz, kz⟩
      · cases r₂ with
        | error e => exact hr₂
        | ok fl₂ =>
          cases fl₂ with
          | next => exact hr₂.elim
          | brk => exact hr₂.elim
          | cont => exact hr₂.elim
          | ret r =>
            obtain ⟨rfl, g, tk, L, es, ep, t, rfl, hz, gz, kz⟩ := hr₂
            repeat (any_goals (first | assumption | wp_step))
            exact got _ _ _ _ _ _ hz gz kz
end
end CHr

set_option maxRecDepth 100000
set_option maxHeartbeats 2000000
namespace CHr
open PySem PySem.Spec PyProof.Rows L2
abbrev Pt := Addr × (Int × Int)
/-- the two numbers of a pair, as values, as a key -/
abbrev v2 (p : Int × Int) : List V := [.int p.1, .int p.2]
abbrev kOf (q : Pt) : Addr × List Int := (q.1, [q.2.1, q.2.2])
abbrev rOf (q : Pt) : V := .ref q.1
theorem rOf_map (as : List Pt) : as.map rOf = (as.map kOf).map fun p => V.ref p.1 := by rw [List.map_map]; rfl
section
variable {X : Cx}
/-! set(t) -/
def rSetTT (K : PySem.W.Frag) (P : Program) (w : World) : List V → Hp → VK → Prop := fun xs H Q => ∃ (l : Addr) (ks : List (Addr × List Int)), xs = [V.ref l] ∧ SqT K H l (ks.map fun p => V.ref p.1) ∧ (∀ p ∈ ks, SqT K H p.1 (p.2.map V.int)) ∧ ks.length < 64 ∧
  ∀ a L, H a = none → (∀ p ∈ L, p ∈ ks) → (∀ p ∈ ks, p.2 ∈ L.map (·.2)) → (L.map (·.2)).Nodup → Q (.ref a) (upd H a (SetTO P w a L))
theorem cr_setTT (hc : X.calm = true) (hu : X.A.units + 64 < cLine) : CallR X (.type "set") (rSetTT X.K X.prog X.w) := by
  intro pins s σ H xs us Q I r h
  obtain ⟨l, ks, rfl, hl, hk, hf, q⟩ := h
  rw [Vals.ref1 r]
  obtain ⟨its, rv, tl, _⟩ := I.tuple hl
  have fresh : H s.heap.objs.size = none := I.hok.fresh (Nat.le_refl _)
  have eq : its = ks.map fun p => Value.ref p.1 := refs_of_vals rv
  refine set_of_tuple (P := X.prog) (w := X.w) ks (I.ok.hd hc) (show s.heap.IsTuple l its.toArray from tl) (by simpa using eq) (fun p hp => I.isT (hk p hp)) hf (by omega) fun g tk L es ep t R gt kp => ?_
  refine ⟨.ref s.heap.objs.size, upd H s.heap.objs.size (SetTO X.prog X.w s.heap.objs.size L), I.laid (t' := tk) kp (Nat.le_refl _) (setTO_new R.t0), rfl, q _ L fresh (fun p hp => List.mem_of_mem_take (gt.sub p hp)) (fun p hp => gt.all p (by rw [List.take_length]; exact hp)) R.nd⟩
/-! len of it -/
def rLenST (K : PySem.W.Frag) (P : Program) (w : World) : List V → Hp → VK → Prop := fun xs H Q => ∃ (a : Addr) (L : List (Addr × List Int)), xs = [V.ref a] ∧ H a = some (SetTO P w a L) ∧ (∀ p ∈ L, SqT K H p.1 (p.2.map V.int)) ∧ Q (.int (L.length : Nat)) H
theorem cr_lenST : CallR X (.builtin "len") (rLenST X.K X.prog X.w) := by
  intro pins s σ H xs us Q I r h
  obtain ⟨a, L, rfl, ha, hk, q⟩ := h
  rw [Vals.ref1 r]
  have R0 : SetT0 X.prog X.w s.heap a L := (I.hok a _ ha).1
  obtain ⟨es, ep, t, R⟩ := R0.full fun p hp => I.isT (hk p hp)
  obtain ⟨o, ho, hex, hd⟩ := R.ob
  have sz := R.size
  have few := R.few
  refine call_len_set ho hex hd R.fits (by omega) ⟨.int (L.length : Nat), H, I.tok _, ⟨_, by rw [sz]⟩, q⟩
/-! sorted of it, pairs of any two ints -/
def rSortedT2 (K : PySem.W.Frag) (P : Program) (w : World) : List V → Hp → VK → Prop := fun xs H Q => ∃ (a : Addr) (as : List Pt), xs = [V.ref a] ∧ H a = some (SetTO P w a (as.map kOf)) ∧ (∀ q ∈ as, SqT K H q.1 (v2 q.2)) ∧
  ∀ (bs : List Pt) (p : Addr), bs.Perm as → bs.length < 64 → bs.Pairwise (fun q r => SrtO.lexB r.2 q.2 = false) → H p = none → Q (.ref p) (upd H p (.lst (bs.map rOf)))
end
section
variable {P : Program} {w : World} {A : Around} {E : Value → Shared → Prop} {s : Shared}
/-- the pair that a value is, in a heap -/
def pairOf (h : Heap) (v : Value) : Int × Int := ((TS.intsOf h v).getD 0 0, (TS.intsOf h v).getD 1 0)
theorem pair_is {h : Heap} {a : Addr} {x y : Int} (t : IsT P w h [x, y] a) : Srt.IsPair h (.ref a) x y ∧ pairOf h (.ref a) = (x, y) := by
  have e : TS.intsOf h (.ref a) = [x, y] := (tupInts_of (P := P) (w := w) t).ints
  constructor
  · obtain ⟨o, ⟨items⟩, n, ho, hc, hd, hi⟩ := t
    have i2 : IntsAre items [x, y] := ints_of_items hi
    cases i2 with
    | cons _ t1 i3 =>
      cases i3 with
      | cons _ t2 i4 =>
        cases i4
        exact ⟨a, o, t1, t2, n, rfl, ho, hc, hd⟩
  · unfold pairOf
    rw [e]
    rfl
theorem sorted_setP {a : Addr} {as : List Pt} {es : Array (Int × Value)} {ep : Nat} {t : SetTable} {Q : Value → Shared → Prop} (R : SetTR P w s.heap a (as.map kOf) es ep t) (calm : A.handled = none)
    (hQ : ∀ s' p (out : List Value) (bs : List Pt), (∀ b o, s.heap.get? b = some o → s'.heap.get? b = some o) → s'.gens = s.gens → s'.os = s.os → s.heap.objs.size ≤ p →
      (∃ c, s'.heap.get? p = some (seqObj "list" out.toArray c)) → out = bs.map (fun q => Value.ref q.1) → bs.Perm as → bs.Pairwise (fun q r => SrtO.lexB r.2 q.2 = false) → Q (.ref p) s') :
    wpAny (model P w) A (call (.builtin "sorted") [.ref a]) Q E s := by
  obtain ⟨o, ho, hex, hd⟩ := R.ob
  have sz := R.size
  have few := R.few
  rw [List.length_map] at sz few
  refine Calls.call_function_entry kind_sorted plain_sorted entry_sorted (args_sorted1 _) ?_
  unfold Builtin.«sorted»
  refine wpAny_bind (m := checkCount "sorted" 1 1 _) (wpAny_pure ?_)
  refine wpAny_bind (collect_set (A := A.in1) calm ⟨o, ho, hex.1, hd⟩ R.fits (by unfold scanBound; omega) R.tab.ris R.led fun s1 vs kp hz g1 o1 pm => ?_)
  have rows : es.toList.map (·.2) = as.map fun q => Value.ref q.1 := by
    rw [R.rows]
    unfold rowsOf
    rw [List.map_map, List.map_map] <;> rfl
  rw [rows] at pm
  have isT : ∀ q ∈ as, IsT P w s.heap [q.2.1, q.2.2] q.1 := fun q hq => R.tup (kOf q) (List.mem_map.mpr ⟨q, hq, rfl⟩)
  -- a list of the values is one of the members
  have back : ∀ out : List Value, out.Perm vs → ∃ bs : List Pt, out = bs.map (fun q => Value.ref q.1) ∧ bs.Perm as := fun out po => by
    have pl := po.trans pm
    have uniq : ∀ q ∈ as, ∀ r ∈ as, Value.ref q.1 = Value.ref r.1 → q = r := fun q hq r hr e => by
      injection e with e
      have t1 := isT q hq
      rw [e] at t1
      have e2 := t1.inj (isT r hr)
      injection e2 with x1 e3
      injection e3 with x2
      exact Prod.ext e (Prod.ext x1 x2)
    clear po
    generalize hl : as.map (fun q => Value.ref q.1) = m at pl
    have nd : m.Nodup := by
      rw [← hl]
      refine List.pairwise_map.mpr (List.Pairwise.imp_of_mem (fun {q r} hq hr hne e => hne ?_) (nodup_of_map (nodup_of_map R.nd)))
      rw [uniq q hq r hr e]
    have ch : ∀ l : List Value, (∀ v ∈ l, ∃ q ∈ as, v = Value.ref q.1) → ∃ bs : List Pt, l = bs.map (fun q => Value.ref q.1) ∧ ∀ q ∈ bs, q ∈ as := by
      intro l
      induction l with
      | nil => exact fun _ => ⟨[], rfl, fun q hq => (by cases hq)⟩
      | cons v l ih =>
        intro hv
        obtain ⟨q, hq, e⟩ := hv v List.mem_cons_self
        obtain ⟨bs, e1, hs⟩ := ih fun u hu => hv u (List.mem_cons_of_mem _ hu)
        exact ⟨q :: bs, by rw [List.map_cons, e, e1], fun r hr => by
          rcases List.mem_cons.mp hr with z | z
          · rw [z]; exact hq
          · exact hs r z⟩
    obtain ⟨bs, e1, hs⟩ := ch out fun v hv => by
      have := pl.mem_iff.mp hv
      rw [← hl] at this
      obtain ⟨q, hq, e⟩ := List.mem_map.mp this
      exact ⟨q, hq, e.symm⟩
    refine ⟨bs, e1, ?_⟩
    have nb : bs.Nodup := nodup_of_map (by rw [← e1]; exact pl.nodup_iff.mpr nd)
    have na : as.Nodup := nodup_of_map (by rw [hl]; exact nd)
    refine (List.perm_ext_iff_of_nodup nb na).mpr fun q => ⟨hs q, fun hq => ?_⟩
    have : Value.ref q.1 ∈ out := pl.mem_iff.mpr (by rw [← hl]; exact List.mem_map.mpr ⟨q, hq, rfl⟩)
    rw [e1] at this
    obtain ⟨r, hr, e⟩ := List.mem_map.mp this
    rw [← uniq r (hs r hr) q hq e]
    exact hr
  have len : vs.length = as.length := by rw [pm.length_eq, List.length_map]
  refine wpAny_bind (wpAny_newList ?_ (by rw [sizeLine_eq]; omega))
  have lay : (s1.heap.push (seqObj "list" vs.toArray 0)).get? s1.heap.objs.size = some (seqObj "list" vs.toArray 0) := Heap.get?_push_size _ rfl
  have kp2 : ∀ b u, s.heap.get? b = some u → (s1.heap.push (seqObj "list" vs.toArray 0)).get? b = some u := fun b u e => Heap.get?_push_of_some _ (kp b u e)
  have prs : ∀ v ∈ vs, Srt.IsPair (s1.heap.push (seqObj "list" vs.toArray 0)) v (pairOf (s1.heap.push (seqObj "list" vs.toArray 0)) v).1 (pairOf (s1.heap.push (seqObj "list" vs.toArray 0)) v).2 := fun v hv => by
    obtain ⟨q, hq, e⟩ := List.mem_map.mp (pm.mem_iff.mp hv)
    obtain ⟨p1, p2⟩ := pair_is (isT_keep (isT q hq) kp2)
    rw [← e, p2]
    exact p1
  refine wpAny_bind (wpAny_holding (wpAny_call_entry slot_list_sort ⟨_, lay, rfl⟩ entry_list_sort (SrtO.list_sort_ord (s := { s1 with heap := s1.heap.push (seqObj "list" vs.toArray 0) }) (SrtO.swo_lex (pairOf (s1.heap.push (seqObj "list" vs.toArray 0)))) lay (by rw [sizeLine_eq]; omega)
    (fun h2 => SrtO.pairs_sortableO (by omega) prs fun o e => ?_) fun out hs hb => ⟨_, rfl, ?_⟩) (args_list_sort _)))
  · have e' : some o = some (seqObj "list" vs.toArray 0) := e.symm.trans lay
    cases e'
    intro c
    exact absurd (Value.type.inj c) (by decide)
  · obtain ⟨bs, e1, pb⟩ := back out hb.perm
    refine wpAny_pure ⟨_, rfl, hQ { s1 with heap := sortedHeap (s1.heap.push (seqObj "list" vs.toArray 0)) s1.heap.objs.size vs out.toArray } s1.heap.objs.size out bs (fun b u e => ?_) g1 o1 hz (sortedHeap_at (vs := vs) (out := out.toArray) lay) e1 pb ?_⟩
    · have hlt := Heap.lt_size (kp b u e)
      show (sortedHeap (s1.heap.push (seqObj "list" vs.toArray 0)) s1.heap.objs.size vs out.toArray).get? b = some u
      rw [sortedHeap_old (Nat.ne_of_lt hlt) (by rw [size_push']; exact Nat.lt_succ_of_lt hlt)]
      exact kp2 b u e
    · have hs' : out.Pairwise (fun v u => SrtO.lexB (pairOf (s1.heap.push (seqObj "list" vs.toArray 0)) u) (pairOf (s1.heap.push (seqObj "list" vs.toArray 0)) v) = false) := hs
      rw [e1] at hs'
      refine List.Pairwise.imp_of_mem (fun {q r} hq hr hle => ?_) (List.pairwise_map.mp hs')
      rw [(pair_is (isT_keep (isT q (pb.mem_iff.mp hq)) kp2)).2, (pair_is (isT_keep (isT r (pb.mem_iff.mp hr)) kp2)).2] at hle
      exact hle
end
section
variable {X : Cx}
theorem cr_sortedT2 (hc : X.calm = true) : CallR X (.builtin "sorted") (rSortedT2 X.K X.prog X.w) := by
  intro pins s σ H xs us Q I r h
  obtain ⟨a, as, rfl, ha, hk, q⟩ := h
  have R0 : SetT0 X.prog X.w s.heap a (as.map kOf) := (I.hok a _ ha).1
  obtain ⟨es, ep, t, R⟩ := R0.full fun p hp => by
    obtain ⟨q, hq, e⟩ := List.mem_map.mp hp
    rw [← e]
    exact I.isT (k := [q.2.1, q.2.2]) (hk q hq)
  rw [Vals.ref1 r]
  refine sorted_setP R (I.ok.hd hc) fun s' p out bs kp g1 o1 hp hg hout pm pw => ?_
  have few : bs.length < 64 := by
    have := R.few
    rw [List.length_map] at this
    rw [pm.length_eq]; exact this
  have sz : (bs.map rOf).length ≤ sizeLine := by rw [List.length_map, sizeLine_eq]; omega
  have fresh : H p = none := I.hok.fresh hp
  obtain ⟨c, hg⟩ := hg
  have rel : Vals (bs.map rOf) out := by
    have := vals_of_refs (bs.map kOf)
    rw [List.map_map, List.map_map] at this
    rw [hout]
    exact this
  have J : Inv X pins σ (upd H p (.lst (bs.map rOf))) { s with heap := s'.heap, gens := s'.gens, drawn := s'.drawn, toks := s'.toks } :=
    I.call (ch := []) (Un.laid kp hp fresh) (I.hok.laid kp hp ⟨sz, out, c, rel, hg⟩) (by rw [g1]; exact I.bare) (fun _ z => nomatch z)
  have e : s' = { s with heap := s'.heap, gens := s'.gens, drawn := s'.drawn, toks := s'.toks } := by
    cases s'
    cases s
    cases o1
    rfl
  rw [e]
  exact ⟨.ref p, _, J, rfl, q bs p pm few pw fresh⟩
/-! min(t), t a tuple of pairs, the first one the least -/
def rMinT (K : PySem.W.Frag) : List V → Hp → VK → Prop := fun xs H Q => ∃ (a : Addr) (q0 : Pt) (rest : List Pt), xs = [V.ref a] ∧ SqT K H a ((q0 :: rest).map rOf) ∧ (∀ q ∈ q0 :: rest, SqT K H q.1 (v2 q.2)) ∧ (∀ r ∈ rest, HT.lexLt [r.2.1, r.2.2] [q0.2.1, q0.2.2] = false) ∧ Q (.ref q0.1) H
theorem argBest_zero (bt : Nat → Nat → Bool) : ∀ k, (∀ j, j < k → bt (j + 1) 0 = false) → argBest bt k = 0
  | 0, _ => rfl
  | k + 1, h => by
    have ih := argBest_zero bt k fun j hj => h j (Nat.lt_succ_of_lt hj)
    unfold argBest
    rw [ih, h k (Nat.lt_succ_self _)]
    rfl
theorem cr_minT (hc : X.calm = true) (hu : X.A.units + 64 < cLine) : CallR X (.builtin "min") (rMinT X.K) := by
  intro pins s σ H xs us Q I r h
  obtain ⟨a, q0, rest, rfl, hl, hk, hm, q⟩ := h
  rw [Vals.ref1 r]
  obtain ⟨its, rv, tl, _⟩ := I.tuple hl
  have eq : its = (q0 :: rest).map fun p => Value.ref p.1 := by
    have := refs_of_vals (ks := (q0 :: rest).map kOf) (us := its) (by rw [← rOf_map]; exact rv)
    rw [this, List.map_map] <;> rfl
  have hlt : a < s.heap.objs.size := tl.lt
  have isT : ∀ q ∈ q0 :: rest, IsT X.prog X.w s.heap [q.2.1, q.2.2] q.1 := fun q hq => I.isT (k := [q.2.1, q.2.2]) (hk q hq)
  have ne : a ≠ s.heap.objs.size := Nat.ne_of_lt hlt
  have item : ∀ (i : Nat) (v : Value), its.toArray[i]? = some v → ∃ p, (q0 :: rest)[i]? = some p ∧ v = .ref p.1 := fun i v hv => by
    have hv' : its[i]? = some v := by simpa using hv
    rw [eq, List.getElem?_map] at hv'
    cases hq : (q0 :: rest)[i]? with
    | none => rw [hq] at hv'; cases hv'
    | some p => rw [hq] at hv'; exact ⟨p, rfl, (Option.some.inj hv').symm⟩
  refine call_min_walkH (wpAny_pyIter_tuple (show s.heap.IsTuple a its.toArray from tl) ?_)
  refine ⟨_, _, _, _, _, _, _, s.heap, (fun i j => HT.lexLt [((q0 :: rest).getD i q0).2.1, ((q0 :: rest).getD i q0).2.2] [((q0 :: rest).getD j q0).2.1, ((q0 :: rest).getD j q0).2.2]), rfl,
    (Walks.tuple (prog := X.prog) (w := X.w) (A := X.A.in1) (I.ok.hd hc) s.heap.objs.size a ne its.toArray).toS, ⟨⟨_, Heap.get?_push_size _ rfl, rfl, rfl⟩, Heap.IsTuple.push tl _⟩, fun b hb => ?_, ?_, fun b o e hb => ?_, fun b o e => Heap.get?_push_of_some _ e, ?_, fun v s' hP mv => ?_⟩
  · show b < (s.heap.push _).objs.size
    rw [Heap.size_push]
    rcases List.mem_cons.mp hb with e | hb
    · rw [e]; exact Nat.lt_succ_self _
    · rw [List.mem_singleton.mp hb]; exact Nat.lt_succ_of_lt hlt
  · rw [eq]; simp
  · have e1 : b = s.heap.objs.size := List.mem_singleton.mp hb
    have e2 := Heap.lt_size e
    rw [e1] at e2
    exact absurd e2 (Nat.lt_irrefl _)
  · intro i j vi vj s2 Q2 E2 kp hi hj hq
    obtain ⟨p, hp, rfl⟩ := item i vi hi
    obtain ⟨r, hr, rfl⟩ := item j vj hj
    dsimp only at hq
    rw [show (q0 :: rest).getD i q0 = p by rw [List.getD_eq_getElem?_getD, hp]; rfl, show (q0 :: rest).getD j q0 = r by rw [List.getD_eq_getElem?_getD, hr]; rfl] at hq
    obtain ⟨o1, items1, n1, ho1, hc1, hd1, hi1⟩ := isT_keep (isT p (List.mem_of_getElem? hp)) kp
    obtain ⟨o2, items2, n2, ho2, hc2, hd2, hi2⟩ := isT_keep (isT r (List.mem_of_getElem? hr)) kp
    have un : X.A.in1.units < cLine := by show X.A.units + 1 < cLine; omega
    exact HT.lt_tupInts (A := X.A.in1) ⟨o1, ho1, hc1, n1, hd1⟩ ⟨o2, ho2, hc2, n2, hd2⟩ (ints_of_items hi1) (ints_of_items hi2) un hq
  · have z : argBest (fun i j => HT.lexLt [((q0 :: rest).getD i q0).2.1, ((q0 :: rest).getD i q0).2.2] [((q0 :: rest).getD j q0).2.1, ((q0 :: rest).getD j q0).2.2]) (its.toArray.size - 1) = 0 := argBest_zero _ _ fun j hj => by
      have hl : j < rest.length := by
        have : its.length = (q0 :: rest).length := by rw [eq, List.length_map]
        rw [List.size_toArray, this, List.length_cons] at hj
        omega
      have e1 : (q0 :: rest).getD (j + 1) q0 = rest[j] := by
        rw [List.getD_eq_getElem?_getD, List.getElem?_cons_succ, List.getElem?_eq_getElem hl]; rfl
      show HT.lexLt [((q0 :: rest).getD (j + 1) q0).2.1, ((q0 :: rest).getD (j + 1) q0).2.2] [((q0 :: rest).getD 0 q0).2.1, ((q0 :: rest).getD 0 q0).2.2] = false
      rw [e1]
      exact hm _ (List.getElem_mem hl)
    rw [z] at hP
    obtain ⟨p, hp, rfl⟩ := item 0 v hP
    have e1 : q0 = p := Option.some.inj hp
    subst e1
    obtain ⟨h', g', d', tk', os'⟩ := s'
    have e1 : g' = s.gens := mv.gens
    have e2 : d' = s.drawn := mv.drawn
    have e3 : os' = s.os := mv.os
    subst e1; subst e2; subst e3
    refine ⟨.ref q0.1, H, I.kept (t' := tk') fun b u e => mv.heap b u (fun hb => ?_) (Heap.get?_push_of_some _ e), rfl, q⟩
    have e1 : b = s.heap.objs.size := List.mem_singleton.mp hb
    have e2 := Heap.lt_size e
    rw [e1] at e2
    exact absurd e2 (Nat.lt_irrefl _)
end
end CHr

set_option maxRecDepth 100000
set_option maxHeartbeats 2000000
namespace CHr
open PySem PySem.Spec PyProof.Rows L2
/-! for k, x in enumerate(t), t a tuple -/
def EnNew (it : Addr) : Obj := { cls := .type "enumerate", data := .fields #[.none, .bool false, .ref it, rawInt 0, .none, .none] }
theorem meets_enumT (t : Addr) (items : Array Value) : Meets (Builtin.«enumerate.__new__» ⟨[.type "enumerate", .ref t], []⟩) (fun _ R s => s.heap.IsTuple t items ∧
    R (.ok (.ret (.ref (s.heap.push (tupIt t)).objs.size))) { s with heap := (s.heap.push (tupIt t)).push (EnNew s.heap.objs.size) }) :=
  .of_wp fun prog w A R s h => by
    obtain ⟨hp, g, d, tk, os⟩ := s
    obtain ⟨src, fin⟩ := h
    have sub := sub_enumerate
    have it : ∀ {A' : Around} {E : Value → Shared → Prop} {Q : Value → Shared → Prop}, Q (.ref hp.objs.size) ⟨hp.push (tupIt t), g, d, tk, os⟩ → wpAny (model prog w) A' (pyIter (.ref t)) Q E ⟨hp, g, d, tk, os⟩ := fun q => wpAny_pyIter_tuple src q
    wp_walk using it
    refine wpAny_stack_any fun st => wpAny_pure ?_
    split
    · rename_i c _ _ _ _ _
      cases (c == Value.type "enumerate")
      all_goals (wp_walk using it; exact ⟨_, rfl, fin⟩)
    · wp_walk using it
      exact ⟨_, rfl, fin⟩
section
variable {prog : Program} {w : World} {A : Around} {E : Value → Shared → Prop} {s : Shared}
theorem call_enumT {t : Addr} {items : Array Value} {Q : Value → Shared → Prop} (src : s.heap.IsTuple t items)
    (h : ∀ g, IsEnum g (s.heap.objs.size + 1) s.heap.objs.size 0 .none → g.IsTupleIter s.heap.objs.size t 0 → (∀ b o, s.heap.get? b = some o → g.get? b = some o) → Q (.ref (s.heap.objs.size + 1)) { s with heap := g }) :
    wpAny (model prog w) A (call (.type "enumerate") [.ref t]) Q E s := by
  refine callType_new F.called_enumerate (by decide) (F.typeCall_enumerate_1 _) (F.newCall_enumerate_1 _) (fun obj => F.args_object_init_2 obj _) F.entry_enumerate_new (meets_enumT t items) ⟨src, ?_⟩
  have z : (s.heap.push (tupIt t)).objs.size = s.heap.objs.size + 1 := Heap.size_push ..
  show _ ∧ _
  rw [z]
  have e1 : IsEnum ((s.heap.push (tupIt t)).push (EnNew s.heap.objs.size)) (s.heap.objs.size + 1) s.heap.objs.size 0 .none := by
    have q := Heap.get?_push_size (s.heap.push (tupIt t)) (o := EnNew s.heap.objs.size) rfl
    rw [z] at q
    exact q
  exact ⟨⟨_, e1, rfl⟩, h _ e1 ⟨_, Heap.get?_push_of_some _ (Heap.get?_push_size _ rfl), rfl, rfl⟩ fun b o x => Heap.get?_push_of_some _ (Heap.get?_push_of_some _ x)⟩
end
/-- the tuple at a as it stands at each turn, each item in a new pair with its number -/
def IteT (K : PySem.W.Frag) (a : Addr) : It :=
  ⟨fun i H => ∃ (xs : List V) (x : V), SqT K H a xs ∧ xs[i]? = some x, fun i H v H' => ∃ T x, v = .ref T ∧ H T = none ∧ H' = upd H T (.tup [.int (i : Nat), x]) ∧ ∀ xs, SqT K H a xs → xs[i]? = some x, fun i H => ∃ xs : List V, SqT K H a xs ∧ xs.length ≤ i⟩
theorem enum_apart {h : Heap} {a e it : Addr} {i : Int} {old : Value} {n : Nat} {items : Array Value} (he : IsEnum h e it i old) (hi : h.IsTupleIter it a n) (ht : h.IsTuple a items) : a ≠ it ∧ e ∉ [it, a] ∧ e ≠ it := by
  obtain ⟨o1, g1, c1, _⟩ := hi
  obtain ⟨o2, g2, c2, _⟩ := ht
  have he' : h.get? e = some _ := he
  have n1 : a ≠ it := fun q => by
    rw [q, g1] at g2
    cases g2
    rw [c1] at c2
    exact absurd (Value.type.inj c2) (by decide)
  have n2 : e ≠ it := fun q => by
    rw [q, g1] at he'
    cases he'
    exact absurd (Value.type.inj c1) (by decide)
  have n3 : e ≠ a := fun q => by
    rw [q, g2] at he'
    cases he'
    exact absurd (Value.type.inj c2) (by decide)
  refine ⟨n1, ?_, n2⟩
  simp only [List.mem_cons, List.not_mem_nil, or_false, not_or]
  exact ⟨n2, n3⟩
theorem turn_enumT {P : Program} {w : World} {K : PySem.W.Frag} {elts : List Expr} {kk : Nat} {tpos : Pos} (a e it : Addr) :
    Turn P w K (.Tuple elts kk tpos) (IteT K a) [e, it] e (fun i h => (∃ old, IsEnum h e it ((i : Nat) : Int) old) ∧ h.IsTupleIter it a i ∧ e ≠ it) where
  mem := by simp
  obj := fun i h st b hb => by
    obtain ⟨⟨old, he⟩, ⟨o, ho, hc, hd⟩, _⟩ := st
    rcases List.mem_cons.mp hb with z | z
    · rw [z]; exact ⟨_, he, fun v q => nomatch q⟩
    · rw [List.mem_singleton.mp z]; exact ⟨o, ho, fun v q => by rw [hd] at q; cases q⟩
  keep := fun i h h' st k => by
    obtain ⟨⟨old, he⟩, hi, hne⟩ := st
    exact ⟨⟨old, k e (by simp) _ he⟩, hi.at fun o q => k it (by simp) o q, hne⟩
  item := by
    intro X hP hw hK hc i pins s σ H E I hf st hg
    subst hP hw hK
    obtain ⟨⟨old, he⟩, hit, _⟩ := st
    obtain ⟨xs, x, hq, hx⟩ := hg
    obtain ⟨its, rv, tl, _⟩ := I.tuple hq
    obtain ⟨u, hu, ru⟩ := rv.get hx
    have ht : s.heap.IsTuple a its.toArray := tl
    obtain ⟨n1, n2, n3⟩ := enum_apart he hit ht
    have elt : e < s.heap.objs.size := Heap.lt_size he
    have ilt : it < s.heap.objs.size := by obtain ⟨_, q, _⟩ := hit; exact Heap.lt_size q
    have isz : i < its.toArray.size := by
      have := (List.getElem?_eq_some_iff.mp hu).1
      simpa using this
    refine wpAny_pyNext_enum_itemD (Draws.tuple (prog := X.prog) (w := X.w) (A := X.A.in1) (I.ok.hd hc) it a n1 its.toArray) he ⟨hit, ht⟩ isz n3 n2 fun y h' tk hy ho hst hT hsz hk => ?_
    have ey : y = u := by
      have hy' : its[i]? = some y := by simpa using hy
      rw [hu] at hy'
      exact (Option.some.inj hy').symm
    subst ey
    refine ⟨_, rfl, wpAny_letOwnedTupleGo_enum (s := { s with heap := h', toks := tk + 1 }) ho fun h'' he' sb => ?_⟩
    have hT2 : h''.get? s.heap.objs.size = some { cls := .type "tuple", data := .seq #[.int i tk, y] } := (sb.2 _ (Nat.ne_of_gt elt)).trans hT
    have new : ObjOk X.prog X.w (upd H s.heap.objs.size (.tup [.int (i : Nat), x])) h'' s.heap.objs.size (.tup [.int (i : Nat), x]) :=
      ⟨by show 2 ≤ sizeLine; decide, [.int i tk, y], .cons ⟨_, rfl⟩ (.cons ru .nil), ⟨_, hT2, rfl, _, rfl⟩⟩
    have I1 : Inv X pins σ (upd H s.heap.objs.size (.tup [.int (i : Nat), x])) { s with heap := h'', toks := tk + 1 } :=
      I.turnedNew (ch := [e, it]) (fun b ob hb q => (sb.2 b (fun z => hb (by simp [z]))).trans (hk b ob (fun z => hb (by simp [z])) (fun z => hb (by simp [z])) q)) hf (Nat.le_refl _) new
    refine ⟨.ref s.heap.objs.size, _, I1, rfl, ⟨_, x, rfl, I.hok.fresh (Nat.le_refl _), rfl, fun ys hy => by rw [I.tuple_inj hy hq]; exact hx⟩, ⟨⟨y, ?_⟩, hst.1.at fun o q => (sb.2 it (Ne.symm n3)).trans q, n3⟩, fun b hb => ?_⟩
    · have e1 : ((i + 1 : Nat) : Int) = (i : Int) + 1 := by omega
      rw [e1]
      exact he'
    · have hb' : b < s.heap.objs.size := by
        rcases List.mem_cons.mp hb with z | z
        · rw [z]; exact elt
        · rw [List.mem_singleton.mp z]; exact ilt
      rw [upd_ne (Nat.ne_of_lt hb')]
      exact (hf b hb).1
  done := by
    intro X hP hw hK hc i pins s σ H E I hf st hg
    subst hP hw hK
    obtain ⟨⟨old, he⟩, hit, _⟩ := st
    obtain ⟨xs, hq, hx⟩ := hg
    obtain ⟨its, rv, tl, _⟩ := I.tuple hq
    have ht : s.heap.IsTuple a its.toArray := tl
    obtain ⟨n1, n2, n3⟩ := enum_apart he hit ht
    obtain ⟨f0, f1, f2, f3, f4, f5⟩ := hf it (by simp)
    have hl := rv.length
    have hT : s.TypeIs (.ref e) "enumerate" := ⟨_, he, rfl⟩
    unfold pyNext
    refine wpAny_bind (wpAny_attempt (wpAny_callSpecial?_slot (name := Str.ofString "__next__") hT F.slot_enumerate_next
      (wpAny_call_entry F.slot_enumerate_next hT F.entry_enumerate_next ?_ (F.args_enumerate_next_1 _))))
    show wpAny _ _ (field (.ref e) 2 >>= _) _ _ _
    refine wpAny_bind (wpAny_field he rfl (x := .ref it) rfl ?_)
    refine wpAny_bind (wpAny_nextOf_tuple_end (I.ok.hd hc) hit ht (Array.getElem?_eq_none (by simp; omega)) fun h' x eb hx' => ?_)
    obtain ⟨o, ho, hc'⟩ := hx'
    refine wpAny_bind (wpAny_isInstance (T := "StopIteration") (b := true) ⟨o, ho, hc'⟩ isSubtype_stop ?_)
    exact wpAny_pure ⟨rfl, I.turned (t' := s.toks) (fun b o hb q => eb b o hb q) f0 f1 f3 f4 f5⟩
  self := fun A i s Q E st h => by
    obtain ⟨⟨_, he⟩, _⟩ := st
    exact wpAny_pyIter_enum he h
def iEnumT (K : PySem.W.Frag) (ta : TA) : TI := fun σ H R => ta σ H fun vs H1 => ∃ a xs, vs = [.ref a] ∧ SqT K H1 a xs ∧ R (IteT K a) H1
theorem pi_enumT {X : Cx} {e : Expr} {ta : TA} {p pos tpos : Pos} {elts : List Expr} {kk : Nat} (hg : Gl X "enumerate") (hm : X.mg "enumerate" = none) (ha : PA X [e] ta) (hs : starEach [e] X.env = [(false, eval e X.env)] := by rfl) :
    PI X (.Tuple elts kk tpos) (.Call (.Name "enumerate" p) [e] [] pos) (iEnumT X.K ta) := by
  refine ⟨fun pins s σ H R I h => ?_⟩
  refine Call_ (ld_blt I hg hm boot_enumerate (PyProof.Rows.callWith_type1 (thn (ha.run pos pins s σ H _ I h) fun us s1 ⟨vs, H1, I1, r1, q1⟩ => ?_) hs rfl))
  obtain ⟨a, xs, ex, hq, q⟩ := q1
  subst ex
  rw [Vals.ref1 r1]
  obtain ⟨its, rv, tl, _⟩ := I1.tuple hq
  refine call_enumT (show s1.heap.IsTuple a its.toArray from tl) fun g he hit hk => wpAny_pyIter_enum he ?_
  have I2 : Inv X pins σ H1 { s1 with heap := g } := I1.kept (t' := s1.toks) hk
  refine ⟨s1.heap.objs.size + 1, [s1.heap.objs.size + 1, s1.heap.objs.size], _, _, H1, rfl, I2, turn_enumT a (s1.heap.objs.size + 1) s1.heap.objs.size, ⟨⟨.none, he⟩, hit, Nat.succ_ne_self _⟩, fun b hb => ?_, q⟩
  have hle : s1.heap.objs.size ≤ b := by
    rcases List.mem_cons.mp hb with z | z
    · rw [z]; exact Nat.le_succ _
    · rw [List.mem_singleton.mp z]; exact Nat.le_refl _
  exact I1.fpOk hle (I1.hok.fresh hle)
theorem walk_enumT {K : PySem.W.Frag} {a : Addr} {xs : List V} : Walk (IteT K a) xs.length (fun H => SqT K H a xs) (YPair (fun i => some (.int (i : Nat))) (fun i => xs[i]?)) := by
  refine ⟨fun i _ hi q => ⟨xs, xs[i], q, by simp [hi]⟩, fun _ q => ⟨xs, q, Nat.le_refl _⟩, fun i H v H' _ q y => ?_⟩
  obtain ⟨T, x, h1, h2, h3, h4⟩ := y
  exact ⟨T, .int (i : Nat), x, h1, h2, h3, rfl, h4 xs q⟩
/-! a def of the program, called -/
structure Cal (P : Program) (w : World) (K : PySem.W.Frag) (mg : Str → Option Value) (base : Heap) (k : Nat) (x : Str) (ps : List Str) (sp : Sp) : Prop where
  ex : ∃ (f : Addr) (fd : FuncData), FnOk P w K mg base CX0 k f fd ps sp ∧ mg x = some (.ref f) ∧ PySem.W.keepIn K (.ref f) = true ∧ Binds K fd ps []
theorem pe_own {X : Cx} {k : Nat} {x : Str} {ps : List Str} {sp : Sp} {p pos : Pos} {e : Expr} {es : List Expr} {t : TA} (c : Cal X.prog X.w X.K X.mg X.base k x ps sp) (hr : Room k X.A) (ha : PA X (e :: es) t) (hg : Gl X x := by rfl) (hdb : (x == ("__debug__" : Str)) = false := by decide)
    (he : starEach (e :: es) X.env = (false, eval e X.env) :: starEach es X.env := by rfl) (hpl : (backTo pos (starEach es X.env)).any (·.1) = false := by rfl) : PE X (.Call (.Name x p) (e :: es) [] pos) (tCall sp [] E0 t) := by
  obtain ⟨f, fd, F, hm, hk, hb⟩ := c.ex
  exact pe_call F hr hg hm hk hb .nil pass0 ha hdb he hpl
theorem Cal.up {P : Program} {w : World} {K : PySem.W.Frag} {mg : Str → Option Value} {base : Heap} {j k : Nat} {x : Str} {ps : List Str} {sp : Sp} (c : Cal P w K mg base j x ps sp) (h : j ≤ k) : Cal P w K mg base k x ps sp := by
  obtain ⟨f, fd, F, r⟩ := c.ex
  exact ⟨f, fd, F.mono h, r⟩
end CHr

set_option maxRecDepth 100000
namespace CHr
open PySem PySem.Spec PyProof.Rows L2 CH
def topS (i : Nat) : Stmt := PySem.Challenge.pw_closehaul_k24_whole_reach.main.body.getD i (.Pass ⟨0, 0, 0, 0⟩)
/-! the built-in names that the program reads -/
structure Bl (mg : Str → Option Value) : Prop where
  len : mg "len" = none
  set_ : mg "set" = none
  sorted : mg "sorted" = none
  tuple : mg "tuple" = none
  list_ : mg "list" = none
  enumerate : mg "enumerate" = none
  range : mg "range" = none
  min_ : mg "min" = none
  max_ : mg "max" = none
  all_ : mg "all" = none
  isinstance : mg "isinstance" = none
  int_ : mg "int" = none
  bool_ : mg "bool" = none
  str_ : mg "str" = none
theorem b_len : bootBuiltins "len" = some (.builtin "len") := PySem.boot_len
theorem b_set : bootBuiltins "set" = some (.type "set") := by decide +kernel
theorem b_sorted : bootBuiltins "sorted" = some (.builtin "sorted") := by decide +kernel
theorem b_tuple : bootBuiltins "tuple" = some (.type "tuple") := by decide +kernel
theorem b_list : bootBuiltins "list" = some (.type "list") := by decide +kernel
theorem b_min : bootBuiltins "min" = some (.builtin "min") := by decide +kernel
theorem b_max : bootBuiltins "max" = some (.builtin "max") := by decide +kernel
theorem b_all : bootBuiltins "all" = some (.builtin "all") := by decide +kernel
theorem b_isinstance : bootBuiltins "isinstance" = some (.builtin "isinstance") := by decide +kernel
theorem b_int : bootBuiltins "int" = some (.type "int") := by decide +kernel
theorem b_bool : bootBuiltins "bool" = some (.type "bool") := by decide +kernel
theorem b_str : bootBuiltins "str" = some (.type "str") := by decide +kernel
/-! rules that name the written part -/
theorem ix_tupK (K : PySem.W.Frag) {X : Cx} (h : X.K = K) : IxR X (rIxT K) := by
  subst h
  exact ix_tup
theorem pg_tupK (K : PySem.W.Frag) {X : Cx} {es : List Expr} {k : Nat} (n : Nat) {t : TGs} {pos : Pos} (h : X.K = K) (hc : X.calm = true) (hp : PGs X es t) (hn : (assignEach es X.env).length = n := by rfl) (hst : (assignEach es X.env).findIdx? (·.1) = none := by rfl) : PG X (.Tuple es k pos) (gTup K n t) := by
  subst h
  exact pg_tup hc hp hn hst
/-! data -/
abbrev refs (as : List Pt) : List V := as.map rOf
abbrev pts (as : List Pt) : List P2 := as.map (·.2)
/-- each of them is the pair that it is said to be -/
def PL (K : PySem.W.Frag) (H : Hp) (as : List Pt) : Prop := ∀ q ∈ as, SqT K H q.1 (v2 q.2)
theorem same_t {K : PySem.W.Frag} {H H' : Hp} {a : Addr} {xs : List V} (e : Same H H') (h : SqT K H a xs) : SqT K H' a xs := by
  rcases h with (h | ⟨o, h⟩) | h
  · exact .inl (.inl (e _ _ h))
  · exact .inl (.inr ⟨o, e _ _ h⟩)
  · exact .inr h
theorem same_pl {K : PySem.W.Frag} {H H' : Hp} {as : List Pt} (e : Same H H') (h : PL K H as) : PL K H' as := fun q hq => same_t e (h q hq)
theorem same_new {H : Hp} {p : Addr} {o : HO} (h : H p = none) : Same H (upd H p o) := fun b x e => by
  rw [upd_ne (ne_of_none e h)]
  exact e
/-- what H does not know may change -/
theorem same_mut {H H' : Hp} {p : Addr} {o : HO} (e : Same H H') (h : H p = none) : Same H (upd H' p o) := fun b x q => by
  rw [upd_ne (ne_of_none q h)]
  exact e b x q
theorem t_of {K : PySem.W.Frag} {H : Hp} {a : Addr} {xs : List V} (h : H a = some (.tup xs)) : SqT K H a xs := .inl (.inl h)
theorem l_of {K : PySem.W.Frag} {H : Hp} {a : Addr} {xs : List V} (h : H a = some (.lst xs)) : SqL K H a xs := .inl (.inl h)
theorem refs_get {as : List Pt} {i : Nat} {x : V} (h : (refs as)[i]? = some x) : ∃ q, as[i]? = some q ∧ x = .ref q.1 := by
  rw [List.getElem?_map] at h
  cases e : as[i]? with
  | none => rw [e] at h; cases h
  | some q => rw [e] at h; exact ⟨q, rfl, (Option.some.inj h).symm⟩
theorem refs_at {as : List Pt} {i : Nat} {q : Pt} (h : as[i]? = some q) : (refs as)[i]? = some (.ref q.1) := by rw [List.getElem?_map, h]; rfl
theorem pts_at {as : List Pt} {i : Nat} {q : Pt} (h : as[i]? = some q) : (pts as)[i]? = some q.2 := by rw [List.getElem?_map, h]; rfl
/-- numbers that are not too great to be multiplied -/
def S (p : P2) : Prop := p.1.natAbs < 2 ^ 150 ∧ p.2.natAbs < 2 ^ 150
theorem mulS {x y : Int} (hx : x.natAbs < 2 ^ 150) (hy : y.natAbs < 2 ^ 150) : CMulW x y := wide_mul hx hy (by decide) (by decide) (by decide)
theorem line_le {n : Nat} (h : n ≤ 100000) : n ≤ sizeLine := Nat.le_trans h (by decide)
theorem line_lt {n : Nat} (h : n < 100000) : n < sizeLine := Nat.lt_of_lt_of_le h (by decide)
/-- a new tuple, a new list of pairs is told -/
def RetT (K : PySem.W.Frag) (H : Hp) (Q : VK) (L : List P2) : Prop := ∀ H' t (bs : List Pt), Same H H' → H t = none → H' t = some (.tup (refs bs)) → PL K H' bs → pts bs = L → Q (.ref t) H'
def RetL (K : PySem.W.Frag) (H : Hp) (Q : VK) (L : List P2) : Prop := ∀ H' t (bs : List Pt), Same H H' → H t = none → H' t = some (.lst (refs bs)) → PL K H' bs → pts bs = L → Q (.ref t) H'
/-- the promises of the small ones -/
def spTurn (K : PySem.W.Frag) : Sp := fun vs H Q _ => ∃ (a b : Addr) (p q : P2), vs = [.ref a, .ref b] ∧ SqT K H a (v2 p) ∧ SqT K H b (v2 q) ∧ S p ∧ S q ∧ Q (.int (cr p q)) H
def spStep (K : PySem.W.Frag) : Sp := fun vs H Q _ => ∃ (a b : Addr) (p q : P2), vs = [.ref a, .ref b] ∧ SqT K H a (v2 p) ∧ SqT K H b (v2 q) ∧ ∀ t, H t = none → Q (.ref t) (upd H t (.tup (v2 (sb q p))))
end CHr

set_option maxRecDepth 100000
set_option maxHeartbeats 4000000
namespace CHr
open PySem PySem.Spec PyProof.Rows L2 CH
abbrev s_turn_of : Stmt := topS 1
abbrev N_turn_of : List Str := ["one", "other"]
theorem sc_turn_of : FnScope N_turn_of ["one", "other"] (defScope s_turn_of) := ⟨rfl, rfl, rfl, by decide +kernel, rfl, by decide +kernel, by decide +kernel⟩
abbrev s_step_between : Stmt := topS 2
abbrev N_step_between : List Str := ["one", "other"]
theorem sc_step_between : FnScope N_step_between ["one", "other"] (defScope s_step_between) := ⟨rfl, rfl, rfl, by decide +kernel, rfl, by decide +kernel, by decide +kernel⟩
section
variable {P : Program} {w : World} {K : PySem.W.Frag} {mg : Str → Option Value} {base : Heap}
theorem ok_turn_of {f : Addr} {fd : FuncData} (F : Fun K "turn_of" "turn_of" s_turn_of f fd) : FnOk P w K mg base CX0 1 f fd ["one", "other"] (spTurn K) := by
  refine F.ok sc_turn_of (fun vs H Q E h => ?_) (fun cdv A outer s H vs Q E hr h => ?_)
  · obtain ⟨a, b, p, q, rfl, _⟩ := h
    rfl
  · obtain ⟨a, b, p, q, rfl, ha, hb, hp, hq, k⟩ := h
    refine ⟨_, (pss_one (ps_ret (pe_op op_sub (pe_op op_mulW (pe_ix (ix_tupK K rfl) (pv 0) pe_int (fun _ _ => rfl)) (pe_ix (ix_tupK K rfl) (pv 1) pe_int (fun _ _ => rfl))) (pe_op op_mulW (pe_ix (ix_tupK K rfl) (pv 0) pe_int (fun _ _ => rfl)) (pe_ix (ix_tupK K rfl) (pv 1) pe_int (fun _ _ => rfl)))))), ?_⟩
    refine ⟨_, rfl, a, _, _, _, rfl, rfl, ha, rfl, _, rfl, b, _, _, _, rfl, rfl, hb, rfl, _, _, rfl, rfl, mulS hp.1 hq.2, _, rfl, a, _, _, _, rfl, rfl, ha, rfl, _, rfl, b, _, _, _, rfl, rfl, hb, rfl, _, _, rfl, rfl, mulS hp.2 hq.1, _, _, rfl, rfl, ?_⟩
    exact k
theorem ok_step_between {f : Addr} {fd : FuncData} (F : Fun K "step_between" "step_between" s_step_between f fd) : FnOk P w K mg base CX0 1 f fd ["one", "other"] (spStep K) := by
  refine F.ok sc_step_between (fun vs H Q E h => ?_) (fun cdv A outer s H vs Q E hr h => ?_)
  · obtain ⟨a, b, p, q, rfl, _⟩ := h
    rfl
  · obtain ⟨a, b, p, q, rfl, ha, hb, k⟩ := h
    refine ⟨_, (pss_one (ps_ret (pe_tup (pa_cons (pe_op op_sub (pe_ix (ix_tupK K rfl) (pv 1) pe_int (fun _ _ => rfl)) (pe_ix (ix_tupK K rfl) (pv 0) pe_int (fun _ _ => rfl))) (pa_cons (pe_op op_sub (pe_ix (ix_tupK K rfl) (pv 1) pe_int (fun _ _ => rfl)) (pe_ix (ix_tupK K rfl) (pv 0) pe_int (fun _ _ => rfl))) pa_nil))))), ?_⟩
    refine ⟨_, rfl, b, _, _, _, rfl, rfl, hb, rfl, _, rfl, a, _, _, _, rfl, rfl, ha, rfl, _, _, rfl, rfl, _, rfl, b, _, _, _, rfl, rfl, hb, rfl, _, rfl, a, _, _, _, rfl, rfl, ha, rfl, _, _, rfl, rfl, (by show 2 ≤ sizeLine; decide), ?_⟩
    exact k
end
end CHr

set_option maxRecDepth 100000
set_option maxHeartbeats 4000000
namespace CHr
open PySem PySem.Spec PyProof.Rows L2 CH
/-! the chain over pairs that stand somewhere -/
def popsA (v : Pt) : List Pt → List Pt
  | d :: c :: r => if cr (sb d.2 c.2) (sb v.2 d.2) ≤ 0 then popsA v (c :: r) else d :: c :: r
  | l => l
theorem popsA_pts (v : Pt) : ∀ st : List Pt, pts (popsA v st) = pops v.2 (pts st)
  | [] => rfl
  | [d] => rfl
  | d :: c :: r => by
    unfold popsA
    show _ = pops v.2 (d.2 :: c.2 :: pts r)
    unfold pops
    split
    · exact popsA_pts v (c :: r)
    · rfl
def chainA (row : List Pt) : List Pt := row.foldl (fun st v => v :: popsA v st) []
theorem chainA_snoc (row : List Pt) (v : Pt) : chainA (row ++ [v]) = v :: popsA v (chainA row) := by
  unfold chainA
  rw [List.foldl_append]
  rfl
theorem chainA_pts (row : List Pt) : pts (chainA row).reverse = chain (pts row) := by
  have key : ∀ (r st : List Pt) (st' : List P2), pts st = st' → pts (r.foldl (fun st v => v :: popsA v st) st) = (pts r).foldl (fun st v => v :: pops v st) st' := by
    intro r
    induction r with
    | nil => intro st st' h; exact h
    | cons v r ih =>
      intro st st' h
      refine ih (v :: popsA v st) (v.2 :: pops v.2 st') ?_
      show v.2 :: pts (popsA v st) = _
      rw [popsA_pts, h]
  unfold chain chainR chainA
  rw [pts, List.map_reverse]
  congr 1
  exact key row [] [] rfl
theorem popsA_sub (v : Pt) : ∀ (st : List Pt) (q : Pt), q ∈ popsA v st → q ∈ st
  | [], q, h => h
  | [d], q, h => h
  | d :: c :: r, q, h => by
    unfold popsA at h
    split at h
    · exact List.mem_cons_of_mem _ (popsA_sub v (c :: r) q h)
    · exact h
theorem popsA_len (v : Pt) : ∀ (st : List Pt), (popsA v st).length ≤ st.length
  | [] => Nat.le_refl _
  | [d] => Nat.le_refl _
  | d :: c :: r => by
    unfold popsA
    split
    · exact Nat.le_succ_of_le (popsA_len v (c :: r))
    · exact Nat.le_refl _
theorem at_m1 (d : Pt) (r : List Pt) : atI (refs (d :: r).reverse) (-1) = some (.ref d.1) := by
  rw [List.reverse_cons, refs, List.map_append]
  exact atI_last _ _
theorem at_m2 (d c : Pt) (r : List Pt) : atI (refs (d :: c :: r).reverse) (-2) = some (.ref c.1) := by
  have hl : (refs (d :: c :: r).reverse).length = r.length + 2 := by simp
  unfold atI ixN
  rw [if_neg (by decide), if_pos (by rw [hl]; omega), hl]
  show (refs (d :: c :: r).reverse)[(-2 + ((r.length + 2 : Nat) : Int)).toNat]? = some (.ref c.1)
  rw [show (-2 + ((r.length + 2 : Nat) : Int)).toNat = r.length by omega]
  rw [refs, List.getElem?_map, List.getElem?_reverse (by simp; omega)]
  simp
theorem pops_len (v : P2) : ∀ st : List P2, (pops v st).length ≤ st.length
  | [] => Nat.le_refl _
  | [d] => Nat.le_refl _
  | d :: c :: r => by
    unfold pops
    split
    · exact Nat.le_succ_of_le (pops_len v (c :: r))
    · exact Nat.le_refl _
theorem chainR_len (row : List P2) : (chainR row).length ≤ row.length := by
  have key : ∀ (r st : List P2), (r.foldl (fun st v => v :: pops v st) st).length ≤ st.length + r.length := by
    intro r
    induction r with
    | nil => intro st; exact Nat.le_refl _
    | cons v r ih =>
      intro st
      have h1 := ih (v :: pops v st)
      have h2 := pops_len v st
      simp only [List.foldl_cons, List.length_cons] at *
      omega
  have := key row []
  rw [List.length_nil, Nat.zero_add] at this
  exact this
/-- half of the room of S -/
def Bd (p : P2) : Prop := p.1.natAbs < 2 ^ 149 ∧ p.2.natAbs < 2 ^ 149
theorem sb_S {p q : P2} (hp : Bd p) (hq : Bd q) : S (sb p q) := by
  have e : (2 : Nat) ^ 150 = 2 ^ 149 + 2 ^ 149 := by decide
  have h1 := hp.1
  have h2 := hp.2
  have h3 := hq.1
  have h4 := hq.2
  refine ⟨?_, ?_⟩
  · show (p.1 - q.1).natAbs < _
    rw [e]
    generalize (2 : Nat) ^ 149 = m at *
    omega
  · show (p.2 - q.2).natAbs < _
    rw [e]
    generalize (2 : Nat) ^ 149 = m at *
    omega
abbrev s_half_round : Stmt := topS 3
abbrev N_half_round : List Str := ["row", "kept", "vector"]
theorem sc_half_round : FnScope N_half_round ["row"] (defScope s_half_round) := ⟨rfl, rfl, rfl, by decide +kernel, rfl, by decide +kernel, by decide +kernel⟩
def spHalf (K : PySem.W.Frag) : Sp := fun vs H Q _ => ∃ (a : Addr) (as : List Pt), vs = [.ref a] ∧ SqL K H a (refs as) ∧ PL K H as ∧ (∀ q ∈ as, Bd q.2) ∧ as.length ≤ 1000 ∧ RetL K H Q (chain (pts as))
section
variable {P : Program} {w : World} {K : PySem.W.Frag} {mg : Str → Option Value} {base : Heap}
theorem ok_half_round {f : Addr} {fd : FuncData} (F : Fun K "half_round" "half_round" s_half_round f fd) (B : Bl mg) (c_turn_of : Cal P w K mg base 1 "turn_of" ["one", "other"] (spTurn K)) (c_step_between : Cal P w K mg base 1 "step_between" ["one", "other"] (spStep K)) :
    FnOk P w K mg base CX0 2 f fd ["row"] (spHalf K) := by
  refine F.ok sc_half_round (fun vs H Q E h => ?_) (fun cdv A outer s H vs Q E hr h => ?_)
  · obtain ⟨a, as, rfl, _⟩ := h
    rfl
  · obtain ⟨a, as, rfl, ha, hp, hb, hlen, k⟩ := h
    refine ⟨_, (pss_cons (ps_set (i := 1) sc_half_round.nd rfl (.inl rfl) (pe_lst pa_nil))
      (pss_cons (ps_for PassesOwn.never rfl (pi_list (pv 0)) (pg_name (i := 2) sc_half_round.nd rfl (.inl rfl)) (pss_cons (ps_while PassesOwn.never (PW.pt (pw_and (pt_cmpR op_gt (pe_callB call_len_seq (by rfl) B.len b_len (pa_cons (pv 1) pa_nil)) pe_int (nomark _)) (pw_and1 (pt_cmpR op_le (pe_own c_turn_of (hr.mono (by decide)) (pa_cons (pe_own c_step_between (hr.mono (by decide)) (pa_cons (pe_ix ix_list (pv 1) (pe_un un_neg pe_int) (fun _ _ => rfl)) (pa_cons (pe_ix ix_list (pv 1) (pe_un un_neg pe_int) (fun _ _ => rfl)) pa_nil))) (pa_cons (pe_own c_step_between (hr.mono (by decide)) (pa_cons (pe_ix ix_list (pv 1) (pe_un un_neg pe_int) (fun _ _ => rfl)) (pa_cons (pv 2) pa_nil))) pa_nil))) pe_int (nomark _))))) (pss_one (ps_expr (pe_bm0 PySem.F.plainAttrs_list PySem.F.slot_list_pop PySem.F.type_list_pop mt_pop (pv 1)))))
      (pss_one (ps_expr (pe_bm PySem.F.plainAttrs_list PySem.F.slot_list_append PySem.F.type_list_append mt_append (pv 1) (pa_cons (pv 2) pa_nil))))))
      (pss_one (ps_ret (pv 1))))), ?_⟩
    -- kept = []
    refine ⟨Nat.zero_le _, fun l nl => ?_⟩
    refine ⟨.ref a, rfl, a, rfl, ⟨_, (same_new nl).seq ha⟩, for_list (K := K) (a := a) (xs := refs as) (fun i σ H' => ∃ v, σ = [some (.ref a), some (.ref l), v] ∧ Same H H' ∧ H' l = some (.lst (refs (chainA (as.take i)).reverse)) ∧ (∀ q ∈ chainA (as.take i), q ∈ as) ∧ (chainA (as.take i)).length ≤ i)
      ⟨none, rfl, same_new nl, upd_same, fun q h => (by cases h), Nat.le_refl _⟩ (fun i σ H' _ h => by obtain ⟨_, _, s1, _⟩ := h; exact s1.seq ha) ?_ ?_⟩
    · rintro i x σ H' hi ⟨v0, rfl, s1, hl, hin, hz⟩
      obtain ⟨v, hv, rfl⟩ := refs_get hi
      have hvm : v ∈ as := List.mem_of_getElem? hv
      have hi1 : i < as.length := (List.getElem?_eq_some_iff.mp hv).1
      generalize hst : chainA (as.take i) = st at hl hin hz
      -- the while
      refine ⟨fun m σ2 H2 => ∃ st0 : List Pt, m = st0.length ∧ σ2 = [some (.ref a), some (.ref l), some (.ref v.1)] ∧ Same H H2 ∧ H2 l = some (.lst (refs st0.reverse)) ∧ popsA v st0 = popsA v st ∧ (∀ q ∈ st0, q ∈ as) ∧ st0.length ≤ i,
        ⟨_, st, rfl, rfl, s1, hl, rfl, hin, hz⟩, fun m σ2 H2 hW => ?_⟩
      obtain ⟨st0, rfl, rfl, s2, hl2, hpp, hin2, hz2⟩ := hW
      -- behind the loop: kept.append(vector)
      have fin : ∀ H3, Same H H3 → H3 l = some (.lst (refs st0.reverse)) → popsA v st0 = st0 → (∃ v', [some (V.ref a), some (V.ref l), some (V.ref v.1)] = [some (V.ref a), some (V.ref l), v'] ∧ Same H (upd H3 l (.lst (refs st0.reverse ++ [.ref v.1]))) ∧
          upd H3 l (.lst (refs st0.reverse ++ [.ref v.1])) l = some (.lst (refs (chainA (as.take (i + 1))).reverse)) ∧ (∀ q ∈ chainA (as.take (i + 1)), q ∈ as) ∧ (chainA (as.take (i + 1))).length ≤ i + 1) := fun H3 s3 hl3 hst0 => by
        have e : chainA (as.take (i + 1)) = v :: st0 := by
          rw [List.take_succ, hv]
          show chainA (as.take i ++ [v]) = _
          rw [chainA_snoc, hst, ← hpp, hst0]
        refine ⟨_, rfl, same_mut s3 nl, ?_, fun q hq => ?_, ?_⟩
        · rw [upd_same, e, List.reverse_cons, refs, refs, List.map_append]
          rfl
        · rw [e] at hq
          rcases List.mem_cons.mp hq with z | z
          · rw [z]; exact hvm
          · exact hin2 q z
        · rw [e, List.length_cons]; omega
      refine ⟨.ref l, rfl, l, _, rfl, .inl (l_of hl2), _, _, rfl, rfl, _, rfl, ?_⟩
      match st0, hl2, hpp, hin2, hz2, fin with
      | [], hl2, hpp, hin2, hz2, fin =>
        refine iteF ?_
        refine ⟨.ref l, rfl, .inl ⟨rfl, _, l_of hl2⟩, .ref v.1, rfl, l, _, _, rfl, rfl, hl2, by simp; decide, ?_⟩
        exact fin H2 s2 hl2 rfl
      | [d], hl2, hpp, hin2, hz2, fin =>
        refine iteF ?_
        refine ⟨.ref l, rfl, .inl ⟨rfl, _, l_of hl2⟩, .ref v.1, rfl, l, _, _, rfl, rfl, hl2, by simp; decide, ?_⟩
        exact fin H2 s2 hl2 rfl
      | d :: c :: r, hl2, hpp, hin2, hz2, fin =>
        have gt1 : decide ((1 : Int) < (((refs (d :: c :: r).reverse).length : Nat) : Int)) = true := decide_eq_true (by simp; omega)
        rw [gt1]
        refine iteT ?_
        have pc := same_pl s2 hp
        have hc := hin2 c (by simp)
        have hd := hin2 d (by simp)
        refine ⟨.ref l, rfl, _, rfl, l, _, _, _, rfl, rfl, l_of hl2, at_m2 d c r, .ref l, rfl, _, rfl, l, _, _, _, rfl, rfl, l_of hl2, at_m1 d (c :: r), c.1, d.1, c.2, d.2, rfl, pc c hc, pc d hd, fun t1 n1 => ?_⟩
        have s3 : Same H2 (upd H2 t1 (.tup (v2 (sb d.2 c.2)))) := same_new n1
        refine ⟨.ref l, rfl, _, rfl, l, _, _, _, rfl, rfl, l_of (s3 _ _ hl2), at_m1 d (c :: r), .ref v.1, rfl, d.1, v.1, d.2, v.2, rfl, same_t s3 (pc d hd), same_t s3 (pc v hvm), fun t2 n2 => ?_⟩
        have s4 := same_new (o := .tup (v2 (sb v.2 d.2))) n2
        refine ⟨t1, t2, sb d.2 c.2, sb v.2 d.2, rfl, same_t s4 (t_of upd_same), t_of upd_same, sb_S (hb d hd) (hb c hc), sb_S (hb v hvm) (hb d hd), ?_⟩
        refine ⟨_, _, rfl, rfl, _, rfl, ?_⟩
        have s5 : Same H2 _ := s3.trans s4
        refine ite2 (fun hle => ?_) (fun hgt => ?_)
        · have hle := of_decide_eq_true hle
          refine ⟨_, fun σ' H' n => n, ?_⟩
          refine ⟨.ref l, rfl, .inl ⟨rfl, _, l_of (s5 _ _ hl2)⟩, l, _, .ref d.1, rfl, rfl, s5 _ _ hl2, ?_, ?_⟩
          · rw [← List.getLast?_eq_getElem?, List.reverse_cons, refs, List.map_append]
            simp
          · refine ⟨(c :: r).length, by simp, c :: r, rfl, rfl, same_mut (s2.trans s5) nl, ?_, ?_, fun q hq => hin2 q (List.mem_cons_of_mem _ hq), by simp only [List.length_cons] at hz2 ⊢; omega⟩
            · rw [upd_same, List.reverse_cons, refs, List.map_append]
              simp
            · rw [← hpp]
              conv => rhs; unfold popsA
              rw [if_pos hle]
        · have hgt : ¬ cr (sb d.2 c.2) (sb v.2 d.2) ≤ 0 := fun z => hgt (decide_eq_true z)
          refine ⟨.ref l, rfl, .inl ⟨rfl, _, l_of (s5 _ _ hl2)⟩, .ref v.1, rfl, l, _, _, rfl, rfl, s5 _ _ hl2, line_lt (by simp only [List.length_cons] at hz2; simp; omega), ?_⟩
          refine fin _ (s2.trans s5) (s5 _ _ hl2) ?_
          unfold popsA
          rw [if_neg hgt]
    · rintro σ H' ⟨v, rfl, s1, hl, hin, hz⟩
      rw [List.length_map, List.take_length] at hl hin
      refine ⟨.ref l, rfl, k H' l _ s1 nl hl (fun q hq => same_t s1 (hp q (hin q (List.mem_reverse.mp hq)))) (chainA_pts as)⟩
end
end CHr

set_option maxRecDepth 100000
set_option maxHeartbeats 4000000
namespace CHr
open PySem PySem.Spec PyProof.Rows L2 CH
theorem cut_last (xs : List V) : cutV xs none (some (-1)) = xs.dropLast := by
  unfold cutV
  rw [HT.sIx_none, List.dropLast_eq_take]
  show (xs.drop 0).take (HT.sIx xs.length xs.length (some (-1)) - 0) = _
  have e : HT.sIx xs.length xs.length (some (-1)) = xs.length - 1 := by
    show (if (-1 : Int) < 0 then ((-1 : Int) + (xs.length : Int)).toNat else min (-1 : Int).toNat xs.length) = _
    rw [if_pos (by decide)]
    omega
  rw [e, List.drop_zero, Nat.sub_zero]
theorem keys_of {as : List Pt} : ∀ {L : List (Addr × List Int)}, (∀ p ∈ L, p ∈ as.map kOf) → ∃ bs : List Pt, L = bs.map kOf ∧ ∀ q ∈ bs, q ∈ as
  | [], _ => ⟨[], rfl, fun q h => (by cases h)⟩
  | p :: L, h => by
    obtain ⟨q, hq, e⟩ := List.mem_map.mp (h p List.mem_cons_self)
    obtain ⟨bs, e1, h1⟩ := keys_of (as := as) (L := L) fun r hr => h r (List.mem_cons_of_mem _ hr)
    exact ⟨q :: bs, by rw [List.map_cons, e, e1], fun r hr => by
      rcases List.mem_cons.mp hr with z | z
      · rw [z]; exact hq
      · exact h1 r z⟩
theorem lex_of {p q : P2} (h : SrtO.lexB q p = false) (ne : p ≠ q) : lexlt p q := by
  have := SrtO.lexB_no.mp h
  have n2 : ¬ (p.1 = q.1 ∧ p.2 = q.2) := fun z => ne (Prod.ext z.1 z.2)
  rw [lexlt_iff]
  omega
/-- what sorted(set(..)) gives -/
theorem row_is {as bs cs : List Pt} (hsub : ∀ q ∈ bs, q ∈ as) (hall : ∀ q ∈ as, q.2 ∈ pts bs) (nd : (pts bs).Nodup) (pm : cs.Perm bs) (pw : cs.Pairwise (fun q r => SrtO.lexB r.2 q.2 = false)) : pts cs = sortd (pts as) := by
  have nc : (pts cs).Nodup := (pm.map (·.2)).nodup_iff.mpr nd
  refine pw_uniq ?_ (sortd_pw _) fun z => ?_
  · have h1 : (pts cs).Pairwise (fun p q => SrtO.lexB q p = false) := List.pairwise_map.mpr pw
    exact h1.imp₂ (fun p q a b => lex_of a b) nc
  · rw [mem_sortd, (pm.map (·.2)).mem_iff]
    constructor
    · intro h
      obtain ⟨q, hq, e⟩ := List.mem_map.mp h
      exact List.mem_map.mpr ⟨q, hsub q hq, e⟩
    · intro h
      obtain ⟨q, hq, e⟩ := List.mem_map.mp h
      rw [← e]
      exact hall q hq
abbrev s_least_headings : Stmt := topS 4
abbrev N_least_headings : List Str := ["wind", "row"]
theorem sc_least_headings : FnScope N_least_headings ["wind"] (defScope s_least_headings) := ⟨rfl, rfl, rfl, by decide +kernel, rfl, by decide +kernel, by decide +kernel⟩
def spLeast (K : PySem.W.Frag) : Sp := fun vs H Q _ => ∃ (a : Addr) (as : List Pt), vs = [.ref a] ∧ SqT K H a (refs as) ∧ PL K H as ∧ as ≠ [] ∧ as.length < 64 ∧ (∀ q ∈ as, Bd q.2) ∧ RetT K H Q (least (pts as))
section
variable {P : Program} {w : World} {K : PySem.W.Frag} {mg : Str → Option Value} {base : Heap}
theorem ok_least_headings {f : Addr} {fd : FuncData} (F : Fun K "least_headings" "least_headings" s_least_headings f fd) (B : Bl mg) (c_half_round : Cal P w K mg base 2 "half_round" ["row"] (spHalf K)) :
    FnOk P w K mg base CX0 3 f fd ["wind"] (spLeast K) := by
  refine F.ok sc_least_headings (fun vs H Q E h => ?_) (fun cdv A outer s H vs Q E hr h => ?_)
  · obtain ⟨a, as, rfl, _⟩ := h
    rfl
  · obtain ⟨a, as, rfl, ha, hp, hne, hlen, hb, k⟩ := h
    refine ⟨_, (pss_cons (ps_set (i := 1) sc_least_headings.nd rfl (.inl rfl) (pe_callB (cr_sortedT2 rfl) (by rfl) B.sorted b_sorted (pa_cons (pe_callTy (cr_setTT rfl hr.units) (by rfl) B.set_ b_set (pa_cons (pv 0) pa_nil)) pa_nil)))
      (pss_cons (ps_if (pt_cmpR op_eq (pe_callB call_len_seq (by rfl) B.len b_len (pa_cons (pv 1) pa_nil)) pe_int (nomark _)) (pss_one (ps_ret (pe_callTy call_tuple_of (by rfl) B.tuple b_tuple (pa_cons (pv 1) pa_nil)))) pss_nil)
      (pss_one (ps_ret (pe_callTy call_tuple_of (by rfl) B.tuple b_tuple (pa_cons (pe_op op_cat (pe_slice sl_list (pe_own c_half_round (hr.mono (by decide)) (pa_cons (pv 1) pa_nil)) po_none (po_some (pe_un un_neg pe_int))) (pe_slice sl_list (pe_own c_half_round (hr.mono (by decide)) (pa_cons (pe_revL (pv 1)) pa_nil)) po_none (po_some (pe_un un_neg pe_int)))) pa_nil)))))), ?_⟩
    refine ⟨.ref a, rfl, a, as.map kOf, rfl, by rw [← rOf_map]; exact ha, fun p hm => ?_, by rw [List.length_map]; exact hlen, fun sa L nsa hsub hall hnd => ?_⟩
    · obtain ⟨q, hq, e⟩ := List.mem_map.mp hm
      rw [← e]
      exact hp q hq
    obtain ⟨bs, eL, hbs⟩ := keys_of hsub
    subst eL
    have s1 := same_new (o := SetTO P w sa (bs.map kOf)) nsa
    refine ⟨sa, bs, rfl, upd_same, fun q hq => same_t s1 (hp q (hbs q hq)), fun cs p pm few pw np => ?_⟩
    have s2 := s1.trans (same_new (o := .lst (refs cs)) np)
    have inb : ∀ q ∈ cs, q ∈ as := fun q hq => hbs q (pm.mem_iff.mp hq)
    have key2 : ∀ {l : List Pt}, (l.map kOf).map (·.2) = (pts l).map fun z => [z.1, z.2] := fun {l} => by rw [List.map_map, List.map_map]; rfl
    have two : ∀ {z y : P2}, ([z.1, z.2] : List Int) = [y.1, y.2] → z = y := fun {z y} e => by
      injection e with e1 e2
      injection e2 with e2
      exact Prod.ext e1 e2
    have row := row_is (as := as) (bs := bs) (cs := cs) hbs (fun q hq => by
        have := hall (kOf q) (List.mem_map.mpr ⟨q, hq, rfl⟩)
        rw [key2] at this
        obtain ⟨z, hz, e⟩ := List.mem_map.mp this
        rw [← two e]
        exact hz) (by
        rw [key2] at hnd
        exact List.Pairwise.of_map _ (fun _ _ hne e => hne (congrArg (fun z : P2 => ([z.1, z.2] : List Int)) e)) hnd) pm pw
    have hpl : PL K (upd (upd H sa (SetTO P w sa (bs.map kOf))) p (.lst (refs cs))) cs := fun q hq => same_t s2 (hp q (inb q hq))
    have fresh : ∀ {H3 : Hp} {t : Addr}, Same (upd (upd H sa (SetTO P w sa (bs.map kOf))) p (.lst (refs cs))) H3 → H3 t = none → H t = none := fun s3 n => (s2.trans s3).free n
    have len : (refs cs).length = (sortd (pts as)).length := by rw [← row]; simp
    -- if len(row) == 1
    refine ⟨.ref p, rfl, p, _, rfl, .inl (l_of upd_same), rfl, _, rfl, ?_⟩
    refine ite2 (fun h1 => ?_) (fun h1 => ?_)
    · have h1 := of_decide_eq_true h1
      injection h1 with h1
      refine ⟨.ref p, rfl, p, _, rfl, .inl ⟨l_of upd_same, fun t nt => ?_⟩⟩
      refine k _ t cs (s2.trans (same_new nt)) (s2.free nt) upd_same (same_pl (same_new nt) hpl) ?_
      unfold least hullOf
      rw [if_pos (by rw [← len]; exact_mod_cast h1)]
      exact row
    · have h1 : ¬ (sortd (pts as)).length = 1 := fun z => h1 (decide_eq_true (by rw [len, z]; rfl))
      refine ⟨.ref p, rfl, p, cs, rfl, l_of upd_same, hpl, fun q hq => hb q (inb q hq), by omega, fun H1 t1 ds s3 n1 h3 p3 e3 => ?_⟩
      refine ⟨_, rfl, _, rfl, t1, _, rfl, l_of h3, fun p4 n4 => ?_⟩
      have s4 := same_new (o := .lst (cutV (refs ds) none (some (-1)))) n4
      have hp4 : (upd (upd H sa (SetTO P w sa (bs.map kOf))) p (.lst (refs cs))) p = some (.lst (refs cs)) := upd_same
      refine ⟨.ref p, rfl, p, _, rfl, l_of (s4 _ _ (s3 _ _ hp4)), fun p5 n5 => ?_⟩
      have s5 := same_new (o := .lst (refs cs).reverse) n5
      have s35 := (s3.trans s4).trans s5
      refine ⟨p5, cs.reverse, rfl, by rw [show refs cs.reverse = (refs cs).reverse from List.map_reverse ..]; exact l_of upd_same, fun q hq => same_t s35 (hpl q (List.mem_reverse.mp hq)), fun q hq => hb q (inb q (List.mem_reverse.mp hq)), by rw [List.length_reverse]; omega, fun H2 t2 es s6 n2 h6 p6 e6 => ?_⟩
      refine ⟨_, rfl, _, rfl, t2, _, rfl, l_of h6, fun p7 n7 => ?_⟩
      have s7 := same_new (o := .lst (cutV (refs es) none (some (-1)))) n7
      have s57 := (s5.trans s6).trans s7
      refine ⟨p4, p7, refs ds.dropLast, refs es.dropLast, rfl, rfl, ?_, ?_, ?_, fun p8 n8 => ?_⟩
      · rw [s57 _ _ upd_same, cut_last, refs, refs, List.map_dropLast]
      · rw [upd_same, cut_last, refs, refs, List.map_dropLast]
      · have l1 : ds.length ≤ cs.length := by
          have := congrArg List.length e3
          rw [List.length_map, chain, List.length_reverse] at this
          rw [this, ← List.length_map (f := fun q : Pt => q.2) (as := cs)]
          exact chainR_len _
        have l2 : es.length ≤ cs.length := by
          have := congrArg List.length e6
          rw [List.length_map, chain, List.length_reverse] at this
          rw [this, ← List.length_reverse (as := cs), ← List.length_map (f := fun q : Pt => q.2) (as := cs.reverse)]
          exact chainR_len _
        refine line_le ?_
        rw [List.length_map, List.length_map, List.length_dropLast, List.length_dropLast]
        omega
      · have s8 := same_new (o := .lst (refs ds.dropLast ++ refs es.dropLast)) n8
        refine ⟨p8, _, rfl, .inl ⟨l_of upd_same, fun t nt => ?_⟩⟩
        have s9 := same_new (o := .tup (refs ds.dropLast ++ refs es.dropLast)) nt
        have sall : Same (upd (upd H sa (SetTO P w sa (bs.map kOf))) p (.lst (refs cs))) _ := ((s35.trans (s6.trans s7)).trans s8).trans s9
        refine k _ t (ds.dropLast ++ es.dropLast) (s2.trans sall) (fresh (((s35.trans (s6.trans s7)).trans s8)) nt) ?_ ?_ ?_
        · rw [upd_same, refs, refs, refs, List.map_append]
        · intro q hq
          rcases List.mem_append.mp hq with z | z
          · exact same_t ((((s4.trans s57).trans s8).trans s9)) (p3 q (List.dropLast_subset _ z))
          · exact same_t ((s7.trans s8).trans s9) (p6 q (List.dropLast_subset _ z))
        · unfold least hullOf
          rw [if_neg h1, ← row, pts, List.map_append, List.map_dropLast, List.map_dropLast]
          rw [show List.map (fun q : Pt => q.2) ds = chain (pts cs) from e3, show List.map (fun q : Pt => q.2) es = chain (pts cs.reverse) from e6, show pts cs.reverse = (pts cs).reverse from List.map_reverse ..]
end
end CHr

set_option maxRecDepth 100000
set_option maxHeartbeats 4000000
namespace CHr
open PySem PySem.Spec PyProof.Rows L2 CH
/-! pairs as data -/
def pd (p : P2) : PyData := .tuple [.int p.1, .int p.2]
theorem dp_pair {K : PySem.W.Frag} {H : Hp} {a : Addr} {p : P2} (h : SqT K H a (v2 p)) : Dp K H (.ref a) (pd p) := .tup h (.cons (.int _) (.cons (.int _) .nil))
theorem pd_shaped (p : P2) : SeqAt.shaped (pd p) = true := by
  unfold pd
  rfl
theorem pd_eqv (p q : P2) : PyData.eqv (pd p) (pd q) = decide (p = q) := by
  have h : PyData.eqv (pd p) (pd q) = (p.1 == q.1 && (p.2 == q.2 && true)) := by
    unfold pd
    simp [PyData.eqv, PyData.eqvAll]
  rw [h, Bool.eq_iff_iff]
  simp only [Bool.and_true, Bool.and_eq_true, beq_iff_eq, decide_eq_true_eq]
  exact ⟨fun z => Prod.ext z.1 z.2, fun z => by rw [z]; exact ⟨rfl, rfl⟩⟩
/-- a list that changes is no tuple -/
theorem t_upd {K : PySem.W.Frag} {H : Hp} {a l : Addr} {xs ys : List V} {o : HO} (h : SqT K H a xs) (hl : H l = some (.lst ys)) : SqT K (upd H l o) a xs := by
  rcases h with (h | ⟨u, h⟩) | h
  · exact .inl (.inl (by rw [upd_ne (ne_of h hl (by intro z; cases z))]; exact h))
  · exact .inl (.inr ⟨u, by rw [upd_ne (ne_of h hl (by intro z; cases z))]; exact h⟩)
  · exact .inr h
theorem pl_upd {K : PySem.W.Frag} {H : Hp} {as : List Pt} {l : Addr} {ys : List V} {o : HO} (h : PL K H as) (hl : H l = some (.lst ys)) : PL K (upd H l o) as := fun q hq => t_upd (h q hq) hl
theorem pl_snoc {K : PySem.W.Frag} {H : Hp} {as : List Pt} {q : Pt} (h : PL K H as) (hq : SqT K H q.1 (v2 q.2)) : PL K H (as ++ [q]) := fun r hr => by
  rcases List.mem_append.mp hr with z | z
  · exact h r z
  · rw [List.mem_singleton.mp z]; exact hq
abbrev s_edges_of : Stmt := topS 6
abbrev N_edges_of : List Str := ["headings", "found", "k", "heading", "ahead"]
theorem sc_edges_of : FnScope N_edges_of ["headings"] (defScope s_edges_of) := ⟨rfl, rfl, rfl, by decide +kernel, rfl, by decide +kernel, by decide +kernel⟩
abbrev s_half_of : Stmt := topS 7
abbrev N_half_of : List Str := ["edge"]
theorem sc_half_of : FnScope N_half_of ["edge"] (defScope s_half_of) := ⟨rfl, rfl, rfl, by decide +kernel, rfl, by decide +kernel, by decide +kernel⟩
abbrev s_is_sooner : Stmt := topS 8
abbrev N_is_sooner : List Str := ["one", "other"]
theorem sc_is_sooner : FnScope N_is_sooner ["one", "other"] (defScope s_is_sooner) := ⟨rfl, rfl, rfl, by decide +kernel, rfl, by decide +kernel, by decide +kernel⟩
def spEdges (K : PySem.W.Frag) : Sp := fun vs H Q _ => ∃ (a : Addr) (as : List Pt), vs = [.ref a] ∧ SqT K H a (refs as) ∧ PL K H as ∧ as.length ≤ 1000 ∧ RetL K H Q (edgesOf (pts as))
def spHalfOf (K : PySem.W.Frag) : Sp := fun vs H Q _ => ∃ (a : Addr) (p : P2), vs = [.ref a] ∧ SqT K H a (v2 p) ∧ Q (.int (if h0 p = true then 0 else 1)) H
def spSooner (K : PySem.W.Frag) : Sp := fun vs H Q _ => ∃ (a b : Addr) (p q : P2), vs = [.ref a, .ref b] ∧ SqT K H a (v2 p) ∧ SqT K H b (v2 q) ∧ S p ∧ S q ∧ Q (.bl (soon p q)) H
section
variable {P : Program} {w : World} {K : PySem.W.Frag} {mg : Str → Option Value} {base : Heap}
theorem ok_edges_of {f : Addr} {fd : FuncData} (F : Fun K "edges_of" "edges_of" s_edges_of f fd) (B : Bl mg) : FnOk P w K mg base CX0 1 f fd ["headings"] (spEdges K) := by
  refine F.ok sc_edges_of (fun vs H Q E h => ?_) (fun cdv A outer s H vs Q E hr h => ?_)
  · obtain ⟨a, as, rfl, _⟩ := h
    rfl
  · obtain ⟨a, as, rfl, ha, hp, hlen, k⟩ := h
    refine ⟨_, (pss_cons (ps_set (i := 1) sc_edges_of.nd rfl (.inl rfl) (pe_lst pa_nil))
      (pss_cons (ps_for PassesOwn.never rfl (pi_enumT (by rfl) B.enumerate (pa_cons (pv 0) pa_nil)) (pg_tupK K 2 rfl rfl (pgs_cons (pg_name (i := 2) sc_edges_of.nd rfl (.inl rfl)) (pgs_cons (pg_name (i := 3) sc_edges_of.nd rfl (.inl rfl)) pgs_nil))) (pss_cons (ps_set (i := 4) sc_edges_of.nd rfl (.inl rfl) (pe_ix (ix_tupK K rfl) (pv 0) (pe_op op_mod (pe_op op_add (pv 2) pe_int) (pe_callB call_len_seq (by rfl) B.len b_len (pa_cons (pv 0) pa_nil))) (fun _ _ => rfl)))
      (pss_one (ps_if (pt_cmpR (op_neD hr.units) (pv 4) (pv 3) (nomark _)) (pss_one (ps_expr (pe_bm PySem.F.plainAttrs_list PySem.F.slot_list_append PySem.F.type_list_append mt_append (pv 1) (pa_cons (pe_tup (pa_cons (pe_op op_sub (pe_ix (ix_tupK K rfl) (pv 4) pe_int (fun _ _ => rfl)) (pe_ix (ix_tupK K rfl) (pv 3) pe_int (fun _ _ => rfl))) (pa_cons (pe_op op_sub (pe_ix (ix_tupK K rfl) (pv 4) pe_int (fun _ _ => rfl)) (pe_ix (ix_tupK K rfl) (pv 3) pe_int (fun _ _ => rfl))) pa_nil))) pa_nil)))) pss_nil))))
      (pss_one (ps_ret (pv 1))))), ?_⟩
    refine ⟨Nat.zero_le _, fun l nl => ?_⟩
    refine ⟨.ref a, rfl, a, refs as, rfl, same_t (same_new nl) ha, for_it (walk_enumT (xs := refs as)) (fun i σ H' => ∃ (fs : List Pt) (v2' v3 v4 : Option V), σ = [some (.ref a), some (.ref l), v2', v3, v4] ∧ Same H H' ∧ H' l = some (.lst (refs fs)) ∧ PL K H' fs ∧ pts fs = edgesTo (pts as) i)
      ⟨[], none, none, none, rfl, same_new nl, upd_same, fun q h => (by cases h), rfl⟩ (fun i σ H' _ h => by obtain ⟨_, _, _, _, _, s1, _⟩ := h; exact same_t s1 ha) ?_ ?_⟩
    · rintro i x σ H0 H1 hi ⟨fs, x2, x3, x4, rfl, s1, hl, hpl, he⟩ ⟨T, y1, y2, rfl, nT, rfl, e1, e2⟩
      have e1 : V.int (i : Nat) = y1 := Option.some.inj e1
      subst e1
      obtain ⟨q, hq, rfl⟩ := refs_get e2
      rw [List.length_map] at hi
      have s2 := same_new (o := .tup [.int (i : Nat), .ref q.1]) nT
      have s3 := s1.trans s2
      refine ⟨T, _, rfl, t_of upd_same, rfl, _, _, rfl, _, _, rfl, rfl, ?_⟩
      -- ahead = headings[(k + 1) % len(headings)]
      have hmod : ((i : Nat) + 1 : Int) % ((refs as).length : Int) = (((i + 1) % as.length : Nat) : Int) := by
        rw [List.length_map]
        exact (Int.natCast_emod (i + 1) as.length).symm
      have hj : (i + 1) % as.length < as.length := Nat.mod_lt _ (by omega)
      obtain ⟨r, hr'⟩ : ∃ r, as[(i + 1) % as.length]? = some r := ⟨_, List.getElem?_eq_getElem hj⟩
      refine ⟨.ref a, rfl, _, rfl, _, _, rfl, rfl, .ref a, rfl, a, _, rfl, .inr (same_t s3 ha), _, _, rfl, rfl, by rw [List.length_map]; omega, a, refs as, _, .ref r.1, rfl, rfl, same_t s3 ha, ?_, ?_⟩
      · rw [hmod]
        exact atI_nat (refs_at hr')
      have hq' := same_t s3 (hp q (List.mem_of_getElem? hq))
      have hr2 := same_t s3 (hp r (List.mem_of_getElem? hr'))
      -- if ahead != heading
      have cq : (pts as).getD i zz = q.2 := getD_of (pts_at hq)
      have cr' : (pts as).getD ((i + 1) % (pts as).length) zz = r.2 := by
        rw [List.length_map]
        exact getD_of (pts_at hr')
      have es : edgeAt (pts as) i = if r.2 = q.2 then none else some (sb r.2 q.2) := by
        unfold edgeAt
        rw [cq, cr']
      refine ⟨_, rfl, _, rfl, pd r.2, pd q.2, dp_pair hr2, dp_pair hq', pd_shaped _, pd_shaped _, _, rfl, ?_⟩
      rw [pd_eqv]
      refine ite2 (fun h => ?_) (fun h => ?_)
      · have ne : r.2 ≠ q.2 := by simpa using h
        have hl2 := s2 _ _ hl
        refine ⟨.ref l, rfl, .inl ⟨rfl, _, l_of hl2⟩, _, rfl, _, _, _, _, rfl, rfl, hr2, rfl, _, rfl, _, _, _, _, rfl, rfl, hq', rfl, _, _, rfl, rfl, _, rfl, _, _, _, _, rfl, rfl, hr2, rfl, _, rfl, _, _, _, _, rfl, rfl, hq', rfl, _, _, rfl, rfl, (by show 2 ≤ sizeLine; decide), fun t nt => ?_⟩
        have s4 := same_new (o := .tup [.int (r.2.1 - q.2.1), .int (r.2.2 - q.2.2)]) nt
        have hl3 := s4 _ _ hl2
        have lf : fs.length ≤ i := by
          have := congrArg List.length he
          rw [List.length_map] at this
          rw [this]
          exact edgesTo_len _ _
        refine ⟨l, refs fs, .ref t, rfl, rfl, hl3, line_lt (by rw [List.length_map]; omega), ?_⟩
        refine ⟨fs ++ [(t, sb r.2 q.2)], _, _, _, rfl, same_mut (s3.trans s4) nl, ?_, ?_, ?_⟩
        · rw [upd_same, refs, refs, List.map_append] <;> rfl
        · refine pl_upd (pl_snoc (same_pl (s2.trans s4) hpl) ?_) hl3
          exact t_of upd_same
        · rw [edgesTo_succ, es, if_neg ne, pts, List.map_append]
          show pts fs ++ [sb r.2 q.2] = _
          rw [he] <;> rfl
      · have eq : r.2 = q.2 := by simpa using h
        refine ⟨fs, _, _, _, rfl, s3, s2 _ _ hl, same_pl s2 hpl, ?_⟩
        rw [edgesTo_succ, es, if_pos eq, he]
        simp
    · rintro σ H' ⟨fs, x2, x3, x4, rfl, s1, hl, hpl, he⟩
      refine ⟨.ref l, rfl, k H' l fs s1 nl hl hpl ?_⟩
      rw [he, List.length_map]
      unfold edgesOf
      rw [List.length_map]
theorem ok_half_of {f : Addr} {fd : FuncData} (F : Fun K "half_of" "half_of" s_half_of f fd) : FnOk P w K mg base CX0 1 f fd ["edge"] (spHalfOf K) := by
  refine F.ok sc_half_of (fun vs H Q E h => ?_) (fun cdv A outer s H vs Q E hr h => ?_)
  · obtain ⟨a, p, rfl, _⟩ := h
    rfl
  · obtain ⟨a, p, rfl, ha, k⟩ := h
    refine ⟨_, (pss_cons (ps_if (PW.pt (pw_or (pt_cmpR op_gt (pe_ix (ix_tupK K rfl) (pv 0) pe_int (fun _ _ => rfl)) pe_int (nomark _)) (pw_or1 (PW.pt (pw_and (pt_cmpR op_eq (pe_ix (ix_tupK K rfl) (pv 0) pe_int (fun _ _ => rfl)) pe_int (nomark _)) (pw_and1 (pt_cmpR op_gt (pe_ix (ix_tupK K rfl) (pv 0) pe_int (fun _ _ => rfl)) pe_int (nomark _)))))))) (pss_one (ps_ret pe_int)) pss_nil)
      (pss_one (ps_ret pe_int))), ?_⟩
    refine ⟨_, rfl, _, _, _, _, rfl, rfl, ha, rfl, _, _, rfl, rfl, _, rfl, ?_⟩
    have yes : h0 p = true → Q (.int 0) H := fun z => by rw [if_pos z] at k; exact k
    have no : ¬ h0 p = true → Q (.int 1) H := fun z => by rw [if_neg z] at k; exact k
    refine ite2 (fun h1 => ?_) (fun h1 => ?_)
    · refine iteT ?_
      exact yes (h0_iff.mpr (.inl (of_decide_eq_true h1)))
    · have h1 : ¬ 0 < p.1 := fun z => h1 (decide_eq_true z)
      refine ⟨_, rfl, _, _, _, _, rfl, rfl, ha, rfl, rfl, _, rfl, ?_⟩
      refine ite2 (fun h2 => ?_) (fun h2 => ?_)
      · have h2 := of_decide_eq_true h2
        injection h2 with h2
        refine ⟨_, rfl, _, _, _, _, rfl, rfl, ha, rfl, _, _, rfl, rfl, _, rfl, ?_⟩
        refine ite2 (fun h3 => ?_) (fun h3 => ?_)
        · exact yes (h0_iff.mpr (.inr ⟨h2, of_decide_eq_true h3⟩))
        · have h3 : ¬ 0 < p.2 := fun z => h3 (decide_eq_true z)
          exact no fun z => by rw [h0_iff] at z; omega
      · have h2 : ¬ p.1 = 0 := fun z => h2 (decide_eq_true (by rw [z]))
        refine iteF ?_
        exact no fun z => by rw [h0_iff] at z; omega
theorem ok_is_sooner {f : Addr} {fd : FuncData} (F : Fun K "is_sooner" "is_sooner" s_is_sooner f fd) (c_half_of : Cal P w K mg base 1 "half_of" ["edge"] (spHalfOf K)) (c_turn_of : Cal P w K mg base 1 "turn_of" ["one", "other"] (spTurn K)) :
    FnOk P w K mg base CX0 2 f fd ["one", "other"] (spSooner K) := by
  refine F.ok sc_is_sooner (fun vs H Q E h => ?_) (fun cdv A outer s H vs Q E hr h => ?_)
  · obtain ⟨a, b, p, q, rfl, _⟩ := h
    rfl
  · obtain ⟨a, b, p, q, rfl, ha, hb, sp, sq, k⟩ := h
    refine ⟨_, (pss_cons (ps_if (pt_cmpR op_ne (pe_own c_half_of (hr.mono (by decide)) (pa_cons (pv 0) pa_nil)) (pe_own c_half_of (hr.mono (by decide)) (pa_cons (pv 1) pa_nil)) (nomark _)) (pss_one (ps_ret (pe_cmpR op_lt (pe_own c_half_of (hr.mono (by decide)) (pa_cons (pv 0) pa_nil)) (pe_own c_half_of (hr.mono (by decide)) (pa_cons (pv 1) pa_nil)) (nomark _)))) pss_nil)
      (pss_one (ps_ret (pe_cmpR op_gt (pe_own c_turn_of (hr.mono (by decide)) (pa_cons (pv 0) (pa_cons (pv 1) pa_nil))) pe_int (nomark _))))), ?_⟩
    refine ⟨_, rfl, a, p, rfl, ha, _, rfl, b, q, rfl, hb, rfl, _, rfl, ?_⟩
    refine ite2 (fun h1 => ?_) (fun h1 => ?_)
    · have ne : h0 p ≠ h0 q := fun z => by
        rw [z] at h1
        simp at h1
      refine ⟨_, rfl, a, p, rfl, ha, _, rfl, b, q, rfl, hb, _, _, rfl, rfl, ?_⟩
      rw [soon_diff ne] at k
      cases hp : h0 p with
      | true =>
        cases hq : h0 q with
        | true => exact absurd (hp.trans hq.symm) ne
        | false => rw [hp] at k; exact k
      | false =>
        cases hq : h0 q with
        | true => rw [hp] at k; exact k
        | false => exact absurd (hp.trans hq.symm) ne
    · have eq : h0 p = h0 q := by
        cases hp : h0 p with
        | true =>
          cases hq : h0 q with
          | true => rfl
          | false => rw [hp, hq] at h1; exact absurd (by decide) h1
        | false =>
          cases hq : h0 q with
          | true => rw [hp, hq] at h1; exact absurd (by decide) h1
          | false => rfl
      refine ⟨_, rfl, _, rfl, a, b, p, q, rfl, ha, hb, sp, sq, _, _, rfl, rfl, ?_⟩
      unfold soon at k
      rw [if_pos eq] at k
      exact k
end
end CHr

set_option maxRecDepth 100000
set_option maxHeartbeats 8000000
namespace CHr
open PySem PySem.Spec PyProof.Rows L2 CH
abbrev s_edges_merged : Stmt := topS 9
abbrev N_edges_merged : List Str := ["ones", "others", "found", "one", "other", "first", "second"]
theorem sc_edges_merged : FnScope N_edges_merged ["ones", "others"] (defScope s_edges_merged) := ⟨rfl, rfl, rfl, by decide +kernel, rfl, by decide +kernel, by decide +kernel⟩
def spMerged (K : PySem.W.Frag) : Sp := fun vs H Q _ => ∃ (a b : Addr) (as bs : List Pt), vs = [.ref a, .ref b] ∧ SqL K H a (refs as) ∧ SqL K H b (refs bs) ∧ PL K H as ∧ PL K H bs ∧ (∀ q ∈ as, S q.2) ∧ (∀ q ∈ bs, S q.2) ∧ as.length ≤ 1000 ∧ bs.length ≤ 1000 ∧ RetL K H Q (mergeE (pts as) (pts bs))
theorem at_0 {q : Pt} {r : List Pt} : atI (refs (q :: r)) 0 = some (.ref q.1) := atI_nat (j := 0) rfl
theorem ne_lst {H : Hp} {a b : Addr} {xs : List V} (h : H a = some (.lst xs)) (n : H b = none) : a ≠ b := ne_of_none h n
theorem pop_0 {n : Nat} (h : 0 < n) : seqIndex? 0 n = some 0 := seqIndex?_zero h
section
variable {P : Program} {w : World} {K : PySem.W.Frag} {mg : Str → Option Value} {base : Heap}
theorem ok_edges_merged {f : Addr} {fd : FuncData} (F : Fun K "edges_merged" "edges_merged" s_edges_merged f fd) (B : Bl mg) (c_is_sooner : Cal P w K mg base 2 "is_sooner" ["one", "other"] (spSooner K)) :
    FnOk P w K mg base CX0 3 f fd ["ones", "others"] (spMerged K) := by
  refine F.ok sc_edges_merged (fun vs H Q E h => ?_) (fun cdv A outer s H vs Q E hr h => ?_)
  · obtain ⟨a, b, as, bs, rfl, _⟩ := h
    rfl
  · obtain ⟨a, b, as, bs, rfl, ha, hb, pa, pb, sa, sb', la, lb, k⟩ := h
    refine ⟨_, (pss_cons (ps_set (i := 2) sc_edges_merged.nd rfl (.inl rfl) (pe_lst pa_nil))
      (pss_cons (ps_set (i := 3) sc_edges_merged.nd rfl (.inl rfl) (pe_callTy call_list_of (by rfl) B.list_ b_list (pa_cons (pv 0) pa_nil)))
      (pss_cons (ps_set (i := 4) sc_edges_merged.nd rfl (.inl rfl) (pe_callTy call_list_of (by rfl) B.list_ b_list (pa_cons (pv 1) pa_nil)))
      (pss_cons (ps_while PassesOwn.never (PW.pt (pw_or (pt_cmpR op_gt (pe_callB call_len_seq (by rfl) B.len b_len (pa_cons (pv 3) pa_nil)) pe_int (nomark _)) (pw_or1 (pt_cmpR op_gt (pe_callB call_len_seq (by rfl) B.len b_len (pa_cons (pv 4) pa_nil)) pe_int (nomark _))))) (pss_one (ps_if (PW.pt (pw_or (pt_cmpR op_eq (pe_callB call_len_seq (by rfl) B.len b_len (pa_cons (pv 4) pa_nil)) pe_int (nomark _)) (pw_or1 (PW.pt (pw_and (pt_cmpR op_gt (pe_callB call_len_seq (by rfl) B.len b_len (pa_cons (pv 3) pa_nil)) pe_int (nomark _)) (pw_and1 (pt_val (pe_own c_is_sooner (hr.mono (by decide)) (pa_cons (pe_ix ix_list (pv 3) pe_int (fun _ _ => rfl)) (pa_cons (pe_ix ix_list (pv 4) pe_int (fun _ _ => rfl)) pa_nil)))))))))) (pss_one (ps_expr (pe_bm PySem.F.plainAttrs_list PySem.F.slot_list_append PySem.F.type_list_append mt_append (pv 2) (pa_cons (pe_bm PySem.F.plainAttrs_list PySem.F.slot_list_pop PySem.F.type_list_pop mt_popAt (pv 3) (pa_cons pe_int pa_nil)) pa_nil)))) (pss_one (ps_if (PW.pt (pw_or (pt_cmpR op_eq (pe_callB call_len_seq (by rfl) B.len b_len (pa_cons (pv 3) pa_nil)) pe_int (nomark _)) (pw_or1 (pt_val (pe_own c_is_sooner (hr.mono (by decide)) (pa_cons (pe_ix ix_list (pv 4) pe_int (fun _ _ => rfl)) (pa_cons (pe_ix ix_list (pv 3) pe_int (fun _ _ => rfl)) pa_nil))))))) (pss_one (ps_expr (pe_bm PySem.F.plainAttrs_list PySem.F.slot_list_append PySem.F.type_list_append mt_append (pv 2) (pa_cons (pe_bm PySem.F.plainAttrs_list PySem.F.slot_list_pop PySem.F.type_list_pop mt_popAt (pv 4) (pa_cons pe_int pa_nil)) pa_nil)))) (pss_cons (ps_set (i := 5) sc_edges_merged.nd rfl (.inl rfl) (pe_bm PySem.F.plainAttrs_list PySem.F.slot_list_pop PySem.F.type_list_pop mt_popAt (pv 3) (pa_cons pe_int pa_nil)))
      (pss_cons (ps_set (i := 6) sc_edges_merged.nd rfl (.inl rfl) (pe_bm PySem.F.plainAttrs_list PySem.F.slot_list_pop PySem.F.type_list_pop mt_popAt (pv 4) (pa_cons pe_int pa_nil)))
      (pss_one (ps_expr (pe_bm PySem.F.plainAttrs_list PySem.F.slot_list_append PySem.F.type_list_append mt_append (pv 2) (pa_cons (pe_tup (pa_cons (pe_op op_add (pe_ix (ix_tupK K rfl) (pv 5) pe_int (fun _ _ => rfl)) (pe_ix (ix_tupK K rfl) (pv 6) pe_int (fun _ _ => rfl))) (pa_cons (pe_op op_add (pe_ix (ix_tupK K rfl) (pv 5) pe_int (fun _ _ => rfl)) (pe_ix (ix_tupK K rfl) (pv 6) pe_int (fun _ _ => rfl))) pa_nil))) pa_nil)))))))))))
      (pss_one (ps_ret (pv 2))))))), ?_⟩
    refine ⟨Nat.zero_le _, fun l0 n0 => ?_⟩
    have s0 := same_new (o := .lst []) n0
    refine ⟨.ref a, rfl, a, _, rfl, .inl (s0.seq ha), fun l1 n1 => ?_⟩
    have s1 := same_new (o := .lst (refs as)) n1
    refine ⟨.ref b, rfl, b, _, rfl, .inl ((s0.trans s1).seq hb), fun l2 n2 => ?_⟩
    have s2 := same_new (o := .lst (refs bs)) n2
    have d01 : l0 ≠ l1 := ne_lst upd_same n1
    have d02 : l0 ≠ l2 := ne_lst (s1 _ _ upd_same) n2
    have d12 : l1 ≠ l2 := ne_lst upd_same n2
    have f1 : H l1 = none := s0.free n1
    have f2 : H l2 = none := (s0.trans s1).free n2
    refine ⟨fun m σ H' => ∃ (fs xs ys : List Pt) (y5 y6 : Option V), m = xs.length + ys.length ∧ σ = [some (.ref a), some (.ref b), some (.ref l0), some (.ref l1), some (.ref l2), y5, y6] ∧ Same H H' ∧ H' l0 = some (.lst (refs fs)) ∧ H' l1 = some (.lst (refs xs)) ∧ H' l2 = some (.lst (refs ys)) ∧
        PL K H' fs ∧ (∀ q ∈ xs, q ∈ as) ∧ (∀ q ∈ ys, q ∈ bs) ∧ fs.length + xs.length + ys.length ≤ 2000 ∧ pts fs ++ mergeE (pts xs) (pts ys) = mergeE (pts as) (pts bs),
      ⟨_, [], as, bs, none, none, rfl, rfl, (s0.trans s1).trans s2, s2 _ _ (s1 _ _ upd_same), s2 _ _ upd_same, upd_same, fun q h => (by cases h), fun q h => h, fun q h => h, by simp; omega, rfl⟩, fun m σ H' hW => ?_⟩
    obtain ⟨fs, xs, ys, y5, y6, rfl, rfl, s3, h0, h1, h2, pf, ix, iy, hz, hm⟩ := hW
    have pxs : ∀ q ∈ xs, SqT K H' q.1 (v2 q.2) := fun q hq => same_t s3 (pa q (ix q hq))
    have pys : ∀ q ∈ ys, SqT K H' q.1 (v2 q.2) := fun q hq => same_t s3 (pb q (iy q hq))
    have gt : ∀ (q : Pt) (r : List Pt), decide ((0 : Int) < (((refs (q :: r)).length : Nat) : Int)) = true := fun q r => decide_eq_true (by rw [List.length_map, List.length_cons]; omega)
    have ng0 : decide ((0 : Int) < (((refs ([] : List Pt)).length : Nat) : Int)) = false := rfl
    have eq0 : ∀ (q : Pt) (r : List Pt), decide (V.int (((refs (q :: r)).length : Nat) : Int) = V.int 0) = false := fun q r => decide_eq_false (fun z => by
      injection z with z
      rw [List.length_map, List.length_cons] at z
      omega)
    have eqn : decide (V.int (((refs ([] : List Pt)).length : Nat) : Int) = V.int 0) = true := rfl
    refine ⟨.ref l1, rfl, l1, _, rfl, .inl (l_of h1), _, _, rfl, rfl, _, rfl, ?_⟩
    -- one step: the first of one, of the other, of both
    match xs, ys, h1, h2, ix, iy, hz, hm, pxs, pys with
    | [], [], h1, h2, ix, iy, hz, hm, pxs, pys =>
      refine iteF ?_
      refine ⟨.ref l2, rfl, l2, _, rfl, .inl (l_of h2), _, _, rfl, rfl, _, rfl, ?_⟩
      refine iteF ?_
      refine ⟨.ref l0, rfl, k H' l0 fs s3 n0 h0 pf ?_⟩
      rw [← hm]
      show pts fs = pts fs ++ mergeE [] []
      rw [merge_nil, List.append_nil]
    | [], y :: ys, h1, h2, ix, iy, hz, hm, pxs, pys =>
      refine iteF ?_
      refine ⟨.ref l2, rfl, l2, _, rfl, .inl (l_of h2), _, _, rfl, rfl, _, rfl, ?_⟩
      rw [gt y ys]
      refine iteT ?_
      refine ⟨_, fun σ' H' n => n, ?_⟩
      -- len(other) == 0: no; len(one) > 0: no
      refine ⟨.ref l2, rfl, l2, _, rfl, .inl (l_of h2), rfl, _, rfl, ?_⟩
      rw [eq0 y ys]
      refine iteF ?_
      refine ⟨.ref l1, rfl, l1, _, rfl, .inl (l_of h1), _, _, rfl, rfl, _, rfl, ?_⟩
      refine iteF ?_
      refine iteF ?_
      -- elif len(one) == 0
      refine ⟨.ref l1, rfl, l1, _, rfl, .inl (l_of h1), rfl, _, rfl, ?_⟩
      refine iteT ?_
      refine iteT ?_
      refine ⟨.ref l0, rfl, .inl ⟨rfl, _, l_of h0⟩, .ref l2, rfl, .inl ⟨rfl, _, l_of h2⟩, l2, _, 0, 0, .ref y.1, rfl, rfl, h2, by decide, by decide, pop_0 (by simp), rfl, ?_⟩
      refine ⟨l0, refs fs, .ref y.1, rfl, rfl, by rw [upd_ne d02]; exact h0, line_lt (by rw [List.length_map]; omega), ?_⟩
      have e0 : (upd H' l2 (.lst ((refs (y :: ys)).eraseIdx 0))) l0 = some (.lst (refs fs)) := by rw [upd_ne d02]; exact h0
      refine ⟨_, by simp only [List.length_nil, List.length_cons, Nat.zero_add]; exact Nat.lt_succ_self _, fs ++ [y], [], ys, y5, y6, by simp, rfl, same_mut (same_mut s3 f2) n0, ?_, ?_, ?_, ?_, ix, fun q hq => iy q (List.mem_cons_of_mem _ hq), by simp only [List.length_append, List.length_cons, List.length_nil] at hz ⊢; omega, ?_⟩
      · rw [upd_same, refs, refs, List.map_append] <;> rfl
      · rw [upd_ne d01.symm, upd_ne d12]; exact h1
      · rw [upd_ne d02.symm, upd_same] <;> rfl
      · exact pl_upd (pl_upd (pl_snoc pf (pys y List.mem_cons_self)) h2) e0
      · rw [← hm, pts, List.map_append]
        show (pts fs ++ [y.2]) ++ mergeE [] (pts ys) = pts fs ++ mergeE [] (y.2 :: pts ys)
        rw [merge_nil, merge_nil, List.append_assoc] <;> rfl
    | x :: xs, [], h1, h2, ix, iy, hz, hm, pxs, pys =>
      rw [gt x xs]
      refine iteT ?_
      refine iteT ?_
      refine ⟨_, fun σ' H' n => n, ?_⟩
      refine ⟨.ref l2, rfl, l2, _, rfl, .inl (l_of h2), rfl, _, rfl, ?_⟩
      refine iteT ?_
      refine iteT ?_
      refine ⟨.ref l0, rfl, .inl ⟨rfl, _, l_of h0⟩, .ref l1, rfl, .inl ⟨rfl, _, l_of h1⟩, l1, _, 0, 0, .ref x.1, rfl, rfl, h1, by decide, by decide, pop_0 (by simp), rfl, ?_⟩
      have e0 : (upd H' l1 (.lst ((refs (x :: xs)).eraseIdx 0))) l0 = some (.lst (refs fs)) := by rw [upd_ne d01]; exact h0
      refine ⟨l0, refs fs, .ref x.1, rfl, rfl, e0, line_lt (by rw [List.length_map]; omega), ?_⟩
      refine ⟨_, by simp only [List.length_nil, List.length_cons]; exact Nat.lt_succ_self _, fs ++ [x], xs, [], y5, y6, by simp, rfl, same_mut (same_mut s3 f1) n0, ?_, ?_, ?_, ?_, fun q hq => ix q (List.mem_cons_of_mem _ hq), iy, by simp only [List.length_append, List.length_cons, List.length_nil] at hz ⊢; omega, ?_⟩
      · rw [upd_same, refs, refs, List.map_append] <;> rfl
      · rw [upd_ne d01.symm, upd_same] <;> rfl
      · rw [upd_ne d02.symm, upd_ne d12.symm]; exact h2
      · exact pl_upd (pl_upd (pl_snoc pf (pxs x List.mem_cons_self)) h1) e0
      · rw [← hm, pts, List.map_append]
        show (pts fs ++ [x.2]) ++ mergeE (pts xs) [] = pts fs ++ mergeE (x.2 :: pts xs) []
        rw [merge_nil_r, merge_nil_r, List.append_assoc] <;> rfl
    | x :: xs, y :: ys, h1, h2, ix, iy, hz, hm, pxs, pys =>
      rw [gt x xs]
      refine iteT ?_
      refine iteT ?_
      refine ⟨_, fun σ' H' n => n, ?_⟩
      have tx := pxs x List.mem_cons_self
      have ty := pys y List.mem_cons_self
      have sx : S x.2 := sa x (ix x List.mem_cons_self)
      have sy : S y.2 := sb' y (iy y List.mem_cons_self)
      refine ⟨.ref l2, rfl, l2, _, rfl, .inl (l_of h2), rfl, _, rfl, ?_⟩
      rw [eq0 y ys]
      refine iteF ?_
      refine ⟨.ref l1, rfl, l1, _, rfl, .inl (l_of h1), _, _, rfl, rfl, _, rfl, ?_⟩
      rw [gt x xs]
      refine iteT ?_
      refine ⟨.ref l1, rfl, l1, _, _, _, rfl, rfl, l_of h1, at_0, .ref l2, rfl, l2, _, _, _, rfl, rfl, l_of h2, at_0, x.1, y.1, x.2, y.2, rfl, tx, ty, sx, sy, _, rfl, ?_⟩
      have mc : mergeE (x.2 :: pts xs) (y.2 :: pts ys) = _ := merge_cc x.2 y.2 (pts xs) (pts ys)
      have hm' : pts fs ++ mergeE (x.2 :: pts xs) (y.2 :: pts ys) = mergeE (pts as) (pts bs) := hm
      refine ite2 (fun c1 => ?_) (fun c1 => ?_)
      · rw [mc, if_pos c1] at hm'
        refine ⟨.ref l0, rfl, .inl ⟨rfl, _, l_of h0⟩, .ref l1, rfl, .inl ⟨rfl, _, l_of h1⟩, l1, _, 0, 0, .ref x.1, rfl, rfl, h1, by decide, by decide, pop_0 (by simp), rfl, ?_⟩
        have e0 : (upd H' l1 (.lst ((refs (x :: xs)).eraseIdx 0))) l0 = some (.lst (refs fs)) := by rw [upd_ne d01]; exact h0
        refine ⟨l0, refs fs, .ref x.1, rfl, rfl, e0, line_lt (by rw [List.length_map]; omega), ?_⟩
        refine ⟨_, by simp only [List.length_cons]; omega, fs ++ [x], xs, y :: ys, y5, y6, rfl, rfl, same_mut (same_mut s3 f1) n0, ?_, ?_, ?_, ?_, fun q hq => ix q (List.mem_cons_of_mem _ hq), iy, by simp only [List.length_append, List.length_cons, List.length_nil] at hz ⊢; omega, ?_⟩
        · rw [upd_same, refs, refs, List.map_append] <;> rfl
        · rw [upd_ne d01.symm, upd_same] <;> rfl
        · rw [upd_ne d02.symm, upd_ne d12.symm]; exact h2
        · exact pl_upd (pl_upd (pl_snoc pf tx) h1) e0
        · rw [← hm', pts, List.map_append, List.append_assoc] <;> rfl
      · rw [mc, if_neg c1] at hm'
        refine ⟨.ref l1, rfl, l1, _, rfl, .inl (l_of h1), rfl, _, rfl, ?_⟩
        rw [eq0 x xs]
        refine iteF ?_
        refine ⟨.ref l2, rfl, l2, _, _, _, rfl, rfl, l_of h2, at_0, .ref l1, rfl, l1, _, _, _, rfl, rfl, l_of h1, at_0, y.1, x.1, y.2, x.2, rfl, ty, tx, sy, sx, _, rfl, ?_⟩
        refine ite2 (fun c2 => ?_) (fun c2 => ?_)
        · rw [if_pos c2] at hm'
          refine ⟨.ref l0, rfl, .inl ⟨rfl, _, l_of h0⟩, .ref l2, rfl, .inl ⟨rfl, _, l_of h2⟩, l2, _, 0, 0, .ref y.1, rfl, rfl, h2, by decide, by decide, pop_0 (by simp), rfl, ?_⟩
          have e0 : (upd H' l2 (.lst ((refs (y :: ys)).eraseIdx 0))) l0 = some (.lst (refs fs)) := by rw [upd_ne d02]; exact h0
          refine ⟨l0, refs fs, .ref y.1, rfl, rfl, e0, line_lt (by rw [List.length_map]; omega), ?_⟩
          refine ⟨_, by simp only [List.length_cons]; omega, fs ++ [y], x :: xs, ys, y5, y6, rfl, rfl, same_mut (same_mut s3 f2) n0, ?_, ?_, ?_, ?_, ix, fun q hq => iy q (List.mem_cons_of_mem _ hq), by simp only [List.length_append, List.length_cons, List.length_nil] at hz ⊢; omega, ?_⟩
          · rw [upd_same, refs, refs, List.map_append] <;> rfl
          · rw [upd_ne d01.symm, upd_ne d12]; exact h1
          · rw [upd_ne d02.symm, upd_same] <;> rfl
          · exact pl_upd (pl_upd (pl_snoc pf ty) h2) e0
          · rw [← hm', pts, List.map_append, List.append_assoc] <;> rfl
        · rw [if_neg c2] at hm'
          -- both
          refine ⟨.ref l1, rfl, .inl ⟨rfl, _, l_of h1⟩, l1, _, 0, 0, .ref x.1, rfl, rfl, h1, by decide, by decide, pop_0 (by simp), rfl, ?_⟩
          have k2 : (upd H' l1 (.lst ((refs (x :: xs)).eraseIdx 0))) l2 = some (.lst (refs (y :: ys))) := by rw [upd_ne d12.symm]; exact h2
          refine ⟨.ref l2, rfl, .inl ⟨rfl, _, l_of k2⟩, l2, _, 0, 0, .ref y.1, rfl, rfl, k2, by decide, by decide, pop_0 (by simp), rfl, ?_⟩
          have tx2 := t_upd (o := .lst ((refs (y :: ys)).eraseIdx 0)) (t_upd (o := .lst ((refs (x :: xs)).eraseIdx 0)) tx h1) k2
          have ty2 := t_upd (o := .lst ((refs (y :: ys)).eraseIdx 0)) (t_upd (o := .lst ((refs (x :: xs)).eraseIdx 0)) ty h1) k2
          have k0 : (upd (upd H' l1 (.lst ((refs (x :: xs)).eraseIdx 0))) l2 (.lst ((refs (y :: ys)).eraseIdx 0))) l0 = some (.lst (refs fs)) := by rw [upd_ne d02, upd_ne d01]; exact h0
          refine ⟨.ref l0, rfl, .inl ⟨rfl, _, l_of k0⟩, .ref x.1, rfl, _, _, _, _, rfl, rfl, tx2, rfl, .ref y.1, rfl, _, _, _, _, rfl, rfl, ty2, rfl, _, _, rfl, rfl, .ref x.1, rfl, _, _, _, _, rfl, rfl, tx2, rfl, .ref y.1, rfl, _, _, _, _, rfl, rfl, ty2, rfl, _, _, rfl, rfl, (by show 2 ≤ sizeLine; decide), fun t nt => ?_⟩
          have s5 := same_new (o := .tup [.int (x.2.1 + y.2.1), .int (x.2.2 + y.2.2)]) nt
          refine ⟨l0, refs fs, .ref t, rfl, rfl, s5 _ _ k0, line_lt (by rw [List.length_map]; omega), ?_⟩
          refine ⟨_, by simp only [List.length_cons]; omega, fs ++ [(t, ad x.2 y.2)], xs, ys, _, _, rfl, rfl, same_mut ((same_mut (same_mut s3 f1) f2).trans s5) n0, ?_, ?_, ?_, ?_, fun q hq => ix q (List.mem_cons_of_mem _ hq), fun q hq => iy q (List.mem_cons_of_mem _ hq), by simp only [List.length_append, List.length_cons, List.length_nil] at hz ⊢; omega, ?_⟩
          · rw [upd_same, refs, refs, List.map_append] <;> rfl
          · rw [upd_ne d01.symm]
            refine s5 _ _ ?_
            rw [upd_ne d12, upd_same] <;> rfl
          · rw [upd_ne d02.symm]
            refine s5 _ _ ?_
            rw [upd_same] <;> rfl
          · refine pl_upd (pl_snoc (same_pl s5 (pl_upd (pl_upd pf h1) k2)) ?_) (s5 _ _ k0)
            exact t_of upd_same
          · rw [← hm', pts, List.map_append, List.append_assoc] <;> rfl
end
end CHr

set_option maxRecDepth 100000
set_option maxHeartbeats 8000000
namespace CHr
open PySem PySem.Spec PyProof.Rows L2 CH
abbrev s_joined : Stmt := topS 10
abbrev N_joined : List Str := ["one", "other", "ones", "others", "edges", "found", "edge"]
theorem sc_joined : FnScope N_joined ["one", "other"] (defScope s_joined) := ⟨rfl, rfl, rfl, by decide +kernel, rfl, by decide +kernel, by decide +kernel⟩
abbrev s_joined_all : Stmt := topS 11
abbrev N_joined_all : List Str := ["winds", "found", "wind"]
theorem sc_joined_all : FnScope N_joined_all ["winds"] (defScope s_joined_all) := ⟨rfl, rfl, rfl, by decide +kernel, rfl, by decide +kernel, by decide +kernel⟩
def spJoined (K : PySem.W.Frag) : Sp := fun vs H Q _ => ∃ (a b : Addr) (as bs : List Pt), vs = [.ref a, .ref b] ∧ SqT K H a (refs as) ∧ SqT K H b (refs bs) ∧ PL K H as ∧ PL K H bs ∧ as ≠ [] ∧ bs ≠ [] ∧ as.length < 64 ∧ bs.length < 64 ∧ (∀ q ∈ as, Bd q.2) ∧ (∀ q ∈ bs, Bd q.2) ∧ RetT K H Q (join (pts as) (pts bs))
theorem pts_mem {as : List Pt} {p : P2} (h : p ∈ pts as) : ∃ q ∈ as, q.2 = p := by
  obtain ⟨q, hq, e⟩ := List.mem_map.mp h
  exact ⟨q, hq, e⟩
theorem pts_ne {as : List Pt} (h : as ≠ []) : pts as ≠ [] := by simpa using h
theorem edges_S {as : List Pt} (hne : as ≠ []) (hb : ∀ q ∈ as, Bd q.2) : ∀ e ∈ edgesOf (least (pts as)), S e := fun e he => by
  obtain ⟨x, y, hx, hy, rfl⟩ := edge_mem he
  obtain ⟨q, hq, e1⟩ := pts_mem (least_sub (pts_ne hne) x hx)
  obtain ⟨r, hr, e2⟩ := pts_mem (least_sub (pts_ne hne) y hy)
  rw [← e1, ← e2]
  exact sb_S (hb q hq) (hb r hr)
theorem len_of {as : List Pt} {L : List P2} (h : pts as = L) : as.length = L.length := by rw [← h]; simp
section
variable {P : Program} {w : World} {K : PySem.W.Frag} {mg : Str → Option Value} {base : Heap}
theorem ok_joined {f : Addr} {fd : FuncData} (F : Fun K "joined" "joined" s_joined f fd) (B : Bl mg) (c_least_headings : Cal P w K mg base 3 "least_headings" ["wind"] (spLeast K)) (c_edges_of : Cal P w K mg base 1 "edges_of" ["headings"] (spEdges K)) (c_edges_merged : Cal P w K mg base 3 "edges_merged" ["ones", "others"] (spMerged K)) :
    FnOk P w K mg base CX0 4 f fd ["one", "other"] (spJoined K) := by
  refine F.ok sc_joined (fun vs H Q E h => ?_) (fun cdv A outer s H vs Q E hr h => ?_)
  · obtain ⟨a, b, as, bs, rfl, _⟩ := h
    rfl
  · obtain ⟨a, b, as, bs, rfl, ha, hb, pa, pb, na, nb, la, lb, ba, bb, k⟩ := h
    refine ⟨_, (pss_cons (ps_set (i := 2) sc_joined.nd rfl (.inl rfl) (pe_own c_least_headings (hr.mono (by decide)) (pa_cons (pv 0) pa_nil)))
      (pss_cons (ps_set (i := 3) sc_joined.nd rfl (.inl rfl) (pe_own c_least_headings (hr.mono (by decide)) (pa_cons (pv 1) pa_nil)))
      (pss_cons (ps_set (i := 4) sc_joined.nd rfl (.inl rfl) (pe_own c_edges_merged (hr.mono (by decide)) (pa_cons (pe_own c_edges_of (hr.mono (by decide)) (pa_cons (pv 2) pa_nil)) (pa_cons (pe_own c_edges_of (hr.mono (by decide)) (pa_cons (pv 3) pa_nil)) pa_nil))))
      (pss_cons (ps_set (i := 5) sc_joined.nd rfl (.inl rfl) (pe_lst (pa_cons (pe_tup (pa_cons (pe_op op_add (pe_ix (ix_tupK K rfl) (pe_ix (ix_tupK K rfl) (pv 2) pe_int (fun _ _ => rfl)) pe_int (fun _ _ => rfl)) (pe_ix (ix_tupK K rfl) (pe_ix (ix_tupK K rfl) (pv 3) pe_int (fun _ _ => rfl)) pe_int (fun _ _ => rfl))) (pa_cons (pe_op op_add (pe_ix (ix_tupK K rfl) (pe_ix (ix_tupK K rfl) (pv 2) pe_int (fun _ _ => rfl)) pe_int (fun _ _ => rfl)) (pe_ix (ix_tupK K rfl) (pe_ix (ix_tupK K rfl) (pv 3) pe_int (fun _ _ => rfl)) pe_int (fun _ _ => rfl))) pa_nil))) pa_nil)))
      (pss_cons (ps_for PassesOwn.never rfl (pi_list (pe_slice sl_list (pv 4) po_none (po_some (pe_un un_neg pe_int)))) (pg_name (i := 6) sc_joined.nd rfl (.inl rfl)) (pss_one (ps_expr (pe_bm PySem.F.plainAttrs_list PySem.F.slot_list_append PySem.F.type_list_append mt_append (pv 5) (pa_cons (pe_tup (pa_cons (pe_op op_add (pe_ix (ix_tupK K rfl) (pe_ix ix_list (pv 5) (pe_un un_neg pe_int) (fun _ _ => rfl)) pe_int (fun _ _ => rfl)) (pe_ix (ix_tupK K rfl) (pv 6) pe_int (fun _ _ => rfl))) (pa_cons (pe_op op_add (pe_ix (ix_tupK K rfl) (pe_ix ix_list (pv 5) (pe_un un_neg pe_int) (fun _ _ => rfl)) pe_int (fun _ _ => rfl)) (pe_ix (ix_tupK K rfl) (pv 6) pe_int (fun _ _ => rfl))) pa_nil))) pa_nil)))))
      (pss_one (ps_ret (pe_callTy call_tuple_of (by rfl) B.tuple b_tuple (pa_cons (pv 5) pa_nil))))))))), ?_⟩
    refine ⟨.ref a, rfl, a, as, rfl, ha, pa, na, la, ba, fun H1 t1 cs s1 n1 h1 p1 e1 => ?_⟩
    refine ⟨.ref b, rfl, b, bs, rfl, same_t s1 hb, same_pl s1 pb, nb, lb, bb, fun H2 t2 ds s2 n2 h2 p2 e2 => ?_⟩
    have lc : cs.length < 64 := by rw [len_of e1]; exact Nat.lt_of_le_of_lt (least_len (pts_ne na)) (by simpa using la)
    have ld : ds.length < 64 := by rw [len_of e2]; exact Nat.lt_of_le_of_lt (least_len (pts_ne nb)) (by simpa using lb)
    refine ⟨.ref t1, rfl, t1, cs, rfl, t_of (s2 _ _ h1), same_pl s2 p1, by omega, fun H3 t3 es s3 n3 h3 p3 e3 => ?_⟩
    refine ⟨.ref t2, rfl, t2, ds, rfl, t_of (s3 _ _ h2), same_pl s3 p2, by omega, fun H4 t4 fs s4 n4 h4 p4 e4 => ?_⟩
    have le3 : es.length ≤ 64 := by
      rw [len_of e3, edgesOf]
      refine Nat.le_trans (edgesTo_len _ _) ?_
      rw [List.length_map]; omega
    have le4 : fs.length ≤ 64 := by
      rw [len_of e4, edgesOf]
      refine Nat.le_trans (edgesTo_len _ _) ?_
      rw [List.length_map]; omega
    refine ⟨t3, t4, es, fs, rfl, l_of (s4 _ _ h3), l_of h4, same_pl s4 p3, p4, fun q hq => ?_, fun q hq => ?_, by omega, by omega, fun H5 t5 gs s5 n5 h5 p5 e5 => ?_⟩
    · refine edges_S na ba q.2 ?_
      rw [← e1, ← e3]
      exact List.mem_map.mpr ⟨q, hq, rfl⟩
    · refine edges_S nb bb q.2 ?_
      rw [← e2, ← e4]
      exact List.mem_map.mpr ⟨q, hq, rfl⟩
    have lg : gs.length ≤ 128 := by
      rw [len_of e5]
      refine Nat.le_trans (merge_len _ _) ?_
      rw [List.length_map, List.length_map]; omega
    have h1' := s5 _ _ (s4 _ _ (s3 _ _ (s2 _ _ h1)))
    have h2' := s5 _ _ (s4 _ _ (s3 _ _ h2))
    have p1' := same_pl (((s2.trans s3).trans s4).trans s5) p1
    have p2' := same_pl ((s3.trans s4).trans s5) p2
    -- the first heads
    obtain ⟨c, cs', ec⟩ : ∃ c cs', cs = c :: cs' := List.exists_cons_of_ne_nil fun q => least_ne (pts_ne na) (by rw [← e1, q]; rfl)
    obtain ⟨d, ds', ed⟩ : ∃ d ds', ds = d :: ds' := List.exists_cons_of_ne_nil fun q => least_ne (pts_ne nb) (by rw [← e2, q]; rfl)
    have ic : atI (refs cs) 0 = some (.ref c.1) := by rw [ec]; exact at_0
    have id' : atI (refs ds) 0 = some (.ref d.1) := by rw [ed]; exact at_0
    have tc := p1' c (by rw [ec]; exact List.mem_cons_self)
    have td := p2' d (by rw [ed]; exact List.mem_cons_self)
    have hc : (least (pts as)).headD zz = c.2 := by rw [← e1, ec]; rfl
    have hd : (least (pts bs)).headD zz = d.2 := by rw [← e2, ed]; rfl
    refine ⟨_, rfl, t1, _, _, _, rfl, rfl, t_of h1', ic, _, _, _, _, rfl, rfl, tc, rfl, _, rfl, t2, _, _, _, rfl, rfl, t_of h2', id', _, _, _, _, rfl, rfl, td, rfl, _, _, rfl, rfl, _, rfl, t1, _, _, _, rfl, rfl, t_of h1', ic, _, _, _, _, rfl, rfl, tc, rfl, _, rfl, t2, _, _, _, rfl, rfl, t_of h2', id', _, _, _, _, rfl, rfl, td, rfl, _, _, rfl, rfl, (by show 2 ≤ sizeLine; decide), fun t6 n6 => ?_⟩
    have s6 := same_new (o := .tup [.int (c.2.1 + d.2.1), .int (c.2.2 + d.2.2)]) n6
    refine ⟨(by show 1 ≤ sizeLine; decide), fun l nl => ?_⟩
    have s7 := same_new (o := .lst [.ref t6]) nl
    have s15 : Same H H5 := (((s1.trans s2).trans s3).trans s4).trans s5
    have nl0 : H l = none := (s15.trans s6).free nl
    -- edges[:-1]
    refine ⟨_, rfl, _, rfl, _, rfl, t5, _, rfl, l_of (s7 _ _ (s6 _ _ h5)), fun t8 n8 => ?_⟩
    have s8 := same_new (o := .lst (cutV (refs gs) none (some (-1)))) n8
    have s58 := (s6.trans s7).trans s8
    have hcut : cutV (refs gs) none (some (-1)) = refs gs.dropLast := by rw [cut_last, refs, refs, List.map_dropLast]
    have h8 : (upd (upd (upd H5 t6 (.tup [.int (c.2.1 + d.2.1), .int (c.2.2 + d.2.2)])) l (.lst [.ref t6])) t8 (.lst (cutV (refs gs) none (some (-1))))) t8 = some (.lst (refs gs.dropLast)) := by rw [upd_same, hcut]
    have hl8 : (upd (upd (upd H5 t6 (.tup [.int (c.2.1 + d.2.1), .int (c.2.2 + d.2.2)])) l (.lst [.ref t6])) t8 (.lst (cutV (refs gs) none (some (-1))))) l = some (.lst (refs [(t6, ad c.2 d.2)])) := by
      rw [upd_ne (ne_lst upd_same n8), upd_same] <;> rfl
    have d8 : t8 ≠ l := (ne_lst upd_same n8).symm
    have f8 : H t8 = none := ((s15.trans s6).trans s7).free n8
    have t6n : H t6 = none := s15.free n6
    refine ⟨t8, rfl, ⟨_, l_of h8⟩, for_list (K := K) (a := t8) (xs := refs gs.dropLast) (fun i σ H' => ∃ (xs : List Pt) (v : Option V), σ = [some (.ref a), some (.ref b), some (.ref t1), some (.ref t2), some (.ref t5), some (.ref l), v] ∧ Same H5 H' ∧ Same H H' ∧ H' t8 = some (.lst (refs gs.dropLast)) ∧ H' l = some (.lst (refs xs)) ∧ PL K H' xs ∧
        pts xs = vs (ad c.2 d.2) ((pts gs.dropLast).take i)) ⟨[(t6, ad c.2 d.2)], none, rfl, s58, s15.trans s58, h8, hl8, ?_, ?_⟩ (fun i σ H' _ h => by obtain ⟨_, _, _, _, _, h8, _⟩ := h; exact l_of h8) ?_ ?_⟩
    · intro q hq
      rw [List.mem_singleton.mp hq]
      refine same_t (s7.trans s8) (t_of ?_)
      exact upd_same
    · rw [List.take_zero] <;> rfl
    · rintro i x σ H' hi ⟨xs, v, rfl, r1, r2, r8, rl, rp, re⟩
      obtain ⟨q, hq, rfl⟩ := refs_get hi
      have hqm : q ∈ gs := List.dropLast_subset _ (List.mem_of_getElem? hq)
      have tq := same_t r1 (p5 q hqm)
      -- the last one
      have xne : xs ≠ [] := fun z => by
        rw [z] at re
        have := congrArg List.length re
        rw [vs_len] at this
        cases this
      obtain ⟨ys, y, ey⟩ : ∃ ys y, xs = ys ++ [y] := ⟨xs.dropLast, xs.getLast xne, (List.dropLast_concat_getLast xne).symm⟩
      have ylast : y.2 = ad (ad c.2 d.2) (sumP ((pts gs.dropLast).take i)) := by
        have g := vs_get (ad c.2 d.2) ((pts gs.dropLast).take i) _ (Nat.le_refl _)
        rw [List.take_length, ← re, ey, pts, List.map_append] at g
        have hl2 : ((pts gs.dropLast).take i).length = (ys.map fun q : Pt => q.2).length := by
          have := congrArg List.length re
          rw [vs_len, ey] at this
          simp at this ⊢
          omega
        rw [hl2, List.getElem?_append_right (Nat.le_refl _), Nat.sub_self] at g
        exact Option.some.inj g
      have ty := rp y (by rw [ey]; simp)
      have iy : atI (refs xs) (-1) = some (.ref y.1) := by rw [ey, refs, List.map_append]; exact atI_last _ _
      refine ⟨.ref l, rfl, .inl ⟨rfl, _, l_of rl⟩, _, rfl, _, rfl, l, _, _, _, rfl, rfl, l_of rl, iy, _, _, _, _, rfl, rfl, ty, rfl, _, rfl, _, _, _, _, rfl, rfl, tq, rfl, _, _, rfl, rfl, _, rfl, _, rfl, l, _, _, _, rfl, rfl, l_of rl, iy, _, _, _, _, rfl, rfl, ty, rfl, _, rfl, _, _, _, _, rfl, rfl, tq, rfl, _, _, rfl, rfl, (by show 2 ≤ sizeLine; decide), fun t nt => ?_⟩
      have st := same_new (o := .tup [.int (y.2.1 + q.2.1), .int (y.2.2 + q.2.2)]) nt
      have lx : xs.length ≤ 129 := by
        rw [len_of re, vs_len, List.length_take, List.length_map, List.length_dropLast]
        omega
      refine ⟨l, refs xs, .ref t, rfl, rfl, st _ _ rl, line_lt (by rw [List.length_map]; omega), ?_⟩
      refine ⟨xs ++ [(t, ad y.2 q.2)], _, rfl, same_mut (r1.trans st) (s6.free nl), same_mut (r2.trans st) nl0, ?_, ?_, ?_, ?_⟩
      · rw [upd_ne d8]; exact st _ _ r8
      · rw [upd_same, refs, refs, List.map_append] <;> rfl
      · refine pl_upd (pl_snoc (same_pl st rp) ?_) (st _ _ rl)
        exact t_of upd_same
      · rw [List.take_succ, pts_at hq, pts, List.map_append]
        show pts xs ++ [ad y.2 q.2] = vs (ad c.2 d.2) ((pts gs.dropLast).take i ++ [q.2])
        rw [vs_snoc, re, ylast]
    · rintro σ H' ⟨xs, v, rfl, r1, r2, r8, rl, rp, re⟩
      refine ⟨.ref l, rfl, l, _, rfl, .inl ⟨l_of rl, fun t nt => ?_⟩⟩
      refine k _ t xs (r2.trans (same_new nt)) (r2.free nt) upd_same (same_pl (same_new nt) rp) ?_
      rw [re, List.length_map, show gs.dropLast.length = (pts gs.dropLast).length by rw [List.length_map], List.take_length]
      unfold join
      rw [hc, hd, ← e1, ← e2, ← e3, ← e4, ← e5, pts, List.map_dropLast]
/-- winds as they stand -/
abbrev Wd := Addr × List Pt
def spJoinAll (K : PySem.W.Frag) : Sp := fun vs H Q _ => ∃ (a : Addr) (ws : List Wd), vs = [.ref a] ∧ SqT K H a (ws.map fun u => V.ref u.1) ∧ (∀ u ∈ ws, SqT K H u.1 (refs u.2) ∧ PL K H u.2 ∧ u.2 ≠ [] ∧ u.2.length < 64 ∧ ∀ p ∈ pts u.2, In (2 ^ 139) p) ∧
  (ws.map fun u => u.2.length).sum < 64 ∧ ws.length ≤ 12 ∧ RetT K H Q (joinAll (ws.map fun u => pts u.2))
theorem in_Bd {n : Nat} (hn : n ≤ 13) {p : P2} (h : In (n * 2 ^ 139) p) : Bd p := by
  have e : (13 : Nat) * 2 ^ 139 < 2 ^ 149 := by decide
  have e2 : n * 2 ^ 139 ≤ 13 * 2 ^ 139 := Nat.mul_le_mul_right _ hn
  exact ⟨Nat.lt_of_le_of_lt h.1 (Nat.lt_of_le_of_lt e2 e), Nat.lt_of_le_of_lt h.2 (Nat.lt_of_le_of_lt e2 e)⟩
theorem take_sum_le : ∀ (l : List Nat) (i : Nat), (l.take i).sum ≤ l.sum
  | [], i => by rw [List.take_nil]; exact Nat.le_refl _
  | x :: l, 0 => Nat.zero_le _
  | x :: l, i + 1 => by
    show (x :: l.take i).sum ≤ (x :: l).sum
    rw [List.sum_cons, List.sum_cons]
    exact Nat.add_le_add_left (take_sum_le l i) x
theorem ok_joined_all {f : Addr} {fd : FuncData} (F : Fun K "joined_all" "joined_all" s_joined_all f fd) (c_joined : Cal P w K mg base 4 "joined" ["one", "other"] (spJoined K)) :
    FnOk P w K mg base CX0 5 f fd ["winds"] (spJoinAll K) := by
  refine F.ok sc_joined_all (fun vs H Q E h => ?_) (fun cdv A outer s H vs Q E hr h => ?_)
  · obtain ⟨a, ws, rfl, _⟩ := h
    rfl
  · obtain ⟨a, ws, rfl, ha, hw, hsum, hlen, k⟩ := h
    refine ⟨_, (pss_cons (ps_set (i := 1) sc_joined_all.nd rfl (.inl rfl) (pe_tup (pa_cons (pe_tup (pa_cons pe_int (pa_cons pe_int pa_nil))) pa_nil)))
      (pss_cons (ps_for PassesOwn.never rfl (pi_tup (pv 0)) (pg_name (i := 2) sc_joined_all.nd rfl (.inl rfl)) (pss_one (ps_set (i := 1) sc_joined_all.nd rfl (.inl rfl) (pe_own c_joined (hr.mono (by decide)) (pa_cons (pv 1) (pa_cons (pv 2) pa_nil))))))
      (pss_one (ps_ret (pv 1))))), ?_⟩
    refine ⟨(by show 2 ≤ sizeLine; decide), fun t0 n0 => ⟨(by show 1 ≤ sizeLine; decide), fun t1 n1 => ?_⟩⟩
    have s0 := same_new (o := .tup [.int 0, .int 0]) n0
    have s1 := same_new (o := .tup [.ref t0]) n1
    have nb : ∀ i, ∀ W ∈ (ws.map fun u => pts u.2).take i, W ≠ [] ∧ ∀ x ∈ W, In (2 ^ 139) x := fun i W hW => by
      obtain ⟨u, hu, rfl⟩ := List.mem_map.mp (List.mem_of_mem_take hW)
      obtain ⟨_, _, h3, _, h5⟩ := hw u hu
      exact ⟨pts_ne h3, h5⟩
    refine ⟨.ref a, rfl, a, rfl, ⟨_, same_t (s0.trans s1) ha⟩, for_tup (K := K) (a := a) (xs := ws.map fun u => V.ref u.1) (fun i σ H' => ∃ (t : Addr) (bs : List Pt) (v : Option V), σ = [some (.ref a), some (.ref t), v] ∧ Same H H' ∧ H t = none ∧ H' t = some (.tup (refs bs)) ∧ PL K H' bs ∧ pts bs = joinAll ((ws.map fun u => pts u.2).take i))
      ⟨t1, [(t0, zz)], none, rfl, s0.trans s1, s0.free n1, upd_same, fun q hq => ?_, ?_⟩ (fun i σ H' _ h => by obtain ⟨_, _, _, _, s, _⟩ := h; exact same_t s ha) ?_ ?_⟩
    · rw [List.mem_singleton.mp hq]
      exact same_t s1 (t_of upd_same)
    · rw [List.take_zero] <;> rfl
    · rintro i x σ H' hi ⟨t, bs, v, rfl, r1, rn, rt, rp, re⟩
      rw [List.getElem?_map] at hi
      obtain ⟨u, hu, rfl⟩ := Option.map_eq_some_iff.mp hi
      have hum : u ∈ ws := List.mem_of_getElem? hu
      obtain ⟨w1, w2, w3, w4, w5⟩ := hw u hum
      have hi12 : i < ws.length := (List.getElem?_eq_some_iff.mp hu).1
      obtain ⟨b1, b2⟩ := joinAll_bd (M := 2 ^ 139) _ (nb i)
      have lt : ((ws.map fun u => pts u.2).take i).length = i := by rw [List.length_take, List.length_map]; omega
      rw [lt] at b2
      have cn := (joinAll_ok ((ws.map fun u => pts u.2).take i) fun W hW => (nb i W hW).1).2
      have lb : bs.length < 64 := by
        rw [len_of re]
        have h1 := len_cnt (joinAll ((ws.map fun u => pts u.2).take i))
        have h2 : (((ws.map fun u => pts u.2).take i).map CH.cnt).sum ≤ (ws.map fun u => u.2.length).sum := by
          rw [List.map_take]
          refine Nat.le_trans (take_sum_le _ _) ?_
          rw [List.map_map]
          refine sum_le_sum fun u _ => ?_
          refine Nat.le_trans (cnt_le _) ?_
          rw [List.length_map]
          exact Nat.le_refl _
        omega
      refine ⟨.ref t, rfl, .ref u.1, rfl, t, u.1, bs, u.2, rfl, t_of rt, same_t r1 w1, rp, same_pl r1 w2, fun z => b1 (by rw [← re, z]; rfl), w3, lb, w4, fun q hq => ?_, fun q hq => ?_, fun H2 t2 cs s2 n2 h2 p2 e2 => ?_⟩
      · refine in_Bd (n := i) (by omega) (b2 _ ?_)
        rw [← re]
        exact List.mem_map.mpr ⟨q, hq, rfl⟩
      · refine in_Bd (n := 1) (by decide) ?_
        rw [Nat.one_mul]
        exact w5 _ (List.mem_map.mpr ⟨q, hq, rfl⟩)
      · refine ⟨t2, cs, _, rfl, r1.trans s2, r1.free n2, h2, p2, ?_⟩
        rw [List.take_succ, List.getElem?_map, hu]
        show pts cs = joinAll ((ws.map fun u => pts u.2).take i ++ [pts u.2])
        rw [joinAll_snoc, e2, re]
    · rintro σ H' ⟨t, bs, v, rfl, r1, rn, rt, rp, re⟩
      refine ⟨.ref t, rfl, k H' t bs r1 rn rt rp ?_⟩
      rw [re, List.length_map, show ws.length = (ws.map fun u => pts u.2).length by rw [List.length_map], List.take_length]
end
end CHr

set_option maxRecDepth 100000
set_option maxHeartbeats 8000000
namespace CHr
open PySem PySem.Spec PyProof.Rows L2 CH
abbrev s_drift_of : Stmt := topS 12
abbrev N_drift_of : List Str := ["watch", "wind", "stream", "east", "north"]
theorem sc_drift_of : FnScope N_drift_of ["watch"] (defScope s_drift_of) := ⟨rfl, rfl, rfl, by decide +kernel, rfl, by decide +kernel, by decide +kernel⟩
abbrev s_reach_of : Stmt := topS 14
abbrev N_reach_of : List Str := ["watches", "watch"]
theorem sc_reach_of : FnScope N_reach_of ["watches"] (defScope s_reach_of) := ⟨rfl, rfl, rfl, by decide +kernel, rfl, by decide +kernel, by decide +kernel⟩
/-- a watch as it stands -/
def WatchAt (K : PySem.W.Frag) (H : Hp) (a : Addr) (u : Wt) : Prop := ∃ (wa sa : Addr) (as : List Pt), SqT K H a [.ref wa, .ref sa] ∧ SqT K H wa (refs as) ∧ PL K H as ∧ pts as = u.1 ∧ SqT K H sa (v2 u.2)
theorem same_w {K : PySem.W.Frag} {H H' : Hp} {a : Addr} {u : Wt} (e : Same H H') (h : WatchAt K H a u) : WatchAt K H' a u := by
  obtain ⟨wa, sa, as, h1, h2, h3, h4, h5⟩ := h
  exact ⟨wa, sa, as, same_t e h1, same_t e h2, same_pl e h3, h4, same_t e h5⟩
/-- a watch that is not too great -/
structure Good (u : Wt) : Prop where
  ne : u.1 ≠ []
  len : u.1.length ≤ 12
  hd : ∀ p ∈ u.1, In (2 ^ 138) p
  st : In (2 ^ 138) u.2
theorem Good.shift {u : Wt} (g : Good u) : ∀ p ∈ shifted u, In (2 ^ 139) p := fun p hp => by
  obtain ⟨h, hh, rfl⟩ := List.mem_map.mp hp
  have e : (2 : Nat) ^ 139 = 2 ^ 138 + 2 ^ 138 := by decide
  rw [e]
  exact in_ad (g.hd h hh) g.st
def spDrift (K : PySem.W.Frag) : Sp := fun vs H Q _ => ∃ (a : Addr) (u : Wt), vs = [.ref a] ∧ WatchAt K H a u ∧ Good u ∧ RetT K H Q (drift u)
abbrev Wa := Addr × Wt
def spReach (K : PySem.W.Frag) : Sp := fun vs H Q _ => ∃ (a : Addr) (ws : List Wa), vs = [.ref a] ∧ SqT K H a (ws.map fun u => V.ref u.1) ∧ (∀ u ∈ ws, WatchAt K H u.1 u.2 ∧ Good u.2) ∧ (ws.map fun u => u.2.1.length).sum < 64 ∧ ws.length ≤ 12 ∧ RetT K H Q (reach (ws.map (·.2)))
section
variable {P : Program} {w : World} {K : PySem.W.Frag} {mg : Str → Option Value} {base : Heap}
theorem ok_drift_of {f : Addr} {fd : FuncData} (F : Fun K "drift_of" "drift_of" s_drift_of f fd) (B : Bl mg) (c_least_headings : Cal P w K mg base 3 "least_headings" ["wind"] (spLeast K)) : FnOk P w K mg base CX0 4 f fd ["watch"] (spDrift K) := by
  refine F.ok sc_drift_of (fun vs H Q E h => ?_) (fun cdv A outer s H vs Q E hr h => ?_)
  · obtain ⟨a, u, rfl, _⟩ := h
    rfl
  · obtain ⟨a, u, rfl, ⟨wa, sa, as, h1, h2, h3, h4, h5⟩, g, k⟩ := h
    refine ⟨_, (pss_cons (ps_asg (pv 0) (pg_tupK K 2 rfl rfl (pgs_cons (pg_name (i := 1) sc_drift_of.nd rfl (.inl rfl)) (pgs_cons (pg_name (i := 2) sc_drift_of.nd rfl (.inr rfl)) pgs_nil))))
      (pss_one (ps_ret (pe_own c_least_headings (hr.mono (by decide)) (pa_cons (pe_callTy call_tuple_of (by rfl) B.tuple b_tuple (pa_cons (pe_lc (own := [("east", 3), ("north", 4)]) rfl sc_drift_of.nd (pi_tup (pv 1)) (blkOk_by (own := [("east", 3), ("north", 4)]) (N := N_drift_of) (sc := defScope s_drift_of) (by decide +kernel)) (fun _ _ _ _ _ => (pg_tupK K 2 rfl rfl (pgs_cons (pg_name (i := 3) sc_drift_of.nd rfl (.inl rfl)) (pgs_cons (pg_name (i := 4) sc_drift_of.nd rfl (.inl rfl)) pgs_nil)))) (fun _ _ _ _ _ => pts_nil) (fun _ _ _ _ _ => (pe_tup (pa_cons (pe_op op_add (pv 3) (pe_ix (ix_tupK K rfl) (pv 2) pe_int (fun _ _ => rfl))) (pa_cons (pe_op op_add (pv 4) (pe_ix (ix_tupK K rfl) (pv 2) pe_int (fun _ _ => rfl))) pa_nil))))) pa_nil)) pa_nil))))), ?_⟩
    refine ⟨_, rfl, a, _, rfl, h1, rfl, _, _, rfl, _, _, rfl, rfl, ?_⟩
    have la : as.length ≤ 12 := by rw [len_of h4]; exact g.len
    refine ⟨.ref wa, rfl, wa, rfl, ⟨_, h2⟩, fun D nD => lc_tup (K := K) (a := wa) (xs := refs as) (fun i H' => ∃ bs : List Pt, Same H H' ∧ H' D = some (.lst (refs bs)) ∧ PL K H' bs ∧ pts bs = ((pts as).take i).map (fun p => ad p u.2)) ⟨[], same_new nD, upd_same, fun q h => (by cases h), rfl⟩
      (fun i H' _ h => by obtain ⟨_, s1, _⟩ := h; exact same_t s1 h2) ?_ ?_⟩
    · rintro i x H' hi ⟨bs, s1, hD, pb, eb⟩
      obtain ⟨q, hq, rfl⟩ := refs_get hi
      have tq := same_t s1 (h3 q (List.mem_of_getElem? hq))
      have ts := same_t s1 h5
      refine ⟨q.1, v2 q.2, rfl, tq, rfl, _, _, rfl, _, _, rfl, rfl, rfl, ?_⟩
      refine ⟨_, rfl, _, rfl, sa, _, _, _, rfl, rfl, ts, rfl, _, _, rfl, rfl, _, rfl, _, rfl, sa, _, _, _, rfl, rfl, ts, rfl, _, _, rfl, rfl, (by show 2 ≤ sizeLine; decide), fun t nt => ?_⟩
      have st := same_new (o := .tup [.int (q.2.1 + u.2.1), .int (q.2.2 + u.2.2)]) nt
      have lb : bs.length ≤ 12 := by
        rw [len_of eb, List.length_map, List.length_take, List.length_map]
        omega
      refine ⟨refs bs, st _ _ hD, line_lt (by rw [List.length_map]; omega), bs ++ [(t, ad q.2 u.2)], same_mut (s1.trans st) nD, ?_, ?_, ?_⟩
      · rw [upd_same, refs, refs, List.map_append] <;> rfl
      · refine pl_upd (pl_snoc (same_pl st pb) ?_) (st _ _ hD)
        exact t_of upd_same
      · rw [List.take_succ, pts_at hq, pts, List.map_append, List.map_append]
        show pts bs ++ [ad q.2 u.2] = _ ++ [ad q.2 u.2]
        rw [eb]
    · rintro H' ⟨bs, s1, hD, pb, eb⟩
      rw [List.length_map, show as.length = (pts as).length by rw [List.length_map], List.take_length] at eb
      have eb2 : pts bs = shifted u := by rw [eb, h4]; rfl
      refine ⟨D, _, rfl, .inl ⟨l_of hD, fun t nt => ?_⟩⟩
      have st := same_new (o := .tup (refs bs)) nt
      have lb : bs.length ≤ 12 := by rw [len_of eb2, shifted, List.length_map]; exact g.len
      refine ⟨t, bs, rfl, t_of upd_same, same_pl st pb, fun z => g.ne ?_, by omega, fun q hq => ?_, fun H2 t2 cs s2 n2 g2 p2 e2 => ?_⟩
      · rw [z] at eb2
        exact List.map_eq_nil_iff.mp eb2.symm
      · refine in_Bd (n := 1) (by decide) ?_
        rw [Nat.one_mul]
        refine g.shift _ ?_
        rw [← eb2]
        exact List.mem_map.mpr ⟨q, hq, rfl⟩
      · refine k H2 t2 cs ((s1.trans st).trans s2) ((s1.trans st).free n2) g2 p2 ?_
        rw [e2, eb2] <;> rfl
theorem ok_reach_of {f : Addr} {fd : FuncData} (F : Fun K "reach_of" "reach_of" s_reach_of f fd) (B : Bl mg) (c_drift_of : Cal P w K mg base 4 "drift_of" ["watch"] (spDrift K)) (c_joined_all : Cal P w K mg base 5 "joined_all" ["winds"] (spJoinAll K)) :
    FnOk P w K mg base CX0 6 f fd ["watches"] (spReach K) := by
  refine F.ok sc_reach_of (fun vs H Q E h => ?_) (fun cdv A outer s H vs Q E hr h => ?_)
  · obtain ⟨a, ws, rfl, _⟩ := h
    rfl
  · obtain ⟨a, ws, rfl, ha, hw, hs, hl, k⟩ := h
    refine ⟨_, (pss_one (ps_ret (pe_own c_joined_all (hr.mono (by decide)) (pa_cons (pe_callTy call_tuple_of (by rfl) B.tuple b_tuple (pa_cons (pe_lc (own := [("watch", 1)]) rfl sc_reach_of.nd (pi_tup (pv 0)) (blkOk_by (own := [("watch", 1)]) (N := N_reach_of) (sc := defScope s_reach_of) (by decide +kernel)) (fun _ _ _ _ _ => (pg_name (i := 1) sc_reach_of.nd rfl (.inl rfl))) (fun _ _ _ _ _ => pts_nil) (fun _ _ _ _ _ => (pe_own c_drift_of (hr.mono (by decide)) (pa_cons (pv 1) pa_nil)))) pa_nil)) pa_nil)))), ?_⟩
    refine ⟨.ref a, rfl, a, rfl, ⟨_, ha⟩, fun D nD => lc_tup (K := K) (a := a) (xs := ws.map fun u => V.ref u.1) (fun i H' => ∃ ds : List Wd, Same H H' ∧ H' D = some (.lst (ds.map fun u => V.ref u.1)) ∧ (∀ u ∈ ds, SqT K H' u.1 (refs u.2) ∧ PL K H' u.2) ∧ (ds.map fun u => pts u.2) = ((ws.map (·.2)).take i).map drift) ⟨[], same_new nD, upd_same, fun q h => (by cases h), rfl⟩
      (fun i H' _ h => by obtain ⟨_, s1, _⟩ := h; exact same_t s1 ha) ?_ ?_⟩
    · rintro i x H' hi ⟨ds, s1, hD, pd, ed⟩
      rw [List.getElem?_map] at hi
      obtain ⟨u, hu, rfl⟩ := Option.map_eq_some_iff.mp hi
      obtain ⟨w1, w2⟩ := hw u (List.mem_of_getElem? hu)
      refine ⟨rfl, ?_⟩
      refine ⟨_, rfl, u.1, u.2, rfl, same_w s1 w1, w2, fun H2 t bs s2 n2 h2 p2 e2 => ?_⟩
      have ld : ds.length ≤ 12 := by
        have := congrArg List.length ed
        rw [List.length_map, List.length_map, List.length_take, List.length_map] at this
        omega
      refine ⟨_, s2 _ _ hD, line_lt (by rw [List.length_map]; omega), ds ++ [(t, bs)], same_mut (s1.trans s2) nD, ?_, fun v hv => ?_, ?_⟩
      · rw [upd_same, List.map_append] <;> rfl
      · rcases List.mem_append.mp hv with z | z
        · obtain ⟨d1, d2⟩ := pd v z
          exact ⟨t_upd (same_t s2 d1) (s2 _ _ hD), pl_upd (same_pl s2 d2) (s2 _ _ hD)⟩
        · rw [List.mem_singleton.mp z]
          exact ⟨t_upd (t_of h2) (s2 _ _ hD), pl_upd p2 (s2 _ _ hD)⟩
      · rw [List.take_succ, List.getElem?_map, hu, List.map_append, List.map_append, ed]
        show _ ++ [pts bs] = _ ++ [drift u.2]
        rw [e2]
    · rintro H' ⟨ds, s1, hD, pd, ed⟩
      rw [List.length_map, show ws.length = (ws.map (·.2)).length by rw [List.length_map], List.take_length] at ed
      refine ⟨D, _, rfl, .inl ⟨l_of hD, fun t nt => ?_⟩⟩
      have st := same_new (o := .tup (ds.map fun u => V.ref u.1)) nt
      have each : ∀ v ∈ ds, ∃ u ∈ ws, pts v.2 = drift u.2 := fun v hv => by
        have : pts v.2 ∈ (ws.map (·.2)).map drift := by rw [← ed]; exact List.mem_map.mpr ⟨v, hv, rfl⟩
        obtain ⟨y, hy, e⟩ := List.mem_map.mp this
        obtain ⟨u, hu, e2⟩ := List.mem_map.mp hy
        exact ⟨u, hu, by rw [← e, ← e2]⟩
      have dl : ds.length = ws.length := by
        have := congrArg List.length ed
        rw [List.length_map, List.length_map, List.length_map] at this
        exact this
      have sums : (ds.map fun u => u.2.length).sum ≤ (ws.map fun u => u.2.1.length).sum := by
        have e1 : (ds.map fun u => u.2.length) = (ws.map (·.2)).map (fun u => (drift u).length) := by
          have := congrArg (List.map List.length) ed
          rw [List.map_map, List.map_map] at this
          rw [show (ds.map fun u => u.2.length) = ds.map (List.length ∘ fun u => pts u.2) from List.map_congr_left fun u _ => (by simp)]
          exact this
        rw [e1, List.map_map]
        exact sum_le_sum fun u hu => drift_len (hw u hu).2.ne
      refine ⟨t, ds, rfl, t_of upd_same, fun v hv => ?_, Nat.lt_of_le_of_lt sums hs, by omega, fun H2 t2 cs s2 n2 g2 p2 e2 => ?_⟩
      · obtain ⟨d1, d2⟩ := pd v hv
        obtain ⟨u, hu, e⟩ := each v hv
        have gu := (hw u hu).2
        refine ⟨same_t st d1, same_pl st d2, fun z => drift_ne gu.ne (by rw [← e, z]; rfl), ?_, fun p hp => ?_⟩
        · rw [len_of e]
          have := drift_len gu.ne
          have := gu.len
          omega
        · rw [e] at hp
          refine gu.shift p (least_sub (W := shifted u.2) ?_ p hp)
          unfold shifted
          simpa using gu.ne
      · refine k H2 t2 cs ((s1.trans st).trans s2) ((s1.trans st).free n2) g2 p2 ?_
        rw [e2]
        show joinAll (ds.map fun u => pts u.2) = reach (ws.map (·.2))
        rw [ed] <;> rfl
end
end CHr

set_option maxRecDepth 100000
set_option maxHeartbeats 8000000
namespace CHr
open PySem PySem.Spec PyProof.Rows L2 CH
abbrev s_law_cell_at : Stmt := topS 16
abbrev N_law_cell_at : List Str := ["script", "k"]
theorem sc_law_cell_at : FnScope N_law_cell_at ["script", "k"] (defScope s_law_cell_at) := ⟨rfl, rfl, rfl, by decide +kernel, rfl, by decide +kernel, by decide +kernel⟩
abbrev s_law_draw : Stmt := topS 17
abbrev N_law_draw : List Str := ["cell", "k", "many", "prime", "mixed"]
theorem sc_law_draw : FnScope N_law_draw ["cell", "k", "many"] (defScope s_law_draw) := ⟨rfl, rfl, rfl, by decide +kernel, rfl, by decide +kernel, by decide +kernel⟩
abbrev s_law_vector : Stmt := topS 18
abbrev N_law_vector : List Str := ["cell", "far", "line", "times"]
theorem sc_law_vector : FnScope N_law_vector ["cell", "far", "line"] (defScope s_law_vector) := ⟨rfl, rfl, rfl, by decide +kernel, rfl, by decide +kernel, by decide +kernel⟩
abbrev s_law_free_vector : Stmt := topS 19
abbrev N_law_free_vector : List Str := ["cell", "far", "wide"]
theorem sc_law_free_vector : FnScope N_law_free_vector ["cell", "far"] (defScope s_law_free_vector) := ⟨rfl, rfl, rfl, by decide +kernel, rfl, by decide +kernel, by decide +kernel⟩
def spCell (K : PySem.W.Frag) : Sp := fun vs H Q _ => ∃ (a : Addr) (ns : List Int) (k : Nat), vs = [.ref a, .int (k : Int)] ∧ SqL K H a (ns.map V.int) ∧ Q (.int (ns.getD k 0)) H
def spDraw : Sp := fun vs H Q _ => ∃ (c k m : Int), vs = [.int c, .int k, .int m] ∧ 0 ≤ k ∧ k ≤ 1000 ∧ 0 < m ∧ ∀ r, 0 ≤ r → r < m → Q (.int r) H
/-- a new pair of numbers that are not too great -/
def RetP (K : PySem.W.Frag) (H : Hp) (Q : VK) : Prop := ∀ H' t p, Same H H' → H t = none → H' t = some (.tup (v2 p)) → In (2 ^ 138) p → Q (.ref t) H'
def LineOk (K : PySem.W.Frag) (H : Hp) (v : V) : Prop := v = .non ∨ ∃ (a : Addr) (p : P2), v = .ref a ∧ SqT K H a (v2 p) ∧ In 3 p
def spVec (K : PySem.W.Frag) : Sp := fun vs H Q _ => ∃ (c far : Int) (lv : V), vs = [.int c, .int far, lv] ∧ 0 ≤ far ∧ far ≤ 10 ^ 40 ∧ LineOk K H lv ∧ RetP K H Q
def spFVec (K : PySem.W.Frag) : Sp := fun vs H Q _ => ∃ (c far : Int), vs = [.int c, .int far] ∧ 0 ≤ far ∧ far ≤ 10 ^ 40 ∧ RetP K H Q
theorem nat_lt {x : Int} {n : Nat} (h0 : 0 ≤ x) (h : x < 2 ^ n) : x.natAbs < 2 ^ n := by
  have e : ((2 ^ n : Nat) : Int) = (2 : Int) ^ n := by rw [Int.natCast_pow]; rfl
  omega
theorem pr_pos : (0 : Int) < 170141183460469231731687303715884105727 := by decide
theorem far_in {x far : Int} (h0 : 0 ≤ x) (h1 : x < 2 * far + 1) (hf : far ≤ 10 ^ 40) : (x - far).natAbs ≤ 2 ^ 138 := by
  have e : (10 : Int) ^ 40 = 10000000000000000000000000000000000000000 := by decide
  have e2 : (2 : Nat) ^ 138 = 348449143727040986586495598010130648530944 := by decide
  rw [e] at hf
  rw [e2]
  omega
section
variable {P : Program} {w : World} {K : PySem.W.Frag} {mg : Str → Option Value} {base : Heap}
theorem ok_law_cell_at {f : Addr} {fd : FuncData} (F : Fun K "_law_cell_at" "_law_cell_at" s_law_cell_at f fd) (B : Bl mg) : FnOk P w K mg base CX0 1 f fd ["script", "k"] (spCell K) := by
  refine F.ok sc_law_cell_at (fun vs H Q E h => ?_) (fun cdv A outer s H vs Q E hr h => ?_)
  · obtain ⟨a, ns, k, rfl, _⟩ := h
    rfl
  · obtain ⟨a, ns, k, rfl, ha, q⟩ := h
    refine ⟨_, (pss_cons (ps_if (pt_cmpR op_lt (pv 1) (pe_callB call_len_seq (by rfl) B.len b_len (pa_cons (pv 0) pa_nil)) (nomark _)) (pss_one (ps_ret (pe_ix ix_list (pv 0) (pv 1) (fun _ _ => rfl)))) pss_nil)
      (pss_one (ps_ret pe_int))), ?_⟩
    refine ⟨_, rfl, _, rfl, a, _, rfl, .inl ha, _, _, rfl, rfl, _, rfl, ?_⟩
    refine ite2 (fun h => ?_) (fun h => ?_)
    · have h := of_decide_eq_true h
      rw [List.length_map] at h
      have hk : k < ns.length := by omega
      refine ⟨_, rfl, _, rfl, a, _, _, .int (ns.getD k 0), rfl, rfl, ha, ?_, q⟩
      refine atI_nat ?_
      rw [List.getElem?_map, List.getD_eq_getElem?_getD, List.getElem?_eq_getElem hk]
      rfl
    · have h : ¬ ((k : Int) < ((ns.map V.int).length : Int)) := fun z => h (decide_eq_true z)
      rw [List.length_map] at h
      have : ns.getD k 0 = 0 := by
        rw [List.getD_eq_getElem?_getD, List.getElem?_eq_none (by omega)]
        rfl
      rw [this] at q
      exact q
theorem ok_law_draw {f : Addr} {fd : FuncData} (F : Fun K "_law_draw" "_law_draw" s_law_draw f fd) : FnOk P w K mg base CX0 1 f fd ["cell", "k", "many"] spDraw := by
  refine F.ok sc_law_draw (fun vs H Q E h => ?_) (fun cdv A outer s H vs Q E hr h => ?_)
  · obtain ⟨c, k, m, rfl, _⟩ := h
    rfl
  · obtain ⟨c, k, m, rfl, k0, k1, m0, q⟩ := h
    refine ⟨_, (pss_cons (ps_set (i := 3) sc_law_draw.nd rfl (.inl rfl) pe_int)
      (pss_cons (ps_set (i := 4) sc_law_draw.nd rfl (.inl rfl) (pe_op op_mod (pe_op op_mulW (pe_op op_add (pe_op op_mod (pv 0) (pv 3)) (pe_op op_mulW (pe_op op_add (pv 1) pe_int) pe_int)) pe_int) (pv 3)))
      (pss_cons (ps_set (i := 4) sc_law_draw.nd rfl (.inl rfl) (pe_op op_mod (pe_op op_mulW (pv 4) (pv 4)) (pv 3)))
      (pss_one (ps_ret (pe_op op_mod (pe_op op_fdivW (pe_op op_mod (pe_op op_mulW (pe_op op_add (pv 4) (pv 1)) pe_int) (pv 3)) pe_int) (pv 2))))))), ?_⟩
    have pe : ∀ x : Int, 0 ≤ x % 170141183460469231731687303715884105727 ∧ x % 170141183460469231731687303715884105727 < 170141183460469231731687303715884105727 := fun x => ⟨Int.emod_nonneg _ (by decide), Int.emod_lt_of_pos _ pr_pos⟩
    have small : ∀ x : Int, 0 ≤ x → x < 170141183460469231731687303715884105727 + 100000000000000000 → x.natAbs < 2 ^ 130 := fun x h0 h1 => nat_lt h0 (Int.lt_trans h1 (by decide))
    refine ⟨_, rfl, _, rfl, _, _, rfl, rfl, pr_pos, _, rfl, _, _, rfl, rfl, _, _, rfl, rfl, ?_, _, _, rfl, rfl, _, _, rfl, rfl, ?_, _, rfl, _, _, rfl, rfl, pr_pos, ?_⟩
    · exact wide_mul (a := 20) (b := 40) (nat_lt (by omega) (Int.lt_of_le_of_lt (show k + 3 ≤ 1003 by omega) (by decide))) (by decide) (by decide) (by decide) (by decide)
    · have h1 := pe c
      refine wide_mul (a := 130) (b := 130) (small _ ?_ ?_) (by decide) (by decide) (by decide) (by decide)
      · have := Int.mul_nonneg (show 0 ≤ k + 3 by omega) (show (0 : Int) ≤ 1000000007 by decide)
        omega
      · omega
    have h2 := pe ((c % 170141183460469231731687303715884105727 + (k + 3) * 1000000007) * 105172331949523456789012345678901234567)
    generalize ((c % 170141183460469231731687303715884105727 + (k + 3) * 1000000007) * 105172331949523456789012345678901234567) % 170141183460469231731687303715884105727 = x at h2 ⊢
    refine ⟨_, rfl, _, rfl, _, _, rfl, rfl, wide_mul (a := 130) (b := 130) (small _ (by omega) (by omega)) (small _ (by omega) (by omega)) (by decide) (by decide) (by decide), _, rfl, _, _, rfl, rfl, pr_pos, ?_⟩
    have h3 := pe (x * x)
    generalize (x * x) % 170141183460469231731687303715884105727 = y at h3 ⊢
    refine ⟨_, rfl, _, rfl, _, _, rfl, rfl, _, _, rfl, rfl, wide_mul (a := 130) (b := 130) (small _ (by omega) (by omega)) (by decide) (by decide) (by decide) (by decide), _, rfl, _, _, rfl, rfl, pr_pos, _, _, rfl, rfl, wide_div (b := 10) (by decide) (by decide) (by decide) (by decide), _, rfl, _, _, rfl, rfl, m0, ?_⟩
    exact q _ (Int.emod_nonneg _ (by omega)) (Int.emod_lt_of_pos _ m0)
theorem ok_law_vector {f : Addr} {fd : FuncData} (F : Fun K "_law_vector" "_law_vector" s_law_vector f fd) (c_law_draw : Cal P w K mg base 1 "_law_draw" ["cell", "k", "many"] spDraw) : FnOk P w K mg base CX0 2 f fd ["cell", "far", "line"] (spVec K) := by
  refine F.ok sc_law_vector (fun vs H Q E h => ?_) (fun cdv A outer s H vs Q E hr h => ?_)
  · obtain ⟨c, far, lv, rfl, _⟩ := h
    rfl
  · obtain ⟨c, far, lv, rfl, f0, f1, hl, q⟩ := h
    refine ⟨_, (pss_cons (ps_if (pt_cmpR op_notN (pv 2) pe_non (nomark _)) (pss_cons (ps_set (i := 3) sc_law_vector.nd rfl (.inl rfl) (pe_op op_sub (pe_own c_law_draw (hr.mono (by decide)) (pa_cons (pv 0) (pa_cons pe_int (pa_cons pe_int pa_nil)))) pe_int))
      (pss_one (ps_ret (pe_tup (pa_cons (pe_op op_mulW (pe_ix (ix_tupK K rfl) (pv 2) pe_int (fun _ _ => rfl)) (pv 3)) (pa_cons (pe_op op_mulW (pe_ix (ix_tupK K rfl) (pv 2) pe_int (fun _ _ => rfl)) (pv 3)) pa_nil)))))) pss_nil)
      (pss_one (ps_ret (pe_tup (pa_cons (pe_op op_sub (pe_own c_law_draw (hr.mono (by decide)) (pa_cons (pv 0) (pa_cons pe_int (pa_cons (pe_op op_add (pe_op op_mulW pe_int (pv 1)) pe_int) pa_nil)))) (pv 1)) (pa_cons (pe_op op_sub (pe_own c_law_draw (hr.mono (by decide)) (pa_cons (pv 0) (pa_cons pe_int (pa_cons (pe_op op_add (pe_op op_mulW pe_int (pv 1)) pe_int) pa_nil)))) (pv 1)) pa_nil)))))), ?_⟩
    have fb : far.natAbs < 2 ^ 150 := nat_lt f0 (Int.lt_of_le_of_lt f1 (by decide))
    have one : ∀ {r : Int}, 0 ≤ r → r < 7 → (r - 3).natAbs ≤ 3 := fun h0 h1 => by omega
    refine ⟨_, rfl, rfl, _, rfl, ?_⟩
    rcases hl with rfl | ⟨a, p, rfl, ha, hp⟩
    · refine iteF ?_
      refine ⟨_, rfl, _, rfl, _, _, rfl, rfl, wide_mul (a := 150) (b := 150) (by decide) fb (by decide) (by decide) (by decide), _, _, rfl, rfl, c, 2, _, rfl, by decide, by decide, by omega, fun r r0 r1 => ?_⟩
      refine ⟨_, rfl, _, _, rfl, rfl, _, rfl, _, rfl, _, _, rfl, rfl, wide_mul (a := 150) (b := 150) (by decide) fb (by decide) (by decide) (by decide), _, _, rfl, rfl, c, 3, _, rfl, by decide, by decide, by omega, fun r' r0' r1' => ?_⟩
      refine ⟨_, rfl, _, _, rfl, rfl, (by show 2 ≤ sizeLine; decide), fun t nt => ?_⟩
      exact q _ t (r - far, r' - far) (same_new nt) nt upd_same ⟨far_in r0 r1 f1, far_in r0' r1' f1⟩
    · refine iteT ?_
      refine ⟨_, rfl, c, 2, 7, rfl, by decide, by decide, by decide, fun r r0 r1 => ?_⟩
      have hr3 := one r0 r1
      have small : ∀ x : Int, x.natAbs ≤ 3 → x.natAbs < 2 ^ 150 := fun x hx => Nat.lt_of_le_of_lt hx (by decide)
      refine ⟨_, _, rfl, rfl, _, rfl, _, _, _, _, rfl, rfl, ha, rfl, _, rfl, _, _, rfl, rfl, mulS (small _ hp.1) (small _ hr3), _, rfl, _, _, _, _, rfl, rfl, ha, rfl, _, rfl, _, _, rfl, rfl, mulS (small _ hp.2) (small _ hr3), (by show 2 ≤ sizeLine; decide), fun t nt => ?_⟩
      refine q _ t (p.1 * (r - 3), p.2 * (r - 3)) (same_new nt) nt upd_same ⟨?_, ?_⟩
      · show (p.1 * (r - 3)).natAbs ≤ _
        rw [Int.natAbs_mul]
        exact Nat.le_trans (Nat.mul_le_mul hp.1 hr3) (by decide)
      · show (p.2 * (r - 3)).natAbs ≤ _
        rw [Int.natAbs_mul]
        exact Nat.le_trans (Nat.mul_le_mul hp.2 hr3) (by decide)
theorem ok_law_free_vector {f : Addr} {fd : FuncData} (F : Fun K "_law_free_vector" "_law_free_vector" s_law_free_vector f fd) : FnOk P w K mg base CX0 1 f fd ["cell", "far"] (spFVec K) := by
  refine F.ok sc_law_free_vector (fun vs H Q E h => ?_) (fun cdv A outer s H vs Q E hr h => ?_)
  · obtain ⟨c, far, rfl, _⟩ := h
    rfl
  · obtain ⟨c, far, rfl, f0, f1, q⟩ := h
    refine ⟨_, (pss_cons (ps_set (i := 2) sc_law_free_vector.nd rfl (.inl rfl) (pe_op op_add (pe_op op_mulW pe_int (pv 1)) pe_int))
      (pss_one (ps_ret (pe_tup (pa_cons (pe_op op_sub (pe_op op_mod (pv 0) (pv 2)) (pv 1)) (pa_cons (pe_op op_sub (pe_op op_mod (pe_op op_fdivW (pv 0) (pv 2)) (pv 2)) (pv 1)) pa_nil)))))), ?_⟩
    have fb : far.natAbs < 2 ^ 150 := nat_lt f0 (Int.lt_of_le_of_lt f1 (by decide))
    have wp : 0 < 2 * far + 1 := by omega
    have wb : (2 * far + 1).natAbs < 2 ^ 150 := nat_lt (by omega) (by
      have e : (10 : Int) ^ 40 = 10000000000000000000000000000000000000000 := by decide
      have e2 : (2 : Int) ^ 150 = 1427247692705959881058285969449495136382746624 := by decide
      rw [e] at f1
      rw [e2]
      omega)
    refine ⟨_, rfl, _, _, rfl, rfl, wide_mul (a := 150) (b := 150) (by decide) fb (by decide) (by decide) (by decide), _, _, rfl, rfl, ?_⟩
    refine ⟨_, rfl, _, rfl, _, _, rfl, rfl, wp, _, rfl, _, _, rfl, rfl, _, rfl, _, rfl, _, _, rfl, rfl, wide_div wp wb (by decide) (by decide), _, rfl, _, _, rfl, rfl, wp, _, rfl, _, _, rfl, rfl, (by show 2 ≤ sizeLine; decide), fun t nt => ?_⟩
    refine q _ t (c % (2 * far + 1) - far, c / (2 * far + 1) % (2 * far + 1) - far) (same_new nt) nt upd_same ⟨?_, ?_⟩
    · exact far_in (Int.emod_nonneg _ (by omega)) (Int.emod_lt_of_pos _ wp) f1
    · exact far_in (Int.emod_nonneg _ (by omega)) (Int.emod_lt_of_pos _ wp) f1
end
end CHr

set_option maxRecDepth 100000
set_option maxHeartbeats 8000000
namespace CHr
open PySem PySem.Spec PyProof.Rows L2 CH
abbrev s_law_free_watches : Stmt := topS 20
abbrev N_law_free_watches : List Str := ["script", "far", "watches", "at", "size", "first", "wind", "cell"]
theorem sc_law_free_watches : FnScope N_law_free_watches ["script"] (defScope s_law_free_watches) := ⟨rfl, rfl, rfl, by decide +kernel, rfl, by decide +kernel, by decide +kernel⟩
/-- watches made -/
structure WsOk (K : PySem.W.Frag) (H : Hp) (ws : List Wa) (n : Nat) : Prop where
  each : ∀ u ∈ ws, WatchAt K H u.1 u.2 ∧ Good u.2
  sum : (ws.map fun u => u.2.1.length).sum + 1 ≤ n
  len : ws.length ≤ 12
def RetWs (K : PySem.W.Frag) (H : Hp) (Q : VK) : Prop := ∀ H' t (ws : List Wa), Same H H' → H t = none → H' t = some (.tup (ws.map fun u => V.ref u.1)) → WsOk K H' ws 61 → Q (.ref t) H'
def spFree (K : PySem.W.Frag) : Sp := fun vs H Q _ => ∃ (a : Addr) (ns : List Int), vs = [.ref a] ∧ SqL K H a (ns.map V.int) ∧ ns ≠ [] ∧ ns.length ≤ 63 ∧ RetWs K H Q
theorem w_upd {K : PySem.W.Frag} {H : Hp} {a l : Addr} {u : Wt} {ys : List V} {o : HO} (h : WatchAt K H a u) (hl : H l = some (.lst ys)) : WatchAt K (upd H l o) a u := by
  obtain ⟨wa, sa, as, h1, h2, h3, h4, h5⟩ := h
  exact ⟨wa, sa, as, t_upd h1 hl, t_upd h2 hl, pl_upd h3 hl, h4, t_upd h5 hl⟩
theorem WsOk.same {K : PySem.W.Frag} {H H' : Hp} {ws : List Wa} {n : Nat} (w : WsOk K H ws n) (s : Same H H') : WsOk K H' ws n := ⟨fun u hu => ⟨same_w s (w.each u hu).1, (w.each u hu).2⟩, w.sum, w.len⟩
theorem WsOk.upd {K : PySem.W.Frag} {H : Hp} {ws : List Wa} {n : Nat} {l : Addr} {ys : List V} {o : HO} (w : WsOk K H ws n) (hl : H l = some (.lst ys)) : WsOk K (upd H l o) ws n := ⟨fun u hu => ⟨w_upd (w.each u hu).1 hl, (w.each u hu).2⟩, w.sum, w.len⟩
theorem WsOk.snoc {K : PySem.W.Frag} {H : Hp} {ws : List Wa} {n m : Nat} {u : Wa} (w : WsOk K H ws n) (h : WatchAt K H u.1 u.2) (g : Good u.2) (hm : n + u.2.1.length ≤ m) (hl : ws.length < 12) : WsOk K H (ws ++ [u]) m := by
  refine ⟨fun v hv => ?_, ?_, by rw [List.length_append, List.length_singleton]; omega⟩
  · rcases List.mem_append.mp hv with z | z
    · exact w.each v z
    · rw [List.mem_singleton.mp z]; exact ⟨h, g⟩
  · have := w.sum
    rw [List.map_append, List.sum_append]
    simp only [List.map_cons, List.map_nil, List.sum_cons, List.sum_nil]
    omega
theorem WsOk.mono {K : PySem.W.Frag} {H : Hp} {ws : List Wa} {n m : Nat} (w : WsOk K H ws n) (h : n ≤ m) : WsOk K H ws m := ⟨w.each, Nat.le_trans w.sum h, w.len⟩
/-- a slice of cells -/
theorem cut_cells (ns : List Int) (i j : Nat) : ∃ cs : List Int, cutV (ns.map V.int) (some (i : Int)) (some (j : Int)) = cs.map V.int ∧ cs.length = min j ns.length - min i ns.length := by
  refine ⟨(ns.drop (min i ns.length)).take (min j ns.length - min i ns.length), ?_, ?_⟩
  · unfold cutV
    rw [HT.sIx_nat, HT.sIx_nat, List.length_map, List.map_take, List.map_drop]
  · rw [List.length_take, List.length_drop]
    omega
theorem cell_get {ns : List Int} {i : Nat} (h : i < ns.length) : atI (ns.map V.int) (i : Int) = some (.int (ns.getD i 0)) := by
  refine atI_nat ?_
  rw [List.getElem?_map, List.getD_eq_getElem?_getD, List.getElem?_eq_getElem h]
  rfl
theorem min61 (n : Nat) : (if (61 : Int) < ((n : Nat) : Int) then (61 : Int) else ((n : Nat) : Int)) = ((min n 61 : Nat) : Int) := by
  by_cases h : (61 : Int) < (n : Int)
  · rw [if_pos h]; omega
  · rw [if_neg h]; omega
theorem pick3 {i : Int} (h0 : 0 ≤ i) (h1 : i < 3) : ∃ far : Int, atI [V.int 3, V.int 12, V.int (10 ^ (9 : Int).toNat)] i = some (.int far) ∧ 0 ≤ far ∧ far ≤ 10 ^ 9 := by
  have : i = 0 ∨ i = 1 ∨ i = 2 := by omega
  rcases this with e | e | e
  · exact ⟨3, by rw [e]; rfl, by decide, by decide⟩
  · exact ⟨12, by rw [e]; rfl, by decide, by decide⟩
  · exact ⟨10 ^ 9, by rw [e]; rfl, by decide, by decide⟩
section
variable {P : Program} {w : World} {K : PySem.W.Frag} {mg : Str → Option Value} {base : Heap}
theorem ok_law_free_watches {f : Addr} {fd : FuncData} (F : Fun K "_law_free_watches" "_law_free_watches" s_law_free_watches f fd) (B : Bl mg) (c_law_free_vector : Cal P w K mg base 1 "_law_free_vector" ["cell", "far"] (spFVec K)) :
    FnOk P w K mg base CX0 2 f fd ["script"] (spFree K) := by
  refine F.ok sc_law_free_watches (fun vs H Q E h => ?_) (fun cdv A outer s H vs Q E hr h => ?_)
  · obtain ⟨a, ns, rfl, _⟩ := h
    rfl
  · obtain ⟨a, ns, rfl, ha, hne, hlen, k⟩ := h
    refine ⟨_, (pss_cons (ps_set (i := 1) sc_law_free_watches.nd rfl (.inr rfl) (pe_ix ix_list (pe_lst (pa_cons pe_int (pa_cons pe_int (pa_cons (pe_op op_pow pe_int pe_int) pa_nil)))) (pe_op op_mod (pe_op op_fdivW (pe_ix ix_list (pv 0) pe_int (fun _ _ => rfl)) pe_int) pe_int) (fun _ _ => rfl)))
      (pss_cons (ps_set (i := 2) sc_law_free_watches.nd rfl (.inl rfl) (pe_lst pa_nil))
      (pss_cons (ps_set (i := 3) sc_law_free_watches.nd rfl (.inl rfl) pe_int)
      (pss_cons (ps_while PassesOwn.never (PW.pt (pw_and (pt_cmpR op_lt (pv 3) (pe_callB (call_min2 rfl) (by rfl) B.min_ b_min (pa_cons (pe_callB call_len_seq (by rfl) B.len b_len (pa_cons (pv 0) pa_nil)) (pa_cons pe_int pa_nil))) (nomark _)) (pw_and1 (pt_cmpR op_lt (pe_callB call_len_seq (by rfl) B.len b_len (pa_cons (pv 2) pa_nil)) pe_int (nomark _))))) (pss_cons (ps_set (i := 4) sc_law_free_watches.nd rfl (.inl rfl) (pe_op op_add pe_int (pe_op op_mod (pe_ix ix_list (pv 0) (pv 3) (fun _ _ => rfl)) pe_int)))
      (pss_cons (ps_set (i := 5) sc_law_free_watches.nd rfl (.inl rfl) (pe_op op_fdivW (pe_ix ix_list (pv 0) (pv 3) (fun _ _ => rfl)) pe_int))
      (pss_cons (ps_set (i := 6) sc_law_free_watches.nd rfl (.inl rfl) (pe_lst (pa_cons (pe_own c_law_free_vector (hr.mono (by decide)) (pa_cons (pv 5) (pa_cons (pv 1) pa_nil))) pa_nil)))
      (pss_cons (ps_expr (pe_bm PySem.F.plainAttrs_list PySem.F.slot_list_extend PySem.F.type_list_extend mt_extend (pv 6) (pa_cons (pe_lc (own := [("cell", 7)]) rfl sc_law_free_watches.nd (pi_list (pe_slice sl_list (pv 0) (po_some (pe_op op_add (pv 3) pe_int)) (po_some (pe_callB (call_min2 rfl) (by rfl) B.min_ b_min (pa_cons (pe_op op_add (pv 3) (pv 4)) (pa_cons pe_int pa_nil)))))) (blkOk_by (own := [("cell", 7)]) (N := N_law_free_watches) (sc := defScope s_law_free_watches) (by decide +kernel)) (fun _ _ _ _ _ => (pg_name (i := 7) sc_law_free_watches.nd rfl (.inl rfl))) (fun _ _ _ _ _ => pts_nil) (fun _ _ _ _ _ => (pe_own c_law_free_vector (hr.mono (by decide)) (pa_cons (pv 7) (pa_cons (pv 1) pa_nil))))) pa_nil)))
      (pss_cons (ps_expr (pe_bm PySem.F.plainAttrs_list PySem.F.slot_list_append PySem.F.type_list_append mt_append (pv 2) (pa_cons (pe_tup (pa_cons (pe_callTy call_tuple_of (by rfl) B.tuple b_tuple (pa_cons (pv 6) pa_nil)) (pa_cons (pe_own c_law_free_vector (hr.mono (by decide)) (pa_cons (pe_op op_fdivW (pv 5) (pe_op op_pow (pe_op op_add (pe_op op_mulW pe_int (pv 1)) pe_int) pe_int)) (pa_cons (pv 1) pa_nil))) pa_nil))) pa_nil)))
      (pss_one (ps_set (i := 3) sc_law_free_watches.nd rfl (.inl rfl) (pe_op op_add (pv 3) (pv 4))))))))))
      (pss_one (ps_ret (pe_callTy call_tuple_of (by rfl) B.tuple b_tuple (pa_cons (pv 2) pa_nil)))))))), ?_⟩
    -- far
    refine ⟨_, _, rfl, rfl, ⟨by decide, by decide, by decide⟩, (by show 3 ≤ sizeLine; decide), fun tl ntl => ?_⟩
    have s0 := same_new (o := .lst [.int 3, .int 12, .int (10 ^ (9 : Int).toNat)]) ntl
    have hpos : 0 < ns.length := List.length_pos_iff.mpr hne
    obtain ⟨far, hfar, f0, f1⟩ := pick3 (i := ns.getD 0 0 / 2 % 3) (Int.emod_nonneg _ (by decide)) (Int.emod_lt_of_pos _ (by decide))
    have f40 : far ≤ 10 ^ 40 := Int.le_trans f1 (by decide)
    refine ⟨_, rfl, a, _, _, _, rfl, rfl, s0.seq ha, cell_get (i := 0) hpos, _, _, rfl, rfl, wide_div (b := 10) (by decide) (by decide) (by decide) (by decide), _, _, rfl, rfl, (by show (0 : Int) < 3; decide), tl, _, _, _, rfl, rfl, l_of upd_same, hfar, ?_⟩
    -- watches = []; at = 1
    refine ⟨Nat.zero_le _, fun l nl => ?_⟩
    have s1 := s0.trans (same_new (o := .lst []) nl)
    have nl0 : H l = none := s0.free nl
    refine ⟨fun m σ H' => ∃ (n : Nat) (ws : List Wa) (y4 y5 y6 : Option V), m = 61 - n ∧ σ = [some (.ref a), some (.int far), some (.ref l), some (.int (n : Int)), y4, y5, y6, none] ∧ Same H H' ∧ H' l = some (.lst (ws.map fun u => V.ref u.1)) ∧ 1 ≤ n ∧ WsOk K H' ws (min n 61),
      ⟨_, 1, [], none, none, none, rfl, rfl, s1, upd_same, Nat.le_refl _, ⟨fun u h => (by cases h), by decide, by decide⟩⟩, fun m σ H' hW => ?_⟩
    obtain ⟨n, ws, y4, y5, y6, rfl, rfl, s2, hl, hn1, hws⟩ := hW
    have ha2 := s2.seq ha
    refine ⟨_, rfl, _, rfl, a, _, rfl, .inl ha2, _, _, rfl, _, _, rfl, rfl, _, rfl, ?_⟩
    rw [List.length_map, min61]
    have fin : H' l = some (.lst (ws.map fun u => V.ref u.1)) → Q (.ref l) H' ∨ True := fun _ => .inr trivial
    have stop : ∀ H3, Same H H3 → H3 l = some (.lst (ws.map fun u => V.ref u.1)) → WsOk K H3 ws (min n 61) → ∀ t, H3 t = none → Q (.ref t) (L2.upd H3 t (.tup (ws.map fun u => V.ref u.1))) := fun H3 s3 h3 w3 t nt =>
      k _ t ws (s3.trans (same_new nt)) (s3.free nt) upd_same ((w3.same (same_new nt)).mono (Nat.min_le_right _ _))
    refine ite2 (fun h1 => ?_) (fun h1 => ?_)
    · have h1 := of_decide_eq_true h1
      have hn : n < ns.length ∧ n < 61 := by omega
      refine ⟨_, rfl, l, _, rfl, .inl (l_of hl), _, _, rfl, rfl, _, rfl, ?_⟩
      refine ite2 (fun h2 => ?_) (fun h2 => ?_)
      · have h2 := of_decide_eq_true h2
        rw [List.length_map] at h2
        have hw12 : ws.length < 12 := by omega
        refine ⟨_, fun σ' H' z => z, ?_⟩
        -- size, first
        refine ⟨_, rfl, _, rfl, a, _, _, _, rfl, rfl, ha2, cell_get hn.1, _, _, rfl, rfl, (by show (0 : Int) < 12; decide), _, _, rfl, rfl, ?_⟩
        have hz0 := Int.emod_nonneg (ns.getD n 0) (show (12 : Int) ≠ 0 by decide)
        have hz1 := Int.emod_lt_of_pos (ns.getD n 0) (show (0 : Int) < 12 by decide)
        obtain ⟨z, hz⟩ : ∃ z : Nat, (ns.getD n 0) % 12 = (z : Int) := ⟨((ns.getD n 0) % 12).toNat, by omega⟩
        rw [hz] at hz1 ⊢
        refine ⟨_, rfl, _, rfl, a, _, _, _, rfl, rfl, ha2, cell_get hn.1, _, _, rfl, rfl, wide_div (b := 10) (by decide) (by decide) (by decide) (by decide), ?_⟩
        -- wind = [..]
        refine ⟨_, rfl, _, rfl, _, far, rfl, f0, f40, fun H3 t3 p3 s3 n3 h3 i3 => ?_⟩
        refine ⟨(by show 1 ≤ sizeLine; decide), fun lw nlw => ?_⟩
        have s4 := s3.trans (same_new (o := .lst [.ref t3]) nlw)
        have hlw : (L2.upd H3 lw (.lst [.ref t3])) lw = some (.lst (refs [(t3, p3)])) := upd_same
        have nlwH : H lw = none := (s2.trans s3).free nlw
        have dl : lw ≠ l := (ne_of_none (s3 _ _ hl) nlw).symm
        -- wind.extend([..])
        refine ⟨_, rfl, .inl ⟨rfl, _, l_of hlw⟩, ?_⟩
        refine ⟨_, rfl, _, rfl, _, _, rfl, rfl, _, rfl, _, rfl, _, rfl, _, _, rfl, rfl, _, _, rfl, _, rfl, a, _, rfl, s4.seq ha2, fun cp ncp => ?_⟩
        obtain ⟨cs, ecs, lcs⟩ := cut_cells ns (n + 1) (min (n + (1 + z)) 61)
        have ecs' : cutV (ns.map V.int) (some ((n : Int) + 1)) (some (if (61 : Int) < ((n : Int) + (1 + (z : Int))) then (61 : Int) else ((n : Int) + (1 + (z : Int))))) = cs.map V.int := by
          rw [← ecs]
          have e1 : ((n : Int) + (1 + (z : Int))) = ((n + (1 + z) : Nat) : Int) := by omega
          rw [e1, min61] <;> rfl
        rw [ecs']
        have s5 := s4.trans (same_new (o := .lst (cs.map V.int)) ncp)
        have hlw5 := (same_new (o := .lst (cs.map V.int)) ncp) _ _ hlw
        refine ⟨cp, rfl, ⟨_, l_of upd_same⟩, fun D nD => lc_list (K := K) (a := cp) (xs := cs.map V.int) (fun i H4 => ∃ bs : List Pt, Same (L2.upd (L2.upd H3 lw (.lst [.ref t3])) cp (.lst (cs.map V.int))) H4 ∧ H4 D = some (.lst (refs bs)) ∧ PL K H4 bs ∧ bs.length = i ∧ ∀ q ∈ bs, In (2 ^ 138) q.2)
          ⟨[], same_new nD, upd_same, fun q h => (by cases h), rfl, fun q h => (by cases h)⟩ (fun i H4 _ h => by obtain ⟨_, s6, _⟩ := h; exact l_of (s6 _ _ upd_same)) ?_ ?_⟩
        · rintro i x H4 hi ⟨bs, s6, hD, pb, lb, ib⟩
          rw [List.getElem?_map] at hi
          obtain ⟨c, hc, rfl⟩ := Option.map_eq_some_iff.mp hi
          have hic : i < cs.length := (List.getElem?_eq_some_iff.mp hc).1
          refine ⟨rfl, ?_⟩
          refine ⟨_, rfl, _, rfl, c, far, rfl, f0, f40, fun H5 t5 p5 s7 n5 h5 i5 => ?_⟩
          refine ⟨_, s7 _ _ hD, line_lt (by rw [List.length_map]; omega), bs ++ [(t5, p5)], same_mut (s6.trans s7) nD, ?_, ?_, by rw [List.length_append, List.length_singleton, lb], fun q hq => ?_⟩
          · rw [upd_same, refs, refs, List.map_append] <;> rfl
          · exact pl_upd (pl_snoc (same_pl s7 pb) (t_of h5)) (s7 _ _ hD)
          · rcases List.mem_append.mp hq with y | y
            · exact ib q y
            · rw [List.mem_singleton.mp y]; exact i5
        · rintro H4 ⟨bs, s6, hD, pb, lb, ib⟩
          rw [List.length_map] at lb
          have hlw6 := s6 _ _ hlw5
          have dD : D ≠ lw := (ne_of_none hlw5 nD).symm
          refine ⟨lw, D, refs [(t3, p3)], refs bs, rfl, rfl, hlw6, hD, line_le (by simp; omega), ?_⟩
          have s26 : Same H' H4 := s5.trans s6
          have hl6 := s26 _ _ hl
          have hwind : (L2.upd H4 lw (.lst (refs [(t3, p3)] ++ refs bs))) lw = some (.lst (refs ((t3, p3) :: bs))) := by rw [upd_same]; rfl
          have nlw2 : H' lw = none := s3.free nlw
          have s27 : Same H' (L2.upd H4 lw (.lst (refs [(t3, p3)] ++ refs bs))) := same_mut s26 nlw2
          have pall : PL K (L2.upd H4 lw (.lst (refs [(t3, p3)] ++ refs bs))) ((t3, p3) :: bs) := pl_upd (fun q hq => by
            rcases List.mem_cons.mp hq with y | y
            · rw [y]; exact same_t (((same_new nlw).trans (same_new ncp)).trans s6) (t_of h3)
            · exact pb q y) hlw6
          -- watches.append((tuple(wind), ..))
          refine ⟨_, rfl, .inl ⟨rfl, _, l_of (s27 _ _ hl)⟩, _, rfl, lw, _, rfl, .inl ⟨l_of hwind, fun tw ntw => ?_⟩⟩
          have s8 := same_new (o := .tup (refs ((t3, p3) :: bs))) ntw
          have wb : 0 < 2 * far + 1 := by omega
          have wb2 : (2 * far + 1).natAbs < 2 ^ 64 := nat_lt (by omega) (by
            have e : (10 : Int) ^ 9 = 1000000000 := by decide
            have e2 : (2 : Int) ^ 64 = 18446744073709551616 := by decide
            rw [e] at f1
            rw [e2]
            omega)
          have fb : far.natAbs < 2 ^ 150 := nat_lt f0 (Int.lt_of_le_of_lt f1 (by decide))
          have sqp : 0 < (2 * far + 1) ^ (2 : Int).toNat := Int.pow_pos wb
          have sqb : ((2 * far + 1) ^ (2 : Int).toNat).natAbs < 2 ^ 128 := by
            have e : (2 * far + 1) ^ (2 : Int).toNat = (2 * far + 1) * (2 * far + 1) := by
              show (2 * far + 1) ^ 2 = _
              rw [Int.pow_succ, Int.pow_succ, Int.pow_zero, Int.one_mul]
            rw [e]
            exact wide_lt wb2 wb2
          refine ⟨_, rfl, _, rfl, _, _, rfl, rfl, wide_mul (a := 150) (b := 150) (by decide) fb (by decide) (by decide) (by decide), _, _, rfl, rfl, _, _, rfl, rfl, ⟨by decide, by decide, wb2⟩, _, _, rfl, rfl, wide_div sqp sqb (by decide) (by decide), _, rfl, _, far, rfl, f0, f40, fun H9 t9 p9 s9 n9 h9 i9 => ?_⟩
          refine ⟨(by show 2 ≤ sizeLine; decide), fun t10 n10 => ?_⟩
          have s10 := same_new (o := .tup [.ref tw, .ref t9]) n10
          have sall := ((s27.trans s8).trans s9).trans s10
          refine ⟨l, _, .ref t10, rfl, rfl, sall _ _ hl, line_lt (by rw [List.length_map]; omega), ?_⟩
          -- at = at + size
          refine ⟨_, rfl, _, rfl, _, _, rfl, rfl, 61 - (n + (1 + z)), by omega, n + (1 + z), ws ++ [(t10, ((p3 :: pts bs), p9))], some (.int (1 + (z : Int))), some (.int (ns.getD n 0 / 12)), some (.ref lw), rfl, ?_, same_mut (s2.trans sall) nl0, ?_, by omega, ?_⟩
          · show [some (V.ref a), some (V.int far), some (V.ref l), some (V.int ((n : Int) + (1 + (z : Int)))), some (.int (1 + (z : Int))), some (.int (ns.getD n 0 / 12)), some (.ref lw), none] = _
            rw [show (n : Int) + (1 + (z : Int)) = ((n + (1 + z) : Nat) : Int) by omega]
          · rw [upd_same, List.map_append] <;> rfl
          · refine ((hws.same sall).snoc (u := (t10, ((p3 :: pts bs), p9))) ?_ ?_ ?_ hw12).upd (sall _ _ hl)
            · exact ⟨tw, t9, (t3, p3) :: bs, t_of upd_same, same_t (s9.trans s10) (t_of upd_same), same_pl ((s8.trans s9).trans s10) pall, rfl, same_t s10 (t_of h9)⟩
            · refine ⟨by simp, ?_, fun p hp => ?_, i9⟩
              · show (p3 :: pts bs).length ≤ 12
                rw [List.length_cons, List.length_map, lb, lcs]
                omega
              · rcases List.mem_cons.mp hp with y | y
                · rw [y]; exact i3
                · obtain ⟨q, hq, e⟩ := List.mem_map.mp y
                  rw [← e]; exact ib q hq
            · show min n 61 + (p3 :: pts bs).length ≤ min (n + (1 + z)) 61
              rw [List.length_cons, List.length_map, lb, lcs]
              omega
      · refine ⟨_, rfl, l, _, rfl, .inl ⟨l_of hl, fun t nt => stop H' s2 hl hws t nt⟩⟩
    · refine iteF ?_
      refine ⟨_, rfl, l, _, rfl, .inl ⟨l_of hl, fun t nt => stop H' s2 hl hws t nt⟩⟩
end
end CHr

set_option maxRecDepth 100000
set_option maxHeartbeats 8000000
namespace CHr
open PySem PySem.Spec PyProof.Rows L2 CH
abbrev s_law_watches : Stmt := topS 21
abbrev N_law_watches : List Str := ["script", "base", "far", "line", "most", "watches", "at", "size", "wind", "stream", "cell"]
theorem sc_law_watches : FnScope N_law_watches ["script"] (defScope s_law_watches) := ⟨rfl, rfl, rfl, by decide +kernel, rfl, by decide +kernel, by decide +kernel⟩
def spWatches (K : PySem.W.Frag) : Sp := fun vs H Q _ => ∃ (a : Addr) (ns : List Int), vs = [.ref a] ∧ SqL K H a (ns.map V.int) ∧ ns.length ≤ 63 ∧ RetWs K H Q
theorem pick5 {i : Int} (h0 : 0 ≤ i) (h1 : i < 5) : ∃ far : Int, atI [V.int 3, V.int 3, V.int 12, V.int (10 ^ (9 : Int).toNat), V.int (10 ^ (40 : Int).toNat)] i = some (.int far) ∧ 0 ≤ far ∧ far ≤ 10 ^ 40 := by
  have : i = 0 ∨ i = 1 ∨ i = 2 ∨ i = 3 ∨ i = 4 := by omega
  rcases this with e | e | e | e | e
  · exact ⟨3, by rw [e]; rfl, by decide, by decide⟩
  · exact ⟨3, by rw [e]; rfl, by decide, by decide⟩
  · exact ⟨12, by rw [e]; rfl, by decide, by decide⟩
  · exact ⟨10 ^ 9, by rw [e]; rfl, by decide, by decide⟩
  · exact ⟨10 ^ 40, by rw [e]; rfl, by decide, by decide⟩
theorem pick4 {i : Int} (h0 : 0 ≤ i) (h1 : i < 4) : ∃ most : Int, atI [V.int 3, V.int 3, V.int 5, V.int 12] i = some (.int most) ∧ 0 < most ∧ most ≤ 12 := by
  have : i = 0 ∨ i = 1 ∨ i = 2 ∨ i = 3 := by omega
  rcases this with e | e | e | e
  · exact ⟨3, by rw [e]; rfl, by decide, by decide⟩
  · exact ⟨3, by rw [e]; rfl, by decide, by decide⟩
  · exact ⟨5, by rw [e]; rfl, by decide, by decide⟩
  · exact ⟨12, by rw [e]; rfl, by decide, by decide⟩
theorem LineOk.same {K : PySem.W.Frag} {H H' : Hp} {v : V} (h : LineOk K H v) (s : Same H H') : LineOk K H' v := by
  rcases h with e | ⟨a, p, e, h, i⟩
  · exact .inl e
  · exact .inr ⟨a, p, e, same_t s h, i⟩
section
variable {P : Program} {w : World} {K : PySem.W.Frag} {mg : Str → Option Value} {base : Heap}
theorem ok_law_watches {f : Addr} {fd : FuncData} (F : Fun K "_law_watches" "_law_watches" s_law_watches f fd) (B : Bl mg) (c_law_cell_at : Cal P w K mg base 1 "_law_cell_at" ["script", "k"] (spCell K)) (c_law_draw : Cal P w K mg base 1 "_law_draw" ["cell", "k", "many"] spDraw)
    (c_law_vector : Cal P w K mg base 2 "_law_vector" ["cell", "far", "line"] (spVec K)) (c_law_free_watches : Cal P w K mg base 2 "_law_free_watches" ["script"] (spFree K)) : FnOk P w K mg base CX0 3 f fd ["script"] (spWatches K) := by
  refine F.ok sc_law_watches (fun vs H Q E h => ?_) (fun cdv A outer s H vs Q E hr h => ?_)
  · obtain ⟨a, ns, rfl, _⟩ := h
    rfl
  · obtain ⟨a, ns, rfl, ha, hlen, k⟩ := h
    refine ⟨_, (pss_cons (ps_set (i := 1) sc_law_watches.nd rfl (.inl rfl) (pe_own c_law_cell_at (hr.mono (by decide)) (pa_cons (pv 0) (pa_cons pe_int pa_nil))))
      (pss_cons (ps_if (pt_cmpR op_eq (pe_op op_mod (pv 1) pe_int) pe_int (nomark _)) (pss_one (ps_ret (pe_own c_law_free_watches (hr.mono (by decide)) (pa_cons (pv 0) pa_nil)))) pss_nil)
      (pss_cons (ps_set (i := 2) sc_law_watches.nd rfl (.inr rfl) (pe_ix ix_list (pe_lst (pa_cons pe_int (pa_cons pe_int (pa_cons pe_int (pa_cons (pe_op op_pow pe_int pe_int) (pa_cons (pe_op op_pow pe_int pe_int) pa_nil)))))) (pe_own c_law_draw (hr.mono (by decide)) (pa_cons (pv 1) (pa_cons pe_int (pa_cons pe_int pa_nil)))) (fun _ _ => rfl)))
      (pss_cons (ps_set (i := 3) sc_law_watches.nd rfl (.inr rfl) pe_non)
      (Evl.pss_cut (ps_if (pt_cmpR op_eq (pe_own c_law_draw (hr.mono (by decide)) (pa_cons (pv 1) (pa_cons pe_int (pa_cons pe_int pa_nil)))) pe_int (nomark _)) (pss_one (ps_set (i := 3) sc_law_watches.nd rfl (.inr rfl) (pe_tup (pa_cons (pe_op op_sub (pe_own c_law_draw (hr.mono (by decide)) (pa_cons (pv 1) (pa_cons pe_int (pa_cons pe_int pa_nil)))) pe_int) (pa_cons (pe_op op_sub (pe_own c_law_draw (hr.mono (by decide)) (pa_cons (pv 1) (pa_cons pe_int (pa_cons pe_int pa_nil)))) pe_int) pa_nil))))) pss_nil)
      (pss_cons (ps_set (i := 4) sc_law_watches.nd rfl (.inl rfl) (pe_ix ix_list (pe_lst (pa_cons pe_int (pa_cons pe_int (pa_cons pe_int (pa_cons pe_int pa_nil))))) (pe_own c_law_draw (hr.mono (by decide)) (pa_cons (pv 1) (pa_cons pe_int (pa_cons pe_int pa_nil)))) (fun _ _ => rfl)))
      (pss_cons (ps_set (i := 5) sc_law_watches.nd rfl (.inl rfl) (pe_lst pa_nil))
      (pss_cons (ps_set (i := 6) sc_law_watches.nd rfl (.inl rfl) pe_int)
      (pss_cons (ps_while PassesOwn.never (PW.pt (pw_and (pt_cmpR op_lt (pv 6) (pe_callB (call_min2 rfl) (by rfl) B.min_ b_min (pa_cons (pe_callB call_len_seq (by rfl) B.len b_len (pa_cons (pv 0) pa_nil)) (pa_cons pe_int pa_nil))) (nomark _)) (pw_and1 (pt_cmpR op_lt (pe_callB call_len_seq (by rfl) B.len b_len (pa_cons (pv 5) pa_nil)) pe_int (nomark _))))) (pss_cons (ps_set (i := 7) sc_law_watches.nd rfl (.inl rfl) (pe_op op_add pe_int (pe_own c_law_draw (hr.mono (by decide)) (pa_cons (pe_ix ix_list (pv 0) (pv 6) (fun _ _ => rfl)) (pa_cons pe_int (pa_cons (pv 4) pa_nil))))))
      (pss_cons (ps_setLc (i := 8) (own := [("cell", 10)]) rfl sc_law_watches.nd rfl rfl (sw_true rfl rfl rfl (by decide +kernel)) (pi_list (pe_slice sl_list (pv 0) (po_some (pv 6)) (po_some (pe_callB (call_min2 rfl) (by rfl) B.min_ b_min (pa_cons (pe_op op_add (pv 6) (pv 7)) (pa_cons pe_int pa_nil)))))) (blkOk_by (own := [("cell", 10)]) (N := N_law_watches) (sc := defScope s_law_watches) (by decide +kernel)) (fun _ _ _ _ _ => (pg_name (i := 10) sc_law_watches.nd rfl (.inl rfl))) (fun _ _ _ _ _ => pts_nil) (fun _ _ _ _ _ => (pe_own c_law_vector (hr.mono (by decide)) (pa_cons (pv 10) (pa_cons (pv 2) (pa_cons (pv 3) pa_nil))))))
      (pss_cons (ps_set (i := 9) sc_law_watches.nd rfl (.inl rfl) (pe_tup (pa_cons pe_int (pa_cons pe_int pa_nil))))
      (Evl.pss_cut (ps_if (pt_cmpR op_eq (pe_own c_law_draw (hr.mono (by decide)) (pa_cons (pe_ix ix_list (pv 0) (pv 6) (fun _ _ => rfl)) (pa_cons pe_int (pa_cons pe_int pa_nil)))) pe_int (nomark _)) (pss_one (ps_set (i := 9) sc_law_watches.nd rfl (.inl rfl) (pe_own c_law_vector (hr.mono (by decide)) (pa_cons (pe_op op_add (pe_ix ix_list (pv 0) (pv 6) (fun _ _ => rfl)) pe_int) (pa_cons (pv 2) (pa_cons (pv 3) pa_nil)))))) pss_nil)
      (pss_cons (ps_expr (pe_bm PySem.F.plainAttrs_list PySem.F.slot_list_append PySem.F.type_list_append mt_append (pv 5) (pa_cons (pe_tup (pa_cons (pe_callTy call_tuple_of (by rfl) B.tuple b_tuple (pa_cons (pv 8) pa_nil)) (pa_cons (pv 9) pa_nil))) pa_nil)))
      (pss_one (ps_set (i := 6) sc_law_watches.nd rfl (.inl rfl) (pe_op op_add (pv 6) (pv 7))))))))))
      (pss_one (ps_ret (pe_callTy call_tuple_of (by rfl) B.tuple b_tuple (pa_cons (pv 5) pa_nil))))))))))))), ?_⟩
    refine ⟨_, rfl, a, ns, 0, rfl, ha, ?_⟩
    generalize hbs : ns.getD 0 0 = bs0
    refine ⟨_, rfl, _, _, rfl, rfl, (by show (0 : Int) < 2; decide), rfl, _, rfl, ?_⟩
    refine ite2 (fun h1 => ?_) (fun h1 => ?_)
    · have h1 := of_decide_eq_true h1
      injection h1 with h1
      refine ⟨_, rfl, a, ns, rfl, ha, fun z => ?_, hlen, k⟩
      rw [z] at hbs
      rw [← hbs] at h1
      exact absurd h1 (by decide)
    -- far
    refine ⟨_, _, rfl, rfl, ⟨by decide, by decide, by decide⟩, _, _, rfl, rfl, ⟨by decide, by decide, by decide⟩, (by show 5 ≤ sizeLine; decide), fun tl ntl => ?_⟩
    have s0 := same_new (o := .lst [.int 3, .int 3, .int 12, .int (10 ^ (9 : Int).toNat), .int (10 ^ (40 : Int).toNat)]) ntl
    refine ⟨_, rfl, bs0, 1, 5, rfl, by decide, by decide, by decide, fun r r0 r1 => ?_⟩
    obtain ⟨far, hfar, f0, f40⟩ := pick5 r0 r1
    refine ⟨tl, _, _, _, rfl, rfl, l_of upd_same, hfar, ?_⟩
    -- line
    show Evl.tCut _ _ _ _ _
    refine ⟨fun σ' H' => ∃ lv : V, σ' = [some (.ref a), some (.int bs0), some (.int far), some lv, none, none, none, none, none, none, none] ∧ Same H H' ∧ LineOk K H' lv, ?_, ?_⟩
    · refine ⟨_, rfl, bs0, 4, 5, rfl, by decide, by decide, by decide, fun r2 _ _ => ?_⟩
      refine ⟨rfl, _, rfl, ?_⟩
      refine ite2 (fun h2 => ?_) (fun h2 => ?_)
      · refine ⟨_, rfl, bs0, 5, 7, rfl, by decide, by decide, by decide, fun x x0 x1 => ?_⟩
        refine ⟨_, _, rfl, rfl, _, rfl, bs0, 6, 7, rfl, by decide, by decide, by decide, fun y y0 y1 => ?_⟩
        refine ⟨_, _, rfl, rfl, (by show 2 ≤ sizeLine; decide), fun t nt => ?_⟩
        refine ⟨.ref t, rfl, s0.trans (same_new nt), .inr ⟨t, (x - 3, y - 3), rfl, t_of upd_same, ?_, ?_⟩⟩
        · show (x - 3).natAbs ≤ 3; omega
        · show (y - 3).natAbs ≤ 3; omega
      · exact ⟨.non, rfl, s0, .inl rfl⟩
    · rintro σ' H1 ⟨lv, rfl, s1, hline⟩
      -- most
      refine ⟨(by show 4 ≤ sizeLine; decide), fun tm ntm => ?_⟩
      have sm := s1.trans (same_new (o := .lst [.int 3, .int 3, .int 5, .int 12]) ntm)
      refine ⟨_, rfl, bs0, 8, 4, rfl, by decide, by decide, by decide, fun r2 r20 r21 => ?_⟩
      obtain ⟨most, hmost, m0, m1⟩ := pick4 r20 r21
      refine ⟨tm, _, _, _, rfl, rfl, l_of upd_same, hmost, ?_⟩
      -- watches = []; at = 1
      refine ⟨Nat.zero_le _, fun l nl => ?_⟩
      have s2 := sm.trans (same_new (o := .lst []) nl)
      have nl0 : H l = none := sm.free nl
      have hline2 := (hline.same (same_new (o := .lst [.int 3, .int 3, .int 5, .int 12]) ntm)).same (same_new (o := .lst []) nl)
      refine ⟨fun m σ H' => ∃ (n : Nat) (ws : List Wa) (y7 y8 y9 : Option V), m = 61 - n ∧ σ = [some (.ref a), some (.int bs0), some (.int far), some lv, some (.int most), some (.ref l), some (.int (n : Int)), y7, y8, y9, none] ∧ Same H H' ∧ LineOk K H' lv ∧ H' l = some (.lst (ws.map fun u => V.ref u.1)) ∧ 1 ≤ n ∧ WsOk K H' ws (min n 61),
        ⟨_, 1, [], none, none, none, rfl, rfl, s2, hline2, upd_same, Nat.le_refl _, ⟨fun u h => (by cases h), by decide, by decide⟩⟩, fun m σ H' hW => ?_⟩
      obtain ⟨n, ws, y7, y8, y9, rfl, rfl, s3, hl3, hl, hn1, hws⟩ := hW
      have ha2 := s3.seq ha
      have stop : ∀ t, H' t = none → Q (.ref t) (L2.upd H' t (.tup (ws.map fun u => V.ref u.1))) := fun t nt =>
        k _ t ws (s3.trans (same_new nt)) (s3.free nt) upd_same ((hws.same (same_new nt)).mono (Nat.min_le_right _ _))
      refine ⟨_, rfl, _, rfl, a, _, rfl, .inl ha2, _, _, rfl, _, _, rfl, rfl, _, rfl, ?_⟩
      rw [List.length_map, min61]
      refine ite2 (fun h1 => ?_) (fun h1 => ?_)
      · have h1 := of_decide_eq_true h1
        have hn : n < ns.length ∧ n < 61 := by omega
        refine ⟨_, rfl, l, _, rfl, .inl (l_of hl), _, _, rfl, rfl, _, rfl, ?_⟩
        refine ite2 (fun h2 => ?_) (fun h2 => ?_)
        · have h2 := of_decide_eq_true h2
          rw [List.length_map] at h2
          have hw12 : ws.length < 12 := by omega
          refine ⟨_, fun σ' H' z => z, ?_⟩
          -- size
          refine ⟨_, rfl, _, rfl, a, _, _, _, rfl, rfl, ha2, cell_get hn.1, _, rfl, _, 7, most, rfl, by decide, by decide, m0, fun zi zi0 zi1 => ?_⟩
          obtain ⟨z, rfl⟩ : ∃ z : Nat, zi = (z : Int) := ⟨zi.toNat, by omega⟩
          refine ⟨_, _, rfl, rfl, ?_⟩
          -- wind
          refine ⟨_, rfl, _, rfl, _, rfl, _, rfl, _, rfl, _, _, rfl, rfl, _, _, rfl, _, rfl, a, _, rfl, ha2, fun cp ncp => ?_⟩
          obtain ⟨cs, ecs, lcs⟩ := cut_cells ns n (min (n + (1 + z)) 61)
          have ecs' : cutV (ns.map V.int) (some (n : Int)) (some (if (61 : Int) < ((n : Int) + (1 + (z : Int))) then (61 : Int) else ((n : Int) + (1 + (z : Int))))) = cs.map V.int := by
            rw [← ecs]
            have e1 : ((n : Int) + (1 + (z : Int))) = ((n + (1 + z) : Nat) : Int) := by omega
            rw [e1, min61]
          rw [ecs']
          have s5 := same_new (o := .lst (cs.map V.int)) ncp
          refine ⟨cp, rfl, ⟨_, l_of upd_same⟩, fun D nD => lc_list (K := K) (a := cp) (xs := cs.map V.int) (fun i H4 => ∃ bs : List Pt, Same (L2.upd H' cp (.lst (cs.map V.int))) H4 ∧ H4 D = some (.lst (refs bs)) ∧ PL K H4 bs ∧ bs.length = i ∧ ∀ q ∈ bs, In (2 ^ 138) q.2)
            ⟨[], same_new nD, upd_same, fun q h => (by cases h), rfl, fun q h => (by cases h)⟩ (fun i H4 _ h => by obtain ⟨_, s6, _⟩ := h; exact l_of (s6 _ _ upd_same)) ?_ ?_⟩
          · rintro i x H4 hi ⟨bs, s6, hD, pb, lb, ib⟩
            rw [List.getElem?_map] at hi
            obtain ⟨c, hc, rfl⟩ := Option.map_eq_some_iff.mp hi
            have hic : i < cs.length := (List.getElem?_eq_some_iff.mp hc).1
            refine ⟨rfl, ?_⟩
            refine ⟨_, rfl, _, rfl, _, rfl, c, far, lv, rfl, f0, f40, hl3.same (s5.trans s6), fun H5 t5 p5 s7 n5 h5 i5 => ?_⟩
            refine ⟨_, s7 _ _ hD, line_lt (by rw [List.length_map]; omega), bs ++ [(t5, p5)], same_mut (s6.trans s7) nD, ?_, ?_, by rw [List.length_append, List.length_singleton, lb], fun q hq => ?_⟩
            · rw [upd_same, refs, refs, List.map_append] <;> rfl
            · exact pl_upd (pl_snoc (same_pl s7 pb) (t_of h5)) (s7 _ _ hD)
            · rcases List.mem_append.mp hq with y | y
              · exact ib q y
              · rw [List.mem_singleton.mp y]; exact i5
          · rintro H4 ⟨bs, s6, hD, pb, lb, ib⟩
            rw [List.length_map] at lb
            have s46 := s5.trans s6
            -- stream
            refine ⟨(by show 2 ≤ sizeLine; decide), fun t0 n0 => ?_⟩
            have st0 := same_new (o := .tup [.int 0, .int 0]) n0
            show Evl.tCut _ _ _ _ _
            refine ⟨fun σ' H5 => ∃ (sa : Addr) (p : P2), σ' = [some (.ref a), some (.int bs0), some (.int far), some lv, some (.int most), some (.ref l), some (.int (n : Int)), some (.int (1 + (z : Int))), some (.ref D), some (.ref sa), none] ∧ Same H4 H5 ∧ SqT K H5 sa (v2 p) ∧ In (2 ^ 138) p, ?_, ?_⟩
            · have ha4 := (s46.trans st0).seq ha2
              refine ⟨_, rfl, _, rfl, a, _, _, _, rfl, rfl, ha4, cell_get hn.1, _, 9, 2, rfl, by decide, by decide, by decide, fun r3 _ _ => ?_⟩
              refine ⟨rfl, _, rfl, ?_⟩
              refine ite2 (fun h3 => ?_) (fun h3 => ?_)
              · refine ⟨_, rfl, _, rfl, a, _, _, _, rfl, rfl, ha4, cell_get hn.1, _, _, rfl, rfl, _, rfl, _, rfl, _, far, lv, rfl, f0, f40, hl3.same (s46.trans st0), fun H5 t5 p5 s7 n5 h5 i5 => ?_⟩
                exact ⟨t5, p5, rfl, st0.trans s7, t_of h5, i5⟩
              · exact ⟨t0, zz, rfl, st0, t_of upd_same, ⟨Nat.zero_le _, Nat.zero_le _⟩⟩
            · rintro σ' H5 ⟨sa, p, rfl, s7, hsa, isa⟩
              have s47 := s46.trans s7
              refine ⟨_, rfl, .inl ⟨rfl, _, l_of (s47 _ _ hl)⟩, _, rfl, D, _, rfl, .inl ⟨l_of (s7 _ _ hD), fun tw ntw => ?_⟩⟩
              have s8 := same_new (o := .tup (refs bs)) ntw
              refine ⟨_, rfl, (by show 2 ≤ sizeLine; decide), fun t10 n10 => ?_⟩
              have s10 := same_new (o := .tup [.ref tw, .ref sa]) n10
              have sall := (s47.trans s8).trans s10
              refine ⟨l, _, .ref t10, rfl, rfl, sall _ _ hl, line_lt (by rw [List.length_map]; omega), ?_⟩
              refine ⟨_, rfl, _, rfl, _, _, rfl, rfl, 61 - (n + (1 + z)), by omega, n + (1 + z), ws ++ [(t10, (pts bs, p))], some (.int (1 + (z : Int))), some (.ref D), some (.ref sa), rfl, ?_, same_mut (s3.trans sall) nl0, ?_, ?_, by omega, ?_⟩
              · show [some (V.ref a), some (V.int bs0), some (V.int far), some lv, some (V.int most), some (V.ref l), some (V.int ((n : Int) + (1 + (z : Int)))), some (.int (1 + (z : Int))), some (.ref D), some (.ref sa), none] = _
                rw [show (n : Int) + (1 + (z : Int)) = ((n + (1 + z) : Nat) : Int) by omega]
              · rcases hl3.same sall with e | ⟨la, lp, e, h, i⟩
                · exact .inl e
                · exact .inr ⟨la, lp, e, t_upd h (sall _ _ hl), i⟩
              · rw [upd_same, List.map_append] <;> rfl
              · have lbs : (pts bs).length = min (min (n + (1 + z)) 61) ns.length - min n ns.length := by rw [List.length_map, lb, lcs]
                refine ((hws.same sall).snoc (u := (t10, (pts bs, p))) ?_ ?_ ?_ hw12).upd (sall _ _ hl)
                · exact ⟨tw, sa, bs, t_of upd_same, same_t s10 (t_of upd_same), same_pl ((s7.trans s8).trans s10) pb, rfl, same_t (s8.trans s10) hsa⟩
                · refine ⟨fun y => ?_, ?_, fun q hq => ?_, isa⟩
                  · have y' : pts bs = [] := y
                    rw [y'] at lbs
                    simp at lbs
                    omega
                  · show (pts bs).length ≤ 12
                    omega
                  · obtain ⟨r, hr', e⟩ := List.mem_map.mp hq
                    rw [← e]; exact ib r hr'
                · show min n 61 + (pts bs).length ≤ min (n + (1 + z)) 61
                  omega
        · refine ⟨_, rfl, l, _, rfl, .inl ⟨l_of hl, fun t nt => stop t nt⟩⟩
      · refine iteF ?_
        refine ⟨_, rfl, l, _, rfl, .inl ⟨l_of hl, fun t nt => stop t nt⟩⟩
end
end CHr

set_option maxRecDepth 100000
set_option maxHeartbeats 8000000
namespace CHr
open PySem PySem.Spec PyProof.Rows L2 CH
abbrev s_law_dot : Stmt := topS 22
abbrev N_law_dot : List Str := ["one", "other"]
theorem sc_law_dot : FnScope N_law_dot ["one", "other"] (defScope s_law_dot) := ⟨rfl, rfl, rfl, by decide +kernel, rfl, by decide +kernel, by decide +kernel⟩
abbrev s_law_far : Stmt := topS 23
abbrev N_law_far : List Str := ["watches", "bearing", "total", "wind", "stream", "heading"]
theorem sc_law_far : FnScope N_law_far ["watches", "bearing"] (defScope s_law_far) := ⟨rfl, rfl, rfl, by decide +kernel, rfl, by decide +kernel, by decide +kernel⟩
abbrev s_law_out : Stmt := topS 25
abbrev N_law_out : List Str := ["one", "other"]
theorem sc_law_out : FnScope N_law_out ["one", "other"] (defScope s_law_out) := ⟨rfl, rfl, rfl, by decide +kernel, rfl, by decide +kernel, by decide +kernel⟩
abbrev s_law_met : Stmt := topS 27
abbrev N_law_met : List Str := ["watches", "bearing", "corner"]
theorem sc_law_met : FnScope N_law_met ["watches", "bearing", "corner"] (defScope s_law_met) := ⟨rfl, rfl, rfl, by decide +kernel, rfl, by decide +kernel, by decide +kernel⟩
def spDot (K : PySem.W.Frag) : Sp := fun vs H Q _ => ∃ (a b : Addr) (p q : P2), vs = [.ref a, .ref b] ∧ SqT K H a (v2 p) ∧ SqT K H b (v2 q) ∧ S p ∧ S q ∧ Q (.int (dt p q)) H
def spOut (K : PySem.W.Frag) : Sp := fun vs H Q _ => ∃ (a b : Addr) (p q : P2), vs = [.ref a, .ref b] ∧ SqT K H a (v2 p) ∧ SqT K H b (v2 q) ∧ ∀ t, H t = none → Q (.ref t) (upd H t (.tup (v2 (outw p q))))
/-- the watches as the law hands them on -/
structure WsAt (K : PySem.W.Frag) (H : Hp) (a : Addr) (ws : List Wa) : Prop where
  tup : SqT K H a (ws.map fun u => V.ref u.1)
  each : ∀ u ∈ ws, WatchAt K H u.1 u.2 ∧ Good u.2
  len : ws.length ≤ 12
theorem WsAt.same {K : PySem.W.Frag} {H H' : Hp} {a : Addr} {ws : List Wa} (w : WsAt K H a ws) (s : Same H H') : WsAt K H' a ws := ⟨same_t s w.tup, fun u hu => ⟨same_w s (w.each u hu).1, (w.each u hu).2⟩, w.len⟩
def spFar (K : PySem.W.Frag) : Sp := fun vs H Q _ => ∃ (a b : Addr) (ws : List Wa) (p : P2), vs = [.ref a, .ref b] ∧ WsAt K H a ws ∧ SqT K H b (v2 p) ∧ S p ∧ ∀ H', Same H H' → Q (.int (farOf (ws.map (·.2)) p)) H'
def spMet (K : PySem.W.Frag) : Sp := fun vs H Q _ => ∃ (a b c : Addr) (ws : List Wa) (p q : P2), vs = [.ref a, .ref b, .ref c] ∧ WsAt K H a ws ∧ SqT K H b (v2 p) ∧ SqT K H c (v2 q) ∧ S p ∧ S q ∧ ∀ H', Same H H' → Q (.bl (decide (farOf (ws.map (·.2)) p = dt p q))) H'
theorem farOf_snoc (L : List Wt) (u : Wt) (p : P2) : farOf (L ++ [u]) p = farOf L p + farw p u := by
  unfold farOf
  rw [List.map_append, List.sum_append]
  simp
theorem in_S {M : Nat} (hM : M < 2 ^ 150) {p : P2} (h : In M p) : S p := ⟨Nat.lt_of_le_of_lt h.1 hM, Nat.lt_of_le_of_lt h.2 hM⟩
theorem dec_int (x y : Int) : decide (V.int x = V.int y) = decide (x = y) := by
  by_cases h : x = y
  · rw [decide_eq_true h, decide_eq_true (by rw [h])]
  · rw [decide_eq_false h, decide_eq_false (fun z => h (V.int.inj z))]
section
variable {P : Program} {w : World} {K : PySem.W.Frag} {mg : Str → Option Value} {base : Heap}
theorem ok_law_dot {f : Addr} {fd : FuncData} (F : Fun K "_law_dot" "_law_dot" s_law_dot f fd) : FnOk P w K mg base CX0 1 f fd ["one", "other"] (spDot K) := by
  refine F.ok sc_law_dot (fun vs H Q E h => ?_) (fun cdv A outer s H vs Q E hr h => ?_)
  · obtain ⟨a, b, p, q, rfl, _⟩ := h
    rfl
  · obtain ⟨a, b, p, q, rfl, ha, hb, hp, hq, k⟩ := h
    refine ⟨_, (pss_one (ps_ret (pe_op op_add (pe_op op_mulW (pe_ix (ix_tupK K rfl) (pv 0) pe_int (fun _ _ => rfl)) (pe_ix (ix_tupK K rfl) (pv 1) pe_int (fun _ _ => rfl))) (pe_op op_mulW (pe_ix (ix_tupK K rfl) (pv 0) pe_int (fun _ _ => rfl)) (pe_ix (ix_tupK K rfl) (pv 1) pe_int (fun _ _ => rfl)))))), ?_⟩
    refine ⟨_, rfl, a, _, _, _, rfl, rfl, ha, rfl, _, rfl, b, _, _, _, rfl, rfl, hb, rfl, _, _, rfl, rfl, mulS hp.1 hq.1, _, rfl, a, _, _, _, rfl, rfl, ha, rfl, _, rfl, b, _, _, _, rfl, rfl, hb, rfl, _, _, rfl, rfl, mulS hp.2 hq.2, _, _, rfl, rfl, ?_⟩
    exact k
theorem ok_law_out {f : Addr} {fd : FuncData} (F : Fun K "_law_out" "_law_out" s_law_out f fd) : FnOk P w K mg base CX0 1 f fd ["one", "other"] (spOut K) := by
  refine F.ok sc_law_out (fun vs H Q E h => ?_) (fun cdv A outer s H vs Q E hr h => ?_)
  · obtain ⟨a, b, p, q, rfl, _⟩ := h
    rfl
  · obtain ⟨a, b, p, q, rfl, ha, hb, k⟩ := h
    refine ⟨_, (pss_one (ps_ret (pe_tup (pa_cons (pe_op op_sub (pe_ix (ix_tupK K rfl) (pv 1) pe_int (fun _ _ => rfl)) (pe_ix (ix_tupK K rfl) (pv 0) pe_int (fun _ _ => rfl))) (pa_cons (pe_op op_sub (pe_ix (ix_tupK K rfl) (pv 0) pe_int (fun _ _ => rfl)) (pe_ix (ix_tupK K rfl) (pv 1) pe_int (fun _ _ => rfl))) pa_nil))))), ?_⟩
    refine ⟨_, rfl, b, _, _, _, rfl, rfl, hb, rfl, _, rfl, a, _, _, _, rfl, rfl, ha, rfl, _, _, rfl, rfl, _, rfl, a, _, _, _, rfl, rfl, ha, rfl, _, rfl, b, _, _, _, rfl, rfl, hb, rfl, _, _, rfl, rfl, (by show 2 ≤ sizeLine; decide), ?_⟩
    exact k
theorem ok_law_far {f : Addr} {fd : FuncData} (F : Fun K "_law_far" "_law_far" s_law_far f fd) (B : Bl mg) (c_law_dot : Cal P w K mg base 1 "_law_dot" ["one", "other"] (spDot K)) : FnOk P w K mg base CX0 2 f fd ["watches", "bearing"] (spFar K) := by
  refine F.ok sc_law_far (fun vs H Q E h => ?_) (fun cdv A outer s H vs Q E hr h => ?_)
  · obtain ⟨a, b, ws, p, rfl, _⟩ := h
    rfl
  · obtain ⟨a, b, ws, p, rfl, hw, hb, hp, k⟩ := h
    refine ⟨_, (pss_cons (ps_set (i := 2) sc_law_far.nd rfl (.inl rfl) pe_int)
      (pss_cons (ps_for PassesOwn.never rfl (pi_tup (pv 0)) (pg_tupK K 2 rfl rfl (pgs_cons (pg_name (i := 3) sc_law_far.nd rfl (.inl rfl)) (pgs_cons (pg_name (i := 4) sc_law_far.nd rfl (.inl rfl)) pgs_nil))) (pss_one (ps_set (i := 2) sc_law_far.nd rfl (.inl rfl) (pe_op op_add (pe_op op_add (pv 2) (pe_callB (cr_max rfl) (by rfl) B.max_ b_max (pa_cons (pe_lc (own := [("heading", 5)]) rfl sc_law_far.nd (pi_tup (pv 3)) (blkOk_by (own := [("heading", 5)]) (N := N_law_far) (sc := defScope s_law_far) (by decide +kernel)) (fun _ _ _ _ _ => (pg_name (i := 5) sc_law_far.nd rfl (.inl rfl))) (fun _ _ _ _ _ => pts_nil) (fun _ _ _ _ _ => (pe_own c_law_dot (hr.mono (by decide)) (pa_cons (pv 1) (pa_cons (pv 5) pa_nil))))) pa_nil))) (pe_own c_law_dot (hr.mono (by decide)) (pa_cons (pv 1) (pa_cons (pv 4) pa_nil)))))))
      (pss_one (ps_ret (pv 2))))), ?_⟩
    refine ⟨_, rfl, a, rfl, ⟨_, hw.tup⟩, for_tup (K := K) (a := a) (xs := ws.map fun u => V.ref u.1) (fun i σ H' => ∃ (v3 v4 : Option V), σ = [some (.ref a), some (.ref b), some (.int (farOf ((ws.map (·.2)).take i) p)), v3, v4, none] ∧ Same H H')
      ⟨none, none, rfl, Same.refl H⟩ (fun i σ H' _ h => by obtain ⟨_, _, _, s1⟩ := h; exact same_t s1 hw.tup) ?_ ?_⟩
    · rintro i x σ H' hi ⟨x3, x4, rfl, s1⟩
      rw [List.getElem?_map] at hi
      obtain ⟨u, hu, rfl⟩ := Option.map_eq_some_iff.mp hi
      obtain ⟨w1, g⟩ := hw.each u (List.mem_of_getElem? hu)
      obtain ⟨wa, sa, as, h1, h2, h3, h4, h5⟩ := same_w s1 w1
      have hb1 := same_t s1 hb
      refine ⟨u.1, _, rfl, h1, rfl, _, _, rfl, _, _, rfl, rfl, ?_⟩
      have la : as.length ≤ 12 := by rw [len_of h4]; exact g.len
      refine ⟨_, rfl, .ref wa, rfl, wa, rfl, ⟨_, h2⟩, fun D nD => lc_tup (K := K) (a := wa) (xs := refs as) (fun j H2 => Same H' H2 ∧ H2 D = some (.lst ((((pts as).take j).map (dt p)).map V.int))) ⟨same_new nD, upd_same⟩
        (fun j H2 _ h => same_t h.1 h2) ?_ ?_⟩
      · rintro j y H2 hj ⟨s2, hD⟩
        obtain ⟨q, hq, rfl⟩ := refs_get hj
        have iq : In (2 ^ 138) q.2 := g.hd _ (by rw [← h4]; exact List.mem_map.mpr ⟨q, List.mem_of_getElem? hq, rfl⟩)
        have jl : j < as.length := (List.getElem?_eq_some_iff.mp hq).1
        refine ⟨rfl, ?_⟩
        refine ⟨_, rfl, _, rfl, b, q.1, p, q.2, rfl, same_t s2 hb1, same_t s2 (h3 q (List.mem_of_getElem? hq)), hp, in_S (by decide) iq, ?_⟩
        refine ⟨_, hD, line_lt (by rw [List.length_map, List.length_map, List.length_take, List.length_map]; omega), same_mut s2 nD, ?_⟩
        rw [upd_same, List.take_succ, pts_at hq, List.map_append, List.map_append] <;> rfl
      · rintro H2 ⟨s2, hD⟩
        rw [List.length_map, show as.length = (pts as).length by rw [List.length_map], List.take_length, h4] at hD
        refine ⟨D, u.2.1.map (dt p), rfl, l_of hD, by rw [List.length_map]; exact List.length_pos_iff.mpr g.ne, fun m hm hle => ?_⟩
        have em : m = maxL (u.2.1.map (dt p)) := maxL_eq hm hle
        refine ⟨_, _, rfl, rfl, _, rfl, _, rfl, b, sa, p, u.2.2, rfl, same_t s2 hb1, same_t s2 h5, hp, in_S (by decide) g.st, _, _, rfl, rfl, some (.ref wa), some (.ref sa), ?_, s1.trans s2⟩
        show [some (V.ref a), some (V.ref b), some (V.int (farOf ((ws.map (·.2)).take i) p + m + dt p u.2.2)), some (V.ref wa), some (V.ref sa), none] = _
        have e : farOf ((ws.map (·.2)).take i) p + m + dt p u.2.2 = farOf ((ws.map (·.2)).take (i + 1)) p := by
          rw [List.take_succ, List.getElem?_map, hu]
          show _ = farOf ((ws.map (·.2)).take i ++ [u.2]) p
          rw [farOf_snoc, em, Int.add_assoc] <;> rfl
        rw [e]
    · rintro σ H' ⟨x3, x4, rfl, s1⟩
      refine ⟨_, rfl, ?_⟩
      have e : (ws.map (·.2)).take (ws.map fun u : Wa => V.ref u.1).length = ws.map (·.2) := by
        rw [List.length_map, show ws.length = (ws.map (·.2)).length by rw [List.length_map], List.take_length]
      show Q (.int (farOf ((ws.map (·.2)).take (ws.map fun u : Wa => V.ref u.1).length) p)) H'
      rw [e]
      exact k H' s1
theorem ok_law_met {f : Addr} {fd : FuncData} (F : Fun K "_law_met" "_law_met" s_law_met f fd) (c_law_far : Cal P w K mg base 2 "_law_far" ["watches", "bearing"] (spFar K)) (c_law_dot : Cal P w K mg base 1 "_law_dot" ["one", "other"] (spDot K)) : FnOk P w K mg base CX0 3 f fd ["watches", "bearing", "corner"] (spMet K) := by
  refine F.ok sc_law_met (fun vs H Q E h => ?_) (fun cdv A outer s H vs Q E hr h => ?_)
  · obtain ⟨a, b, c, ws, p, q, rfl, _⟩ := h
    rfl
  · obtain ⟨a, b, c, ws, p, q, rfl, hw, hb, hc, hp, hq, k⟩ := h
    refine ⟨_, (pss_one (ps_ret (pe_cmpR op_eq (pe_own c_law_far (hr.mono (by decide)) (pa_cons (pv 0) (pa_cons (pv 1) pa_nil))) (pe_own c_law_dot (hr.mono (by decide)) (pa_cons (pv 1) (pa_cons (pv 2) pa_nil))) (nomark _)))), ?_⟩
    refine ⟨_, rfl, _, rfl, a, b, ws, p, rfl, hw, hb, hp, fun H1 s1 => ?_⟩
    refine ⟨_, rfl, _, rfl, b, c, p, q, rfl, same_t s1 hb, same_t s1 hc, hp, hq, rfl, ?_⟩
    rw [dec_int]
    exact k H1 s1
end
end CHr

set_option maxRecDepth 100000
set_option maxHeartbeats 8000000
namespace CHr
open PySem PySem.Spec PyProof.Rows L2 CH
abbrev s_law_same : Stmt := topS 24
abbrev N_law_same : List Str := ["found", "due", "k"]
theorem sc_law_same : FnScope N_law_same ["found", "due"] (defScope s_law_same) := ⟨rfl, rfl, rfl, by decide +kernel, rfl, by decide +kernel, by decide +kernel⟩
abbrev s_law_formed : Stmt := topS 26
abbrev N_law_formed : List Str := ["corners", "corner", "number"]
theorem sc_law_formed : FnScope N_law_formed ["corners"] (defScope s_law_formed) := ⟨rfl, rfl, rfl, by decide +kernel, rfl, by decide +kernel, by decide +kernel⟩
/-- a tuple is one -/
theorem tyx_t {K : PySem.W.Frag} {H : Hp} {a : Addr} {xs : List V} (h : SqT K H a xs) : TyX K H (.ref a) (.type "tuple") := by
  rcases h with (h | ⟨o, h⟩) | ⟨o, its, n, hk, hc, _⟩
  · exact .base (.tup h)
  · exact .fTuple h
  · exact .kTuple hk hc
theorem tyx_i {K : PySem.W.Frag} {H : Hp} {i : Int} : TyX K H (.int i) (.type "int") := .base (.int i)
theorem k_tt {K : PySem.W.Frag} : PySem.W.kitOne K (.type "tuple") (.type "tuple") = some true := kit_ty (by decide +kernel)
theorem k_it {K : PySem.W.Frag} : PySem.W.kitOne K (.type "int") (.type "tuple") = some false := kit_ty (by decide +kernel)
theorem k_ii {K : PySem.W.Frag} : PySem.W.kitOne K (.type "int") (.type "int") = some true := kit_ty (by decide +kernel)
theorem k_ib {K : PySem.W.Frag} : PySem.W.kitOne K (.type "int") (.type "bool") = some false := kit_ty (by decide +kernel)
theorem k_is {K : PySem.W.Frag} : PySem.W.kitOne K (.type "int") (.type "str") = some false := kit_ty (by decide +kernel)
def spNo : Sp := fun _ _ _ _ => False
def spSameI : Sp := fun vs H Q _ => ∃ i : Int, vs = [.int i, .int i] ∧ ∀ H', Same H H' → Q (.bl true) H'
def spSameT (K : PySem.W.Frag) (R : Hp → V → V → Prop) : Sp := fun vs H Q _ => ∃ (a b : Addr) (xs ys : List V), vs = [.ref a, .ref b] ∧ SqT K H a xs ∧ SqT K H b ys ∧ xs.length = ys.length ∧ xs.length ≤ 1000 ∧ (∀ H', Same H H' → ∀ (k : Nat) (x y : V), xs[k]? = some x → ys[k]? = some y → R H' x y) ∧ ∀ H', Same H H' → Q (.bl true) H'
section
variable {P : Program} {w : World} {K : PySem.W.Frag} {mg : Str → Option Value} {base : Heap}
theorem ok_same_int {f : Addr} {fd : FuncData} (F : Fun K "_law_same" "_law_same" s_law_same f fd) (B : Bl mg) (c_law_same : Cal P w K mg base 0 "_law_same" ["found", "due"] spNo) : FnOk P w K mg base CX0 1 f fd ["found", "due"] spSameI := by
  refine F.ok sc_law_same (fun vs H Q E h => ?_) (fun cdv A outer s H vs Q E hr h => ?_)
  · obtain ⟨i, rfl, _⟩ := h
    rfl
  · obtain ⟨i, rfl, k⟩ := h
    refine ⟨_, (pss_cons (ps_if (pt_val (pe_callB call_isi (by rfl) B.isinstance b_isinstance (pa_cons (pv 1) (pa_cons (pe_bltn (v := .ty "tuple") (by rfl) B.tuple b_tuple rfl) pa_nil)))) (pss_cons (ps_if (PW.pt (pw_or (pt_not (pt_val (pe_callB call_isi (by rfl) B.isinstance b_isinstance (pa_cons (pv 0) (pa_cons (pe_bltn (v := .ty "tuple") (by rfl) B.tuple b_tuple rfl) pa_nil))))) (pw_or1 (pt_cmpR op_ne (pe_callB call_len_seq (by rfl) B.len b_len (pa_cons (pv 0) pa_nil)) (pe_callB call_len_seq (by rfl) B.len b_len (pa_cons (pv 1) pa_nil)) (nomark _))))) (pss_one (ps_ret pe_bl)) pss_nil)
      (pss_one (ps_ret (pe_callB (cr_all rfl) (by rfl) B.all_ b_all (pa_cons (pe_lc (own := [("k", 2)]) rfl sc_law_same.nd (pi_range1 (by rfl) B.range (pa_cons (pe_callB call_len_seq (by rfl) B.len b_len (pa_cons (pv 1) pa_nil)) pa_nil)) (blkOk_by (own := [("k", 2)]) (N := N_law_same) (sc := defScope s_law_same) (by decide +kernel)) (fun _ _ _ _ _ => (pg_name (i := 2) sc_law_same.nd rfl (.inl rfl))) (fun _ _ _ _ _ => pts_nil) (fun _ _ _ _ _ => (pe_own c_law_same (hr.mono (by decide)) (pa_cons (pe_ix (ix_tupK K rfl) (pv 0) (pv 2) (fun _ _ => rfl)) (pa_cons (pe_ix (ix_tupK K rfl) (pv 1) (pv 2) (fun _ _ => rfl)) pa_nil))))) pa_nil))))) pss_nil)
      (pss_cons (ps_if (pt_cmpR op_isN (pv 1) pe_non (nomark _)) (pss_one (ps_ret (pe_cmpR op_isN (pv 0) pe_non (nomark _)))) pss_nil)
      (pss_cons (ps_if (pt_val (pe_callB call_isi (by rfl) B.isinstance b_isinstance (pa_cons (pv 1) (pa_cons (pe_bltn (v := .ty "str") (by rfl) B.str_ b_str rfl) pa_nil)))) (pss_one (ps_ret (pe_and (pe_callB call_isi (by rfl) B.isinstance b_isinstance (pa_cons (pv 0) (pa_cons (pe_bltn (v := .ty "str") (by rfl) B.str_ b_str rfl) pa_nil))) (pe_one (pe_cmpR op_eq (pv 0) (pv 1) (nomark _)))))) pss_nil)
      (pss_cons (ps_if (pt_val (pe_callB call_isi (by rfl) B.isinstance b_isinstance (pa_cons (pv 1) (pa_cons (pe_bltn (v := .ty "bool") (by rfl) B.bool_ b_bool rfl) pa_nil)))) (pss_one (ps_ret (pe_and (pe_callB call_isi (by rfl) B.isinstance b_isinstance (pa_cons (pv 0) (pa_cons (pe_bltn (v := .ty "bool") (by rfl) B.bool_ b_bool rfl) pa_nil))) (pe_one (pe_cmpR op_eq (pv 0) (pv 1) (nomark _)))))) pss_nil)
      (pss_one (ps_ret (pe_and (pe_callB call_isi (by rfl) B.isinstance b_isinstance (pa_cons (pv 0) (pa_cons (pe_bltn (v := .ty "int") (by rfl) B.int_ b_int rfl) pa_nil))) (pe_and (pe_not (pe_callB call_isi (by rfl) B.isinstance b_isinstance (pa_cons (pv 0) (pa_cons (pe_bltn (v := .ty "bool") (by rfl) B.bool_ b_bool rfl) pa_nil)))) (pe_one (pe_cmpR op_eq (pv 0) (pv 1) (nomark _))))))))))), ?_⟩
    refine ⟨_, rfl, _, _, _, _, false, rfl, .ty _, tyx_i, k_it, _, rfl, iteF ?_⟩
    refine ⟨_, rfl, rfl, _, rfl, iteF ?_⟩
    refine ⟨_, rfl, _, _, _, _, false, rfl, .ty _, tyx_i, k_is, _, rfl, iteF ?_⟩
    refine ⟨_, rfl, _, _, _, _, false, rfl, .ty _, tyx_i, k_ib, _, rfl, iteF ?_⟩
    refine ⟨_, rfl, _, _, _, _, true, rfl, .ty _, tyx_i, k_ii, _, rfl, iteT ?_⟩
    refine ⟨_, rfl, _, _, _, _, false, rfl, .ty _, tyx_i, k_ib, _, rfl, _, rfl, iteT ?_⟩
    refine ⟨_, rfl, _, rfl, rfl, ?_⟩
    rw [decide_eq_true rfl]
    exact k H (Same.refl H)
theorem ok_same_tup {f : Addr} {fd : FuncData} {n : Nat} {R : Hp → V → V → Prop} {spE : Sp} (hE : ∀ H x y (Q : VK), R H x y → (∀ H', Same H H' → Q (.bl true) H') → spE [x, y] H Q E0) (F : Fun K "_law_same" "_law_same" s_law_same f fd) (B : Bl mg) (c_law_same : Cal P w K mg base n "_law_same" ["found", "due"] spE) :
    FnOk P w K mg base CX0 (n + 1) f fd ["found", "due"] (spSameT K R) := by
  refine F.ok sc_law_same (fun vs H Q E h => ?_) (fun cdv A outer s H vs Q E hr h => ?_)
  · obtain ⟨a, b, xs, ys, rfl, _⟩ := h
    rfl
  · obtain ⟨a, b, xs, ys, rfl, ha, hb, hl, hz, hR, k⟩ := h
    have hn : n ≤ n := Nat.le_refl n
    refine ⟨_, (pss_cons (ps_if (pt_val (pe_callB call_isi (by rfl) B.isinstance b_isinstance (pa_cons (pv 1) (pa_cons (pe_bltn (v := .ty "tuple") (by rfl) B.tuple b_tuple rfl) pa_nil)))) (pss_cons (ps_if (PW.pt (pw_or (pt_not (pt_val (pe_callB call_isi (by rfl) B.isinstance b_isinstance (pa_cons (pv 0) (pa_cons (pe_bltn (v := .ty "tuple") (by rfl) B.tuple b_tuple rfl) pa_nil))))) (pw_or1 (pt_cmpR op_ne (pe_callB call_len_seq (by rfl) B.len b_len (pa_cons (pv 0) pa_nil)) (pe_callB call_len_seq (by rfl) B.len b_len (pa_cons (pv 1) pa_nil)) (nomark _))))) (pss_one (ps_ret pe_bl)) pss_nil)
      (pss_one (ps_ret (pe_callB (cr_all rfl) (by rfl) B.all_ b_all (pa_cons (pe_lc (own := [("k", 2)]) rfl sc_law_same.nd (pi_range1 (by rfl) B.range (pa_cons (pe_callB call_len_seq (by rfl) B.len b_len (pa_cons (pv 1) pa_nil)) pa_nil)) (blkOk_by (own := [("k", 2)]) (N := N_law_same) (sc := defScope s_law_same) (by decide +kernel)) (fun _ _ _ _ _ => (pg_name (i := 2) sc_law_same.nd rfl (.inl rfl))) (fun _ _ _ _ _ => pts_nil) (fun _ _ _ _ _ => (pe_own c_law_same (hr.mono hn) (pa_cons (pe_ix (ix_tupK K rfl) (pv 0) (pv 2) (fun _ _ => rfl)) (pa_cons (pe_ix (ix_tupK K rfl) (pv 1) (pv 2) (fun _ _ => rfl)) pa_nil))))) pa_nil))))) pss_nil)
      (pss_cons (ps_if (pt_cmpR op_isN (pv 1) pe_non (nomark _)) (pss_one (ps_ret (pe_cmpR op_isN (pv 0) pe_non (nomark _)))) pss_nil)
      (pss_cons (ps_if (pt_val (pe_callB call_isi (by rfl) B.isinstance b_isinstance (pa_cons (pv 1) (pa_cons (pe_bltn (v := .ty "str") (by rfl) B.str_ b_str rfl) pa_nil)))) (pss_one (ps_ret (pe_and (pe_callB call_isi (by rfl) B.isinstance b_isinstance (pa_cons (pv 0) (pa_cons (pe_bltn (v := .ty "str") (by rfl) B.str_ b_str rfl) pa_nil))) (pe_one (pe_cmpR op_eq (pv 0) (pv 1) (nomark _)))))) pss_nil)
      (pss_cons (ps_if (pt_val (pe_callB call_isi (by rfl) B.isinstance b_isinstance (pa_cons (pv 1) (pa_cons (pe_bltn (v := .ty "bool") (by rfl) B.bool_ b_bool rfl) pa_nil)))) (pss_one (ps_ret (pe_and (pe_callB call_isi (by rfl) B.isinstance b_isinstance (pa_cons (pv 0) (pa_cons (pe_bltn (v := .ty "bool") (by rfl) B.bool_ b_bool rfl) pa_nil))) (pe_one (pe_cmpR op_eq (pv 0) (pv 1) (nomark _)))))) pss_nil)
      (pss_one (ps_ret (pe_and (pe_callB call_isi (by rfl) B.isinstance b_isinstance (pa_cons (pv 0) (pa_cons (pe_bltn (v := .ty "int") (by rfl) B.int_ b_int rfl) pa_nil))) (pe_and (pe_not (pe_callB call_isi (by rfl) B.isinstance b_isinstance (pa_cons (pv 0) (pa_cons (pe_bltn (v := .ty "bool") (by rfl) B.bool_ b_bool rfl) pa_nil)))) (pe_one (pe_cmpR op_eq (pv 0) (pv 1) (nomark _))))))))))), ?_⟩
    refine ⟨_, rfl, _, _, _, _, true, rfl, .ty _, tyx_t hb, k_tt, _, rfl, iteT ?_⟩
    refine ⟨_, rfl, _, _, _, _, true, rfl, .ty _, tyx_t ha, k_tt, _, rfl, iteF ?_⟩
    refine ⟨_, rfl, a, _, rfl, .inr ha, _, rfl, b, _, rfl, .inr hb, rfl, _, rfl, ?_⟩
    rw [dec_int, decide_eq_true (show (xs.length : Int) = (ys.length : Int) by omega)]
    refine iteF ?_
    refine ⟨_, rfl, b, _, rfl, .inr hb, _, rfl, by omega, by omega, fun D nD => lc_range (lo := 0) (n := (ys.length : Int).toNat) (fun i H' => Same H H' ∧ H' D = some (.lst ((List.replicate i true).map V.bl))) ⟨same_new nD, upd_same⟩ ?_ ?_⟩
    · rintro i H' hi ⟨s1, hD⟩
      rw [Int.toNat_natCast] at hi
      have e0 : (0 : Int) + (i : Int) = (i : Int) := Int.zero_add _
      refine ⟨rfl, ?_⟩
      obtain ⟨x, hx⟩ : ∃ x, xs[i]? = some x := ⟨_, List.getElem?_eq_getElem (by omega)⟩
      obtain ⟨y, hy⟩ : ∃ y, ys[i]? = some y := ⟨_, List.getElem?_eq_getElem hi⟩
      refine ⟨_, rfl, _, rfl, a, xs, _, x, rfl, rfl, same_t s1 ha, by rw [e0]; exact atI_nat hx, _, rfl, _, rfl, b, ys, _, y, rfl, rfl, same_t s1 hb, by rw [e0]; exact atI_nat hy, ?_⟩
      refine hE H' x y _ (hR H' s1 i x y hx hy) fun H2 s2 => ?_
      refine ⟨_, s2 _ _ hD, line_lt (by rw [List.length_map, List.length_replicate]; omega), same_mut (s1.trans s2) nD, ?_⟩
      rw [upd_same, List.replicate_succ', List.map_append] <;> rfl
    · rintro H' ⟨s1, hD⟩
      refine ⟨D, _, rfl, l_of hD, ?_⟩
      have e : ∀ m : Nat, (List.replicate m true).all id = true := fun m => by
        rw [List.all_eq_true]
        intro x hx
        rw [List.eq_of_mem_replicate hx] <;> rfl
      rw [e]
      exact k H' s1
def spFormed (K : PySem.W.Frag) : Sp := fun vs H Q _ => ∃ (a : Addr) (as : List Pt), vs = [.ref a] ∧ SqT K H a (refs as) ∧ PL K H as ∧ as ≠ [] ∧ as.length < 64 ∧ (pts as).Nodup ∧ (∀ x ∈ (pts as).tail, lexlt ((pts as).headD zz) x) ∧ ∀ H', Same H H' → Q (.bl true) H'
theorem lexLt_no {p q : P2} (h : lexlt p q) : HT.lexLt [q.1, q.2] [p.1, p.2] = false := by
  rw [lexlt_iff] at h
  rw [HT.lexLt_cons]
  split
  · rename_i e
    rw [HT.lexLt_cons]
    split
    · rfl
    · exact decide_eq_false (by omega)
  · exact decide_eq_false (by omega)
theorem set_len {as : List Pt} {L : List (Addr × List Int)} (nd : (pts as).Nodup) (hsub : ∀ p ∈ L, p ∈ as.map kOf) (hall : ∀ p ∈ as.map kOf, p.2 ∈ L.map (·.2)) (hnd : (L.map (·.2)).Nodup) : L.length = as.length := by
  have n2 : ((as.map kOf).map (·.2)).Nodup := by
    rw [show (as.map kOf).map (·.2) = (pts as).map fun z => [z.1, z.2] by rw [List.map_map, List.map_map]; rfl]
    refine List.pairwise_map.mpr (nd.imp fun {p q} h e => h ?_)
    injection e with e1 e2
    injection e2 with e2
    exact Prod.ext e1 e2
  have pm : (L.map (·.2)).Perm ((as.map kOf).map (·.2)) := (List.perm_ext_iff_of_nodup hnd n2).mpr fun z => ⟨fun h => by
    obtain ⟨p, hp, e⟩ := List.mem_map.mp h
    exact List.mem_map.mpr ⟨p, hsub p hp, e⟩, fun h => by
    obtain ⟨p, hp, e⟩ := List.mem_map.mp h
    rw [← e]
    exact hall p hp⟩
  have := pm.length_eq
  simpa using this
theorem ok_law_formed {f : Addr} {fd : FuncData} (F : Fun K "_law_formed" "_law_formed" s_law_formed f fd) (B : Bl mg) : FnOk P w K mg base CX0 1 f fd ["corners"] (spFormed K) := by
  refine F.ok sc_law_formed (fun vs H Q E h => ?_) (fun cdv A outer s H vs Q E hr h => ?_)
  · obtain ⟨a, as, rfl, _⟩ := h
    rfl
  · obtain ⟨a, as, rfl, ha, hp, hne, hlen, hnd, hlex, k⟩ := h
    refine ⟨_, (pss_cons (ps_if (PW.pt (pw_or (pt_not (pt_val (pe_callB call_isi (by rfl) B.isinstance b_isinstance (pa_cons (pv 0) (pa_cons (pe_bltn (v := .ty "tuple") (by rfl) B.tuple b_tuple rfl) pa_nil))))) (pw_or1 (pt_cmpR op_lt (pe_callB call_len_seq (by rfl) B.len b_len (pa_cons (pv 0) pa_nil)) pe_int (nomark _))))) (pss_one (ps_ret pe_bl)) pss_nil)
      (pss_cons (ps_for PassesOwn.never rfl (pi_tup (pv 0)) (pg_name (i := 1) sc_law_formed.nd rfl (.inl rfl)) (pss_cons (ps_if (PW.pt (pw_or (pt_not (pt_val (pe_callB call_isi (by rfl) B.isinstance b_isinstance (pa_cons (pv 1) (pa_cons (pe_bltn (v := .ty "tuple") (by rfl) B.tuple b_tuple rfl) pa_nil))))) (pw_or1 (pt_cmpR op_ne (pe_callB call_len_seq (by rfl) B.len b_len (pa_cons (pv 1) pa_nil)) pe_int (nomark _))))) (pss_one (ps_ret pe_bl)) pss_nil)
      (pss_one (ps_for PassesOwn.never rfl (pi_tup (pv 1)) (pg_name (i := 2) sc_law_formed.nd rfl (.inl rfl)) (pss_one (ps_if (PW.pt (pw_or (pt_not (pt_val (pe_callB call_isi (by rfl) B.isinstance b_isinstance (pa_cons (pv 2) (pa_cons (pe_bltn (v := .ty "int") (by rfl) B.int_ b_int rfl) pa_nil))))) (pw_or1 (pt_val (pe_callB call_isi (by rfl) B.isinstance b_isinstance (pa_cons (pv 2) (pa_cons (pe_bltn (v := .ty "bool") (by rfl) B.bool_ b_bool rfl) pa_nil))))))) (pss_one (ps_ret pe_bl)) pss_nil))))))
      (pss_one (ps_ret (pe_and (pe_cmpR (op_eqD hr.units) (pe_ix (ix_tupK K rfl) (pv 0) pe_int (fun _ _ => rfl)) (pe_callB (cr_minT rfl hr.units) (by rfl) B.min_ b_min (pa_cons (pv 0) pa_nil)) (nomark _)) (pe_one (pe_cmpR op_eq (pe_callB cr_lenST (by rfl) B.len b_len (pa_cons (pe_callTy (cr_setTT rfl hr.units) (by rfl) B.set_ b_set (pa_cons (pv 0) pa_nil)) pa_nil)) (pe_callB call_len_seq (by rfl) B.len b_len (pa_cons (pv 0) pa_nil)) (nomark _)))))))), ?_⟩
    have pos : 0 < as.length := List.length_pos_iff.mpr hne
    refine ⟨_, rfl, _, _, _, _, true, rfl, .ty _, tyx_t ha, k_tt, _, rfl, iteF ?_⟩
    refine ⟨_, rfl, a, _, rfl, .inr ha, _, _, rfl, rfl, _, rfl, ?_⟩
    rw [decide_eq_false (show ¬ ((refs as).length : Int) < 1 by rw [List.length_map]; omega)]
    refine iteF ?_
    refine ⟨_, rfl, a, rfl, ⟨_, ha⟩, for_tup (K := K) (a := a) (xs := refs as) (fun i σ H' => ∃ (v1 v2 : Option V), σ = [some (.ref a), v1, v2] ∧ H' = H) ⟨none, none, rfl, rfl⟩ (fun i σ H' _ h => by obtain ⟨_, _, _, rfl⟩ := h; exact ha) ?_ ?_⟩
    · rintro i x σ H' hi ⟨x1, x2, rfl, rfl⟩
      obtain ⟨q, hq, rfl⟩ := refs_get hi
      have tq := hp q (List.mem_of_getElem? hq)
      refine ⟨_, rfl, _, _, _, _, true, rfl, .ty _, tyx_t tq, k_tt, _, rfl, iteF ?_⟩
      refine ⟨_, rfl, q.1, _, rfl, .inr tq, rfl, _, rfl, iteF ?_⟩
      refine ⟨_, rfl, q.1, rfl, ⟨_, tq⟩, for_tup (K := K) (a := q.1) (xs := v2 q.2) (fun j σ H2 => ∃ (v2 : Option V), σ = [some (.ref a), some (.ref q.1), v2] ∧ H2 = H') ⟨x2, rfl, rfl⟩ (fun j σ H2 _ h => by obtain ⟨_, _, rfl⟩ := h; exact tq) ?_ ?_⟩
      · rintro j y σ H2 hj ⟨y2, rfl, rfl⟩
        obtain ⟨c, rfl⟩ : ∃ c, y = V.int c := by
          have := List.mem_of_getElem? hj
          rcases List.mem_cons.mp this with z | z
          · exact ⟨_, z⟩
          · exact ⟨_, List.mem_singleton.mp z⟩
        refine ⟨_, rfl, _, _, _, _, true, rfl, .ty _, tyx_i, k_ii, _, rfl, iteF ?_⟩
        refine ⟨_, rfl, _, _, _, _, false, rfl, .ty _, tyx_i, k_ib, _, rfl, iteF ?_⟩
        exact ⟨_, rfl, rfl⟩
      · rintro σ H2 ⟨y2, rfl, rfl⟩
        exact ⟨_, _, rfl, rfl⟩
    · rintro σ H' ⟨x1, x2, rfl, rfl⟩
      obtain ⟨q0, rest, eas⟩ : ∃ q0 rest, as = q0 :: rest := List.exists_cons_of_ne_nil hne
      have t0 := hp q0 (by rw [eas]; exact List.mem_cons_self)
      refine ⟨_, rfl, a, _, _, .ref q0.1, rfl, rfl, ha, by rw [eas]; exact at_0, _, rfl, a, q0, rest, rfl, by rw [← eas]; exact ha, by rw [← eas]; exact hp, fun r hr' => ?_, ?_⟩
      · refine lexLt_no ?_
        have := hlex r.2 (by rw [eas]; exact List.mem_map.mpr ⟨r, hr', rfl⟩)
        rw [eas] at this
        exact this
      refine ⟨pd q0.2, pd q0.2, dp_pair t0, dp_pair t0, pd_shaped _, pd_shaped _, _, rfl, ?_⟩
      rw [pd_eqv, decide_eq_true rfl]
      refine iteT ?_
      refine ⟨_, rfl, a, as.map kOf, rfl, by rw [← rOf_map]; exact ha, fun p hm => ?_, by rw [List.length_map]; exact hlen, fun sa L nsa hsub hall hnd2 => ?_⟩
      · obtain ⟨q, hq, e⟩ := List.mem_map.mp hm
        rw [← e]
        exact hp q hq
      have s1 := same_new (o := SetTO P w sa L) nsa
      refine ⟨sa, L, rfl, upd_same, fun p hm => ?_, _, rfl, a, _, rfl, .inr (same_t s1 ha), rfl, ?_⟩
      · obtain ⟨q, hq, e⟩ := List.mem_map.mp (hsub p hm)
        rw [← e]
        exact same_t s1 (hp q hq)
      rw [dec_int, decide_eq_true (show (L.length : Int) = ((refs as).length : Int) by rw [set_len hnd hsub hall hnd2, List.length_map])]
      exact k _ s1
end
end CHr

set_option maxRecDepth 100000
set_option maxHeartbeats 8000000
namespace CHr
open PySem PySem.Spec PyProof.Rows L2 CH
abbrev s_law_few : Stmt := topS 28
abbrev N_law_few : List Str := ["watches", "corners", "one", "two", "step", "bearing"]
theorem sc_law_few : FnScope N_law_few ["watches", "corners"] (defScope s_law_few) := ⟨rfl, rfl, rfl, by decide +kernel, rfl, by decide +kernel, by decide +kernel⟩
abbrev s_law_many : Stmt := topS 29
abbrev N_law_many : List Str := ["watches", "corners", "k", "here", "ahead", "behind"]
theorem sc_law_many : FnScope N_law_many ["watches", "corners"] (defScope s_law_many) := ⟨rfl, rfl, rfl, by decide +kernel, rfl, by decide +kernel, by decide +kernel⟩
def spLook (K : PySem.W.Frag) (C : Nat → Prop) : Sp := fun vs H Q _ => ∃ (a b : Addr) (ws : List Wa) (as : List Pt), vs = [.ref a, .ref b] ∧ WsAt K H a ws ∧ SqT K H b (refs as) ∧ PL K H as ∧ pts as = reach (ws.map (·.2)) ∧ C as.length ∧ as.length ≤ 1000 ∧ (∀ q ∈ as, In (2 ^ 144) q.2) ∧ ∀ H', Same H H' → Q (.bl true) H'
theorem in_sb {M : Nat} {p q : P2} (hp : In M p) (hq : In M q) : In (M + M) (sb p q) := by
  have h1 := hp.1
  have h2 := hp.2
  have h3 := hq.1
  have h4 := hq.2
  refine ⟨?_, ?_⟩
  · show (p.1 - q.1).natAbs ≤ _; omega
  · show (p.2 - q.2).natAbs ≤ _; omega
theorem in_out {M : Nat} {p q : P2} (hp : In M p) (hq : In M q) : In (M + M) (outw p q) := by
  have h1 := hp.1
  have h2 := hp.2
  have h3 := hq.1
  have h4 := hq.2
  refine ⟨?_, ?_⟩
  · show (q.2 - p.2).natAbs ≤ _; omega
  · show (p.1 - q.1).natAbs ≤ _; omega
theorem in_ng {M : Nat} {p : P2} (hp : In M p) : In M (ng p) := by
  have h1 := hp.1
  have h2 := hp.2
  refine ⟨?_, ?_⟩
  · show (-p.1).natAbs ≤ _; omega
  · show (-p.2).natAbs ≤ _; omega
theorem b144 : (2 : Nat) ^ 144 < 2 ^ 150 := by decide
theorem b145 : (2 : Nat) ^ 144 + 2 ^ 144 < 2 ^ 150 := by decide
theorem b146 : (2 : Nat) ^ 144 + 2 ^ 144 + (2 ^ 144 + 2 ^ 144) < 2 ^ 150 := by decide
theorem ws_ne {K : PySem.W.Frag} {H : Hp} {a : Addr} {ws : List Wa} (w : WsAt K H a ws) : ∀ u ∈ ws.map (·.2), u.1 ≠ [] := fun u hu => by
  obtain ⟨v, hv, e⟩ := List.mem_map.mp hu
  rw [← e]
  exact (w.each v hv).2.ne
section
variable {P : Program} {w : World} {K : PySem.W.Frag} {mg : Str → Option Value} {base : Heap}
theorem ok_law_few {f : Addr} {fd : FuncData} (F : Fun K "_law_few" "_law_few" s_law_few f fd) (B : Bl mg) (c_law_met : Cal P w K mg base 3 "_law_met" ["watches", "bearing", "corner"] (spMet K)) (c_law_out : Cal P w K mg base 1 "_law_out" ["one", "other"] (spOut K)) :
    FnOk P w K mg base CX0 4 f fd ["watches", "corners"] (spLook K fun n => n = 1 ∨ n = 2) := by
  refine F.ok sc_law_few (fun vs H Q E h => ?_) (fun cdv A outer s H vs Q E hr h => ?_)
  · obtain ⟨a, b, ws, as, rfl, _⟩ := h
    rfl
  · obtain ⟨a, b, ws, as, rfl, hw, hb, hp, eR, hC, hz, hin, k⟩ := h
    refine ⟨_, (pss_cons (ps_set (i := 2) sc_law_few.nd rfl (.inr rfl) (pe_ix (ix_tupK K rfl) (pv 1) pe_int (fun _ _ => rfl)))
      (pss_cons (ps_if (pt_cmpR op_eq (pe_callB call_len_seq (by rfl) B.len b_len (pa_cons (pv 1) pa_nil)) pe_int (nomark _)) (pss_one (ps_ret (pe_callB (cr_all rfl) (by rfl) B.all_ b_all (pa_cons (pe_lc (own := [("bearing", 5)]) rfl sc_law_few.nd (pi_list (pe_lst (pa_cons (pe_tup (pa_cons pe_int (pa_cons pe_int pa_nil))) (pa_cons (pe_tup (pa_cons (pe_un un_neg pe_int) (pa_cons pe_int pa_nil))) (pa_cons (pe_tup (pa_cons pe_int (pa_cons pe_int pa_nil))) (pa_cons (pe_tup (pa_cons pe_int (pa_cons (pe_un un_neg pe_int) pa_nil))) pa_nil)))))) (blkOk_by (own := [("bearing", 5)]) (N := N_law_few) (sc := defScope s_law_few) (by decide +kernel)) (fun _ _ _ _ _ => (pg_name (i := 5) sc_law_few.nd rfl (.inl rfl))) (fun _ _ _ _ _ => pts_nil) (fun _ _ _ _ _ => (pe_own c_law_met (hr.mono (by decide)) (pa_cons (pv 0) (pa_cons (pv 5) (pa_cons (pv 2) pa_nil)))))) pa_nil)))) pss_nil)
      (pss_cons (ps_set (i := 3) sc_law_few.nd rfl (.inl rfl) (pe_ix (ix_tupK K rfl) (pv 1) pe_int (fun _ _ => rfl)))
      (pss_cons (ps_set (i := 4) sc_law_few.nd rfl (.inl rfl) (pe_tup (pa_cons (pe_op op_sub (pe_ix (ix_tupK K rfl) (pv 3) pe_int (fun _ _ => rfl)) (pe_ix (ix_tupK K rfl) (pv 2) pe_int (fun _ _ => rfl))) (pa_cons (pe_op op_sub (pe_ix (ix_tupK K rfl) (pv 3) pe_int (fun _ _ => rfl)) (pe_ix (ix_tupK K rfl) (pv 2) pe_int (fun _ _ => rfl))) pa_nil))))
      (pss_cons (ps_if (PW.pt (pw_or (pt_not (pt_val (pe_own c_law_met (hr.mono (by decide)) (pa_cons (pv 0) (pa_cons (pv 4) (pa_cons (pv 3) pa_nil)))))) (pw_or1 (pt_not (pt_val (pe_own c_law_met (hr.mono (by decide)) (pa_cons (pv 0) (pa_cons (pe_tup (pa_cons (pe_un un_neg (pe_ix (ix_tupK K rfl) (pv 4) pe_int (fun _ _ => rfl))) (pa_cons (pe_un un_neg (pe_ix (ix_tupK K rfl) (pv 4) pe_int (fun _ _ => rfl))) pa_nil))) (pa_cons (pv 2) pa_nil))))))))) (pss_one (ps_ret pe_bl)) pss_nil)
      (pss_one (ps_ret (pe_and (pe_own c_law_met (hr.mono (by decide)) (pa_cons (pv 0) (pa_cons (pe_own c_law_out (hr.mono (by decide)) (pa_cons (pv 2) (pa_cons (pv 3) pa_nil))) (pa_cons (pv 2) pa_nil)))) (pe_one (pe_own c_law_met (hr.mono (by decide)) (pa_cons (pv 0) (pa_cons (pe_own c_law_out (hr.mono (by decide)) (pa_cons (pv 3) (pa_cons (pv 2) pa_nil))) (pa_cons (pv 2) pa_nil))))))))))))), ?_⟩
    have wne := ws_ne hw
    have yes : ∀ {x y : Int}, x = y → decide (x = y) = true := fun h => decide_eq_true h
    rcases hC with h1 | h2
    · match as, h1, hb, hp, eR, hin with
      | [c], _, hb, hp, eR, hin =>
        have tc := hp c List.mem_cons_self
        have ic := hin c List.mem_cons_self
        refine ⟨_, rfl, b, _, _, .ref c.1, rfl, rfl, hb, at_0, ?_⟩
        refine ⟨_, rfl, b, _, rfl, .inr hb, rfl, _, rfl, iteT ?_⟩
        -- the four bearings
        refine ⟨(by show 2 ≤ sizeLine; decide), fun t1 n1 => ⟨_, rfl, (by show 2 ≤ sizeLine; decide), fun t2 n2 => ⟨(by show 2 ≤ sizeLine; decide), fun t3 n3 => ⟨_, rfl, (by show 2 ≤ sizeLine; decide), fun t4 n4 => ⟨(by show 4 ≤ sizeLine; decide), fun lb nlb => ?_⟩⟩⟩⟩⟩
        have q1 := same_new (o := .tup [.int 1, .int 0]) n1
        have q2 := same_new (o := .tup [.int (-1), .int 0]) n2
        have q3 := same_new (o := .tup [.int 0, .int 1]) n3
        have q4 := same_new (o := .tup [.int 0, .int (-1)]) n4
        have q5 := same_new (o := .lst (refs [(t1, ((1 : Int), (0 : Int))), (t2, (-1, 0)), (t3, (0, 1)), (t4, (0, -1))])) nlb
        have sB := (((q1.trans q2).trans q3).trans q4).trans q5
        have pq : ∀ q ∈ ([(t1, ((1 : Int), (0 : Int))), (t2, (-1, 0)), (t3, (0, 1)), (t4, (0, -1))] : List Pt), q.2 ≠ zz ∧ S q.2 := fun q hq => by
          have : q.2 = (1, 0) ∨ q.2 = (-1, 0) ∨ q.2 = (0, 1) ∨ q.2 = (0, -1) := by
            simp only [List.mem_cons, List.not_mem_nil, or_false] at hq
            rcases hq with e | e | e | e <;> rw [e] <;> simp
          rcases this with e | e | e | e <;> rw [e] <;> exact ⟨by decide, by decide, by decide⟩
        have pl : PL K _ ([(t1, ((1 : Int), (0 : Int))), (t2, (-1, 0)), (t3, (0, 1)), (t4, (0, -1))] : List Pt) := fun q hq => by
          simp only [List.mem_cons, List.not_mem_nil, or_false] at hq
          rcases hq with e | e | e | e
          · rw [e]; exact same_t (((q2.trans q3).trans q4).trans q5) (t_of (xs := v2 ((1 : Int), (0 : Int))) upd_same)
          · rw [e]; exact same_t ((q3.trans q4).trans q5) (t_of (xs := v2 ((-1 : Int), (0 : Int))) upd_same)
          · rw [e]; exact same_t (q4.trans q5) (t_of (xs := v2 ((0 : Int), (1 : Int))) upd_same)
          · rw [e]; exact same_t q5 (t_of (xs := v2 ((0 : Int), (-1 : Int))) upd_same)
        refine ⟨lb, rfl, ⟨_, l_of upd_same⟩, fun D nD => lc_list (K := K) (a := lb) (xs := refs [(t1, ((1 : Int), (0 : Int))), (t2, (-1, 0)), (t3, (0, 1)), (t4, (0, -1))]) (fun i H' => Same _ H' ∧ H' D = some (.lst ((List.replicate i true).map V.bl))) ⟨same_new nD, upd_same⟩ (fun i H' _ h => l_of (h.1 _ _ upd_same)) ?_ ?_⟩
        · rintro i x H' hi ⟨s1, hD⟩
          obtain ⟨q, hq, rfl⟩ := refs_get hi
          have hqm := List.mem_of_getElem? hq
          have i4 : i < 4 := (List.getElem?_eq_some_iff.mp hq).1
          obtain ⟨nz, sq⟩ := pq q hqm
          have sAll := sB.trans s1
          refine ⟨rfl, ?_⟩
          refine ⟨_, rfl, _, rfl, _, rfl, a, q.1, c.1, ws, q.2, c.2, rfl, hw.same sAll, same_t s1 (pl q hqm), same_t sAll tc, sq, in_S b144 ic, fun H2 s2 => ?_⟩
          rw [yes (few_one wne (one := c.2) (by rw [← eR]; rfl) nz)]
          refine ⟨_, s2 _ _ hD, line_lt (by rw [List.length_map, List.length_replicate]; omega), same_mut (s1.trans s2) nD, ?_⟩
          rw [upd_same, List.replicate_succ', List.map_append] <;> rfl
        · rintro H' ⟨s1, hD⟩
          exact ⟨D, [true, true, true, true], rfl, l_of hD, k H' (sB.trans s1)⟩
    · match as, h2, hb, hp, eR, hin with
      | [c, d], _, hb, hp, eR, hin =>
        have tc := hp c (by simp)
        have td := hp d (by simp)
        have ic := hin c (by simp)
        have id' := hin d (by simp)
        obtain ⟨m1, m2, m3, m4⟩ := few_two wne (one := c.2) (two := d.2) (by rw [← eR]; rfl)
        refine ⟨_, rfl, b, _, _, .ref c.1, rfl, rfl, hb, at_0, ?_⟩
        refine ⟨_, rfl, b, _, rfl, .inr hb, rfl, _, rfl, iteF ?_⟩
        refine ⟨_, rfl, b, _, _, .ref d.1, rfl, rfl, hb, atI_nat (j := 1) rfl, ?_⟩
        refine ⟨_, rfl, _, _, _, _, rfl, rfl, td, rfl, _, rfl, _, _, _, _, rfl, rfl, tc, rfl, _, _, rfl, rfl, _, rfl, _, _, _, _, rfl, rfl, td, rfl, _, rfl, _, _, _, _, rfl, rfl, tc, rfl, _, _, rfl, rfl, (by show 2 ≤ sizeLine; decide), fun t1 n1 => ?_⟩
        have s1 := same_new (o := .tup (v2 (sb d.2 c.2))) n1
        have iS := in_sb id' ic
        have tS : SqT K _ t1 (v2 (sb d.2 c.2)) := t_of (H := upd H t1 (.tup (v2 (sb d.2 c.2)))) upd_same
        refine ⟨_, rfl, _, rfl, _, rfl, a, t1, d.1, ws, sb d.2 c.2, d.2, rfl, hw.same s1, tS, same_t s1 td, in_S b145 iS, in_S b144 id', fun H2 s2 => ?_⟩
        rw [yes m1]
        refine ⟨_, rfl, iteF ?_⟩
        refine ⟨_, rfl, _, rfl, _, _, _, _, rfl, rfl, same_t s2 tS, rfl, _, rfl, _, rfl, _, _, _, _, rfl, rfl, same_t s2 tS, rfl, _, rfl, (by show 2 ≤ sizeLine; decide), fun t2 n2 => ?_⟩
        have s3 := same_new (o := .tup (v2 (ng (sb d.2 c.2)))) n2
        have s13 := (s1.trans s2).trans s3
        refine ⟨_, rfl, a, t2, c.1, ws, ng (sb d.2 c.2), c.2, rfl, hw.same s13, t_of upd_same, same_t s13 tc, in_S b145 (in_ng iS), in_S b144 ic, fun H4 s4 => ?_⟩
        rw [yes m2]
        refine ⟨_, rfl, iteF ?_⟩
        have s14 := s13.trans s4
        refine ⟨_, rfl, _, rfl, _, rfl, c.1, d.1, c.2, d.2, rfl, same_t s14 tc, same_t s14 td, fun t3 n3 => ?_⟩
        have s5 := same_new (o := .tup (v2 (outw c.2 d.2))) n3
        have s15 := s14.trans s5
        refine ⟨_, rfl, a, t3, c.1, ws, outw c.2 d.2, c.2, rfl, hw.same s15, t_of upd_same, same_t s15 tc, in_S b145 (in_out ic id'), in_S b144 ic, fun H6 s6 => ?_⟩
        rw [yes m3]
        refine ⟨_, rfl, iteT ?_⟩
        have s16 := s15.trans s6
        refine ⟨_, rfl, _, rfl, _, rfl, d.1, c.1, d.2, c.2, rfl, same_t s16 td, same_t s16 tc, fun t4 n4 => ?_⟩
        have s7 := same_new (o := .tup (v2 (outw d.2 c.2))) n4
        have s17 := s16.trans s7
        refine ⟨_, rfl, a, t4, c.1, ws, outw d.2 c.2, c.2, rfl, hw.same s17, t_of upd_same, same_t s17 tc, in_S b145 (in_out id' ic), in_S b144 ic, fun H8 s8 => ?_⟩
        rw [yes m4]
        exact k H8 (s17.trans s8)
theorem at_back {as : List Pt} {k : Nat} (hk : k < as.length) : ∃ j q, j < as.length ∧ (j + 1) % as.length = k ∧ as[j]? = some q ∧ atI (refs as) ((k : Int) - 1) = some (.ref q.1) := by
  cases k with
  | zero =>
    refine ⟨as.length - 1, as[as.length - 1], by omega, by rw [show as.length - 1 + 1 = as.length by omega, Nat.mod_self], List.getElem?_eq_getElem (by omega), ?_⟩
    unfold atI ixN
    rw [if_neg (by decide), if_pos (by rw [List.length_map]; omega), List.length_map]
    show (refs as)[((((0 : Nat) : Int) - 1) + (as.length : Int)).toNat]? = _
    rw [show ((((0 : Nat) : Int) - 1) + (as.length : Int)).toNat = as.length - 1 by omega]
    exact refs_at (List.getElem?_eq_getElem (by omega))
  | succ k =>
    refine ⟨k, as[k], by omega, Nat.mod_eq_of_lt hk, List.getElem?_eq_getElem (by omega), ?_⟩
    rw [show ((k + 1 : Nat) : Int) - 1 = (k : Int) by omega]
    exact atI_nat (refs_at (List.getElem?_eq_getElem (by omega)))
theorem ok_law_many {f : Addr} {fd : FuncData} (F : Fun K "_law_many" "_law_many" s_law_many f fd) (B : Bl mg) (c_law_met : Cal P w K mg base 3 "_law_met" ["watches", "bearing", "corner"] (spMet K)) (c_law_out : Cal P w K mg base 1 "_law_out" ["one", "other"] (spOut K)) :
    FnOk P w K mg base CX0 4 f fd ["watches", "corners"] (spLook K fun n => 3 ≤ n) := by
  refine F.ok sc_law_many (fun vs H Q E h => ?_) (fun cdv A outer s H vs Q E hr h => ?_)
  · obtain ⟨a, b, ws, as, rfl, _⟩ := h
    rfl
  · obtain ⟨a, b, ws, as, rfl, hw, hb, hp, eR, hC, hz, hin, k⟩ := h
    refine ⟨_, (pss_cons (ps_for PassesOwn.never rfl (pi_range1 (by rfl) B.range (pa_cons (pe_callB call_len_seq (by rfl) B.len b_len (pa_cons (pv 1) pa_nil)) pa_nil)) (pg_name (i := 2) sc_law_many.nd rfl (.inl rfl)) (pss_cons (ps_set (i := 3) sc_law_many.nd rfl (.inl rfl) (pe_ix (ix_tupK K rfl) (pv 1) (pv 2) (fun _ _ => rfl)))
      (pss_cons (ps_set (i := 4) sc_law_many.nd rfl (.inl rfl) (pe_own c_law_out (hr.mono (by decide)) (pa_cons (pe_ix (ix_tupK K rfl) (pv 1) (pe_op op_sub (pv 2) pe_int) (fun _ _ => rfl)) (pa_cons (pv 3) pa_nil))))
      (pss_cons (ps_set (i := 5) sc_law_many.nd rfl (.inl rfl) (pe_own c_law_out (hr.mono (by decide)) (pa_cons (pv 3) (pa_cons (pe_ix (ix_tupK K rfl) (pv 1) (pe_op op_mod (pe_op op_add (pv 2) pe_int) (pe_callB call_len_seq (by rfl) B.len b_len (pa_cons (pv 1) pa_nil))) (fun _ _ => rfl)) pa_nil))))
      (pss_cons (ps_if (pt_cmpR op_le (pe_op op_sub (pe_op op_mulW (pe_ix (ix_tupK K rfl) (pv 4) pe_int (fun _ _ => rfl)) (pe_ix (ix_tupK K rfl) (pv 5) pe_int (fun _ _ => rfl))) (pe_op op_mulW (pe_ix (ix_tupK K rfl) (pv 4) pe_int (fun _ _ => rfl)) (pe_ix (ix_tupK K rfl) (pv 5) pe_int (fun _ _ => rfl)))) pe_int (nomark _)) (pss_one (ps_ret pe_bl)) pss_nil)
      (pss_cons (ps_if (pt_not (pt_val (pe_own c_law_met (hr.mono (by decide)) (pa_cons (pv 0) (pa_cons (pv 5) (pa_cons (pv 3) pa_nil)))))) (pss_one (ps_ret pe_bl)) pss_nil)
      (pss_one (ps_if (pt_not (pt_val (pe_own c_law_met (hr.mono (by decide)) (pa_cons (pv 0) (pa_cons (pe_tup (pa_cons (pe_op op_add (pe_ix (ix_tupK K rfl) (pv 4) pe_int (fun _ _ => rfl)) (pe_ix (ix_tupK K rfl) (pv 5) pe_int (fun _ _ => rfl))) (pa_cons (pe_op op_add (pe_ix (ix_tupK K rfl) (pv 4) pe_int (fun _ _ => rfl)) (pe_ix (ix_tupK K rfl) (pv 5) pe_int (fun _ _ => rfl))) pa_nil))) (pa_cons (pv 3) pa_nil)))))) (pss_one (ps_ret pe_bl)) pss_nil))))))))
      (pss_one (ps_ret pe_bl))), ?_⟩
    have wne := ws_ne hw
    have lenR : (reach (ws.map (·.2))).length = as.length := by rw [← eR, List.length_map]
    have yes : ∀ {x y : Int}, x = y → decide (x = y) = true := fun h => decide_eq_true h
    refine ⟨_, rfl, b, _, rfl, .inr hb, _, rfl, by rw [List.length_map]; omega, by rw [List.length_map]; omega, for_range (lo := 0) (n := ((refs as).length : Int).toNat) (fun i σ H' => ∃ (x2 x3 x4 x5 : Option V), σ = [some (.ref a), some (.ref b), x2, x3, x4, x5] ∧ Same H H') ⟨none, none, none, none, rfl, Same.refl H⟩ ?_ ?_⟩
    · rintro i σ H' hi ⟨x2, x3, x4, x5, rfl, s0⟩
      rw [Int.toNat_natCast, List.length_map] at hi
      have e0 : (0 : Int) + (i : Int) = (i : Int) := Int.zero_add _
      rw [e0]
      obtain ⟨c, hc⟩ : ∃ c, as[i]? = some c := ⟨_, List.getElem?_eq_getElem hi⟩
      obtain ⟨j, p, hj, hji, hpj, atp⟩ := at_back hi
      have hn : (i + 1) % as.length < as.length := Nat.mod_lt _ (by omega)
      obtain ⟨d, hd⟩ : ∃ d, as[(i + 1) % as.length]? = some d := ⟨_, List.getElem?_eq_getElem hn⟩
      have hmod : ((i : Int) + 1) % ((refs as).length : Int) = (((i + 1) % as.length : Nat) : Int) := by
        rw [List.length_map]
        exact (Int.natCast_emod (i + 1) as.length).symm
      have tc := hp c (List.mem_of_getElem? hc)
      have tp := hp p (List.mem_of_getElem? hpj)
      have td := hp d (List.mem_of_getElem? hd)
      have ic := hin c (List.mem_of_getElem? hc)
      have ip := hin p (List.mem_of_getElem? hpj)
      have id' := hin d (List.mem_of_getElem? hd)
      have r1 : (reach (ws.map (·.2)))[i]? = some c.2 := by rw [← eR]; exact pts_at hc
      have r2 : (reach (ws.map (·.2)))[j]? = some p.2 := by rw [← eR]; exact pts_at hpj
      have r3 : (reach (ws.map (·.2)))[(i + 1) % (reach (ws.map (·.2))).length]? = some d.2 := by rw [lenR, ← eR]; exact pts_at hd
      obtain ⟨m1, m2, m3⟩ := many wne (by rw [lenR]; exact hC) (by rw [lenR]; exact hj) (by rw [lenR]; exact hji) r1 r2 r3
      -- here
      refine ⟨_, rfl, _, rfl, b, _, _, .ref c.1, rfl, rfl, same_t s0 hb, atI_nat (refs_at hc), ?_⟩
      -- ahead
      refine ⟨_, rfl, _, rfl, _, _, rfl, rfl, b, _, _, .ref p.1, rfl, rfl, same_t s0 hb, atp, _, rfl, p.1, c.1, p.2, c.2, rfl, same_t s0 tp, same_t s0 tc, fun t1 n1 => ?_⟩
      have s1 := s0.trans (same_new (o := .tup (v2 (outw p.2 c.2))) n1)
      -- behind
      refine ⟨_, rfl, _, rfl, _, rfl, _, _, rfl, rfl, _, rfl, b, _, rfl, .inr (same_t s1 hb), _, _, rfl, rfl, by rw [List.length_map]; omega, b, _, _, .ref d.1, rfl, rfl, same_t s1 hb, by rw [hmod]; exact atI_nat (refs_at hd), c.1, d.1, c.2, d.2, rfl, same_t s1 tc, same_t s1 td, fun t2 n2 => ?_⟩
      have q2 := same_new (o := .tup (v2 (outw c.2 d.2))) n2
      have s2 := s1.trans q2
      have T1 : SqT K _ t1 (v2 (outw p.2 c.2)) := same_t q2 (t_of upd_same)
      have T2 : SqT K (upd (upd H' t1 (.tup (v2 (outw p.2 c.2)))) t2 (.tup (v2 (outw c.2 d.2)))) t2 (v2 (outw c.2 d.2)) := t_of upd_same
      have o1 := in_out ip ic
      have o2 := in_out ic id'
      have S1 := in_S b145 o1
      have S2 := in_S b145 o2
      refine ⟨_, rfl, _, _, _, _, rfl, rfl, T1, rfl, _, rfl, _, _, _, _, rfl, rfl, T2, rfl, _, _, rfl, rfl, mulS S1.1 S2.2, _, rfl, _, _, _, _, rfl, rfl, T1, rfl, _, rfl, _, _, _, _, rfl, rfl, T2, rfl, _, _, rfl, rfl, mulS S1.2 S2.1, _, _, rfl, rfl, _, _, rfl, rfl, _, rfl, ?_⟩
      have ng1 : decide (cr (outw p.2 c.2) (outw c.2 d.2) ≤ 0) = false := decide_eq_false (by omega)
      show if decide (cr (outw p.2 c.2) (outw c.2 d.2) ≤ 0) = true then _ else _
      rw [ng1]
      refine iteF ?_
      refine ⟨_, rfl, _, rfl, _, rfl, a, t2, c.1, ws, outw c.2 d.2, c.2, rfl, hw.same s2, T2, same_t s2 tc, S2, in_S b144 ic, fun H3 s3 => ?_⟩
      rw [yes m2]
      refine ⟨_, rfl, iteF ?_⟩
      have s23 := s2.trans s3
      refine ⟨_, rfl, _, rfl, _, _, _, _, rfl, rfl, same_t s3 T1, rfl, _, rfl, _, _, _, _, rfl, rfl, same_t s3 T2, rfl, _, _, rfl, rfl, _, rfl, _, _, _, _, rfl, rfl, same_t s3 T1, rfl, _, rfl, _, _, _, _, rfl, rfl, same_t s3 T2, rfl, _, _, rfl, rfl, (by show 2 ≤ sizeLine; decide), fun t4 n4 => ?_⟩
      have s4 := s23.trans (same_new (o := .tup (v2 (ad (outw p.2 c.2) (outw c.2 d.2)))) n4)
      refine ⟨_, rfl, a, t4, c.1, ws, ad (outw p.2 c.2) (outw c.2 d.2), c.2, rfl, hw.same s4, t_of upd_same, same_t s4 tc, in_S b146 (in_ad o1 o2), in_S b144 ic, fun H5 s5 => ?_⟩
      rw [yes m3]
      refine ⟨_, rfl, iteF ?_⟩
      exact ⟨_, _, _, _, rfl, s4.trans s5⟩
    · rintro σ H' ⟨x2, x3, x4, x5, rfl, s0⟩
      exact k H' s0
end
end CHr

set_option maxRecDepth 100000
set_option maxHeartbeats 8000000
namespace CHr
open PySem PySem.Spec PyProof.Rows L2 CH
abbrev s_law : Stmt := topS 30
abbrev N_law : List Str := ["script", "watches", "corners", "good", "ranks", "k", "pair"]
theorem sc_law : FnScope N_law ["script"] (defScope s_law) := ⟨rfl, rfl, rfl, by decide +kernel, rfl, by decide +kernel, by decide +kernel⟩
theorem perm_map_inv {α β : Type} {f : α → β} {l m : List β} (h : l.Perm m) : ∀ n : List α, m = n.map f → ∃ n' : List α, n'.Perm n ∧ l = n'.map f := by
  induction h with
  | nil => intro n hn; exact ⟨[], by rw [List.map_eq_nil_iff.mp hn.symm], rfl⟩
  | cons x _ ih =>
    intro n hn
    obtain ⟨y, ys, rfl, hy, hys⟩ := List.map_eq_cons_iff.mp hn.symm
    obtain ⟨n', p, e⟩ := ih ys hys.symm
    exact ⟨y :: n', p.cons y, by rw [List.map_cons, ← hy, e]⟩
  | swap x y l =>
    intro n hn
    obtain ⟨a, r, rfl, ha, hr⟩ := List.map_eq_cons_iff.mp hn.symm
    obtain ⟨b, r2, rfl, hb, hr2⟩ := List.map_eq_cons_iff.mp hr
    exact ⟨b :: a :: r2, List.Perm.swap a b r2, by rw [List.map_cons, List.map_cons, ha, hb, hr2]⟩
  | trans _ _ i1 i2 =>
    intro n hn
    obtain ⟨n1, p1, e1⟩ := i2 n hn
    obtain ⟨n2, p2, e2⟩ := i1 n1 e1
    exact ⟨n2, p2.trans p1, e2⟩
/-- the pair that stands at a value -/
def kH (H : Hp) (x : V) : Int × Int := match x with
  | .ref t => match H t with
    | some (.tup [.int i, .int j]) => (i, j)
    | _ => (0, 0)
  | _ => (0, 0)
theorem kH_at {H : Hp} {t : Addr} {p : P2} (h : H t = some (.tup (v2 p))) : kH H (.ref t) = p := by
  unfold kH
  simp only [h]
/-- equal corners -/
def RI : Hp → V → V → Prop := fun _ x y => ∃ i : Int, x = .int i ∧ y = .int i
def RP (K : PySem.W.Frag) : Hp → V → V → Prop := fun H x y => ∃ (a b : Addr) (p : P2), x = .ref a ∧ y = .ref b ∧ SqT K H a (v2 p) ∧ SqT K H b (v2 p)
theorem same_i : ∀ (H : Hp) (x y : V) (Q : VK), RI H x y → (∀ H', Same H H' → Q (.bl true) H') → spSameI [x, y] H Q E0 := fun H x y Q h q => by
  obtain ⟨i, rfl, rfl⟩ := h
  exact ⟨i, rfl, q⟩
theorem same_p {K : PySem.W.Frag} : ∀ (H : Hp) (x y : V) (Q : VK), RP K H x y → (∀ H', Same H H' → Q (.bl true) H') → spSameT K RI [x, y] H Q E0 := fun H x y Q h q => by
  obtain ⟨a, b, p, rfl, rfl, h1, h2⟩ := h
  refine ⟨a, b, _, _, rfl, h1, h2, rfl, (by show 2 ≤ 1000; decide), fun H' _ k x y hx hy => ?_, q⟩
  rw [hx] at hy
  have e := Option.some.inj hy
  have hm := List.mem_of_getElem? hx
  rcases List.mem_cons.mp hm with z | z
  · exact ⟨p.1, z, by rw [← e, z]⟩
  · exact ⟨p.2, List.mem_singleton.mp z, by rw [← e]; exact List.mem_singleton.mp z⟩
/-- the corners lie within bounds -/
theorem reach_in {ws : List Wt} (hg : ∀ u ∈ ws, Good u) (hl : ws.length ≤ 12) : ∀ p ∈ reach ws, In (2 ^ 144) p := fun p hp => by
  have nb : ∀ W ∈ ws.map drift, W ≠ [] ∧ ∀ x ∈ W, In (2 ^ 139) x := fun W hW => by
    obtain ⟨u, hu, rfl⟩ := List.mem_map.mp hW
    have g := hg u hu
    refine ⟨drift_ne g.ne, fun x hx => g.shift x (least_sub (W := shifted u) ?_ x hx)⟩
    unfold shifted
    simpa using g.ne
  have := (joinAll_bd (M := 2 ^ 139) (ws.map drift) nb).2 p hp
  refine in_mono ?_ this
  rw [List.length_map]
  exact Nat.le_trans (Nat.mul_le_mul_right _ hl) (by decide)
def dfl : Wa := (0, ([], zz))
def spLaw (K : PySem.W.Frag) : Sp := fun vs H Q _ => ∃ (a : Addr) (ns : List Int), vs = [.ref a] ∧ SqL K H a (ns.map V.int) ∧ ns.length ≤ 63 ∧ ∀ H', Q (.bl true) H'
section
variable {P : Program} {w : World} {K : PySem.W.Frag} {mg : Str → Option Value} {base : Heap}
theorem ok_law {f : Addr} {fd : FuncData} (F : Fun K "law" "law" s_law f fd) (B : Bl mg) (c_law_watches : Cal P w K mg base 3 "_law_watches" ["script"] (spWatches K)) (c_reach_of : Cal P w K mg base 6 "reach_of" ["watches"] (spReach K)) (c_law_formed : Cal P w K mg base 1 "_law_formed" ["corners"] (spFormed K))
    (c_law_few : Cal P w K mg base 4 "_law_few" ["watches", "corners"] (spLook K fun n => n = 1 ∨ n = 2)) (c_law_many : Cal P w K mg base 4 "_law_many" ["watches", "corners"] (spLook K fun n => 3 ≤ n)) (c_law_draw : Cal P w K mg base 1 "_law_draw" ["cell", "k", "many"] spDraw)
    (c_law_cell_at : Cal P w K mg base 1 "_law_cell_at" ["script", "k"] (spCell K)) (c_law_same : Cal P w K mg base 3 "_law_same" ["found", "due"] (spSameT K (RP K))) : FnOk P w K mg base CX0 7 f fd ["script"] (spLaw K) := by
  refine F.ok sc_law (fun vs H Q E h => ?_) (fun cdv A outer s H vs Q E hr h => ?_)
  · obtain ⟨a, ns, rfl, _⟩ := h
    rfl
  · obtain ⟨a, ns, rfl, ha, hlen, k⟩ := h
    refine ⟨_, (pss_cons (ps_set (i := 1) sc_law.nd rfl (.inr rfl) (pe_own c_law_watches (hr.mono (by decide)) (pa_cons (pv 0) pa_nil)))
      (pss_cons (ps_set (i := 2) sc_law.nd rfl (.inl rfl) (pe_own c_reach_of (hr.mono (by decide)) (pa_cons (pv 1) pa_nil)))
      (pss_cons (ps_if (pt_not (pt_val (pe_own c_law_formed (hr.mono (by decide)) (pa_cons (pv 2) pa_nil)))) (pss_one (ps_ret pe_bl)) pss_nil)
      (Evl.pss_cut (ps_if (pt_cmpR op_lt (pe_callB call_len_seq (by rfl) B.len b_len (pa_cons (pv 2) pa_nil)) pe_int (nomark _)) (pss_one (ps_set (i := 3) sc_law.nd rfl (.inl rfl) (pe_own c_law_few (hr.mono (by decide)) (pa_cons (pv 1) (pa_cons (pv 2) pa_nil))))) (pss_one (ps_set (i := 3) sc_law.nd rfl (.inl rfl) (pe_own c_law_many (hr.mono (by decide)) (pa_cons (pv 1) (pa_cons (pv 2) pa_nil))))))
      (pss_cons (ps_set (i := 4) sc_law.nd rfl (.inl rfl) (pe_callB cr_sortedPO (by rfl) B.sorted b_sorted (pa_cons (pe_lc (own := [("k", 5)]) rfl sc_law.nd (pi_range1 (by rfl) B.range (pa_cons (pe_callB call_len_seq (by rfl) B.len b_len (pa_cons (pv 1) pa_nil)) pa_nil)) (blkOk_by (own := [("k", 5)]) (N := N_law) (sc := defScope s_law) (by decide +kernel)) (fun _ _ _ _ _ => (pg_name (i := 5) sc_law.nd rfl (.inl rfl))) (fun _ _ _ _ _ => pts_nil) (fun _ _ _ _ _ => (pe_tup (pa_cons (pe_own c_law_draw (hr.mono (by decide)) (pa_cons (pe_own c_law_cell_at (hr.mono (by decide)) (pa_cons (pv 0) (pa_cons (pv 5) pa_nil))) (pa_cons pe_int (pa_cons pe_int pa_nil)))) (pa_cons (pv 5) pa_nil))))) pa_nil)))
      (pss_one (ps_ret (pe_and (pv 3) (pe_one (pe_own c_law_same (hr.mono (by decide)) (pa_cons (pe_own c_reach_of (hr.mono (by decide)) (pa_cons (pe_callTy call_tuple_of (by rfl) B.tuple b_tuple (pa_cons (pe_lc (own := [("pair", 6)]) rfl sc_law.nd (pi_list (pv 4)) (blkOk_by (own := [("pair", 6)]) (N := N_law) (sc := defScope s_law) (by decide +kernel)) (fun _ _ _ _ _ => (pg_name (i := 6) sc_law.nd rfl (.inl rfl))) (fun _ _ _ _ _ => pts_nil) (fun _ _ _ _ _ => (pe_ix (ix_tupK K rfl) (pv 1) (pe_ix (ix_tupK K rfl) (pv 6) pe_int (fun _ _ => rfl)) (fun _ _ => rfl)))) pa_nil)) pa_nil)) (pa_cons (pv 2) pa_nil)))))))))))), ?_⟩
    refine ⟨_, rfl, a, ns, rfl, ha, hlen, fun H1 tw ws s1 n1 h1 w1 => ?_⟩
    have good : ∀ u ∈ ws.map (·.2), Good u := fun u hu => by
      obtain ⟨v, hv, e⟩ := List.mem_map.mp hu
      rw [← e]
      exact (w1.each v hv).2
    have wne : ∀ u ∈ ws.map (·.2), u.1 ≠ [] := fun u hu => (good u hu).ne
    have hsum : (ws.map fun u => u.2.1.length).sum ≤ 60 := by have := w1.sum; omega
    refine ⟨_, rfl, tw, ws, rfl, t_of h1, w1.each, by omega, w1.len, fun H2 tc cs s2 n2 h2 p2 e2 => ?_⟩
    obtain ⟨f1, f2, f3⟩ := reach_form wne
    have lr := (reach_ok wne).2
    have lcs : cs.length ≤ 60 := by
      rw [len_of e2]
      rw [List.map_map] at lr
      have e3 : (ws.map ((fun w : Wt => w.1.length) ∘ fun x => x.2)).sum = (ws.map fun u => u.2.1.length).sum := rfl
      omega
    have cne : cs ≠ [] := fun z => f1 (by rw [← e2, z]; rfl)
    refine ⟨_, rfl, tc, cs, rfl, t_of h2, p2, cne, by omega, by rw [e2]; exact f2, by rw [e2]; exact f3, fun H3 s3 => ?_⟩
    refine ⟨_, rfl, iteF ?_⟩
    have s23 := s2.trans s3
    have h1' := s23 _ _ h1
    have h2' := s3 _ _ h2
    have wat : WsAt K H3 tw ws := ⟨t_of h1', fun u hu => ⟨same_w s23 (w1.each u hu).1, (w1.each u hu).2⟩, w1.len⟩
    have cin : ∀ q ∈ cs, In (2 ^ 144) q.2 := fun q hq => reach_in good (by rw [List.length_map]; exact w1.len) _ (by rw [← e2]; exact List.mem_map.mpr ⟨q, hq, rfl⟩)
    -- good
    show Evl.tCut _ _ _ _ _
    refine ⟨fun σ' H' => σ' = [some (.ref a), some (.ref tw), some (.ref tc), some (.bl true), none, none, none] ∧ Same H3 H', ?_, ?_⟩
    · refine ⟨_, rfl, tc, _, rfl, .inr (t_of h2'), _, _, rfl, rfl, _, rfl, ?_⟩
      rw [List.length_map]
      refine ite2 (fun hl => ?_) (fun hl => ?_)
      · have hl := of_decide_eq_true hl
        have pos : 0 < cs.length := List.length_pos_iff.mpr cne
        refine ⟨_, rfl, _, rfl, tw, tc, ws, cs, rfl, wat, t_of h2', same_pl s3 p2, e2, by omega, by omega, cin, fun H4 s4 => ?_⟩
        exact ⟨rfl, s4⟩
      · have hl : ¬ ((cs.length : Int) < 3) := fun z => hl (decide_eq_true z)
        refine ⟨_, rfl, _, rfl, tw, tc, ws, cs, rfl, wat, t_of h2', same_pl s3 p2, e2, by omega, by omega, cin, fun H4 s4 => ?_⟩
        exact ⟨rfl, s4⟩
    · rintro σ' H4 ⟨rfl, s4⟩
      have s14 : Same H1 H4 := s23.trans s4
      have ha4 := (s1.trans s14).seq ha
      have hw4 := s14 _ _ h1
      have lw : ws.length ≤ 12 := w1.len
      -- ranks
      refine ⟨_, rfl, tw, _, rfl, .inr (t_of hw4), _, rfl, by rw [List.length_map]; omega, by rw [List.length_map]; omega, fun D nD => lc_range (lo := 0) (n := (((ws.map fun u => V.ref u.1).length : Nat) : Int).toNat)
        (fun i H' => ∃ bs : List Pt, Same H4 H' ∧ H' D = some (.lst (refs bs)) ∧ (∀ q ∈ bs, H' q.1 = some (.tup (v2 q.2))) ∧ bs.map (fun q => q.2.2) = (List.range i).map (fun j : Nat => (j : Int))) ⟨[], same_new nD, upd_same, fun q h => (by cases h), rfl⟩ ?_ ?_⟩
      · rintro i H' hi ⟨bs, s5, hD, hb, eb⟩
        rw [Int.toNat_natCast, List.length_map] at hi
        have e0 : (0 : Int) + (i : Int) = (i : Int) := Int.zero_add _
        rw [e0]
        refine ⟨rfl, ?_⟩
        refine ⟨_, rfl, _, rfl, a, ns, i, rfl, s5.seq ha4, _, 11, 997, rfl, by decide, by decide, by decide, fun r _ _ => ?_⟩
        refine ⟨_, rfl, (by show 2 ≤ sizeLine; decide), fun t nt => ?_⟩
        have s6 := same_new (o := .tup [.int r, .int (i : Int)]) nt
        have lb : bs.length = i := by
          have := congrArg List.length eb
          simpa using this
        refine ⟨_, s6 _ _ hD, line_lt (by rw [List.length_map]; omega), bs ++ [(t, (r, (i : Int)))], same_mut (s5.trans s6) nD, ?_, fun q hq => ?_, ?_⟩
        · rw [upd_same, refs, refs, List.map_append] <;> rfl
        · have key : (upd H' t (.tup [.int r, .int (i : Int)])) q.1 = some (.tup (v2 q.2)) := by
            rcases List.mem_append.mp hq with z | z
            · exact s6 _ _ (hb q z)
            · rw [List.mem_singleton.mp z]; exact upd_same
          rw [upd_ne (ne_of key (s6 _ _ hD) (by intro z; cases z))]
          exact key
        · rw [List.map_append, eb, List.range_succ, List.map_append] <;> rfl
      · rintro H5 ⟨bs, s5, hD, hb, eb⟩
        rw [Int.toNat_natCast, List.length_map] at eb
        have lb : bs.length = ws.length := by
          have := congrArg List.length eb
          simpa using this
        refine ⟨D, refs bs, kH H5, rfl, l_of hD, fun x hx => ?_, fun ys pr hs hst npr => ?_⟩
        · obtain ⟨q, hq, rfl⟩ := List.mem_map.mp hx
          refine ⟨q.1, rfl, ?_⟩
          rw [kH_at (hb q hq)]
          exact hb q hq
        obtain ⟨bs', pm, rfl⟩ := perm_map_inv hst.perm bs rfl
        have s6 := same_new (o := .lst (refs bs')) npr
        have s46 := s5.trans s6
        have ib : ∀ q ∈ bs', ∃ j : Nat, j < ws.length ∧ q.2.2 = (j : Int) := fun q hq => by
          have : q.2.2 ∈ bs.map (fun q => q.2.2) := List.mem_map.mpr ⟨q, pm.mem_iff.mp hq, rfl⟩
          rw [eb] at this
          obtain ⟨j, hj, e⟩ := List.mem_map.mp this
          exact ⟨j, List.mem_range.mp hj, e.symm⟩
        -- good and ..
        refine ⟨_, rfl, _, rfl, iteT ?_⟩
        refine ⟨_, rfl, pr, rfl, ⟨_, l_of upd_same⟩, fun D2 nD2 => lc_list (K := K) (a := pr) (xs := refs bs') (fun i H' => Same _ H' ∧ H' D2 = some (.lst (((bs'.take i).map fun q => ws.getD q.2.2.toNat dfl).map fun u => V.ref u.1))) ⟨same_new nD2, upd_same⟩ (fun i H' _ h => l_of (h.1 _ _ upd_same)) ?_ ?_⟩
        · rintro i x H' hi ⟨s7, hD2⟩
          obtain ⟨q, hq, rfl⟩ := refs_get hi
          have hqm := List.mem_of_getElem? hq
          have iq : i < bs'.length := (List.getElem?_eq_some_iff.mp hq).1
          have lb' : bs'.length = ws.length := by rw [pm.length_eq, lb]
          obtain ⟨j, hj, ej⟩ := ib q hqm
          have tq : SqT K H' q.1 (v2 q.2) := same_t (s6.trans s7) (t_of (hb q (pm.mem_iff.mp hqm)))
          have gj : ws[j]? = some (ws.getD j dfl) := by rw [List.getD_eq_getElem?_getD, List.getElem?_eq_getElem hj]; rfl
          refine ⟨rfl, ?_⟩
          refine ⟨_, rfl, _, rfl, q.1, _, _, .int q.2.2, rfl, rfl, tq, rfl, tw, _, _, .ref (ws.getD j dfl).1, rfl, rfl, t_of (s7 _ _ (s46 _ _ hw4)), ?_, ?_⟩
          · rw [ej]
            refine atI_nat ?_
            rw [List.getElem?_map, gj]
            rfl
          · refine ⟨_, hD2, line_lt (by rw [List.length_map, List.length_map, List.length_take]; omega), same_mut s7 nD2, ?_⟩
            rw [upd_same, List.take_succ, hq, List.map_append, List.map_append]
            show some (HO.lst (_ ++ [V.ref (ws.getD j dfl).1])) = some (HO.lst (_ ++ [V.ref (ws.getD q.2.2.toNat dfl).1]))
            rw [ej, Int.toNat_natCast]
        · rintro H' ⟨s7, hD2⟩
          rw [List.length_map, List.take_length] at hD2
          have pw : (bs'.map fun q => ws.getD q.2.2.toNat dfl).Perm ws := by
            refine (pm.map _).trans ?_
            have e : (bs.map fun q => ws.getD q.2.2.toNat dfl) = ws := by
              have e1 : (bs.map fun q => ws.getD q.2.2.toNat dfl) = (bs.map fun q => q.2.2).map (fun x => ws.getD x.toNat dfl) := by rw [List.map_map]; rfl
              rw [e1, eb, List.map_map]
              refine List.ext_getElem (by simp) fun i h1 h2 => ?_
              rw [List.getElem_map, List.getElem_range]
              show ws.getD ((i : Int)).toNat dfl = ws[i]
              rw [Int.toNat_natCast, List.getD_eq_getElem?_getD, List.getElem?_eq_getElem h2]
              rfl
            rw [e]
          generalize (bs'.map fun q => ws.getD q.2.2.toNat dfl) = us at hD2 pw
          have s47 := s46.trans s7
          refine ⟨D2, _, rfl, .inl ⟨l_of hD2, fun tu ntu => ?_⟩⟩
          have s8 := same_new (o := .tup (us.map fun u => V.ref u.1)) ntu
          have s18 := (s14.trans s47).trans s8
          have sums : (us.map fun u => u.2.1.length).sum = (ws.map fun u => u.2.1.length).sum := (pw.map _).sum_nat
          refine ⟨tu, us, rfl, t_of upd_same, fun u hu => ?_, by rw [sums]; omega, by rw [pw.length_eq]; exact lw, fun H9 t9 ds s9 n9 h9 p9 e9 => ?_⟩
          · have hu' := pw.mem_iff.mp hu
            exact ⟨same_w s18 (w1.each u hu').1, (w1.each u hu').2⟩
          have e10 : pts ds = pts cs := by rw [e9, e2]; exact reach_perm wne (pw.map _)
          have s29 : Same H2 H9 := ((s3.trans s4).trans (s47.trans s8)).trans s9
          have ld : ds.length = cs.length := by
            have := congrArg List.length e10
            simpa using this
          refine ⟨_, rfl, t9, tc, _, _, rfl, t_of h9, t_of (s29 _ _ h2), by rw [List.length_map, List.length_map, ld], by rw [List.length_map]; omega, fun H10 s10 i x y hx hy => ?_, fun H10 s10 => k H10⟩
          obtain ⟨q, hq, rfl⟩ := refs_get hx
          obtain ⟨r, hr', rfl⟩ := refs_get hy
          have eqr : q.2 = r.2 := by
            have g1 := pts_at hq
            have g2 := pts_at hr'
            rw [e10, g2] at g1
            exact (Option.some.inj g1).symm
          refine ⟨q.1, r.1, q.2, rfl, rfl, same_t s10 (p9 q (List.mem_of_getElem? hq)), ?_⟩
          rw [eqr]
          exact same_t (s29.trans s10) (p2 r (List.mem_of_getElem? hr'))
end
end CHr

set_option maxRecDepth 100000
set_option maxHeartbeats 8000000
namespace CHr
open PySem PySem.Spec PyProof.Rows L2 CH
/-- a def as it stands behind the top -/
structure Df (K : PySem.W.Frag) (mg : Str → Option Value) (x : Str) (st : Stmt) (ps : List Str) : Prop where
  ex : ∃ (f : Addr) (fd : FuncData), Fun K x x st f fd ∧ mg x = some (.ref f) ∧ Binds K fd ps []
theorem Df.cal {P : Program} {w : World} {K : PySem.W.Frag} {mg : Str → Option Value} {base : Heap} {x : Str} {st : Stmt} {ps : List Str} {k : Nat} {sp : Sp} (d : Df K mg x st ps) (h : ∀ f fd, Fun K x x st f fd → FnOk P w K mg base CX0 k f fd ps sp) : Cal P w K mg base k x ps sp := by
  obtain ⟨f, fd, F, hm, hb⟩ := d.ex
  exact ⟨f, fd, h f fd F, hm, F.kp, hb⟩
section
variable {P : Program} {w : World} {K : PySem.W.Frag} {mg : Str → Option Value} {base : Heap}
/-- the whole program, def by def -/
theorem whole (B : Bl mg)
    (d_turn_of : Df K mg "turn_of" s_turn_of ["one", "other"])
    (d_step_between : Df K mg "step_between" s_step_between ["one", "other"])
    (d_half_round : Df K mg "half_round" s_half_round ["row"])
    (d_least_headings : Df K mg "least_headings" s_least_headings ["wind"])
    (d_edges_of : Df K mg "edges_of" s_edges_of ["headings"])
    (d_half_of : Df K mg "half_of" s_half_of ["edge"])
    (d_is_sooner : Df K mg "is_sooner" s_is_sooner ["one", "other"])
    (d_edges_merged : Df K mg "edges_merged" s_edges_merged ["ones", "others"])
    (d_joined : Df K mg "joined" s_joined ["one", "other"])
    (d_joined_all : Df K mg "joined_all" s_joined_all ["winds"])
    (d_drift_of : Df K mg "drift_of" s_drift_of ["watch"])
    (d_reach_of : Df K mg "reach_of" s_reach_of ["watches"])
    (d_law_cell_at : Df K mg "_law_cell_at" s_law_cell_at ["script", "k"])
    (d_law_draw : Df K mg "_law_draw" s_law_draw ["cell", "k", "many"])
    (d_law_vector : Df K mg "_law_vector" s_law_vector ["cell", "far", "line"])
    (d_law_free_vector : Df K mg "_law_free_vector" s_law_free_vector ["cell", "far"])
    (d_law_free_watches : Df K mg "_law_free_watches" s_law_free_watches ["script"])
    (d_law_watches : Df K mg "_law_watches" s_law_watches ["script"])
    (d_law_dot : Df K mg "_law_dot" s_law_dot ["one", "other"])
    (d_law_far : Df K mg "_law_far" s_law_far ["watches", "bearing"])
    (d_law_out : Df K mg "_law_out" s_law_out ["one", "other"])
    (d_law_formed : Df K mg "_law_formed" s_law_formed ["corners"])
    (d_law_met : Df K mg "_law_met" s_law_met ["watches", "bearing", "corner"])
    (d_law_few : Df K mg "_law_few" s_law_few ["watches", "corners"])
    (d_law_many : Df K mg "_law_many" s_law_many ["watches", "corners"])
    (d_law_same : Df K mg "_law_same" s_law_same ["found", "due"])
    {f : Addr} {fd : FuncData} (F : Fun K "law" "law" s_law f fd) : FnOk P w K mg base CX0 7 f fd ["script"] (spLaw K) := by
  have c_turn_of : Cal P w K mg base 1 "turn_of" ["one", "other"] (spTurn K) := d_turn_of.cal fun f fd F => ok_turn_of F
  have c_step_between : Cal P w K mg base 1 "step_between" ["one", "other"] (spStep K) := d_step_between.cal fun f fd F => ok_step_between F
  have c_half_round : Cal P w K mg base 2 "half_round" ["row"] (spHalf K) := d_half_round.cal fun f fd F => ok_half_round F B c_turn_of c_step_between
  have c_least_headings : Cal P w K mg base 3 "least_headings" ["wind"] (spLeast K) := d_least_headings.cal fun f fd F => ok_least_headings F B c_half_round
  have c_edges_of : Cal P w K mg base 1 "edges_of" ["headings"] (spEdges K) := d_edges_of.cal fun f fd F => ok_edges_of F B
  have c_half_of : Cal P w K mg base 1 "half_of" ["edge"] (spHalfOf K) := d_half_of.cal fun f fd F => ok_half_of F
  have c_is_sooner : Cal P w K mg base 2 "is_sooner" ["one", "other"] (spSooner K) := d_is_sooner.cal fun f fd F => ok_is_sooner F c_half_of c_turn_of
  have c_edges_merged : Cal P w K mg base 3 "edges_merged" ["ones", "others"] (spMerged K) := d_edges_merged.cal fun f fd F => ok_edges_merged F B c_is_sooner
  have c_joined : Cal P w K mg base 4 "joined" ["one", "other"] (spJoined K) := d_joined.cal fun f fd F => ok_joined F B c_least_headings c_edges_of c_edges_merged
  have c_joined_all : Cal P w K mg base 5 "joined_all" ["winds"] (spJoinAll K) := d_joined_all.cal fun f fd F => ok_joined_all F c_joined
  have c_drift_of : Cal P w K mg base 4 "drift_of" ["watch"] (spDrift K) := d_drift_of.cal fun f fd F => ok_drift_of F B c_least_headings
  have c_reach_of : Cal P w K mg base 6 "reach_of" ["watches"] (spReach K) := d_reach_of.cal fun f fd F => ok_reach_of F B c_drift_of c_joined_all
  have c_law_cell_at : Cal P w K mg base 1 "_law_cell_at" ["script", "k"] (spCell K) := d_law_cell_at.cal fun f fd F => ok_law_cell_at F B
  have c_law_draw : Cal P w K mg base 1 "_law_draw" ["cell", "k", "many"] spDraw := d_law_draw.cal fun f fd F => ok_law_draw F
  have c_law_vector : Cal P w K mg base 2 "_law_vector" ["cell", "far", "line"] (spVec K) := d_law_vector.cal fun f fd F => ok_law_vector F c_law_draw
  have c_law_free_vector : Cal P w K mg base 1 "_law_free_vector" ["cell", "far"] (spFVec K) := d_law_free_vector.cal fun f fd F => ok_law_free_vector F
  have c_law_free_watches : Cal P w K mg base 2 "_law_free_watches" ["script"] (spFree K) := d_law_free_watches.cal fun f fd F => ok_law_free_watches F B c_law_free_vector
  have c_law_watches : Cal P w K mg base 3 "_law_watches" ["script"] (spWatches K) := d_law_watches.cal fun f fd F => ok_law_watches F B c_law_cell_at c_law_draw c_law_vector c_law_free_watches
  have c_law_dot : Cal P w K mg base 1 "_law_dot" ["one", "other"] (spDot K) := d_law_dot.cal fun f fd F => ok_law_dot F
  have c_law_far : Cal P w K mg base 2 "_law_far" ["watches", "bearing"] (spFar K) := d_law_far.cal fun f fd F => ok_law_far F B c_law_dot
  have c_law_out : Cal P w K mg base 1 "_law_out" ["one", "other"] (spOut K) := d_law_out.cal fun f fd F => ok_law_out F
  have c_law_formed : Cal P w K mg base 1 "_law_formed" ["corners"] (spFormed K) := d_law_formed.cal fun f fd F => ok_law_formed F B
  have c_law_met : Cal P w K mg base 3 "_law_met" ["watches", "bearing", "corner"] (spMet K) := d_law_met.cal fun f fd F => ok_law_met F c_law_far c_law_dot
  have c_law_few : Cal P w K mg base 4 "_law_few" ["watches", "corners"] (spLook K fun n => n = 1 ∨ n = 2) := d_law_few.cal fun f fd F => ok_law_few F B c_law_met c_law_out
  have c_law_many : Cal P w K mg base 4 "_law_many" ["watches", "corners"] (spLook K fun n => 3 ≤ n) := d_law_many.cal fun f fd F => ok_law_many F B c_law_met c_law_out
  have c_no : Cal P w K mg base 0 "_law_same" ["found", "due"] spNo := d_law_same.cal fun f fd F => ⟨fun vs H Q E h => h.elim, fun A outer s H args us vs Q E hr he hb hv hs => hs.elim⟩
  have c_s0 : Cal P w K mg base 1 "_law_same" ["found", "due"] spSameI := d_law_same.cal fun f fd F => ok_same_int F B c_no
  have c_s1 : Cal P w K mg base 2 "_law_same" ["found", "due"] (spSameT K RI) := d_law_same.cal fun f fd F => ok_same_tup same_i F B c_s0
  have c_s2 : Cal P w K mg base 3 "_law_same" ["found", "due"] (spSameT K (RP K)) := d_law_same.cal fun f fd F => ok_same_tup same_p F B c_s1
  exact ok_law F B c_law_watches c_reach_of c_law_formed c_law_few c_law_many c_law_draw c_law_cell_at c_s2
end
theorem df_mk {K : PySem.W.Frag} {mg : Str → Option Value} {h : Heap} (X : K.In h) (G : h.Ns mainGlobals mg) {x : Str} {st : Stmt} {ps : List Str} {f : Addr} {oc : Value} {od an : Option Addr} {osl : Array (Option Value)} {kV doc pm cdv ct : Value}
    (a : PySem.W.nsIn K mainGlobals x = some (some (.ref f))) (l : K.lookup f = some ⟨oc, od, .func (PySem.W.fnOf x x (defArgs st) (defBody st) (defScope st) .none kV doc pm an cdv ct), osl⟩) (c : PySem.W.codeIn K cdv x = true) (k : PySem.W.keepIn K (.ref f) = true)
    (b : ∀ (kV doc pm : Value) (an : Option Addr) (cdv ct : Value) (us : List Value), us.length = ps.length → bindArgs (PySem.W.fnOf x x (defArgs st) (defBody st) (defScope st) .none kV doc pm an cdv ct) ⟨us, []⟩ = pure (ps.zip us)) : Df K mg x st ps :=
  ⟨f, _, fun_mk l c k, PySem.W.mg_of X G a, (fun_mk (st := st) l c k).binds b⟩
theorem bd_turn_of : ∀ (kV doc pm : Value) (an : Option Addr) (cdv ct : Value) (us : List Value), us.length = 0 + 2 → bindArgs (PySem.W.fnOf "turn_of" "turn_of" (defArgs s_turn_of) (defBody s_turn_of) (defScope s_turn_of) .none kV doc pm an cdv ct) ⟨us, []⟩ = pure (((["one", "other"] : List Str)).zip us) := fun _ _ _ _ _ _ us hl => match us, hl with | [_, _], _ => rfl
theorem bd_step_between : ∀ (kV doc pm : Value) (an : Option Addr) (cdv ct : Value) (us : List Value), us.length = 0 + 2 → bindArgs (PySem.W.fnOf "step_between" "step_between" (defArgs s_step_between) (defBody s_step_between) (defScope s_step_between) .none kV doc pm an cdv ct) ⟨us, []⟩ = pure (((["one", "other"] : List Str)).zip us) := fun _ _ _ _ _ _ us hl => match us, hl with | [_, _], _ => rfl
theorem bd_half_round : ∀ (kV doc pm : Value) (an : Option Addr) (cdv ct : Value) (us : List Value), us.length = 0 + 1 → bindArgs (PySem.W.fnOf "half_round" "half_round" (defArgs s_half_round) (defBody s_half_round) (defScope s_half_round) .none kV doc pm an cdv ct) ⟨us, []⟩ = pure (((["row"] : List Str)).zip us) := fun _ _ _ _ _ _ us hl => match us, hl with | [_], _ => rfl
theorem bd_least_headings : ∀ (kV doc pm : Value) (an : Option Addr) (cdv ct : Value) (us : List Value), us.length = 0 + 1 → bindArgs (PySem.W.fnOf "least_headings" "least_headings" (defArgs s_least_headings) (defBody s_least_headings) (defScope s_least_headings) .none kV doc pm an cdv ct) ⟨us, []⟩ = pure (((["wind"] : List Str)).zip us) := fun _ _ _ _ _ _ us hl => match us, hl with | [_], _ => rfl
theorem bd_edges_of : ∀ (kV doc pm : Value) (an : Option Addr) (cdv ct : Value) (us : List Value), us.length = 0 + 1 → bindArgs (PySem.W.fnOf "edges_of" "edges_of" (defArgs s_edges_of) (defBody s_edges_of) (defScope s_edges_of) .none kV doc pm an cdv ct) ⟨us, []⟩ = pure (((["headings"] : List Str)).zip us) := fun _ _ _ _ _ _ us hl => match us, hl with | [_], _ => rfl
theorem bd_half_of : ∀ (kV doc pm : Value) (an : Option Addr) (cdv ct : Value) (us : List Value), us.length = 0 + 1 → bindArgs (PySem.W.fnOf "half_of" "half_of" (defArgs s_half_of) (defBody s_half_of) (defScope s_half_of) .none kV doc pm an cdv ct) ⟨us, []⟩ = pure (((["edge"] : List Str)).zip us) := fun _ _ _ _ _ _ us hl => match us, hl with | [_], _ => rfl
theorem bd_is_sooner : ∀ (kV doc pm : Value) (an : Option Addr) (cdv ct : Value) (us : List Value), us.length = 0 + 2 → bindArgs (PySem.W.fnOf "is_sooner" "is_sooner" (defArgs s_is_sooner) (defBody s_is_sooner) (defScope s_is_sooner) .none kV doc pm an cdv ct) ⟨us, []⟩ = pure (((["one", "other"] : List Str)).zip us) := fun _ _ _ _ _ _ us hl => match us, hl with | [_, _], _ => rfl
theorem bd_edges_merged : ∀ (kV doc pm : Value) (an : Option Addr) (cdv ct : Value) (us : List Value), us.length = 0 + 2 → bindArgs (PySem.W.fnOf "edges_merged" "edges_merged" (defArgs s_edges_merged) (defBody s_edges_merged) (defScope s_edges_merged) .none kV doc pm an cdv ct) ⟨us, []⟩ = pure (((["ones", "others"] : List Str)).zip us) := fun _ _ _ _ _ _ us hl => match us, hl with | [_, _], _ => rfl
theorem bd_joined : ∀ (kV doc pm : Value) (an : Option Addr) (cdv ct : Value) (us : List Value), us.length = 0 + 2 → bindArgs (PySem.W.fnOf "joined" "joined" (defArgs s_joined) (defBody s_joined) (defScope s_joined) .none kV doc pm an cdv ct) ⟨us, []⟩ = pure (((["one", "other"] : List Str)).zip us) := fun _ _ _ _ _ _ us hl => match us, hl with | [_, _], _ => rfl
theorem bd_joined_all : ∀ (kV doc pm : Value) (an : Option Addr) (cdv ct : Value) (us : List Value), us.length = 0 + 1 → bindArgs (PySem.W.fnOf "joined_all" "joined_all" (defArgs s_joined_all) (defBody s_joined_all) (defScope s_joined_all) .none kV doc pm an cdv ct) ⟨us, []⟩ = pure (((["winds"] : List Str)).zip us) := fun _ _ _ _ _ _ us hl => match us, hl with | [_], _ => rfl
theorem bd_drift_of : ∀ (kV doc pm : Value) (an : Option Addr) (cdv ct : Value) (us : List Value), us.length = 0 + 1 → bindArgs (PySem.W.fnOf "drift_of" "drift_of" (defArgs s_drift_of) (defBody s_drift_of) (defScope s_drift_of) .none kV doc pm an cdv ct) ⟨us, []⟩ = pure (((["watch"] : List Str)).zip us) := fun _ _ _ _ _ _ us hl => match us, hl with | [_], _ => rfl
theorem bd_reach_of : ∀ (kV doc pm : Value) (an : Option Addr) (cdv ct : Value) (us : List Value), us.length = 0 + 1 → bindArgs (PySem.W.fnOf "reach_of" "reach_of" (defArgs s_reach_of) (defBody s_reach_of) (defScope s_reach_of) .none kV doc pm an cdv ct) ⟨us, []⟩ = pure (((["watches"] : List Str)).zip us) := fun _ _ _ _ _ _ us hl => match us, hl with | [_], _ => rfl
theorem bd_law_cell_at : ∀ (kV doc pm : Value) (an : Option Addr) (cdv ct : Value) (us : List Value), us.length = 0 + 2 → bindArgs (PySem.W.fnOf "_law_cell_at" "_law_cell_at" (defArgs s_law_cell_at) (defBody s_law_cell_at) (defScope s_law_cell_at) .none kV doc pm an cdv ct) ⟨us, []⟩ = pure (((["script", "k"] : List Str)).zip us) := fun _ _ _ _ _ _ us hl => match us, hl with | [_, _], _ => rfl
theorem bd_law_draw : ∀ (kV doc pm : Value) (an : Option Addr) (cdv ct : Value) (us : List Value), us.length = 0 + 3 → bindArgs (PySem.W.fnOf "_law_draw" "_law_draw" (defArgs s_law_draw) (defBody s_law_draw) (defScope s_law_draw) .none kV doc pm an cdv ct) ⟨us, []⟩ = pure (((["cell", "k", "many"] : List Str)).zip us) := fun _ _ _ _ _ _ us hl => match us, hl with | [_, _, _], _ => rfl
theorem bd_law_vector : ∀ (kV doc pm : Value) (an : Option Addr) (cdv ct : Value) (us : List Value), us.length = 0 + 3 → bindArgs (PySem.W.fnOf "_law_vector" "_law_vector" (defArgs s_law_vector) (defBody s_law_vector) (defScope s_law_vector) .none kV doc pm an cdv ct) ⟨us, []⟩ = pure (((["cell", "far", "line"] : List Str)).zip us) := fun _ _ _ _ _ _ us hl => match us, hl with | [_, _, _], _ => rfl
theorem bd_law_free_vector : ∀ (kV doc pm : Value) (an : Option Addr) (cdv ct : Value) (us : List Value), us.length = 0 + 2 → bindArgs (PySem.W.fnOf "_law_free_vector" "_law_free_vector" (defArgs s_law_free_vector) (defBody s_law_free_vector) (defScope s_law_free_vector) .none kV doc pm an cdv ct) ⟨us, []⟩ = pure (((["cell", "far"] : List Str)).zip us) := fun _ _ _ _ _ _ us hl => match us, hl with | [_, _], _ => rfl
theorem bd_law_free_watches : ∀ (kV doc pm : Value) (an : Option Addr) (cdv ct : Value) (us : List Value), us.length = 0 + 1 → bindArgs (PySem.W.fnOf "_law_free_watches" "_law_free_watches" (defArgs s_law_free_watches) (defBody s_law_free_watches) (defScope s_law_free_watches) .none kV doc pm an cdv ct) ⟨us, []⟩ = pure (((["script"] : List Str)).zip us) := fun _ _ _ _ _ _ us hl => match us, hl with | [_], _ => rfl
theorem bd_law_watches : ∀ (kV doc pm : Value) (an : Option Addr) (cdv ct : Value) (us : List Value), us.length = 0 + 1 → bindArgs (PySem.W.fnOf "_law_watches" "_law_watches" (defArgs s_law_watches) (defBody s_law_watches) (defScope s_law_watches) .none kV doc pm an cdv ct) ⟨us, []⟩ = pure (((["script"] : List Str)).zip us) := fun _ _ _ _ _ _ us hl => match us, hl with | [_], _ => rfl
theorem bd_law_dot : ∀ (kV doc pm : Value) (an : Option Addr) (cdv ct : Value) (us : List Value), us.length = 0 + 2 → bindArgs (PySem.W.fnOf "_law_dot" "_law_dot" (defArgs s_law_dot) (defBody s_law_dot) (defScope s_law_dot) .none kV doc pm an cdv ct) ⟨us, []⟩ = pure (((["one", "other"] : List Str)).zip us) := fun _ _ _ _ _ _ us hl => match us, hl with | [_, _], _ => rfl
theorem bd_law_far : ∀ (kV doc pm : Value) (an : Option Addr) (cdv ct : Value) (us : List Value), us.length = 0 + 2 → bindArgs (PySem.W.fnOf "_law_far" "_law_far" (defArgs s_law_far) (defBody s_law_far) (defScope s_law_far) .none kV doc pm an cdv ct) ⟨us, []⟩ = pure (((["watches", "bearing"] : List Str)).zip us) := fun _ _ _ _ _ _ us hl => match us, hl with | [_, _], _ => rfl
theorem bd_law_out : ∀ (kV doc pm : Value) (an : Option Addr) (cdv ct : Value) (us : List Value), us.length = 0 + 2 → bindArgs (PySem.W.fnOf "_law_out" "_law_out" (defArgs s_law_out) (defBody s_law_out) (defScope s_law_out) .none kV doc pm an cdv ct) ⟨us, []⟩ = pure (((["one", "other"] : List Str)).zip us) := fun _ _ _ _ _ _ us hl => match us, hl with | [_, _], _ => rfl
theorem bd_law_formed : ∀ (kV doc pm : Value) (an : Option Addr) (cdv ct : Value) (us : List Value), us.length = 0 + 1 → bindArgs (PySem.W.fnOf "_law_formed" "_law_formed" (defArgs s_law_formed) (defBody s_law_formed) (defScope s_law_formed) .none kV doc pm an cdv ct) ⟨us, []⟩ = pure (((["corners"] : List Str)).zip us) := fun _ _ _ _ _ _ us hl => match us, hl with | [_], _ => rfl
theorem bd_law_met : ∀ (kV doc pm : Value) (an : Option Addr) (cdv ct : Value) (us : List Value), us.length = 0 + 3 → bindArgs (PySem.W.fnOf "_law_met" "_law_met" (defArgs s_law_met) (defBody s_law_met) (defScope s_law_met) .none kV doc pm an cdv ct) ⟨us, []⟩ = pure (((["watches", "bearing", "corner"] : List Str)).zip us) := fun _ _ _ _ _ _ us hl => match us, hl with | [_, _, _], _ => rfl
theorem bd_law_few : ∀ (kV doc pm : Value) (an : Option Addr) (cdv ct : Value) (us : List Value), us.length = 0 + 2 → bindArgs (PySem.W.fnOf "_law_few" "_law_few" (defArgs s_law_few) (defBody s_law_few) (defScope s_law_few) .none kV doc pm an cdv ct) ⟨us, []⟩ = pure (((["watches", "corners"] : List Str)).zip us) := fun _ _ _ _ _ _ us hl => match us, hl with | [_, _], _ => rfl
theorem bd_law_many : ∀ (kV doc pm : Value) (an : Option Addr) (cdv ct : Value) (us : List Value), us.length = 0 + 2 → bindArgs (PySem.W.fnOf "_law_many" "_law_many" (defArgs s_law_many) (defBody s_law_many) (defScope s_law_many) .none kV doc pm an cdv ct) ⟨us, []⟩ = pure (((["watches", "corners"] : List Str)).zip us) := fun _ _ _ _ _ _ us hl => match us, hl with | [_, _], _ => rfl
theorem bd_law_same : ∀ (kV doc pm : Value) (an : Option Addr) (cdv ct : Value) (us : List Value), us.length = 0 + 2 → bindArgs (PySem.W.fnOf "_law_same" "_law_same" (defArgs s_law_same) (defBody s_law_same) (defScope s_law_same) .none kV doc pm an cdv ct) ⟨us, []⟩ = pure (((["found", "due"] : List Str)).zip us) := fun _ _ _ _ _ _ us hl => match us, hl with | [_, _], _ => rfl
theorem all_mk {l : PySem.W.OpenLaw} {w : World} {K : PySem.W.Frag} {h : Heap} {mg : Str → Option Value} {fa : Addr} (X : K.In h) (G : h.Ns mainGlobals mg) (hfa : mg "law" = some (.ref fa))
    {f0 : Addr} {oc0 kV0 dc0 pm0 cd0 ct0 : Value} {od0 an0 : Option Addr} {sl0 : Array (Option Value)}
    (a0 : PySem.W.nsIn K mainGlobals "turn_of" = some (some (.ref f0))) (l0 : K.lookup f0 = some ⟨oc0, od0, .func (PySem.W.fnOf "turn_of" "turn_of" (defArgs s_turn_of) (defBody s_turn_of) (defScope s_turn_of) .none kV0 dc0 pm0 an0 cd0 ct0), sl0⟩) (c0 : PySem.W.codeIn K cd0 "turn_of" = true) (k0 : PySem.W.keepIn K (.ref f0) = true)
    {f1 : Addr} {oc1 kV1 dc1 pm1 cd1 ct1 : Value} {od1 an1 : Option Addr} {sl1 : Array (Option Value)}
    (a1 : PySem.W.nsIn K mainGlobals "step_between" = some (some (.ref f1))) (l1 : K.lookup f1 = some ⟨oc1, od1, .func (PySem.W.fnOf "step_between" "step_between" (defArgs s_step_between) (defBody s_step_between) (defScope s_step_between) .none kV1 dc1 pm1 an1 cd1 ct1), sl1⟩) (c1 : PySem.W.codeIn K cd1 "step_between" = true) (k1 : PySem.W.keepIn K (.ref f1) = true)
    {f2 : Addr} {oc2 kV2 dc2 pm2 cd2 ct2 : Value} {od2 an2 : Option Addr} {sl2 : Array (Option Value)}
    (a2 : PySem.W.nsIn K mainGlobals "half_round" = some (some (.ref f2))) (l2 : K.lookup f2 = some ⟨oc2, od2, .func (PySem.W.fnOf "half_round" "half_round" (defArgs s_half_round) (defBody s_half_round) (defScope s_half_round) .none kV2 dc2 pm2 an2 cd2 ct2), sl2⟩) (c2 : PySem.W.codeIn K cd2 "half_round" = true) (k2 : PySem.W.keepIn K (.ref f2) = true)
    {f3 : Addr} {oc3 kV3 dc3 pm3 cd3 ct3 : Value} {od3 an3 : Option Addr} {sl3 : Array (Option Value)}
    (a3 : PySem.W.nsIn K mainGlobals "least_headings" = some (some (.ref f3))) (l3 : K.lookup f3 = some ⟨oc3, od3, .func (PySem.W.fnOf "least_headings" "least_headings" (defArgs s_least_headings) (defBody s_least_headings) (defScope s_least_headings) .none kV3 dc3 pm3 an3 cd3 ct3), sl3⟩) (c3 : PySem.W.codeIn K cd3 "least_headings" = true) (k3 : PySem.W.keepIn K (.ref f3) = true)
    {f4 : Addr} {oc4 kV4 dc4 pm4 cd4 ct4 : Value} {od4 an4 : Option Addr} {sl4 : Array (Option Value)}
    (a4 : PySem.W.nsIn K mainGlobals "edges_of" = some (some (.ref f4))) (l4 : K.lookup f4 = some ⟨oc4, od4, .func (PySem.W.fnOf "edges_of" "edges_of" (defArgs s_edges_of) (defBody s_edges_of) (defScope s_edges_of) .none kV4 dc4 pm4 an4 cd4 ct4), sl4⟩) (c4 : PySem.W.codeIn K cd4 "edges_of" = true) (k4 : PySem.W.keepIn K (.ref f4) = true)
    {f5 : Addr} {oc5 kV5 dc5 pm5 cd5 ct5 : Value} {od5 an5 : Option Addr} {sl5 : Array (Option Value)}
    (a5 : PySem.W.nsIn K mainGlobals "half_of" = some (some (.ref f5))) (l5 : K.lookup f5 = some ⟨oc5, od5, .func (PySem.W.fnOf "half_of" "half_of" (defArgs s_half_of) (defBody s_half_of) (defScope s_half_of) .none kV5 dc5 pm5 an5 cd5 ct5), sl5⟩) (c5 : PySem.W.codeIn K cd5 "half_of" = true) (k5 : PySem.W.keepIn K (.ref f5) = true)
    {f6 : Addr} {oc6 kV6 dc6 pm6 cd6 ct6 : Value} {od6 an6 : Option Addr} {sl6 : Array (Option Value)}
    (a6 : PySem.W.nsIn K mainGlobals "is_sooner" = some (some (.ref f6))) (l6 : K.lookup f6 = some ⟨oc6, od6, .func (PySem.W.fnOf "is_sooner" "is_sooner" (defArgs s_is_sooner) (defBody s_is_sooner) (defScope s_is_sooner) .none kV6 dc6 pm6 an6 cd6 ct6), sl6⟩) (c6 : PySem.W.codeIn K cd6 "is_sooner" = true) (k6 : PySem.W.keepIn K (.ref f6) = true)
    {f7 : Addr} {oc7 kV7 dc7 pm7 cd7 ct7 : Value} {od7 an7 : Option Addr} {sl7 : Array (Option Value)}
    (a7 : PySem.W.nsIn K mainGlobals "edges_merged" = some (some (.ref f7))) (l7 : K.lookup f7 = some ⟨oc7, od7, .func (PySem.W.fnOf "edges_merged" "edges_merged" (defArgs s_edges_merged) (defBody s_edges_merged) (defScope s_edges_merged) .none kV7 dc7 pm7 an7 cd7 ct7), sl7⟩) (c7 : PySem.W.codeIn K cd7 "edges_merged" = true) (k7 : PySem.W.keepIn K (.ref f7) = true)
    {f8 : Addr} {oc8 kV8 dc8 pm8 cd8 ct8 : Value} {od8 an8 : Option Addr} {sl8 : Array (Option Value)}
    (a8 : PySem.W.nsIn K mainGlobals "joined" = some (some (.ref f8))) (l8 : K.lookup f8 = some ⟨oc8, od8, .func (PySem.W.fnOf "joined" "joined" (defArgs s_joined) (defBody s_joined) (defScope s_joined) .none kV8 dc8 pm8 an8 cd8 ct8), sl8⟩) (c8 : PySem.W.codeIn K cd8 "joined" = true) (k8 : PySem.W.keepIn K (.ref f8) = true)
    {f9 : Addr} {oc9 kV9 dc9 pm9 cd9 ct9 : Value} {od9 an9 : Option Addr} {sl9 : Array (Option Value)}
    (a9 : PySem.W.nsIn K mainGlobals "joined_all" = some (some (.ref f9))) (l9 : K.lookup f9 = some ⟨oc9, od9, .func (PySem.W.fnOf "joined_all" "joined_all" (defArgs s_joined_all) (defBody s_joined_all) (defScope s_joined_all) .none kV9 dc9 pm9 an9 cd9 ct9), sl9⟩) (c9 : PySem.W.codeIn K cd9 "joined_all" = true) (k9 : PySem.W.keepIn K (.ref f9) = true)
    {f10 : Addr} {oc10 kV10 dc10 pm10 cd10 ct10 : Value} {od10 an10 : Option Addr} {sl10 : Array (Option Value)}
    (a10 : PySem.W.nsIn K mainGlobals "drift_of" = some (some (.ref f10))) (l10 : K.lookup f10 = some ⟨oc10, od10, .func (PySem.W.fnOf "drift_of" "drift_of" (defArgs s_drift_of) (defBody s_drift_of) (defScope s_drift_of) .none kV10 dc10 pm10 an10 cd10 ct10), sl10⟩) (c10 : PySem.W.codeIn K cd10 "drift_of" = true) (k10 : PySem.W.keepIn K (.ref f10) = true)
    {f11 : Addr} {oc11 kV11 dc11 pm11 cd11 ct11 : Value} {od11 an11 : Option Addr} {sl11 : Array (Option Value)}
    (a11 : PySem.W.nsIn K mainGlobals "reach_of" = some (some (.ref f11))) (l11 : K.lookup f11 = some ⟨oc11, od11, .func (PySem.W.fnOf "reach_of" "reach_of" (defArgs s_reach_of) (defBody s_reach_of) (defScope s_reach_of) .none kV11 dc11 pm11 an11 cd11 ct11), sl11⟩) (c11 : PySem.W.codeIn K cd11 "reach_of" = true) (k11 : PySem.W.keepIn K (.ref f11) = true)
    {f12 : Addr} {oc12 kV12 dc12 pm12 cd12 ct12 : Value} {od12 an12 : Option Addr} {sl12 : Array (Option Value)}
    (a12 : PySem.W.nsIn K mainGlobals "_law_cell_at" = some (some (.ref f12))) (l12 : K.lookup f12 = some ⟨oc12, od12, .func (PySem.W.fnOf "_law_cell_at" "_law_cell_at" (defArgs s_law_cell_at) (defBody s_law_cell_at) (defScope s_law_cell_at) .none kV12 dc12 pm12 an12 cd12 ct12), sl12⟩) (c12 : PySem.W.codeIn K cd12 "_law_cell_at" = true) (k12 : PySem.W.keepIn K (.ref f12) = true)
    {f13 : Addr} {oc13 kV13 dc13 pm13 cd13 ct13 : Value} {od13 an13 : Option Addr} {sl13 : Array (Option Value)}
    (a13 : PySem.W.nsIn K mainGlobals "_law_draw" = some (some (.ref f13))) (l13 : K.lookup f13 = some ⟨oc13, od13, .func (PySem.W.fnOf "_law_draw" "_law_draw" (defArgs s_law_draw) (defBody s_law_draw) (defScope s_law_draw) .none kV13 dc13 pm13 an13 cd13 ct13), sl13⟩) (c13 : PySem.W.codeIn K cd13 "_law_draw" = true) (k13 : PySem.W.keepIn K (.ref f13) = true)
    {f14 : Addr} {oc14 kV14 dc14 pm14 cd14 ct14 : Value} {od14 an14 : Option Addr} {sl14 : Array (Option Value)}
    (a14 : PySem.W.nsIn K mainGlobals "_law_vector" = some (some (.ref f14))) (l14 : K.lookup f14 = some ⟨oc14, od14, .func (PySem.W.fnOf "_law_vector" "_law_vector" (defArgs s_law_vector) (defBody s_law_vector) (defScope s_law_vector) .none kV14 dc14 pm14 an14 cd14 ct14), sl14⟩) (c14 : PySem.W.codeIn K cd14 "_law_vector" = true) (k14 : PySem.W.keepIn K (.ref f14) = true)
    {f15 : Addr} {oc15 kV15 dc15 pm15 cd15 ct15 : Value} {od15 an15 : Option Addr} {sl15 : Array (Option Value)}
    (a15 : PySem.W.nsIn K mainGlobals "_law_free_vector" = some (some (.ref f15))) (l15 : K.lookup f15 = some ⟨oc15, od15, .func (PySem.W.fnOf "_law_free_vector" "_law_free_vector" (defArgs s_law_free_vector) (defBody s_law_free_vector) (defScope s_law_free_vector) .none kV15 dc15 pm15 an15 cd15 ct15), sl15⟩) (c15 : PySem.W.codeIn K cd15 "_law_free_vector" = true) (k15 : PySem.W.keepIn K (.ref f15) = true)
    {f16 : Addr} {oc16 kV16 dc16 pm16 cd16 ct16 : Value} {od16 an16 : Option Addr} {sl16 : Array (Option Value)}
    (a16 : PySem.W.nsIn K mainGlobals "_law_free_watches" = some (some (.ref f16))) (l16 : K.lookup f16 = some ⟨oc16, od16, .func (PySem.W.fnOf "_law_free_watches" "_law_free_watches" (defArgs s_law_free_watches) (defBody s_law_free_watches) (defScope s_law_free_watches) .none kV16 dc16 pm16 an16 cd16 ct16), sl16⟩) (c16 : PySem.W.codeIn K cd16 "_law_free_watches" = true) (k16 : PySem.W.keepIn K (.ref f16) = true)
    {f17 : Addr} {oc17 kV17 dc17 pm17 cd17 ct17 : Value} {od17 an17 : Option Addr} {sl17 : Array (Option Value)}
    (a17 : PySem.W.nsIn K mainGlobals "_law_watches" = some (some (.ref f17))) (l17 : K.lookup f17 = some ⟨oc17, od17, .func (PySem.W.fnOf "_law_watches" "_law_watches" (defArgs s_law_watches) (defBody s_law_watches) (defScope s_law_watches) .none kV17 dc17 pm17 an17 cd17 ct17), sl17⟩) (c17 : PySem.W.codeIn K cd17 "_law_watches" = true) (k17 : PySem.W.keepIn K (.ref f17) = true)
    {f18 : Addr} {oc18 kV18 dc18 pm18 cd18 ct18 : Value} {od18 an18 : Option Addr} {sl18 : Array (Option Value)}
    (a18 : PySem.W.nsIn K mainGlobals "_law_dot" = some (some (.ref f18))) (l18 : K.lookup f18 = some ⟨oc18, od18, .func (PySem.W.fnOf "_law_dot" "_law_dot" (defArgs s_law_dot) (defBody s_law_dot) (defScope s_law_dot) .none kV18 dc18 pm18 an18 cd18 ct18), sl18⟩) (c18 : PySem.W.codeIn K cd18 "_law_dot" = true) (k18 : PySem.W.keepIn K (.ref f18) = true)
    {f19 : Addr} {oc19 kV19 dc19 pm19 cd19 ct19 : Value} {od19 an19 : Option Addr} {sl19 : Array (Option Value)}
    (a19 : PySem.W.nsIn K mainGlobals "_law_far" = some (some (.ref f19))) (l19 : K.lookup f19 = some ⟨oc19, od19, .func (PySem.W.fnOf "_law_far" "_law_far" (defArgs s_law_far) (defBody s_law_far) (defScope s_law_far) .none kV19 dc19 pm19 an19 cd19 ct19), sl19⟩) (c19 : PySem.W.codeIn K cd19 "_law_far" = true) (k19 : PySem.W.keepIn K (.ref f19) = true)
    {f20 : Addr} {oc20 kV20 dc20 pm20 cd20 ct20 : Value} {od20 an20 : Option Addr} {sl20 : Array (Option Value)}
    (a20 : PySem.W.nsIn K mainGlobals "_law_out" = some (some (.ref f20))) (l20 : K.lookup f20 = some ⟨oc20, od20, .func (PySem.W.fnOf "_law_out" "_law_out" (defArgs s_law_out) (defBody s_law_out) (defScope s_law_out) .none kV20 dc20 pm20 an20 cd20 ct20), sl20⟩) (c20 : PySem.W.codeIn K cd20 "_law_out" = true) (k20 : PySem.W.keepIn K (.ref f20) = true)
    {f21 : Addr} {oc21 kV21 dc21 pm21 cd21 ct21 : Value} {od21 an21 : Option Addr} {sl21 : Array (Option Value)}
    (a21 : PySem.W.nsIn K mainGlobals "_law_formed" = some (some (.ref f21))) (l21 : K.lookup f21 = some ⟨oc21, od21, .func (PySem.W.fnOf "_law_formed" "_law_formed" (defArgs s_law_formed) (defBody s_law_formed) (defScope s_law_formed) .none kV21 dc21 pm21 an21 cd21 ct21), sl21⟩) (c21 : PySem.W.codeIn K cd21 "_law_formed" = true) (k21 : PySem.W.keepIn K (.ref f21) = true)
    {f22 : Addr} {oc22 kV22 dc22 pm22 cd22 ct22 : Value} {od22 an22 : Option Addr} {sl22 : Array (Option Value)}
    (a22 : PySem.W.nsIn K mainGlobals "_law_met" = some (some (.ref f22))) (l22 : K.lookup f22 = some ⟨oc22, od22, .func (PySem.W.fnOf "_law_met" "_law_met" (defArgs s_law_met) (defBody s_law_met) (defScope s_law_met) .none kV22 dc22 pm22 an22 cd22 ct22), sl22⟩) (c22 : PySem.W.codeIn K cd22 "_law_met" = true) (k22 : PySem.W.keepIn K (.ref f22) = true)
    {f23 : Addr} {oc23 kV23 dc23 pm23 cd23 ct23 : Value} {od23 an23 : Option Addr} {sl23 : Array (Option Value)}
    (a23 : PySem.W.nsIn K mainGlobals "_law_few" = some (some (.ref f23))) (l23 : K.lookup f23 = some ⟨oc23, od23, .func (PySem.W.fnOf "_law_few" "_law_few" (defArgs s_law_few) (defBody s_law_few) (defScope s_law_few) .none kV23 dc23 pm23 an23 cd23 ct23), sl23⟩) (c23 : PySem.W.codeIn K cd23 "_law_few" = true) (k23 : PySem.W.keepIn K (.ref f23) = true)
    {f24 : Addr} {oc24 kV24 dc24 pm24 cd24 ct24 : Value} {od24 an24 : Option Addr} {sl24 : Array (Option Value)}
    (a24 : PySem.W.nsIn K mainGlobals "_law_many" = some (some (.ref f24))) (l24 : K.lookup f24 = some ⟨oc24, od24, .func (PySem.W.fnOf "_law_many" "_law_many" (defArgs s_law_many) (defBody s_law_many) (defScope s_law_many) .none kV24 dc24 pm24 an24 cd24 ct24), sl24⟩) (c24 : PySem.W.codeIn K cd24 "_law_many" = true) (k24 : PySem.W.keepIn K (.ref f24) = true)
    {f25 : Addr} {oc25 kV25 dc25 pm25 cd25 ct25 : Value} {od25 an25 : Option Addr} {sl25 : Array (Option Value)}
    (a25 : PySem.W.nsIn K mainGlobals "_law_same" = some (some (.ref f25))) (l25 : K.lookup f25 = some ⟨oc25, od25, .func (PySem.W.fnOf "_law_same" "_law_same" (defArgs s_law_same) (defBody s_law_same) (defScope s_law_same) .none kV25 dc25 pm25 an25 cd25 ct25), sl25⟩) (c25 : PySem.W.codeIn K cd25 "_law_same" = true) (k25 : PySem.W.keepIn K (.ref f25) = true)
    {f26 : Addr} {oc26 kV26 dc26 pm26 cd26 ct26 : Value} {od26 an26 : Option Addr} {sl26 : Array (Option Value)}
    (a26 : PySem.W.nsIn K mainGlobals "law" = some (some (.ref f26))) (l26 : K.lookup f26 = some ⟨oc26, od26, .func (PySem.W.fnOf "law" "law" (defArgs s_law) (defBody s_law) (defScope s_law) .none kV26 dc26 pm26 an26 cd26 ct26), sl26⟩) (c26 : PySem.W.codeIn K cd26 "law" = true) (k26 : PySem.W.keepIn K (.ref f26) = true)
    (z_len : PySem.W.nsIn K mainGlobals "len" = some none)
    (z_set_ : PySem.W.nsIn K mainGlobals "set" = some none)
    (z_sorted : PySem.W.nsIn K mainGlobals "sorted" = some none)
    (z_tuple : PySem.W.nsIn K mainGlobals "tuple" = some none)
    (z_list_ : PySem.W.nsIn K mainGlobals "list" = some none)
    (z_enumerate : PySem.W.nsIn K mainGlobals "enumerate" = some none)
    (z_range : PySem.W.nsIn K mainGlobals "range" = some none)
    (z_min_ : PySem.W.nsIn K mainGlobals "min" = some none)
    (z_max_ : PySem.W.nsIn K mainGlobals "max" = some none)
    (z_all_ : PySem.W.nsIn K mainGlobals "all" = some none)
    (z_isinstance : PySem.W.nsIn K mainGlobals "isinstance" = some none)
    (z_int_ : PySem.W.nsIn K mainGlobals "int" = some none)
    (z_bool_ : PySem.W.nsIn K mainGlobals "bool" = some none)
    (z_str_ : PySem.W.nsIn K mainGlobals "str" = some none)
    : ∃ fd : FuncData, (∀ (s : Shared) (v : Value), BindsTo s fd ⟨[v], []⟩ [("script", v)]) ∧ ∀ base : Heap, K.In base → base.Ns mainGlobals mg → FnOk l.prog w K mg base CX0 7 fa fd ["script"] (spLaw K) := by
  have e := hfa.symm.trans (PySem.W.mg_of X G a26)
  cases e
  have B : Bl mg := ⟨PySem.W.mg_none_of X G z_len, PySem.W.mg_none_of X G z_set_, PySem.W.mg_none_of X G z_sorted, PySem.W.mg_none_of X G z_tuple, PySem.W.mg_none_of X G z_list_, PySem.W.mg_none_of X G z_enumerate, PySem.W.mg_none_of X G z_range, PySem.W.mg_none_of X G z_min_, PySem.W.mg_none_of X G z_max_, PySem.W.mg_none_of X G z_all_, PySem.W.mg_none_of X G z_isinstance, PySem.W.mg_none_of X G z_int_, PySem.W.mg_none_of X G z_bool_, PySem.W.mg_none_of X G z_str_⟩
  exact ⟨PySem.W.fnOf "law" "law" (defArgs s_law) (defBody s_law) (defScope s_law) .none kV26 dc26 pm26 an26 cd26 ct26, fun s v => .of_eq rfl, fun base _ _ => whole B
    (df_mk X G a0 l0 c0 k0 bd_turn_of)
    (df_mk X G a1 l1 c1 k1 bd_step_between)
    (df_mk X G a2 l2 c2 k2 bd_half_round)
    (df_mk X G a3 l3 c3 k3 bd_least_headings)
    (df_mk X G a4 l4 c4 k4 bd_edges_of)
    (df_mk X G a5 l5 c5 k5 bd_half_of)
    (df_mk X G a6 l6 c6 k6 bd_is_sooner)
    (df_mk X G a7 l7 c7 k7 bd_edges_merged)
    (df_mk X G a8 l8 c8 k8 bd_joined)
    (df_mk X G a9 l9 c9 k9 bd_joined_all)
    (df_mk X G a10 l10 c10 k10 bd_drift_of)
    (df_mk X G a11 l11 c11 k11 bd_reach_of)
    (df_mk X G a12 l12 c12 k12 bd_law_cell_at)
    (df_mk X G a13 l13 c13 k13 bd_law_draw)
    (df_mk X G a14 l14 c14 k14 bd_law_vector)
    (df_mk X G a15 l15 c15 k15 bd_law_free_vector)
    (df_mk X G a16 l16 c16 k16 bd_law_free_watches)
    (df_mk X G a17 l17 c17 k17 bd_law_watches)
    (df_mk X G a18 l18 c18 k18 bd_law_dot)
    (df_mk X G a19 l19 c19 k19 bd_law_far)
    (df_mk X G a20 l20 c20 k20 bd_law_out)
    (df_mk X G a21 l21 c21 k21 bd_law_formed)
    (df_mk X G a22 l22 c22 k22 bd_law_met)
    (df_mk X G a23 l23 c23 k23 bd_law_few)
    (df_mk X G a24 l24 c24 k24 bd_law_many)
    (df_mk X G a25 l25 c25 k25 bd_law_same)
    (fun_mk (st := s_law) l26 c26 k26)⟩
theorem walk {l : PySem.W.OpenLaw} {q : Program} {loose : List Str} {XP : (Str → Option Value) → Heap → Prop} {YP : World → Heap → Prop} {d : DefRec} {K : Params → PySem.W.Frag} (hn : l.most = some 63) (hdf : d.params.defaults = [])
    (hY : ∀ (w : World) (h : Heap), YP w h → (K w.params).In h)
    (F : ∀ (w : World) (mg : Str → Option Value) (fa : Addr) (h : Heap), (K w.params).In h → h.Ns mainGlobals mg → mg d.name = some (.ref fa) →
      ∃ fd : FuncData, (∀ (s : Shared) (u : Value), BindsTo s fd ⟨[u], []⟩ [("script", u)]) ∧ ∀ base : Heap, (K w.params).In base → base.Ns mainGlobals mg → FnOk l.prog w (K w.params) mg base CX0 7 fa fd ["script"] (spLaw (K w.params))) :
    PySem.W.WalkO q loose XP YP l.row.toRowW d [] (fun f vs => PySem.call f vs) :=
  L2.walk_of (n := 63) (k := 7) (x := "script") (CX := fun _ => CX0) (sp := fun w => spLaw (K w.params)) hn (by decide) hdf ⟨rfl, by decide, by decide⟩ hY F (fun _ _ a ns hl _ hS => ⟨a, ns, rfl, hS, hl, fun _ => rfl⟩) fun _ _ _ _ _ z => z
end CHr

set_option maxRecDepth 100000
open PySem PySem.W PyProof.Rows in
set_option maxRecDepth 100000 in
set_option maxHeartbeats 0 in
theorem PySem.Challenge.cw_closehaul_k24_whole_reach_holds : PySem.Challenge.rw_closehaul_k24_whole_reach.Holds := by
  w_on; o_law; k_head; (case hw => w_witness2)
  k_fill
  refine CHr.walk (l := PySem.Challenge.rw_closehaul_k24_whole_reach) rfl rfl (fun w h Y => PySem.W.kIn_of Y) ?F
  case F =>
    intro w mg fa h KX G hmg
    refine' CHr.all_mk KX G hmg ?a0 ?l0 ?c0 ?k0 ?a1 ?l1 ?c1 ?k1 ?a2 ?l2 ?c2 ?k2 ?a3 ?l3 ?c3 ?k3 ?a4 ?l4 ?c4 ?k4 ?a5 ?l5 ?c5 ?k5 ?a6 ?l6 ?c6 ?k6 ?a7 ?l7 ?c7 ?k7 ?a8 ?l8 ?c8 ?k8 ?a9 ?l9 ?c9 ?k9 ?a10 ?l10 ?c10 ?k10 ?a11 ?l11 ?c11 ?k11 ?a12 ?l12 ?c12 ?k12 ?a13 ?l13 ?c13 ?k13 ?a14 ?l14 ?c14 ?k14 ?a15 ?l15 ?c15 ?k15 ?a16 ?l16 ?c16 ?k16 ?a17 ?l17 ?c17 ?k17 ?a18 ?l18 ?c18 ?k18 ?a19 ?l19 ?c19 ?k19 ?a20 ?l20 ?c20 ?k20 ?a21 ?l21 ?c21 ?k21 ?a22 ?l22 ?c22 ?k22 ?a23 ?l23 ?c23 ?k23 ?a24 ?l24 ?c24 ?k24 ?a25 ?l25 ?c25 ?k25 ?a26 ?l26 ?c26 ?k26 ?z_len ?z_set_ ?z_sorted ?z_tuple ?z_list_ ?z_enumerate ?z_range ?z_min_ ?z_max_ ?z_all_ ?z_isinstance ?z_int_ ?z_bool_ ?z_str_
    (case a0 => k_is)
    (case l0 => k_is)
    (case c0 => k_is)
    (case k0 => k_is)
    (case a1 => k_is)
    (case l1 => k_is)
    (case c1 => k_is)
    (case k1 => k_is)
    (case a2 => k_is)
    (case l2 => k_is)
    (case c2 => k_is)
    (case k2 => k_is)
    (case a3 => k_is)
    (case l3 => k_is)
    (case c3 => k_is)
    (case k3 => k_is)
    (case a4 => k_is)
    (case l4 => k_is)
    (case c4 => k_is)
    (case k4 => k_is)
    (case a5 => k_is)
    (case l5 => k_is)
    (case c5 => k_is)
    (case k5 => k_is)
    (case a6 => k_is)
    (case l6 => k_is)
    (case c6 => k_is)
    (case k6 => k_is)
    (case a7 => k_is)
    (case l7 => k_is)
    (case c7 => k_is)
    (case k7 => k_is)
    (case a8 => k_is)
    (case l8 => k_is)
    (case c8 => k_is)
    (case k8 => k_is)
    (case a9 => k_is)
    (case l9 => k_is)
    (case c9 => k_is)
    (case k9 => k_is)
    (case a10 => k_is)
    (case l10 => k_is)
    (case c10 => k_is)
    (case k10 => k_is)
    (case a11 => k_is)
    (case l11 => k_is)
    (case c11 => k_is)
    (case k11 => k_is)
    (case a12 => k_is)
    (case l12 => k_is)
    (case c12 => k_is)
    (case k12 => k_is)
    (case a13 => k_is)
    (case l13 => k_is)
    (case c13 => k_is)
    (case k13 => k_is)
    (case a14 => k_is)
    (case l14 => k_is)
    (case c14 => k_is)
    (case k14 => k_is)
    (case a15 => k_is)
    (case l15 => k_is)
    (case c15 => k_is)
    (case k15 => k_is)
    (case a16 => k_is)
    (case l16 => k_is)
    (case c16 => k_is)
    (case k16 => k_is)
    (case a17 => k_is)
    (case l17 => k_is)
    (case c17 => k_is)
    (case k17 => k_is)
    (case a18 => k_is)
    (case l18 => k_is)
    (case c18 => k_is)
    (case k18 => k_is)
    (case a19 => k_is)
    (case l19 => k_is)
    (case c19 => k_is)
    (case k19 => k_is)
    (case a20 => k_is)
    (case l20 => k_is)
    (case c20 => k_is)
    (case k20 => k_is)
    (case a21 => k_is)
    (case l21 => k_is)
    (case c21 => k_is)
    (case k21 => k_is)
    (case a22 => k_is)
    (case l22 => k_is)
    (case c22 => k_is)
    (case k22 => k_is)
    (case a23 => k_is)
    (case l23 => k_is)
    (case c23 => k_is)
    (case k23 => k_is)
    (case a24 => k_is)
    (case l24 => k_is)
    (case c24 => k_is)
    (case k24 => k_is)
    (case a25 => k_is)
    (case l25 => k_is)
    (case c25 => k_is)
    (case k25 => k_is)
    (case a26 => k_is)
    (case l26 => k_is)
    (case c26 => k_is)
    (case k26 => k_is)
    (case z_len => k_is)
    (case z_set_ => k_is)
    (case z_sorted => k_is)
    (case z_tuple => k_is)
    (case z_list_ => k_is)
    (case z_enumerate => k_is)
    (case z_range => k_is)
    (case z_min_ => k_is)
    (case z_max_ => k_is)
    (case z_all_ => k_is)
    (case z_isinstance => k_is)
    (case z_int_ => k_is)
    (case z_bool_ => k_is)
    (case z_str_ => k_is)
