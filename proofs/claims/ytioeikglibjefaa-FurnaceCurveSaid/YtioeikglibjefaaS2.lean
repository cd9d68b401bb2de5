/- Plain facts of the furnace (S2). Conditions: none. -/
import Derived.Test.YtioeikglibjefaaS1
set_option linter.unusedVariables false
/-! Curves. -/
namespace Cp
open Go

theorem curveFrom_facts : ∀ (l : List Pt) (a : Pt), -1 ≤ a.m → 0 ≤ a.d → curveFrom a l = true →
    (∀ (i : Nat) (p : Pt), l[i]? = some p → a.m < p.m ∧ a.d ≤ p.d ∧ p.m ≤ 600 ∧ p.d ≤ 2000) ∧ (∀ (i j : Nat) (p q : Pt), i < j → l[i]? = some p → l[j]? = some q → p.m < q.m ∧ p.d ≤ q.d)
  | [], a, _, _, _ => ⟨fun i p h => by simp at h, fun i j p q _ h => by simp at h⟩
  | b :: l, a, h1, h2, h => by
    simp only [curveFrom, Bool.and_eq_true, decide_eq_true_eq] at h
    obtain ⟨hb, hl⟩ := h
    obtain ⟨f1, f2⟩ := curveFrom_facts l b (by omega) (by omega) hl
    refine ⟨fun i p hi => ?_, fun i j p q hij hi hj => ?_⟩
    · cases i with
      | zero => simp at hi; subst hi; omega
      | succ i => have := f1 i p (by simpa using hi); omega
    · cases j with
      | zero => omega
      | succ j =>
        cases i with
        | zero => simp at hi; subst hi; have := f1 j q (by simpa using hj); omega
        | succ i => exact f2 i j p q (by omega) (by simpa using hi) (by simpa using hj)

theorem curveOK_false {l : List Pt} (h : curveFrom ⟨-1, 0⟩ l = false) : false = curveOK l := by unfold curveOK; rw [h]; simp

structure CurveF (l : List Pt) : Prop where
  len : 2 ≤ l.length ∧ l.length ≤ 10
  zero : ∃ p, l[0]? = some p ∧ p.m = 0
  all : ∀ (i : Nat) (p : Pt), l[i]? = some p → 0 ≤ p.m ∧ p.m ≤ 600 ∧ 0 ≤ p.d ∧ p.d ≤ 2000
  inc : ∀ (i j : Nat) (p q : Pt), i < j → l[i]? = some p → l[j]? = some q → p.m < q.m ∧ p.d ≤ q.d

theorem curve_facts {l : List Pt} (h : curveOK l = true) : CurveF l := by
  cases l with
  | nil => simp [curveOK] at h
  | cons a l =>
    rw [curveOK_iff (p := a) rfl] at h
    simp only [Bool.and_eq_true, decide_eq_true_eq] at h
    obtain ⟨⟨h1, h2⟩, h3⟩ := h
    obtain ⟨f1, f2⟩ := curveFrom_facts _ _ (by simp) (by simp) h3
    exact ⟨h1, ⟨a, rfl, h2⟩, fun i p hi => by have := f1 i p hi; simp at this; omega, f2⟩

/-- Between two points. -/
def interp (a b : Pt) (m : Int) : Int := a.d + ((b.d - a.d) * (m - a.m)).tdiv (b.m - a.m)

theorem degFrom_at : ∀ (l : List Pt) (a : Pt) (i : Nat) (b : Pt) (m : Int), (∀ (i j : Nat) (p q : Pt), i < j → (a :: l)[i]? = some p → (a :: l)[j]? = some q → p.m < q.m) →
    (∀ j p, j < i → (a :: l)[j]? = some p → p.m < m) → (a :: l)[i]? = some b → (b.m = m → degFrom a l m = b.d) ∧ (∀ k c, i = k + 1 → (a :: l)[k]? = some c → m < b.m → degFrom a l m = interp c b m)
  | [], a, i, b, m, hs, hlt, hb => by
    cases i with
    | zero => simp at hb; subst hb; exact ⟨fun _ => rfl, fun k c h => by omega⟩
    | succ i => simp at hb
  | c :: l, a, i, b, m, hs, hlt, hb => by
    have ih := degFrom_at l c
    have hs' : ∀ (i j : Nat) (p q : Pt), i < j → (c :: l)[i]? = some p → (c :: l)[j]? = some q → p.m < q.m := fun i j p q hij hi hj => hs (i + 1) (j + 1) p q (by omega) (by simpa using hi) (by simpa using hj)
    have hac : a.m < c.m := hs 0 1 a c (by omega) rfl rfl
    cases i with
    | zero =>
      simp at hb; subst hb
      refine ⟨fun hm => ?_, fun k c h => by omega⟩
      simp only [degFrom]
      rw [if_pos (by omega)]
      have : m - a.m = 0 := by omega
      simp [this]
    | succ i =>
      have ham := hlt 0 a (by omega) rfl
      have hb' : (c :: l)[i]? = some b := by simpa using hb
      have hlt' : ∀ j p, j < i → (c :: l)[j]? = some p → p.m < m := fun j p hj hp => hlt (j + 1) p (by omega) (by simpa using hp)
      obtain ⟨q1, q2⟩ := ih i b m hs' hlt' hb'
      simp only [degFrom]
      by_cases hc : m < c.m
      · rw [if_pos hc]
        cases i with
        | zero =>
          simp at hb'; subst hb'
          refine ⟨fun hm => by omega, fun k d hk hd _ => ?_⟩
          obtain rfl : k = 0 := by omega
          simp at hd; subst hd; rfl
        | succ i => have := hlt' 0 c (by omega) rfl; omega
      · rw [if_neg hc]
        refine ⟨q1, fun k d hk hd hm => ?_⟩
        obtain rfl : k = i := by omega
        cases k with
        | zero => simp at hb'; subst hb'; omega
        | succ k => exact q2 k d rfl (by simpa using hd) hm

theorem degAt_at {l : List Pt} (hc : CurveF l) {i : Nat} {b : Pt} {m : Int} (hlt : ∀ j p, j < i → l[j]? = some p → p.m < m) (hb : l[i]? = some b) :
    (b.m = m → degAt l m = b.d) ∧ (∀ k c, i = k + 1 → l[k]? = some c → m < b.m → degAt l m = interp c b m) := by
  cases l with
  | nil => simp at hb
  | cons a l => exact degFrom_at l a i b m (fun i j p q hij hi hj => (hc.inc i j p q hij hi hj).1) hlt hb

theorem lastM_get {l : List Pt} {p : Pt} (h : l[l.length - 1]? = some p) : lastM l = p.m := by
  unfold lastM; rw [List.getLast?_eq_getElem?, h]; rfl

theorem interp_bounds {a b : Pt} {m : Int} (ha : 0 ≤ a.m ∧ a.m ≤ 600 ∧ 0 ≤ a.d ∧ a.d ≤ 2000) (hb : 0 ≤ b.m ∧ b.m ≤ 600 ∧ 0 ≤ b.d ∧ b.d ≤ 2000) (hd : a.d ≤ b.d) (h1 : a.m ≤ m) (h2 : m < b.m) :
    (0 ≤ (b.d - a.d) * (m - a.m) ∧ (b.d - a.d) * (m - a.m) ≤ 1200000) ∧ (0 ≤ ((b.d - a.d) * (m - a.m)).tdiv (b.m - a.m) ∧ ((b.d - a.d) * (m - a.m)).tdiv (b.m - a.m) ≤ b.d - a.d) := by
  have e1 : 0 ≤ (b.d - a.d) * (m - a.m) := Int.mul_nonneg (by omega) (by omega)
  have e2 : (b.d - a.d) * (m - a.m) ≤ 2000 * 600 := Int.mul_le_mul (by omega) (by omega) (by omega) (by omega)
  rw [Int.tdiv_eq_ediv_of_nonneg e1]
  refine ⟨⟨e1, by omega⟩, Int.ediv_nonneg e1 (by omega), ?_⟩
  refine Int.le_trans (Int.ediv_le_ediv (by omega) (Int.mul_le_mul_of_nonneg_left (show m - a.m ≤ b.m - a.m by omega) (show 0 ≤ b.d - a.d by omega))) ?_
  rw [Int.mul_ediv_cancel _ (by omega)]; exact Int.le_refl _
end Cp
