/- Plain facts of the furnace (S5). Conditions: none. -/
import Derived.Test.YtioeikglibjefaaS4
set_option linter.unusedVariables false
/-! What is great; breaches. -/
namespace Cp
open Go
theorem cons_ne {α : Type} [DecidableEq α] {x y : α} {xs ys : List α} (h : ¬ x = y) : false = decide (x :: xs = y :: ys) := by simp [h]
theorem cons_same {α : Type} [DecidableEq α] {x y : α} {xs ys : List α} (h : x = y) : decide (x :: xs = y :: ys) = decide (xs = ys) := by simp [h]
theorem dec_congr {p q : Prop} [Decidable p] [Decidable q] (h : p ↔ q) : decide p = decide q := by simp [h]
structure Brc where
  m : Int
  kind : Int
  cpl : Int
  known : Int
  deriving DecidableEq
def cBrc (b : Brc) : List Val := [.int .i64 b.m, .int .u8 b.kind, .int .i64 b.cpl, .int .u8 b.known]
@[go_sem] theorem fzd_cBrc {H : Hp} {n : Nat} {l : List Brc} : ((l.map cBrc).map fun es => es.map (fzd H (n + 1))) = l.map cBrc := map_id2 (fun _ => rfl) l
theorem brc_eq {a b : Brc} : a = b ↔ a.m = b.m ∧ a.kind = b.kind ∧ a.cpl = b.cpl ∧ a.known = b.known := by cases a; cases b; simp
@[go_sem] theorem cBrc_noid {l : List Brc} : noidss (l.map cBrc) = true := noidss_map fun _ => rfl
def greatS (r : RunT) (u : RulesT) : Bool := decide (15 < r.curve.length ∨ 12 < r.cpls.length ∨ 80 < r.rows.length ∨ 10 < u.steps.length) || r.rows.any fun x => decide (15 < x.deg.length)

structure RunSm (r : RunT) : Prop where
  curve : r.curve.length ≤ 15
  cpls : r.cpls.length ≤ 12
  rows : r.rows.length ≤ 80
  degs : ∀ x ∈ r.rows, x.deg.length ≤ 15
theorem great_sm {r : RunT} {u : RulesT} (h : greatS r u = false) : RunSm r ∧ u.steps.length ≤ 10 := by
  simp only [greatS, Bool.or_eq_false_iff, decide_eq_false_iff_not, List.any_eq_false, decide_eq_true_eq] at h
  exact ⟨⟨by omega, by omega, by omega, fun x hx => by have := h.2 x hx; omega⟩, by omega⟩
theorem RunSm.b {r : RunT} (h : RunSm r) : RunB r := ⟨by have := h.curve; omega, by have := h.cpls; omega, by have := h.rows; omega, fun x hx => by have := h.degs x hx; omega⟩
theorem map_set_self {α : Type} {g : α → List Val} {l : List α} {k : Nat} {x : α} (h : l[k]? = some x) : (l.map g).set k (g x) = l.map g := by
  apply List.ext_getElem?
  intro j
  rw [List.getElem?_set]
  by_cases hj : k = j
  · subst hj
    obtain ⟨hk, rfl⟩ := List.getElem?_eq_some_iff.1 h
    simp [hk]
  · rw [if_neg hj]
end Cp
