/- Plain facts of the furnace (S6). Conditions: none. -/
import Derived.Test.YtioeikglibjefaaS5
import Derived.Test.YtioeikglibjefaaW2
set_option linter.unusedVariables false
namespace Cp
open Go
/-- A set of indices, as a map's entries. -/
def tl (l : List Nat) : List (Int × Val) := l.map fun (i : Nat) => ((i : Int), Val.bool true)
theorem tl_snoc {l : List Nat} {i : Nat} : tl l ++ [((i : Int), .bool true)] = tl (l ++ [i]) := by simp [tl]
theorem tl_app {l l' : List Nat} : tl (l ++ l') = tl l ++ tl l' := by simp [tl]
@[go_sem] theorem tl_len {l : List Nat} : (tl l).length = l.length := by simp [tl]
theorem tl_get {l : List Nat} {i : Nat} : (tl l)[i]? = (l[i]?).map fun (i : Nat) => ((i : Int), Val.bool true) := by simp [tl]
theorem tl_not {l : List Nat} {i : Nat} (h : i ∉ l) : ∀ p ∈ tl l, p.1 ≠ (i : Int) := by
  intro p hp e
  simp only [tl, List.mem_map] at hp
  obtain ⟨j, hj, rfl⟩ := hp
  simp only at e
  obtain rfl : j = i := by omega
  exact h hj
theorem find_new {k : Nat} {l : List Nat} (h : k ∉ l) : findI (k : Int) (tl l) 0 = none := findI_none (tl_not h)
theorem find_mid {k : Nat} {l l' : List Nat} (h : k ∉ l) : findI (k : Int) (tl (l ++ k :: l')) 0 = some (l.length, .bool true) := by
  have : tl (l ++ k :: l') = tl l ++ ((k : Int), .bool true) :: tl l' := by simp [tl]
  rw [this, findI_mid (tl_not h), tl_len, Nat.zero_add]
theorem eraseI_mid {k : Nat} {l l' : List Nat} : (tl (l ++ k :: l')).eraseIdx l.length = tl (l ++ l') := by
  have e : tl (l ++ k :: l') = tl l ++ ((k : Int), .bool true) :: tl l' := by simp [tl]
  have := erase_mid (A := tl l) (x := ((k : Int), Val.bool true)) (B := tl l')
  rw [tl_len] at this
  rw [e, this, tl_app]
theorem wkFrom_app (m : Int) : ∀ (l : List Cpl) (k : Nat) (l' : List Cpl), wkFrom m k (l ++ l') = wkFrom m k l ++ wkFrom m (k + l.length) l'
  | [], k, l' => by simp [wkFrom]
  | c :: l, k, l' => by
    have ih := wkFrom_app m l (k + 1) l'
    have e : k + 1 + l.length = k + (c :: l).length := by simp only [List.length_cons]; omega
    rw [e] at ih
    simp only [List.cons_append, wkFrom, ih]
    split <;> rfl
theorem take_snoc' {α : Type} {l : List α} {k : Nat} {x : α} (h : l[k]? = some x) : l.take (k + 1) = l.take k ++ [x] := by
  obtain ⟨hk, rfl⟩ := List.getElem?_eq_some_iff.1 h
  simp [List.take_add_one]
/-- The set while the broken ones are taken away: so many are done. -/
def wkTo (r : RunT) (m : Int) (k : Nat) : List Nat := wkFrom m 0 (r.cpls.take k) ++ List.range' k (r.cpls.length - k)
theorem wkTo_zero {r : RunT} {m : Int} : wkTo r m 0 = List.range r.cpls.length := by simp [wkTo, wkFrom, List.range_eq_range']
theorem wkTo_end {r : RunT} {m : Int} : wkTo r m r.cpls.length = wk r m := by simp [wkTo, wk]
theorem wkTo_split {r : RunT} {m : Int} {k : Nat} (h : k < r.cpls.length) : wkTo r m k = wkFrom m 0 (r.cpls.take k) ++ k :: List.range' (k + 1) (r.cpls.length - (k + 1)) := by
  unfold wkTo
  rw [show r.cpls.length - k = (r.cpls.length - (k + 1)) + 1 by omega, List.range'_succ]
theorem wkTo_not {r : RunT} {m : Int} {k : Nat} : k ∉ wkFrom m 0 (r.cpls.take k) := by
  intro h
  obtain ⟨j, c, h1, h2, _⟩ := (wkFrom_mem _ _ _ _).1 h
  have := (List.getElem?_eq_some_iff.1 h2).1
  simp at this
  omega
theorem wkTo_stay {r : RunT} {m : Int} {k : Nat} {c : Cpl} (h : r.cpls[k]? = some c) (hw : works c m = true) : wkTo r m (k + 1) = wkTo r m k := by
  have hk := (List.getElem?_eq_some_iff.1 h).1
  rw [wkTo_split hk]
  unfold wkTo
  rw [take_snoc' h, wkFrom_app, List.append_assoc]
  have : (r.cpls.take k).length = k := by simp; omega
  simp [wkFrom, hw, this]
theorem wkTo_gone {r : RunT} {m : Int} {k : Nat} {c : Cpl} (h : r.cpls[k]? = some c) (hw : works c m = false) : wkTo r m (k + 1) = wkFrom m 0 (r.cpls.take k) ++ List.range' (k + 1) (r.cpls.length - (k + 1)) := by
  unfold wkTo
  rw [take_snoc' h, wkFrom_app]
  have : (r.cpls.take k).length = k := by have hk := (List.getElem?_eq_some_iff.1 h).1; simp; omega
  simp [wkFrom, hw]
end Cp
