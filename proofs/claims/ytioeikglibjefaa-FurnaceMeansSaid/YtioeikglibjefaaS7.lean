/- Plain facts of the furnace (S7). Conditions: none. -/
import Derived.Test.YtioeikglibjefaaS6
import Derived.Test.YtioeikglibjefaaW2
set_option linter.unusedSimpArgs false
set_option linter.unusedVariables false
namespace Cp
open Go
set_option maxRecDepth 10000
@[go_sem] theorem splice2 {a b c d : Val} : splice [a, b] 0 [c, d] = [c, d] := rfl
theorem splice_len {es vs : List Val} {j : Nat} (h : j + vs.length ≤ es.length) : (splice es j vs).length = es.length := by
  simp only [splice, List.length_append, List.length_take, List.length_drop]; omega
theorem splice_mem {es vs : List Val} {j : Nat} {v : Val} (h : v ∈ splice es j vs) : v ∈ es ∨ v ∈ vs := by
  simp only [splice, List.mem_append] at h
  rcases h with (h | h) | h
  · exact .inl (List.mem_of_mem_take h)
  · exact .inr h
  · exact .inl (List.mem_of_mem_drop h)
theorem drop_splice {es vs : List Val} {j : Nat} (h : j ≤ es.length) : (splice es j vs).drop j = vs ++ es.drop (j + vs.length) := by
  have e : (es.take j).length = j := by simp; omega
  unfold splice
  rw [List.append_assoc, List.drop_append, e, List.drop_of_length_le (by omega), Nat.sub_self]
  rfl
theorem splice_get3 {es vs : List Val} {j i : Nat} (h : j + vs.length ≤ es.length) : (splice es j vs)[i]? = if i < j then es[i]? else if i < j + vs.length then vs[i - j]? else es[i]? := by
  have e : (es.take j).length = j := by simp; omega
  unfold splice
  rw [List.append_assoc, List.getElem?_append, e]
  by_cases h1 : i < j
  · rw [if_pos h1, if_pos h1, List.getElem?_take, if_pos h1]
  · rw [if_neg h1, if_neg h1, List.getElem?_append]
    by_cases h2 : i < j + vs.length
    · rw [if_pos (by omega), if_pos h2]
    · rw [if_neg (by omega), if_neg h2, List.getElem?_drop]
      congr 1; omega
theorem splice_app {es es' vs : List Val} {j : Nat} (h : es.length ≤ j) : splice (es ++ es') j vs = es ++ splice es' (j - es.length) vs := by
  unfold splice
  rw [List.take_append, List.take_of_length_le h, List.drop_append, List.drop_of_length_le (by omega)]
  simp only [List.append_assoc, List.nil_append]
  rw [show j + vs.length - es.length = j - es.length + vs.length by omega]

/-- The cells of a fire whose minutes are reckoned so far. -/
def fireAt (r : RunT) : Nat → List Val
  | 0 => cRun r ++ (List.replicate 122 (.int .i64 0) ++ List.replicate 61 (.bool false))
  | k + 1 =>
    if 0 < (wk r ((k + 1 : Nat) : Int)).length then splice (splice (fireAt r k) (128 + (k + 1)) [.bool true]) (6 + (k + 1) * 2) [.int .i64 (meanS r ((k + 1 : Nat) : Int)).lo, .int .i64 (meanS r ((k + 1 : Nat) : Int)).hi]
    else splice (fireAt r k) (128 + (k + 1)) [.bool false]
theorem fireAt_len {r : RunT} : ∀ {k : Nat}, k ≤ 60 → (fireAt r k).length = 189
  | 0, _ => by simp [fireAt, cRun]
  | k + 1, h => by
    have ih := @fireAt_len r k (by omega)
    have e : ∀ v, (splice (fireAt r k) (128 + (k + 1)) [v]).length = 189 := fun v => by rw [splice_len (by simp only [List.length_cons, List.length_nil]; omega), ih]
    simp only [fireAt]
    split
    · rw [splice_len (by rw [e]; simp only [List.length_cons, List.length_nil]; omega), e]
    · exact e _
theorem fireAt_run {r : RunT} : ∀ {k : Nat}, ∃ rest, fireAt r k = cRun r ++ rest
  | 0 => ⟨_, rfl⟩
  | k + 1 => by
    obtain ⟨rest, e⟩ := @fireAt_run r k
    have h6 : (cRun r).length = 6 := rfl
    simp only [fireAt, e]
    split
    · exact ⟨_, by rw [splice_app (by rw [h6]; omega), splice_app (by rw [h6]; omega)]⟩
    · exact ⟨_, by rw [splice_app (by rw [h6]; omega)]⟩
def stillCell (v : Val) : Prop := noid v = true ∧ ∀ H, fzd H 5 v = v
theorem still_int {k : IntKind} {n : Int} : stillCell (.int k n) := ⟨rfl, fun _ => rfl⟩
theorem still_bool {b : Bool} : stillCell (.bool b) := ⟨rfl, fun _ => rfl⟩
theorem fireAt_still {r : RunT} : ∀ {k : Nat} (v : Val), v ∈ fireAt r k → stillCell v
  | 0, v, h => by
    simp only [fireAt, cRun, List.mem_append, List.mem_cons, List.not_mem_nil, or_false, List.mem_replicate] at h
    rcases h with (rfl | rfl | rfl | rfl | rfl | rfl) | h | h
    all_goals first | exact still_int | skip
    · exact ⟨by simp only [noid, cPt_noid], fun H => by simp only [fzd_lst, fzd_cPt]⟩
    · exact ⟨by simp only [noid, cCpl_noid], fun H => by simp only [fzd_lst, fzd_cCpl]⟩
    · exact ⟨by simp only [noid, cRow_noid], fun H => by simp only [fzd_lst, fzd_cRow]⟩
    · rw [h.2]; exact still_int
    · rw [h.2]; exact still_bool
  | k + 1, v, h => by
    have ih := @fireAt_still r k
    have one : ∀ b, v ∈ splice (fireAt r k) (128 + (k + 1)) [.bool b] → stillCell v := fun b h => by
      rcases splice_mem h with h | h
      · exact ih v h
      · simp at h; subst h; exact still_bool
    simp only [fireAt] at h
    split at h
    · rcases splice_mem h with h | h
      · exact one _ h
      · simp at h; rcases h with rfl | rfl <;> exact still_int
    · exact one _ h
theorem noids_still : ∀ {l : List Val}, (∀ v ∈ l, stillCell v) → noids l = true
  | [], _ => rfl
  | v :: l, h => by
    have ih := @noids_still l fun u hu => h u (List.mem_cons_of_mem _ hu)
    simp only [noids, (h v (by simp)).1, ih, Bool.and_self]
theorem fzd_still {H : Hp} {l : List Val} (h : ∀ v ∈ l, stillCell v) : l.map (fzd H 5) = l := by
  conv => rhs; rw [← List.map_id l]
  exact List.map_congr_left fun v hv => (h v hv).2 H
/-- What is left to sum of a minute. -/
def lfI (r : RunT) (m : Int) (left : List Nat) : List Nat := left.map fun p => (wk r m).getD p 0
theorem lf_all {r : RunT} {m : Int} : lfI r m (List.range (wk r m).length) = wk r m := by
  unfold lfI
  apply List.ext_getElem?
  intro i
  rw [List.getElem?_map]
  by_cases h : i < (wk r m).length
  · rw [List.getElem?_range h]; simp [List.getD, h]
  · rw [List.getElem?_eq_none (by simp; omega), List.getElem?_eq_none (by omega)]; rfl
theorem sumLo_perm {r : RunT} {m : Int} {a b : List Nat} (h : a.Perm b) : sumLo r m a = sumLo r m b ∧ sumHi r m a = sumHi r m b := by
  induction h with
  | nil => exact ⟨rfl, rfl⟩
  | cons x _ ih => simp only [sumLo, sumHi, ih.1, ih.2, and_self]
  | swap x y l => simp only [sumLo, sumHi]; omega
  | trans _ _ ih1 ih2 => exact ⟨ih1.1.trans ih2.1, ih1.2.trans ih2.2⟩
theorem lf_take {r : RunT} {m : Int} {left : List Nat} {p w : Nat} {c : Cpl} (h : p ∈ left) (hw : (wk r m)[p]? = some w) (hc : r.cpls[w]? = some c) :
    sumLo r m (lfI r m left) = (truth r c w m).lo + sumLo r m (lfI r m (left.erase p)) ∧ sumHi r m (lfI r m left) = (truth r c w m).hi + sumHi r m (lfI r m (left.erase p)) := by
  have e := sumLo_perm (r := r) (m := m) ((List.perm_cons_erase h).map fun p => (wk r m).getD p 0)
  have e2 : (wk r m).getD p 0 = w := by simp [List.getD, hw]
  simp only [List.map_cons, e2, sumLo, sumHi, hc] at e
  exact e
theorem lf_mem {r : RunT} {m : Int} {left : List Nat} (h : ∀ p ∈ left, p < (wk r m).length) : ∀ i ∈ lfI r m left, i ∈ wk r m := by
  intro i hi
  simp only [lfI, List.mem_map] at hi
  obtain ⟨p, hp, rfl⟩ := hi
  have := h p hp
  simp [List.getD, this]
@[go_sem] theorem lf_len {r : RunT} {m : Int} {left : List Nat} : (lfI r m left).length = left.length := by simp [lfI]
end Cp
namespace Cp
open Go
theorem warm_get {r : RunT} {m : Nat} (h1 : 1 ≤ m) : ∀ {n : Nat}, m ≤ n → n ≤ 60 → (fireAt r n)[128 + m]? = some (.bool (decide (0 < (wk r (m : Int)).length)))
  | 0, h, _ => by omega
  | n + 1, h, h60 => by
    have hl := @fireAt_len r n (by omega)
    have e : ∀ b, (splice (fireAt r n) (128 + (n + 1)) [.bool b])[128 + m]? = if m = n + 1 then some (.bool b) else (fireAt r n)[128 + m]? := fun b => by
      rw [splice_get3 (by simp only [List.length_cons, List.length_nil]; omega)]
      by_cases hm : m = n + 1
      · subst hm; rw [if_neg (by omega), if_pos (by simp), if_pos rfl, Nat.sub_self]; rfl
      · rw [if_pos (by omega), if_neg hm]
    have hl1 : ∀ b, (splice (fireAt r n) (128 + (n + 1)) [.bool b]).length = 189 := fun b => by rw [splice_len (by simp only [List.length_cons, List.length_nil]; omega), hl]
    simp only [fireAt]
    by_cases hz : 0 < (wk r ((n + 1 : Nat) : Int)).length
    · rw [if_pos hz, splice_get3 (by rw [hl1]; simp only [List.length_cons, List.length_nil]; omega), if_neg (by omega), if_neg (by simp only [List.length_cons, List.length_nil]; omega), e]
      by_cases hm : m = n + 1
      · subst hm; rw [if_pos rfl, decide_eq_true hz]
      · rw [if_neg hm, warm_get h1 (by omega) (by omega)]
    · rw [if_neg hz, e]
      by_cases hm : m = n + 1
      · subst hm; rw [if_pos rfl, decide_eq_false hz]
      · rw [if_neg hm, warm_get h1 (by omega) (by omega)]
theorem mean_get {r : RunT} {m : Nat} (h1 : 1 ≤ m) (hw : 0 < (wk r (m : Int)).length) : ∀ {n : Nat}, m ≤ n → n ≤ 60 → (fireAt r n)[6 + m * 2]? = some (.int .i64 (meanS r (m : Int)).lo) ∧ (fireAt r n)[6 + m * 2 + 1]? = some (.int .i64 (meanS r (m : Int)).hi)
  | 0, h, _ => by omega
  | n + 1, h, h60 => by
    have hl := @fireAt_len r n (by omega)
    have e : ∀ b i, i < 128 → (splice (fireAt r n) (128 + (n + 1)) [.bool b])[i]? = (fireAt r n)[i]? := fun b i hi => by
      rw [splice_get3 (by simp only [List.length_cons, List.length_nil]; omega), if_pos (by omega)]
    have hl1 : ∀ b, (splice (fireAt r n) (128 + (n + 1)) [.bool b]).length = 189 := fun b => by rw [splice_len (by simp only [List.length_cons, List.length_nil]; omega), hl]
    simp only [fireAt]
    by_cases hz : 0 < (wk r ((n + 1 : Nat) : Int)).length
    · have g : ∀ i, (splice (splice (fireAt r n) (128 + (n + 1)) [.bool true]) (6 + (n + 1) * 2) [.int .i64 (meanS r ((n + 1 : Nat) : Int)).lo, .int .i64 (meanS r ((n + 1 : Nat) : Int)).hi])[i]? = if i < 6 + (n + 1) * 2 then (splice (fireAt r n) (128 + (n + 1)) [.bool true])[i]? else if i < 6 + (n + 1) * 2 + 2 then [Val.int .i64 (meanS r ((n + 1 : Nat) : Int)).lo, .int .i64 (meanS r ((n + 1 : Nat) : Int)).hi][i - (6 + (n + 1) * 2)]? else (splice (fireAt r n) (128 + (n + 1)) [.bool true])[i]? := fun i =>
        splice_get3 (by rw [hl1]; simp only [List.length_cons, List.length_nil]; omega)
      rw [if_pos hz, g, g]
      by_cases hm : m = n + 1
      · subst hm
        refine ⟨?_, ?_⟩
        · rw [if_neg (by omega), if_pos (by omega), Nat.sub_self]; rfl
        · rw [if_neg (by omega), if_pos (by omega), show 6 + (n + 1) * 2 + 1 - (6 + (n + 1) * 2) = 1 by omega]; rfl
      · have ih := mean_get h1 hw (n := n) (by omega) (by omega)
        refine ⟨?_, ?_⟩
        · rw [if_pos (by omega), e _ _ (by omega)]; exact ih.1
        · rw [if_pos (by omega), e _ _ (by omega)]; exact ih.2
    · by_cases hm : m = n + 1
      · subst hm; exact absurd hw hz
      · rw [if_neg hz, e _ _ (by omega), e _ _ (by omega)]
        exact mean_get h1 hw (by omega) (by omega)
end Cp
