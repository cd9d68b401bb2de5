/- Rules, facts and contracts that the statement's proof leans on. Conditions: none. -/
import Derived.Test.YtioeikglibjefaaP11
set_option linter.unusedVariables false
set_option linter.unusedSimpArgs false
set_option linter.unusedSectionVars false
namespace Cp
open Go Go.Proofs
set_option maxRecDepth 10000
set_option maxHeartbeats 4000000
theorem lefts_law (r : RunT) (u : RulesT) (t : Int) : PureC Try.prog 4 [encRun r, encRules u, .int .i64 t] (.bool true) := by
  by_cases hg : greatS r u = true
  · refine PureC_of (fn := Try.f4) tabOK (by kernel_rfl) rfl (by kernel_rfl) (by simp [Try.f4]) (by simp [noids, noid, noidss, go_sem, encRun, cRun, encRules, cRules]) (by first | rfl | simp [noids, noid, noidss, go_sem, encRun, cRun, encRules, cRules]) ?_
    intro X hX0 hXs
    repeat' (first | (with_reducible refine sk ?_; intro K hK) | ((first | (with_reducible first | refine rg (id := 4) (md := { base := 0, own := [11] }) (h := ?_) | refine rgS (id := 4) [7, 8] (md := { base := 0, own := [11] }) (h := ?_) | refine rg (id := 5) (md := { base := 0, own := [9] }) (h := ?_) | refine rgS (id := 5) [7, 8] (md := { base := 0, own := [9] }) (h := ?_) | refine rg (md := { base := 0, own := [9, 11] }) (h := ?_) | refine rgS [7, 8] (md := { base := 0, own := [9, 11] }) (h := ?_) | refine nx ?_) | refine pK (great_ok r u) ?_); try simp (disch := omega) only [encRun, cRun, encRules, cRules, hg,go_sem, simprocAttr]) | (with_reducible refine bk ?_) | ((with_reducible refine' cE ?hv ?_ ?_); (case hv => first | rfl | (simp only [encRun, cRun, encRules, cRules, hg,go_sem, simprocAttr]; rfl)); all_goals (intro hc; (try simp only [go_sem, simprocAttr] at hc); try (exfalso; omega))) | ((with_reducible first | refine grdS_split ?_ ?_ | refine lkG_split ?_ ?_) <;> intro hg <;> (try simp (disch := omega) only [hg, encRun, cRun, encRules, cRules, hg,go_sem, simprocAttr]) <;> (try simp only [go_sem, simprocAttr] at hg) <;> (try (exfalso; omega))) | ((with_reducible refine fe ?_); refine ⟨_, (by simp only [Try.f4, encRun, cRun, encRules, cRules, hg,go_sem, simprocAttr]; rfl), ?_⟩; first | rfl | (try simp only [encRun, cRun, encRules, cRules, hg,go_sem, simprocAttr, seval])) | with_reducible intro (ep : Nat → Nat) | with_reducible apply_assumption -exfalso -symm only [*])
  · simp only [Bool.not_eq_true] at hg
    obtain ⟨hsm, hst⟩ := great_sm hg
    have hu : RulesB u := ⟨by omega⟩
    obtain ⟨l, e, hL, hll⟩ : ∃ (l : List Brc) (e : Int), leftT r u = .tup [.lst 4 (l.map cBrc), .int .i64 e] ∧ l.length ≤ 1000 := by
      unfold leftT
      split
      · rename_i h0
        obtain ⟨h1, h2⟩ := check0 h0
        have hF := run_facts h1
        have := leftB_len (u := u) hF r.rows.length
        have := hF.rows
        exact ⟨leftS r u, 0, rfl, by show (leftB r u r.rows.length).length ≤ 1000; omega⟩
      · exact ⟨[], _, rfl, by simp⟩
    obtain ⟨k, m, e2, hK⟩ : ∃ k m e2, keptT r u t = .tup [.int .u8 k, .int .i64 m, .int .i64 e2] := by
      unfold keptT
      split
      · split
        · exact ⟨_, _, _, rfl⟩
        · exact ⟨_, _, _, rfl⟩
      · exact ⟨_, _, _, rfl⟩
    obtain ⟨x, e3, hC⟩ : ∃ x e3, countT r u = .tup [.int .i64 x, .int .i64 e3] := by
      unfold countT
      split
      · exact ⟨_, _, rfl⟩
      · exact ⟨_, _, rfl⟩
    have l1 := Left_ok r u hsm.b hu
    have l2 := rLeft_ok r u hsm.b hu
    have k1 := Kept_ok r u hsm.b hu t
    have k2 := rKept_ok r u hsm.b hu t
    have c1 := Counts_ok r u hsm.b hu
    have c2 := rCounts_ok r u hsm.b hu
    rw [hL] at l1 l2
    rw [hK] at k1 k2
    rw [hC] at c1 c2
    refine PureC_of (fn := Try.f4) tabOK (by kernel_rfl) rfl (by kernel_rfl) (by simp [Try.f4]) (by simp [noids, noid, noidss, go_sem, encRun, cRun, encRules, cRules]) (by first | rfl | simp [noids, noid, noidss, go_sem, encRun, cRun, encRules, cRules]) ?_
    intro X hX0 hXs
    repeat' (first | (with_reducible refine sk ?_; intro K hK) | ((first | (with_reducible first | refine rg (id := 4) (md := { base := 0, own := [11] }) (h := ?_) | refine rgS (id := 4) [7, 8] (md := { base := 0, own := [11] }) (h := ?_) | refine rg (id := 5) (md := { base := 0, own := [9] }) (h := ?_) | refine rgS (id := 5) [7, 8] (md := { base := 0, own := [9] }) (h := ?_) | refine rg (md := { base := 0, own := [9, 11] }) (h := ?_) | refine rgS [7, 8] (md := { base := 0, own := [9, 11] }) (h := ?_) | refine nx ?_) | refine pK (great_ok r u) ?_ | refine pK (twin_ok r hsm) ?_ | refine pK (twinRules_ok u (by omega)) ?_ | refine pK (l1) ?_ | refine pK (l2) ?_ | refine pK (k1) ?_ | refine pK (k2) ?_ | refine pK (c1) ?_ | refine pK (c2) ?_ | refine pK (same_ok r r hsm.b) ?_ | refine pK (sameRules_ok u u (by omega)) ?_ | refine pK (sameBreaches_ok l l (by omega)) ?_); try simp (disch := omega) only [encRun, cRun, encRules, cRules, hg,go_sem, simprocAttr]) | (with_reducible refine bk ?_) | ((with_reducible refine' cE ?hv ?_ ?_); (case hv => first | rfl | (simp only [encRun, cRun, encRules, cRules, hg,go_sem, simprocAttr]; rfl)); all_goals (intro hc; (try simp only [go_sem, simprocAttr] at hc); try (exfalso; omega))) | ((with_reducible first | refine grdS_split ?_ ?_ | refine lkG_split ?_ ?_) <;> intro hg <;> (try simp (disch := omega) only [hg, encRun, cRun, encRules, cRules, hg,go_sem, simprocAttr]) <;> (try simp only [go_sem, simprocAttr] at hg) <;> (try (exfalso; omega))) | ((with_reducible refine fe ?_); refine ⟨_, (by simp only [Try.f4, encRun, cRun, encRules, cRules, hg,go_sem, simprocAttr]; rfl), ?_⟩; first | rfl | (try simp only [encRun, cRun, encRules, cRules, hg,go_sem, simprocAttr, seval])) | with_reducible intro (ep : Nat → Nat) | with_reducible apply_assumption -exfalso -symm only [*])
end Cp
