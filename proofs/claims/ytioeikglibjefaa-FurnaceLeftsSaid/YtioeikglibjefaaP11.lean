/- Rules, facts and contracts that the statement's proof leans on. Conditions: none. -/
import Derived.Test.YtioeikglibjefaaP10
set_option linter.unusedVariables false
set_option linter.unusedSimpArgs false
set_option linter.unusedSectionVars false
namespace Cp
open Go Go.Proofs
set_option maxRecDepth 10000
set_option maxHeartbeats 4000000
theorem rpart_ok (u : RulesT) (hU : RulesF u) (m : Int) : PureC Try.prog 87 [encRules u, .int .i64 m] (.int .i64 (partS u m)) := by
  have hul := hU.len
  refine PureC_of (fn := Try.f87) tabOK (by kernel_rfl) rfl (by kernel_rfl) (by simp [Try.f87]) (by simp [noids, noid, noidss, go_sem, encRules, cRules]) (by first | rfl | simp [noids, noid, noidss, go_sem, encRules, cRules]) ?_
  intro X hX0 hXs
  repeat' (first | (with_reducible refine sk ?_; intro K hK) | ((with_reducible first | refine rg (h := ?_) | refine nx ?_); try simp (disch := omega) only [encRules, cRules,go_sem, simprocAttr]) | (with_reducible refine bk ?_) | ((with_reducible refine' cE ?hv ?_ ?_); (case hv => first | rfl | (simp only [encRules, cRules,go_sem, simprocAttr]; rfl)); all_goals (intro hc; (try simp only [go_sem, simprocAttr] at hc); try (exfalso; omega))) | ((with_reducible refine fe ?_); refine ⟨_, (by simp only [Try.f87, encRules, cRules,go_sem, simprocAttr]; rfl), ?_⟩; first | rfl | (try simp only [encRules, cRules,go_sem, simprocAttr, seval])) | with_reducible intro (ep : Nat → Nat) | with_reducible apply_assumption -exfalso -symm only [*])
  refine AW_block (AW_loop (fun n f H => ∃ k : Nat, n = u.steps.length - k ∧ k ≤ u.steps.length ∧ (f 1 = .int .i64 m ∧ f 2 = .pim (cRules u) ∧ f 6 = .int .i64 k) ∧ ∃ a, f 5 = .int .i64 a ∧ partS u m = partFrom m a (u.steps.drop k)) u.steps.length
    ⟨0, by simp, Nat.zero_le _, by (and_intros <;> first | rfl | (simp only [cRules, go_sem, simprocAttr]; done) | (simp only [cRules, go_sem, simprocAttr]; rfl)), -1, by (first | rfl | (simp only [go_sem, simprocAttr]; done) | (simp only [go_sem, simprocAttr]; rfl)), rfl⟩ ?_)
  rintro n f H ⟨k, rfl, hk, ⟨h1, h2, h6⟩, a, h5, hr⟩
  refine AW_keep [] ?_
  by_cases hlt : k < u.steps.length
  · obtain ⟨s, hs⟩ : ∃ s, u.steps[k]? = some s := ⟨_, List.getElem?_eq_getElem hlt⟩
    rw [drop_cons hs, partFrom] at hr
    by_cases hm : s.frm ≤ m
    · rw [if_pos hm] at hr
      repeat' (first | (with_reducible refine sk ?_; intro K hK) | ((with_reducible first | refine rg (h := ?_) | refine nx ?_); try simp (disch := omega) only [h1, h2, h5, h6, hs, hm, cRules, cStep,go_sem, simprocAttr]) | (with_reducible refine bk ?_) | ((with_reducible refine' cE ?hv ?_ ?_); (case hv => first | rfl | (simp only [h1, h2, h5, h6, hs, hm, cRules, cStep,go_sem, simprocAttr]; rfl)); all_goals (intro hc; (try simp only [go_sem, simprocAttr] at hc); try (exfalso; omega))) | ((with_reducible refine fe ?_); refine ⟨_, (by simp only [Try.f87, h1, h2, h5, h6, hs, hm, cRules, cStep,go_sem, simprocAttr]; rfl), ?_⟩; first | rfl | (try simp only [h1, h2, h5, h6, hs, hm, cRules, cStep,go_sem, simprocAttr, seval])) | with_reducible intro (ep : Nat → Nat) | with_reducible apply_assumption -exfalso -symm only [*])
      exact ⟨u.steps.length - (k + 1), by omega, k + 1, rfl, by omega, rfl, _, rfl, hr⟩
    · rw [if_neg hm] at hr
      repeat' (first | (with_reducible refine sk ?_; intro K hK) | ((with_reducible first | refine rg (h := ?_) | refine nx ?_); try simp (disch := omega) only [h1, h2, h5, h6, hs, hm, cRules, cStep,go_sem, simprocAttr]) | (with_reducible refine bk ?_) | ((with_reducible refine' cE ?hv ?_ ?_); (case hv => first | rfl | (simp only [h1, h2, h5, h6, hs, hm, cRules, cStep,go_sem, simprocAttr]; rfl)); all_goals (intro hc; (try simp only [go_sem, simprocAttr] at hc); try (exfalso; omega))) | ((with_reducible refine fe ?_); refine ⟨_, (by simp only [Try.f87, h1, h2, h5, h6, hs, hm, cRules, cStep,go_sem, simprocAttr]; rfl), ?_⟩; first | rfl | (try simp only [h1, h2, h5, h6, hs, hm, cRules, cStep,go_sem, simprocAttr, seval])) | with_reducible intro (ep : Nat → Nat) | with_reducible apply_assumption -exfalso -symm only [*])
      exact ⟨u.steps.length - (k + 1), by omega, k + 1, rfl, by omega, rfl, _, rfl, hr⟩
  · rw [drop_none (by omega), partFrom] at hr
    repeat' (first | (with_reducible refine sk ?_; intro K hK) | ((with_reducible first | refine rg (h := ?_) | refine nx ?_); try simp (disch := omega) only [h1, h2, h5, h6, cRules,go_sem, simprocAttr]) | (with_reducible refine bk ?_) | ((with_reducible refine' cE ?hv ?_ ?_); (case hv => first | rfl | (simp only [h1, h2, h5, h6, cRules,go_sem, simprocAttr]; rfl)); all_goals (intro hc; (try simp only [go_sem, simprocAttr] at hc); try (exfalso; omega))) | ((with_reducible refine fe ?_); refine ⟨_, (by simp only [Try.f87, h1, h2, h5, h6, cRules,go_sem, simprocAttr]; rfl), ?_⟩; first | rfl | (try simp only [h1, h2, h5, h6, cRules,go_sem, simprocAttr, seval])) | with_reducible intro (ep : Nat → Nat) | with_reducible apply_assumption -exfalso -symm only [*])
    exact hr.symm
theorem oneB_ne {m q c n : Int} (h : ¬ n = 0) : oneB m q c n = [⟨m, q, c, n⟩] := by unfold oneB; rw [if_neg h]
theorem oneB_eq {m q c n : Int} (h : n = 0) : oneB m q c n = [] := by unfold oneB; rw [if_pos h]
def OutL (l : List Brc) (f : Fr) (H : Hp) : Prop := ∃ e, f 5 = .gr 5 e l.length ∧ H 5 = some (e, .arr 4 (l.map cBrc))
theorem OutL_app {l : List Brc} {b : Brc} {f : Fr} {H : Hp} {e : Nat} (h1 : f 5 = .gr 5 e (l.length + 1)) (h2 : H 5 = some (e, .arr 4 (l.map cBrc ++ [cBrc b]))) : OutL (l ++ [b]) f H :=
  ⟨e, by rw [List.length_append]; exact h1, by rw [List.map_append]; exact h2⟩
theorem rleft_ok (r : RunT) (hF : RunF r) (u : RulesT) (hU : RulesF u) : PureC Try.prog 58 [encRun r, encRules u] (.lst 4 ((leftS r u).map cBrc)) := by
  have hrl := hF.rows
  have hcl := hF.cpls
  have hus := hU.single
  have hg := hF.gauge
  have hup := hU.press
  have hdeg := fun m => deg_bnd (l := r.curve) hF.curve (m := m)
  refine PureC_of (fn := Try.f58) tabOK (by kernel_rfl) rfl (by kernel_rfl) (by simp [Try.f58]) (by simp [noids, noid, noidss, go_sem, encRun, cRun, encRules, cRules]) (by first | rfl | simp [noids, noid, noidss, go_sem, encRun, cRun, encRules, cRules]) ?_
  intro X hX0 hXs
  repeat' (first | (with_reducible refine sk ?_; intro K hK) | ((with_reducible first | refine rg (id := 9) (md := { base := 0, own := [43, 88, 137, 175] }) (h := ?_) | refine rgS (id := 9) [12, 18] (md := { base := 0, own := [43, 88, 137, 175] }) (h := ?_) | refine rg (id := 17) (md := { base := 0, own := [43, 88, 137, 175] }) (h := ?_) | refine rgS (id := 17) [12, 18] (md := { base := 0, own := [43, 88, 137, 175] }) (h := ?_) | refine rg (id := 24) (md := { base := 0, own := [43, 88, 137, 175] }) (h := ?_) | refine rgS (id := 24) [12, 18] (md := { base := 0, own := [43, 88, 137, 175] }) (h := ?_) | refine rg (id := 28) (md := { base := 0, own := [43, 88, 137, 175] }) (h := ?_) | refine rgS (id := 28) [12, 18] (md := { base := 0, own := [43, 88, 137, 175] }) (h := ?_) | refine rg (md := { base := 0, own := [5, 43, 88, 137, 175] }) (h := ?_) | refine rgS [12, 18] (md := { base := 0, own := [5, 43, 88, 137, 175] }) (h := ?_) | refine nx ?_); try simp (disch := omega) only [encRun, cRun, encRules, cRules,go_sem, simprocAttr]) | (with_reducible refine bk ?_) | ((with_reducible refine' cE ?hv ?_ ?_); (case hv => first | rfl | (simp only [encRun, cRun, encRules, cRules,go_sem, simprocAttr]; rfl)); all_goals (intro hc; (try simp only [go_sem, simprocAttr] at hc); try (exfalso; omega))) | ((with_reducible first | refine grdS_split ?_ ?_ | refine lkG_split ?_ ?_) <;> intro hg <;> (try simp (disch := omega) only [hg, encRun, cRun, encRules, cRules,go_sem, simprocAttr]) <;> (try simp only [go_sem, simprocAttr] at hg) <;> (try (exfalso; omega))) | ((with_reducible refine fe ?_); refine ⟨_, (by simp only [Try.f58, encRun, cRun, encRules, cRules,go_sem, simprocAttr]; rfl), ?_⟩; first | rfl | (try simp only [encRun, cRun, encRules, cRules,go_sem, simprocAttr, seval])) | with_reducible intro (ep : Nat → Nat) | with_reducible apply_assumption -exfalso -symm only [*])
  refine AW_block (AW_loop (fun n f H => ∃ k : Nat, n = r.rows.length - k ∧ k ≤ r.rows.length ∧ (f 2 = .pim (cRun r) ∧ f 3 = .pim (cRules u) ∧ f 9 = .int .i64 ((k + 1 : Nat) : Int) ∧ f 6 = .int .i64 (cumLo r k) ∧ f 7 = .int .i64 (cumHi r k) ∧ f 8 = .int .i64 (cumC r k)) ∧ ∃ e, f 5 = .gr 5 e (leftB r u k).length ∧ H 5 = some (e, .arr 4 ((leftB r u k).map cBrc))) r.rows.length
    ⟨0, by simp, Nat.zero_le _, by (and_intros <;> first | rfl | (simp only [cRun, cRules, cumLo, cumHi, cumC, go_sem, simprocAttr]; done) | (simp only [cRun, cRules, cumLo, cumHi, cumC, go_sem, simprocAttr]; rfl)), _, by (first | rfl | (simp only [go_sem, simprocAttr]; done) | (simp only [go_sem, simprocAttr]; rfl)), by (first | rfl | (simp only [go_sem, simprocAttr]; done) | (simp only [go_sem, simprocAttr]; rfl))⟩ ?_)
  rintro n f H ⟨k, rfl, hk, ⟨h2, h3, h9, h6, h7, h8⟩, e, h5, hH5⟩
  refine AW_keep [5] ?_
  by_cases hlt : k < r.rows.length
  · obtain ⟨m, hm⟩ : ∃ m, ((k + 1 : Nat) : Int) = m := ⟨_, rfl⟩
    have hm1 : 1 ≤ m := by omega
    have hm2 : m ≤ r.rows.length := by omega
    have hcb := cum_bounds hF hdeg k (by omega)
    have hcb2 := cum_bounds hF hdeg (k + 1) (by omega)
    have hd1 := hdeg ((k + 1 : Nat) : Int) (by omega) (by omega)
    have hlen := leftB_len (u := u) hF k
    repeat' (first | ((fail_if_success (with_reducible refine AW_at (id := 8) ?_)); with_reducible refine sk ?_; intro K hK) | ((first | (with_reducible first | refine rg (id := 9) (md := { base := 0, own := [43, 88, 137, 175] }) (h := ?_) | refine rgS (id := 9) [12, 18] (md := { base := 0, own := [43, 88, 137, 175] }) (h := ?_) | refine rg (id := 17) (md := { base := 0, own := [43, 88, 137, 175] }) (h := ?_) | refine rgS (id := 17) [12, 18] (md := { base := 0, own := [43, 88, 137, 175] }) (h := ?_) | refine rg (id := 24) (md := { base := 0, own := [43, 88, 137, 175] }) (h := ?_) | refine rgS (id := 24) [12, 18] (md := { base := 0, own := [43, 88, 137, 175] }) (h := ?_) | refine rg (id := 28) (md := { base := 0, own := [43, 88, 137, 175] }) (h := ?_) | refine rgS (id := 28) [12, 18] (md := { base := 0, own := [43, 88, 137, 175] }) (h := ?_) | refine rg (md := { base := 0, own := [5, 43, 88, 137, 175] }) (h := ?_) | refine rgS [12, 18] (md := { base := 0, own := [5, 43, 88, 137, 175] }) (h := ?_) | refine nx ?_) | refine pK (rdegree_ok r.curve hF.curve ((k + 1 : Nat) : Int) (by omega) (by omega)) ?_ | refine pK (rworking_ok r ((k + 1 : Nat) : Int) (by omega)) ?_); try simp (disch := omega) only [h2, h3, h5, h6, h7, h8, h9, hH5, cRun,go_sem, simprocAttr]) | (with_reducible refine bk ?_) | ((with_reducible refine' cE ?hv ?_ ?_); (case hv => first | rfl | (simp only [h2, h3, h5, h6, h7, h8, h9, hH5, cRun,go_sem, simprocAttr]; rfl)); all_goals (intro hc; (try simp only [go_sem, simprocAttr] at hc); try (exfalso; omega))) | ((with_reducible first | refine grdS_split ?_ ?_ | refine lkG_split ?_ ?_) <;> intro hg <;> (try simp (disch := omega) only [hg, h2, h3, h5, h6, h7, h8, h9, hH5, cRun,go_sem, simprocAttr]) <;> (try simp only [go_sem, simprocAttr] at hg) <;> (try (exfalso; omega))) | ((with_reducible refine fe ?_); refine ⟨_, (by simp only [Try.f58, h2, h3, h5, h6, h7, h8, h9, hH5, cRun,go_sem, simprocAttr]; rfl), ?_⟩; first | rfl | (try simp only [h2, h3, h5, h6, h7, h8, h9, hH5, cRun,go_sem, simprocAttr, seval])) | with_reducible intro (ep : Nat → Nat) | with_reducible apply_assumption -exfalso -symm only [*])
    have hwl := @wk_len r ((k + 1 : Nat) : Int)
    have hnl : (natI (wk r ((k + 1 : Nat) : Int))).length = (wk r ((k + 1 : Nat) : Int)).length := natI_length
    have hbl : (blindB r ((k + 1 : Nat) : Int)).length ≤ 1 := by unfold blindB; split <;> simp
    have hol := @oneB_len ((k + 1 : Nat) : Int) 2 (-1) (areaS r u (k + 1))
    have hcutA : ∀ f H, (f 2 = .pim (cRun r) ∧ f 3 = .pim (cRules u) ∧ f 9 = .int .i64 ((k + 1 : Nat) : Int) ∧ f 10 = .int .i64 (degAt r.curve ((k + 1 : Nat) : Int)) ∧ f 11 = .lst 1 (ints (natI (wk r ((k + 1 : Nat) : Int)))) ∧ f 6 = .int .i64 (cumLo r (k + 1)) ∧ f 7 = .int .i64 (cumHi r (k + 1)) ∧ f 8 = .int .i64 (cumC r (k + 1))) ∧ OutL (leftB r u k ++ blindB r ((k + 1 : Nat) : Int)) f H → K f H := by
      clear h2 h3 h5 h6 h7 h8 h9 hH5
      rintro f H ⟨⟨h2, h3, h9, h10, h11, h6, h7, h8⟩, e, h5, hH5⟩
      refine hK f H ?_
      clear hK
      refine AW_keep [5] ?_
      repeat' (first | ((fail_if_success (with_reducible refine AW_at (id := 12) ?_)); with_reducible refine sk ?_; intro K hK) | ((with_reducible first | refine rg (id := 9) (md := { base := 0, own := [43, 88, 137, 175] }) (h := ?_) | refine rgS (id := 9) [12, 18] (md := { base := 0, own := [43, 88, 137, 175] }) (h := ?_) | refine rg (id := 17) (md := { base := 0, own := [43, 88, 137, 175] }) (h := ?_) | refine rgS (id := 17) [12, 18] (md := { base := 0, own := [43, 88, 137, 175] }) (h := ?_) | refine rg (id := 24) (md := { base := 0, own := [43, 88, 137, 175] }) (h := ?_) | refine rgS (id := 24) [12, 18] (md := { base := 0, own := [43, 88, 137, 175] }) (h := ?_) | refine rg (id := 28) (md := { base := 0, own := [43, 88, 137, 175] }) (h := ?_) | refine rgS (id := 28) [12, 18] (md := { base := 0, own := [43, 88, 137, 175] }) (h := ?_) | refine rg (md := { base := 0, own := [5, 43, 88, 137, 175] }) (h := ?_) | refine rgS [12, 18] (md := { base := 0, own := [5, 43, 88, 137, 175] }) (h := ?_) | refine nx ?_); try simp (disch := omega) only [h2, h3, h5, h6, h7, h8, h9, h10, h11, hH5,go_sem, simprocAttr]) | (with_reducible refine bk ?_) | ((with_reducible refine' cE ?hv ?_ ?_); (case hv => first | rfl | (simp only [h2, h3, h5, h6, h7, h8, h9, h10, h11, hH5,go_sem, simprocAttr]; rfl)); all_goals (intro hc; (try simp only [go_sem, simprocAttr] at hc); try (exfalso; omega))) | ((with_reducible first | refine grdS_split ?_ ?_ | refine lkG_split ?_ ?_) <;> intro hg <;> (try simp (disch := omega) only [hg, h2, h3, h5, h6, h7, h8, h9, h10, h11, hH5,go_sem, simprocAttr]) <;> (try simp only [go_sem, simprocAttr] at hg) <;> (try (exfalso; omega))) | ((with_reducible refine fe ?_); refine ⟨_, (by simp only [Try.f58, h2, h3, h5, h6, h7, h8, h9, h10, h11, hH5,go_sem, simprocAttr]; rfl), ?_⟩; first | rfl | (try simp only [h2, h3, h5, h6, h7, h8, h9, h10, h11, hH5,go_sem, simprocAttr, seval])) | with_reducible intro (ep : Nat → Nat) | with_reducible apply_assumption -exfalso -symm only [*])
      have hcutB : ∀ f H, (f 2 = .pim (cRun r) ∧ f 3 = .pim (cRules u) ∧ f 9 = .int .i64 ((k + 1 : Nat) : Int) ∧ f 10 = .int .i64 (degAt r.curve ((k + 1 : Nat) : Int)) ∧ f 11 = .lst 1 (ints (natI (wk r ((k + 1 : Nat) : Int)))) ∧ f 6 = .int .i64 (cumLo r (k + 1)) ∧ f 7 = .int .i64 (cumHi r (k + 1)) ∧ f 8 = .int .i64 (cumC r (k + 1))) ∧ OutL (leftB r u k ++ blindB r ((k + 1 : Nat) : Int) ++ oneB ((k + 1 : Nat) : Int) 2 (-1) (areaS r u (k + 1))) f H → K f H := by
        clear h2 h3 h5 h6 h7 h8 h9 h10 h11 hH5
        rintro f H ⟨⟨h2, h3, h9, h10, h11, h6, h7, h8⟩, e, h5, hH5⟩
        refine hK f H ?_
        clear hK
        refine AW_keep [5] ?_
        obtain ⟨A2, hA2⟩ : ∃ A2, leftB r u k ++ blindB r ((k + 1 : Nat) : Int) ++ oneB ((k + 1 : Nat) : Int) 2 (-1) (areaS r u (k + 1)) = A2 := ⟨_, rfl⟩
        have hA2l : A2.length ≤ 1000 := by rw [← hA2]; simp only [List.length_append]; omega
        rw [hA2] at h5 hH5
        repeat' (first | ((fail_if_success (with_reducible refine AW_at (id := 18) ?_)); with_reducible refine sk ?_; intro K hK) | ((with_reducible first | refine rg (id := 9) (md := { base := 0, own := [43, 88, 137, 175] }) (h := ?_) | refine rgS (id := 9) [12, 18] (md := { base := 0, own := [43, 88, 137, 175] }) (h := ?_) | refine rg (id := 17) (md := { base := 0, own := [43, 88, 137, 175] }) (h := ?_) | refine rgS (id := 17) [12, 18] (md := { base := 0, own := [43, 88, 137, 175] }) (h := ?_) | refine rg (id := 24) (md := { base := 0, own := [43, 88, 137, 175] }) (h := ?_) | refine rgS (id := 24) [12, 18] (md := { base := 0, own := [43, 88, 137, 175] }) (h := ?_) | refine rg (id := 28) (md := { base := 0, own := [43, 88, 137, 175] }) (h := ?_) | refine rgS (id := 28) [12, 18] (md := { base := 0, own := [43, 88, 137, 175] }) (h := ?_) | refine rg (md := { base := 0, own := [5, 43, 88, 137, 175] }) (h := ?_) | refine rgS [12, 18] (md := { base := 0, own := [5, 43, 88, 137, 175] }) (h := ?_) | refine nx ?_); try simp (disch := omega) only [h2, h3, h5, h6, h7, h8, h9, h10, h11, hH5,go_sem, simprocAttr]) | (with_reducible refine bk ?_) | ((with_reducible refine' cE ?hv ?_ ?_); (case hv => first | rfl | (simp only [h2, h3, h5, h6, h7, h8, h9, h10, h11, hH5,go_sem, simprocAttr]; rfl)); all_goals (intro hc; (try simp only [go_sem, simprocAttr] at hc); try (exfalso; omega))) | ((with_reducible first | refine grdS_split ?_ ?_ | refine lkG_split ?_ ?_) <;> intro hg <;> (try simp (disch := omega) only [hg, h2, h3, h5, h6, h7, h8, h9, h10, h11, hH5,go_sem, simprocAttr]) <;> (try simp only [go_sem, simprocAttr] at hg) <;> (try (exfalso; omega))) | ((with_reducible refine fe ?_); refine ⟨_, (by simp only [Try.f58, h2, h3, h5, h6, h7, h8, h9, h10, h11, hH5,go_sem, simprocAttr]; rfl), ?_⟩; first | rfl | (try simp only [h2, h3, h5, h6, h7, h8, h9, h10, h11, hH5,go_sem, simprocAttr, seval])) | with_reducible intro (ep : Nat → Nat) | with_reducible apply_assumption -exfalso -symm only [*])
        have hcutC : ∀ f H, (f 2 = .pim (cRun r) ∧ f 3 = .pim (cRules u) ∧ f 9 = .int .i64 ((k + 1 : Nat) : Int) ∧ f 10 = .int .i64 (degAt r.curve ((k + 1 : Nat) : Int)) ∧ f 11 = .lst 1 (ints (natI (wk r ((k + 1 : Nat) : Int)))) ∧ f 6 = .int .i64 (cumLo r (k + 1)) ∧ f 7 = .int .i64 (cumHi r (k + 1)) ∧ f 8 = .int .i64 (cumC r (k + 1))) ∧ OutL (A2 ++ singB r u ((k + 1 : Nat) : Int)) f H → K f H := by
          clear h2 h3 h5 h6 h7 h8 h9 h10 h11 hH5
          rintro f H ⟨⟨h2, h3, h9, h10, h11, h6, h7, h8⟩, e, h5, hH5⟩
          refine hK f H ?_
          clear hK
          refine AW_keep [5] ?_
          obtain ⟨x, hx⟩ : ∃ x, r.rows[k]? = some x := ⟨_, List.getElem?_eq_getElem (by omega)⟩
          have hxb := hF.row k x hx
          have hpa : pressAt r ((k + 1 : Nat) : Int) = x.press := by
            unfold pressAt
            rw [show (((k + 1 : Nat) : Int) - 1).toNat = k by omega, hx]; rfl
          have hro := routside_ok ⟨x.press - r.gauge.hi, x.press - r.gauge.lo⟩ u.press
          have hps : pressS r u ((k + 1 : Nat) : Int) = outK ⟨x.press - r.gauge.hi, x.press - r.gauge.lo⟩ u.press := by unfold pressS; rw [hpa]
          obtain ⟨pv, hpv⟩ : ∃ pv, pressS r u ((k + 1 : Nat) : Int) = pv := ⟨_, rfl⟩
          have hpb := @outK_bnd ⟨x.press - r.gauge.hi, x.press - r.gauge.lo⟩ u.press
          rw [← hps, hpv] at hro hpb
          have hsl : (singB r u ((k + 1 : Nat) : Int)).length ≤ 8 := by
            have := singL_len (r := r) (u := u) (m := ((k + 1 : Nat) : Int)) (wk r ((k + 1 : Nat) : Int))
            unfold singB; split; simp; omega
          obtain ⟨A3, hA3⟩ : ∃ A3, A2 ++ singB r u ((k + 1 : Nat) : Int) = A3 := ⟨_, rfl⟩
          have hA3l : A3.length ≤ 1073741823 := by rw [← hA3, List.length_append]; omega
          rw [hA3] at h5 hH5
          have hend : leftB r u (k + 1) = A3 ++ pressB r u ((k + 1 : Nat) : Int) := by
            rw [← hA3, ← hA2]; simp only [leftB, minB, List.append_assoc]
          have hkk : ∀ f H, OutL (leftB r u (k + 1)) f H → ∃ e, f 5 = .gr 5 e (leftB r u (k + 1)).length ∧ H 5 = some (e, .arr 4 ((leftB r u (k + 1)).map cBrc)) := fun f H h => h
          by_cases hq : pv > 0 ∧ u.pfrom ≤ ((k + 1 : Nat) : Int)
          · have hq1 : 0 < pv := hq.1
            have hq2 := hq.2
            have hpB : pressB r u ((k + 1 : Nat) : Int) = [⟨((k + 1 : Nat) : Int), 4, -1, pv⟩] := by unfold pressB; rw [if_neg (by omega), hpv, oneB_ne (by omega)]
            rw [hpB] at hend
            repeat' (first | (with_reducible refine sk ?_; intro K hK) | ((first | (with_reducible first | refine rg (id := 9) (md := { base := 0, own := [43, 88, 137, 175] }) (h := ?_) | refine rgS (id := 9) [12, 18] (md := { base := 0, own := [43, 88, 137, 175] }) (h := ?_) | refine rg (id := 17) (md := { base := 0, own := [43, 88, 137, 175] }) (h := ?_) | refine rgS (id := 17) [12, 18] (md := { base := 0, own := [43, 88, 137, 175] }) (h := ?_) | refine rg (id := 24) (md := { base := 0, own := [43, 88, 137, 175] }) (h := ?_) | refine rgS (id := 24) [12, 18] (md := { base := 0, own := [43, 88, 137, 175] }) (h := ?_) | refine rg (id := 28) (md := { base := 0, own := [43, 88, 137, 175] }) (h := ?_) | refine rgS (id := 28) [12, 18] (md := { base := 0, own := [43, 88, 137, 175] }) (h := ?_) | refine rg (md := { base := 0, own := [5, 43, 88, 137, 175] }) (h := ?_) | refine rgS [12, 18] (md := { base := 0, own := [5, 43, 88, 137, 175] }) (h := ?_) | refine nx ?_) | refine pK (hro) ?_); try simp (disch := omega) only [h2, h3, h5, h6, h7, h8, h9, h10, h11, hH5, hx, hq1, hq2, hA3l, cRun, cRow, cRules,go_sem, simprocAttr]) | (with_reducible refine bk ?_) | ((with_reducible refine' cE ?hv ?_ ?_); (case hv => first | rfl | (simp only [h2, h3, h5, h6, h7, h8, h9, h10, h11, hH5, hx, hq1, hq2, hA3l, cRun, cRow, cRules,go_sem, simprocAttr]; rfl)); all_goals (intro hc; (try simp only [go_sem, simprocAttr] at hc); try (exfalso; omega))) | ((with_reducible first | refine grdS_split ?_ ?_ | refine lkG_split ?_ ?_) <;> intro hg <;> (try simp (disch := omega) only [hg, h2, h3, h5, h6, h7, h8, h9, h10, h11, hH5, hx, hq1, hq2, hA3l, cRun, cRow, cRules,go_sem, simprocAttr]) <;> (try simp only [go_sem, simprocAttr] at hg) <;> (try (exfalso; omega))) | ((with_reducible refine fe ?_); refine ⟨_, (by simp only [Try.f58, h2, h3, h5, h6, h7, h8, h9, h10, h11, hH5, hx, hq1, hq2, hA3l, cRun, cRow, cRules,go_sem, simprocAttr]; rfl), ?_⟩; first | rfl | (try simp only [h2, h3, h5, h6, h7, h8, h9, h10, h11, hH5, hx, hq1, hq2, hA3l, cRun, cRow, cRules,go_sem, simprocAttr, seval])) | with_reducible intro (ep : Nat → Nat) | with_reducible apply_assumption -exfalso -symm only [*])
            exact ⟨r.rows.length - (k + 1), by omega, k + 1, rfl, by omega, ⟨rfl, rfl, rfl, rfl⟩, _, by rw [hend, List.length_append]; rfl, by rw [hend, List.map_append]; rfl⟩
          · have hpB : pressB r u ((k + 1 : Nat) : Int) = [] := by
              unfold pressB
              split
              · rfl
              · rw [hpv, oneB_eq (by omega)]
            rw [hpB, List.append_nil] at hend
            by_cases hq1 : 0 < pv
            · have hq2 : ¬ u.pfrom ≤ ((k + 1 : Nat) : Int) := fun h => hq ⟨hq1, h⟩
              repeat' (first | (with_reducible refine sk ?_; intro K hK) | ((first | (with_reducible first | refine rg (id := 9) (md := { base := 0, own := [43, 88, 137, 175] }) (h := ?_) | refine rgS (id := 9) [12, 18] (md := { base := 0, own := [43, 88, 137, 175] }) (h := ?_) | refine rg (id := 17) (md := { base := 0, own := [43, 88, 137, 175] }) (h := ?_) | refine rgS (id := 17) [12, 18] (md := { base := 0, own := [43, 88, 137, 175] }) (h := ?_) | refine rg (id := 24) (md := { base := 0, own := [43, 88, 137, 175] }) (h := ?_) | refine rgS (id := 24) [12, 18] (md := { base := 0, own := [43, 88, 137, 175] }) (h := ?_) | refine rg (id := 28) (md := { base := 0, own := [43, 88, 137, 175] }) (h := ?_) | refine rgS (id := 28) [12, 18] (md := { base := 0, own := [43, 88, 137, 175] }) (h := ?_) | refine rg (md := { base := 0, own := [5, 43, 88, 137, 175] }) (h := ?_) | refine rgS [12, 18] (md := { base := 0, own := [5, 43, 88, 137, 175] }) (h := ?_) | refine nx ?_) | refine pK (hro) ?_); try simp (disch := omega) only [h2, h3, h5, h6, h7, h8, h9, h10, h11, hH5, hx, hq1, hq2, cRun, cRow, cRules,go_sem, simprocAttr]) | (with_reducible refine bk ?_) | ((with_reducible refine' cE ?hv ?_ ?_); (case hv => first | rfl | (simp only [h2, h3, h5, h6, h7, h8, h9, h10, h11, hH5, hx, hq1, hq2, cRun, cRow, cRules,go_sem, simprocAttr]; rfl)); all_goals (intro hc; (try simp only [go_sem, simprocAttr] at hc); try (exfalso; omega))) | ((with_reducible first | refine grdS_split ?_ ?_ | refine lkG_split ?_ ?_) <;> intro hg <;> (try simp (disch := omega) only [hg, h2, h3, h5, h6, h7, h8, h9, h10, h11, hH5, hx, hq1, hq2, cRun, cRow, cRules,go_sem, simprocAttr]) <;> (try simp only [go_sem, simprocAttr] at hg) <;> (try (exfalso; omega))) | ((with_reducible refine fe ?_); refine ⟨_, (by simp only [Try.f58, h2, h3, h5, h6, h7, h8, h9, h10, h11, hH5, hx, hq1, hq2, cRun, cRow, cRules,go_sem, simprocAttr]; rfl), ?_⟩; first | rfl | (try simp only [h2, h3, h5, h6, h7, h8, h9, h10, h11, hH5, hx, hq1, hq2, cRun, cRow, cRules,go_sem, simprocAttr, seval])) | with_reducible intro (ep : Nat → Nat) | with_reducible apply_assumption -exfalso -symm only [*])
              exact ⟨r.rows.length - (k + 1), by omega, k + 1, rfl, by omega, ⟨rfl, rfl, rfl, rfl⟩, _, by rw [hend], by rw [hend]⟩
            · repeat' (first | (with_reducible refine sk ?_; intro K hK) | ((first | (with_reducible first | refine rg (id := 9) (md := { base := 0, own := [43, 88, 137, 175] }) (h := ?_) | refine rgS (id := 9) [12, 18] (md := { base := 0, own := [43, 88, 137, 175] }) (h := ?_) | refine rg (id := 17) (md := { base := 0, own := [43, 88, 137, 175] }) (h := ?_) | refine rgS (id := 17) [12, 18] (md := { base := 0, own := [43, 88, 137, 175] }) (h := ?_) | refine rg (id := 24) (md := { base := 0, own := [43, 88, 137, 175] }) (h := ?_) | refine rgS (id := 24) [12, 18] (md := { base := 0, own := [43, 88, 137, 175] }) (h := ?_) | refine rg (id := 28) (md := { base := 0, own := [43, 88, 137, 175] }) (h := ?_) | refine rgS (id := 28) [12, 18] (md := { base := 0, own := [43, 88, 137, 175] }) (h := ?_) | refine rg (md := { base := 0, own := [5, 43, 88, 137, 175] }) (h := ?_) | refine rgS [12, 18] (md := { base := 0, own := [5, 43, 88, 137, 175] }) (h := ?_) | refine nx ?_) | refine pK (hro) ?_); try simp (disch := omega) only [h2, h3, h5, h6, h7, h8, h9, h10, h11, hH5, hx, hq1, cRun, cRow, cRules,go_sem, simprocAttr]) | (with_reducible refine bk ?_) | ((with_reducible refine' cE ?hv ?_ ?_); (case hv => first | rfl | (simp only [h2, h3, h5, h6, h7, h8, h9, h10, h11, hH5, hx, hq1, cRun, cRow, cRules,go_sem, simprocAttr]; rfl)); all_goals (intro hc; (try simp only [go_sem, simprocAttr] at hc); try (exfalso; omega))) | ((with_reducible first | refine grdS_split ?_ ?_ | refine lkG_split ?_ ?_) <;> intro hg <;> (try simp (disch := omega) only [hg, h2, h3, h5, h6, h7, h8, h9, h10, h11, hH5, hx, hq1, cRun, cRow, cRules,go_sem, simprocAttr]) <;> (try simp only [go_sem, simprocAttr] at hg) <;> (try (exfalso; omega))) | ((with_reducible refine fe ?_); refine ⟨_, (by simp only [Try.f58, h2, h3, h5, h6, h7, h8, h9, h10, h11, hH5, hx, hq1, cRun, cRow, cRules,go_sem, simprocAttr]; rfl), ?_⟩; first | rfl | (try simp only [h2, h3, h5, h6, h7, h8, h9, h10, h11, hH5, hx, hq1, cRun, cRow, cRules,go_sem, simprocAttr, seval])) | with_reducible intro (ep : Nat → Nat) | with_reducible apply_assumption -exfalso -symm only [*])
              exact ⟨r.rows.length - (k + 1), by omega, k + 1, rfl, by omega, ⟨rfl, rfl, rfl, rfl⟩, _, by rw [hend], by rw [hend]⟩
        clear hK
        by_cases hsf : ((k + 1 : Nat) : Int) < u.sfrom
        · have hsB : singB r u ((k + 1 : Nat) : Int) = [] := by unfold singB; rw [if_pos hsf]
          have hsf' : ¬ u.sfrom ≤ ((k + 1 : Nat) : Int) := by omega
          rw [hsB, List.append_nil] at hcutC
          repeat' (first | (with_reducible refine sk ?_; intro K hK) | ((with_reducible first | refine rg (id := 9) (md := { base := 0, own := [43, 88, 137, 175] }) (h := ?_) | refine rgS (id := 9) [12, 18] (md := { base := 0, own := [43, 88, 137, 175] }) (h := ?_) | refine rg (id := 17) (md := { base := 0, own := [43, 88, 137, 175] }) (h := ?_) | refine rgS (id := 17) [12, 18] (md := { base := 0, own := [43, 88, 137, 175] }) (h := ?_) | refine rg (id := 24) (md := { base := 0, own := [43, 88, 137, 175] }) (h := ?_) | refine rgS (id := 24) [12, 18] (md := { base := 0, own := [43, 88, 137, 175] }) (h := ?_) | refine rg (id := 28) (md := { base := 0, own := [43, 88, 137, 175] }) (h := ?_) | refine rgS (id := 28) [12, 18] (md := { base := 0, own := [43, 88, 137, 175] }) (h := ?_) | refine rg (md := { base := 0, own := [5, 43, 88, 137, 175] }) (h := ?_) | refine rgS [12, 18] (md := { base := 0, own := [5, 43, 88, 137, 175] }) (h := ?_) | refine nx ?_); try simp (disch := omega) only [h2, h3, h5, h6, h7, h8, h9, h10, h11, hH5,go_sem, simprocAttr]) | (with_reducible refine bk ?_) | ((with_reducible refine' cE ?hv ?_ ?_); (case hv => first | rfl | (simp only [h2, h3, h5, h6, h7, h8, h9, h10, h11, hH5,go_sem, simprocAttr]; rfl)); all_goals (intro hc; (try simp only [go_sem, simprocAttr] at hc); try (exfalso; omega))) | ((with_reducible first | refine grdS_split ?_ ?_ | refine lkG_split ?_ ?_) <;> intro hg <;> (try simp (disch := omega) only [hg, h2, h3, h5, h6, h7, h8, h9, h10, h11, hH5,go_sem, simprocAttr]) <;> (try simp only [go_sem, simprocAttr] at hg) <;> (try (exfalso; omega))) | ((with_reducible refine fe ?_); refine ⟨_, (by simp only [Try.f58, h2, h3, h5, h6, h7, h8, h9, h10, h11, hH5,go_sem, simprocAttr]; rfl), ?_⟩; first | rfl | (try simp only [h2, h3, h5, h6, h7, h8, h9, h10, h11, hH5,go_sem, simprocAttr, seval])) | with_reducible intro (ep : Nat → Nat) | with_reducible apply_assumption -exfalso -symm only [*])
          generalize hfC : (upd _ _ _ : Fr) = fC
          obtain ⟨t2, t3, t9, t10, t11, t6, t7, t8, t5, t17⟩ : fC 2 = .pim (cRun r) ∧ fC 3 = .pim (cRules u) ∧ fC 9 = .int .i64 ((k + 1 : Nat) : Int) ∧ fC 10 = .int .i64 (degAt r.curve ((k + 1 : Nat) : Int)) ∧ fC 11 = .lst 1 (ints (natI (wk r ((k + 1 : Nat) : Int)))) ∧ fC 6 = .int .i64 (cumLo r (k + 1)) ∧ fC 7 = .int .i64 (cumHi r (k + 1)) ∧ fC 8 = .int .i64 (cumC r (k + 1)) ∧ fC 5 = .gr 5 e A2.length ∧ fC 17 = .int .i64 0 := by
            rw [← hfC]; exact by (and_intros <;> first | rfl | (simp only [h2, h3, h5, h6, h7, h8, h9, h10, h11, go_sem, simprocAttr]; done) | (simp only [h2, h3, h5, h6, h7, h8, h9, h10, h11, go_sem, simprocAttr]; rfl))
          refine AW_block (AW_loop (fun n f1 H1 => n = 0 ∧ f1 = fC ∧ H1 5 = some (e, .arr 4 (A2.map cBrc))) 0 ⟨rfl, rfl, by (first | rfl | (simp only [hH5, go_sem, simprocAttr]; done) | (simp only [hH5, go_sem, simprocAttr]; rfl))⟩ ?_)
          clear hfC
          rintro n f1 H1' ⟨rfl, rfl, hH5⟩
          repeat' (first | (with_reducible refine sk ?_; intro K hK) | ((with_reducible first | refine rg (id := 9) (md := { base := 0, own := [43, 88, 137, 175] }) (h := ?_) | refine rgS (id := 9) [12, 18] (md := { base := 0, own := [43, 88, 137, 175] }) (h := ?_) | refine rg (id := 17) (md := { base := 0, own := [43, 88, 137, 175] }) (h := ?_) | refine rgS (id := 17) [12, 18] (md := { base := 0, own := [43, 88, 137, 175] }) (h := ?_) | refine rg (id := 24) (md := { base := 0, own := [43, 88, 137, 175] }) (h := ?_) | refine rgS (id := 24) [12, 18] (md := { base := 0, own := [43, 88, 137, 175] }) (h := ?_) | refine rg (id := 28) (md := { base := 0, own := [43, 88, 137, 175] }) (h := ?_) | refine rgS (id := 28) [12, 18] (md := { base := 0, own := [43, 88, 137, 175] }) (h := ?_) | refine rg (md := { base := 0, own := [5, 43, 88, 137, 175] }) (h := ?_) | refine rgS [12, 18] (md := { base := 0, own := [5, 43, 88, 137, 175] }) (h := ?_) | refine nx ?_); try simp (disch := omega) only [t2, t3, t5, t6, t7, t8, t9, t10, t11, t17, hH5, hsf', cRules,go_sem, simprocAttr]) | (with_reducible refine bk ?_) | ((with_reducible refine' cE ?hv ?_ ?_); (case hv => first | rfl | (simp only [t2, t3, t5, t6, t7, t8, t9, t10, t11, t17, hH5, hsf', cRules,go_sem, simprocAttr]; rfl)); all_goals (intro hc; (try simp only [go_sem, simprocAttr] at hc); try (exfalso; omega))) | ((with_reducible first | refine grdS_split ?_ ?_ | refine lkG_split ?_ ?_) <;> intro hg <;> (try simp (disch := omega) only [hg, t2, t3, t5, t6, t7, t8, t9, t10, t11, t17, hH5, hsf', cRules,go_sem, simprocAttr]) <;> (try simp only [go_sem, simprocAttr] at hg) <;> (try (exfalso; omega))) | ((with_reducible refine fe ?_); refine ⟨_, (by simp only [Try.f58, t2, t3, t5, t6, t7, t8, t9, t10, t11, t17, hH5, hsf', cRules,go_sem, simprocAttr]; rfl), ?_⟩; first | rfl | (try simp only [t2, t3, t5, t6, t7, t8, t9, t10, t11, t17, hH5, hsf', cRules,go_sem, simprocAttr, seval])) | with_reducible intro (ep : Nat → Nat) | with_reducible apply_assumption -exfalso -symm only [*])
          all_goals exact ⟨by (and_intros <;> first | rfl | (simp only [t2, t3, t5, t6, t7, t8, t9, t10, t11, go_sem, simprocAttr]; done) | (simp only [t2, t3, t5, t6, t7, t8, t9, t10, t11, go_sem, simprocAttr]; rfl)), _, by (first | rfl | (simp only [t5, go_sem, simprocAttr]; done) | (simp only [t5, go_sem, simprocAttr]; rfl)), by (first | rfl | (simp only [hH5, go_sem, simprocAttr]; done) | (simp only [hH5, go_sem, simprocAttr]; rfl))⟩
        · have hsB : singB r u ((k + 1 : Nat) : Int) = singL r u ((k + 1 : Nat) : Int) (wk r ((k + 1 : Nat) : Int)) := by unfold singB; rw [if_neg hsf]
          have hsf' : u.sfrom ≤ ((k + 1 : Nat) : Int) := by omega
          rw [hsB] at hcutC
          repeat' (first | (with_reducible refine sk ?_; intro K hK) | ((with_reducible first | refine rg (id := 9) (md := { base := 0, own := [43, 88, 137, 175] }) (h := ?_) | refine rgS (id := 9) [12, 18] (md := { base := 0, own := [43, 88, 137, 175] }) (h := ?_) | refine rg (id := 17) (md := { base := 0, own := [43, 88, 137, 175] }) (h := ?_) | refine rgS (id := 17) [12, 18] (md := { base := 0, own := [43, 88, 137, 175] }) (h := ?_) | refine rg (id := 24) (md := { base := 0, own := [43, 88, 137, 175] }) (h := ?_) | refine rgS (id := 24) [12, 18] (md := { base := 0, own := [43, 88, 137, 175] }) (h := ?_) | refine rg (id := 28) (md := { base := 0, own := [43, 88, 137, 175] }) (h := ?_) | refine rgS (id := 28) [12, 18] (md := { base := 0, own := [43, 88, 137, 175] }) (h := ?_) | refine rg (md := { base := 0, own := [5, 43, 88, 137, 175] }) (h := ?_) | refine rgS [12, 18] (md := { base := 0, own := [5, 43, 88, 137, 175] }) (h := ?_) | refine nx ?_); try simp (disch := omega) only [h2, h3, h5, h6, h7, h8, h9, h10, h11, hH5,go_sem, simprocAttr]) | (with_reducible refine bk ?_) | ((with_reducible refine' cE ?hv ?_ ?_); (case hv => first | rfl | (simp only [h2, h3, h5, h6, h7, h8, h9, h10, h11, hH5,go_sem, simprocAttr]; rfl)); all_goals (intro hc; (try simp only [go_sem, simprocAttr] at hc); try (exfalso; omega))) | ((with_reducible first | refine grdS_split ?_ ?_ | refine lkG_split ?_ ?_) <;> intro hg <;> (try simp (disch := omega) only [hg, h2, h3, h5, h6, h7, h8, h9, h10, h11, hH5,go_sem, simprocAttr]) <;> (try simp only [go_sem, simprocAttr] at hg) <;> (try (exfalso; omega))) | ((with_reducible refine fe ?_); refine ⟨_, (by simp only [Try.f58, h2, h3, h5, h6, h7, h8, h9, h10, h11, hH5,go_sem, simprocAttr]; rfl), ?_⟩; first | rfl | (try simp only [h2, h3, h5, h6, h7, h8, h9, h10, h11, hH5,go_sem, simprocAttr, seval])) | with_reducible intro (ep : Nat → Nat) | with_reducible apply_assumption -exfalso -symm only [*])
          refine AW_block (AW_loop (fun n f H => ∃ j : Nat, n = (wk r ((k + 1 : Nat) : Int)).length - j ∧ j ≤ (wk r ((k + 1 : Nat) : Int)).length ∧ (f 2 = .pim (cRun r) ∧ f 3 = .pim (cRules u) ∧ f 9 = .int .i64 ((k + 1 : Nat) : Int) ∧ f 10 = .int .i64 (degAt r.curve ((k + 1 : Nat) : Int)) ∧ f 11 = .lst 1 (ints (natI (wk r ((k + 1 : Nat) : Int)))) ∧ f 6 = .int .i64 (cumLo r (k + 1)) ∧ f 7 = .int .i64 (cumHi r (k + 1)) ∧ f 8 = .int .i64 (cumC r (k + 1)) ∧ f 17 = .int .i64 j) ∧ OutL (A2 ++ singL r u ((k + 1 : Nat) : Int) ((wk r ((k + 1 : Nat) : Int)).take j)) f H) (wk r ((k + 1 : Nat) : Int)).length
            ⟨0, by simp, Nat.zero_le _, by (and_intros <;> first | rfl | (simp only [h2, h3, h6, h7, h8, h9, h10, h11, go_sem, simprocAttr]; done) | (simp only [h2, h3, h6, h7, h8, h9, h10, h11, go_sem, simprocAttr]; rfl)), e, by (first | rfl | (simp only [h5, singL, go_sem, simprocAttr]; done) | (simp only [h5, singL, go_sem, simprocAttr]; rfl)), by (first | rfl | (simp only [hH5, singL, go_sem, simprocAttr]; done) | (simp only [hH5, singL, go_sem, simprocAttr]; rfl))⟩ ?_)
          clear h2 h3 h5 h6 h7 h8 h9 h10 h11 hH5
          rintro n f H ⟨j, rfl, hj, ⟨h2, h3, h9, h10, h11, h6, h7, h8, h17⟩, e, h5, hH5⟩
          refine AW_keep [5] ?_
          by_cases hjl : j < (wk r ((k + 1 : Nat) : Int)).length
          · obtain ⟨w, hw⟩ : ∃ w, (wk r ((k + 1 : Nat) : Int))[j]? = some w := ⟨_, List.getElem?_eq_getElem hjl⟩
            obtain ⟨cc, hcc, hwk⟩ := wk_mem.1 (List.mem_of_getElem? hw)
            have htb := truth_bounds hF hcc (m := ((k + 1 : Nat) : Int)) (by omega) (by omega) hwk
            have htk : singL r u ((k + 1 : Nat) : Int) ((wk r ((k + 1 : Nat) : Int)).take (j + 1)) = singL r u ((k + 1 : Nat) : Int) ((wk r ((k + 1 : Nat) : Int)).take j) ++ oneB ((k + 1 : Nat) : Int) 3 cc.id (singS r u cc w ((k + 1 : Nat) : Int)) := by
              rw [take_snoc' hw, singL_app]; simp only [singL, singI, hcc, List.append_nil]
            have hro := routside_ok (truth r cc w ((k + 1 : Nat) : Int)) ⟨degAt r.curve ((k + 1 : Nat) : Int) - u.single, degAt r.curve ((k + 1 : Nat) : Int) + u.single⟩
            obtain ⟨sv, hsv⟩ : ∃ sv, singS r u cc w ((k + 1 : Nat) : Int) = sv := ⟨_, rfl⟩
            have hsb := @outK_bnd (truth r cc w ((k + 1 : Nat) : Int)) ⟨degAt r.curve ((k + 1 : Nat) : Int) - u.single, degAt r.curve ((k + 1 : Nat) : Int) + u.single⟩
            rw [show outK (truth r cc w ((k + 1 : Nat) : Int)) ⟨degAt r.curve ((k + 1 : Nat) : Int) - u.single, degAt r.curve ((k + 1 : Nat) : Int) + u.single⟩ = sv from hsv] at hro hsb
            have hgw : (natI (wk r ((k + 1 : Nat) : Int)))[j]? = some (w : Int) := by rw [natI_get, hw]; rfl
            have hsl := singL_len (r := r) (u := u) (m := ((k + 1 : Nat) : Int)) ((wk r ((k + 1 : Nat) : Int)).take j)
            have htl : ((wk r ((k + 1 : Nat) : Int)).take j).length ≤ 8 := by simp; omega
            obtain ⟨A3, hA3⟩ : ∃ A3, A2 ++ singL r u ((k + 1 : Nat) : Int) ((wk r ((k + 1 : Nat) : Int)).take j) = A3 := ⟨_, rfl⟩
            have hA3l : A3.length ≤ 1073741823 := by rw [← hA3, List.length_append]; omega
            rw [hsv] at htk
            have htk2 : A2 ++ singL r u ((k + 1 : Nat) : Int) ((wk r ((k + 1 : Nat) : Int)).take (j + 1)) = A3 ++ oneB ((k + 1 : Nat) : Int) 3 cc.id sv := by rw [htk, ← List.append_assoc, hA3]
            rw [hA3] at h5 hH5
            have hjl' : (j : Int) < ((wk r ((k + 1 : Nat) : Int)).length : Int) := by omega
            by_cases hs0 : sv = 0
            · have hs1 : ¬ 0 < sv := by omega
              rw [oneB_eq hs0, List.append_nil] at htk2
              repeat' (first | (with_reducible refine sk ?_; intro K hK) | ((first | (with_reducible first | refine rg (id := 9) (md := { base := 0, own := [43, 88, 137, 175] }) (h := ?_) | refine rgS (id := 9) [12, 18] (md := { base := 0, own := [43, 88, 137, 175] }) (h := ?_) | refine rg (id := 17) (md := { base := 0, own := [43, 88, 137, 175] }) (h := ?_) | refine rgS (id := 17) [12, 18] (md := { base := 0, own := [43, 88, 137, 175] }) (h := ?_) | refine rg (id := 24) (md := { base := 0, own := [43, 88, 137, 175] }) (h := ?_) | refine rgS (id := 24) [12, 18] (md := { base := 0, own := [43, 88, 137, 175] }) (h := ?_) | refine rg (id := 28) (md := { base := 0, own := [43, 88, 137, 175] }) (h := ?_) | refine rgS (id := 28) [12, 18] (md := { base := 0, own := [43, 88, 137, 175] }) (h := ?_) | refine rg (md := { base := 0, own := [5, 43, 88, 137, 175] }) (h := ?_) | refine rgS [12, 18] (md := { base := 0, own := [5, 43, 88, 137, 175] }) (h := ?_) | refine nx ?_) | refine pK (rtrue_ok r hF w ((k + 1 : Nat) : Int) cc hcc (by omega) (by omega) hwk) ?_ | refine pK (hro) ?_); try simp (disch := omega) only [h2, h3, h5, h6, h7, h8, h9, h10, h11, h17, hH5, hjl', hsf', hgw, hs1, hcc, cRun, cCpl, cRules, encSpan,go_sem, simprocAttr]) | (with_reducible refine bk ?_) | ((with_reducible refine' cE ?hv ?_ ?_); (case hv => first | rfl | (simp only [h2, h3, h5, h6, h7, h8, h9, h10, h11, h17, hH5, hjl', hsf', hgw, hs1, hcc, cRun, cCpl, cRules, encSpan,go_sem, simprocAttr]; rfl)); all_goals (intro hc; (try simp only [go_sem, simprocAttr] at hc); try (exfalso; omega))) | ((with_reducible first | refine grdS_split ?_ ?_ | refine lkG_split ?_ ?_) <;> intro hg <;> (try simp (disch := omega) only [hg, h2, h3, h5, h6, h7, h8, h9, h10, h11, h17, hH5, hjl', hsf', hgw, hs1, hcc, cRun, cCpl, cRules, encSpan,go_sem, simprocAttr]) <;> (try simp only [go_sem, simprocAttr] at hg) <;> (try (exfalso; omega))) | ((with_reducible refine fe ?_); refine ⟨_, (by simp only [Try.f58, h2, h3, h5, h6, h7, h8, h9, h10, h11, h17, hH5, hjl', hsf', hgw, hs1, hcc, cRun, cCpl, cRules, encSpan,go_sem, simprocAttr]; rfl), ?_⟩; first | rfl | (try simp only [h2, h3, h5, h6, h7, h8, h9, h10, h11, h17, hH5, hjl', hsf', hgw, hs1, hcc, cRun, cCpl, cRules, encSpan,go_sem, simprocAttr, seval])) | with_reducible intro (ep : Nat → Nat) | with_reducible apply_assumption -exfalso -symm only [*])
              exact ⟨(wk r ((k + 1 : Nat) : Int)).length - (j + 1), by omega, j + 1, rfl, by omega, rfl, by rw [htk2]; exact ⟨e, by (first | rfl | (simp only [h5, go_sem, simprocAttr]; done) | (simp only [h5, go_sem, simprocAttr]; rfl)), by (first | rfl | (simp only [hH5, go_sem, simprocAttr]; done) | (simp only [hH5, go_sem, simprocAttr]; rfl))⟩⟩
            · have hs1 : 0 < sv := by omega
              rw [oneB_ne hs0] at htk2
              repeat' (first | (with_reducible refine sk ?_; intro K hK) | ((first | (with_reducible first | refine rg (id := 9) (md := { base := 0, own := [43, 88, 137, 175] }) (h := ?_) | refine rgS (id := 9) [12, 18] (md := { base := 0, own := [43, 88, 137, 175] }) (h := ?_) | refine rg (id := 17) (md := { base := 0, own := [43, 88, 137, 175] }) (h := ?_) | refine rgS (id := 17) [12, 18] (md := { base := 0, own := [43, 88, 137, 175] }) (h := ?_) | refine rg (id := 24) (md := { base := 0, own := [43, 88, 137, 175] }) (h := ?_) | refine rgS (id := 24) [12, 18] (md := { base := 0, own := [43, 88, 137, 175] }) (h := ?_) | refine rg (id := 28) (md := { base := 0, own := [43, 88, 137, 175] }) (h := ?_) | refine rgS (id := 28) [12, 18] (md := { base := 0, own := [43, 88, 137, 175] }) (h := ?_) | refine rg (md := { base := 0, own := [5, 43, 88, 137, 175] }) (h := ?_) | refine rgS [12, 18] (md := { base := 0, own := [5, 43, 88, 137, 175] }) (h := ?_) | refine nx ?_) | refine pK (rtrue_ok r hF w ((k + 1 : Nat) : Int) cc hcc (by omega) (by omega) hwk) ?_ | refine pK (hro) ?_); try simp (disch := omega) only [h2, h3, h5, h6, h7, h8, h9, h10, h11, h17, hH5, hjl', hsf', hgw, hs1, hcc, hA3l, cRun, cCpl, cRules, encSpan,go_sem, simprocAttr]) | (with_reducible refine bk ?_) | ((with_reducible refine' cE ?hv ?_ ?_); (case hv => first | rfl | (simp only [h2, h3, h5, h6, h7, h8, h9, h10, h11, h17, hH5, hjl', hsf', hgw, hs1, hcc, hA3l, cRun, cCpl, cRules, encSpan,go_sem, simprocAttr]; rfl)); all_goals (intro hc; (try simp only [go_sem, simprocAttr] at hc); try (exfalso; omega))) | ((with_reducible first | refine grdS_split ?_ ?_ | refine lkG_split ?_ ?_) <;> intro hg <;> (try simp (disch := omega) only [hg, h2, h3, h5, h6, h7, h8, h9, h10, h11, h17, hH5, hjl', hsf', hgw, hs1, hcc, hA3l, cRun, cCpl, cRules, encSpan,go_sem, simprocAttr]) <;> (try simp only [go_sem, simprocAttr] at hg) <;> (try (exfalso; omega))) | ((with_reducible refine fe ?_); refine ⟨_, (by simp only [Try.f58, h2, h3, h5, h6, h7, h8, h9, h10, h11, h17, hH5, hjl', hsf', hgw, hs1, hcc, hA3l, cRun, cCpl, cRules, encSpan,go_sem, simprocAttr]; rfl), ?_⟩; first | rfl | (try simp only [h2, h3, h5, h6, h7, h8, h9, h10, h11, h17, hH5, hjl', hsf', hgw, hs1, hcc, hA3l, cRun, cCpl, cRules, encSpan,go_sem, simprocAttr, seval])) | with_reducible intro (ep : Nat → Nat) | with_reducible apply_assumption -exfalso -symm only [*])
              exact ⟨(wk r ((k + 1 : Nat) : Int)).length - (j + 1), by omega, j + 1, rfl, by omega, rfl, by rw [htk2]; exact OutL_app (by (first | rfl | (simp only [go_sem, simprocAttr]; done) | (simp only [go_sem, simprocAttr]; rfl))) (by (first | rfl | (simp only [go_sem, simprocAttr]; done) | (simp only [go_sem, simprocAttr]; rfl)))⟩
          · have hjl' : ¬ (j : Int) < ((wk r ((k + 1 : Nat) : Int)).length : Int) := by omega
            rw [List.take_of_length_le (by omega)] at h5 hH5
            repeat' (first | (with_reducible refine sk ?_; intro K hK) | ((with_reducible first | refine rg (id := 9) (md := { base := 0, own := [43, 88, 137, 175] }) (h := ?_) | refine rgS (id := 9) [12, 18] (md := { base := 0, own := [43, 88, 137, 175] }) (h := ?_) | refine rg (id := 17) (md := { base := 0, own := [43, 88, 137, 175] }) (h := ?_) | refine rgS (id := 17) [12, 18] (md := { base := 0, own := [43, 88, 137, 175] }) (h := ?_) | refine rg (id := 24) (md := { base := 0, own := [43, 88, 137, 175] }) (h := ?_) | refine rgS (id := 24) [12, 18] (md := { base := 0, own := [43, 88, 137, 175] }) (h := ?_) | refine rg (id := 28) (md := { base := 0, own := [43, 88, 137, 175] }) (h := ?_) | refine rgS (id := 28) [12, 18] (md := { base := 0, own := [43, 88, 137, 175] }) (h := ?_) | refine rg (md := { base := 0, own := [5, 43, 88, 137, 175] }) (h := ?_) | refine rgS [12, 18] (md := { base := 0, own := [5, 43, 88, 137, 175] }) (h := ?_) | refine nx ?_); try simp (disch := omega) only [h2, h3, h5, h6, h7, h8, h9, h10, h11, h17, hH5, hjl', hsf', cRules,go_sem, simprocAttr]) | (with_reducible refine bk ?_) | ((with_reducible refine' cE ?hv ?_ ?_); (case hv => first | rfl | (simp only [h2, h3, h5, h6, h7, h8, h9, h10, h11, h17, hH5, hjl', hsf', cRules,go_sem, simprocAttr]; rfl)); all_goals (intro hc; (try simp only [go_sem, simprocAttr] at hc); try (exfalso; omega))) | ((with_reducible first | refine grdS_split ?_ ?_ | refine lkG_split ?_ ?_) <;> intro hg <;> (try simp (disch := omega) only [hg, h2, h3, h5, h6, h7, h8, h9, h10, h11, h17, hH5, hjl', hsf', cRules,go_sem, simprocAttr]) <;> (try simp only [go_sem, simprocAttr] at hg) <;> (try (exfalso; omega))) | ((with_reducible refine fe ?_); refine ⟨_, (by simp only [Try.f58, h2, h3, h5, h6, h7, h8, h9, h10, h11, h17, hH5, hjl', hsf', cRules,go_sem, simprocAttr]; rfl), ?_⟩; first | rfl | (try simp only [h2, h3, h5, h6, h7, h8, h9, h10, h11, h17, hH5, hjl', hsf', cRules,go_sem, simprocAttr, seval])) | with_reducible intro (ep : Nat → Nat) | with_reducible apply_assumption -exfalso -symm only [*])
            exact ⟨by (and_intros <;> first | rfl | (simp only [h2, h3, h6, h7, h8, h9, h10, h11, go_sem, simprocAttr]; done) | (simp only [h2, h3, h6, h7, h8, h9, h10, h11, go_sem, simprocAttr]; rfl)), _, by (first | rfl | (simp only [h5, go_sem, simprocAttr]; done) | (simp only [h5, go_sem, simprocAttr]; rfl)), by (first | rfl | (simp only [hH5, go_sem, simprocAttr]; done) | (simp only [hH5, go_sem, simprocAttr]; rfl))⟩
      clear hK
      have hpb : (¬ partS u ((k + 1 : Nat) : Int) < 0 → 0 ≤ partS u ((k + 1 : Nat) : Int) ∧ partS u ((k + 1 : Nat) : Int) ≤ 1000) := fun h => by
        obtain ⟨j, hj⟩ : ∃ j, cutS u ((k + 1 : Nat) : Int) = j + 1 := by
          rcases hq : cutS u ((k + 1 : Nat) : Int) with _ | j
          · have := partS_none hU hq; omega
          · exact ⟨j, rfl⟩
        obtain ⟨s, _, h1, h2⟩ := partS_some hU hj
        omega
      by_cases hp : partS u ((k + 1 : Nat) : Int) < 0
      · have ha : areaS r u (k + 1) = 0 := by unfold areaS; rw [if_pos hp]
        have hp' : ¬ 0 ≤ partS u ((k + 1 : Nat) : Int) := by omega
        rw [oneB_eq ha, List.append_nil] at hcutB
        repeat' (first | (with_reducible refine sk ?_; intro K hK) | ((first | (with_reducible first | refine rg (id := 9) (md := { base := 0, own := [43, 88, 137, 175] }) (h := ?_) | refine rgS (id := 9) [12, 18] (md := { base := 0, own := [43, 88, 137, 175] }) (h := ?_) | refine rg (id := 17) (md := { base := 0, own := [43, 88, 137, 175] }) (h := ?_) | refine rgS (id := 17) [12, 18] (md := { base := 0, own := [43, 88, 137, 175] }) (h := ?_) | refine rg (id := 24) (md := { base := 0, own := [43, 88, 137, 175] }) (h := ?_) | refine rgS (id := 24) [12, 18] (md := { base := 0, own := [43, 88, 137, 175] }) (h := ?_) | refine rg (id := 28) (md := { base := 0, own := [43, 88, 137, 175] }) (h := ?_) | refine rgS (id := 28) [12, 18] (md := { base := 0, own := [43, 88, 137, 175] }) (h := ?_) | refine rg (md := { base := 0, own := [5, 43, 88, 137, 175] }) (h := ?_) | refine rgS [12, 18] (md := { base := 0, own := [5, 43, 88, 137, 175] }) (h := ?_) | refine nx ?_) | refine pK (rpart_ok u hU ((k + 1 : Nat) : Int)) ?_); try simp (disch := omega) only [h2, h3, h5, h6, h7, h8, h9, h10, h11, hH5, hp', encRules, cRules,go_sem, simprocAttr]) | (with_reducible refine bk ?_) | ((with_reducible refine' cE ?hv ?_ ?_); (case hv => first | rfl | (simp only [h2, h3, h5, h6, h7, h8, h9, h10, h11, hH5, hp', encRules, cRules,go_sem, simprocAttr]; rfl)); all_goals (intro hc; (try simp only [go_sem, simprocAttr] at hc); try (exfalso; omega))) | ((with_reducible first | refine grdS_split ?_ ?_ | refine lkG_split ?_ ?_) <;> intro hg <;> (try simp (disch := omega) only [hg, h2, h3, h5, h6, h7, h8, h9, h10, h11, hH5, hp', encRules, cRules,go_sem, simprocAttr]) <;> (try simp only [go_sem, simprocAttr] at hg) <;> (try (exfalso; omega))) | ((with_reducible refine fe ?_); refine ⟨_, (by simp only [Try.f58, h2, h3, h5, h6, h7, h8, h9, h10, h11, hH5, hp', encRules, cRules,go_sem, simprocAttr]; rfl), ?_⟩; first | rfl | (try simp only [h2, h3, h5, h6, h7, h8, h9, h10, h11, hH5, hp', encRules, cRules,go_sem, simprocAttr, seval])) | with_reducible intro (ep : Nat → Nat) | with_reducible apply_assumption -exfalso -symm only [*])
        exact ⟨by (and_intros <;> first | rfl | (simp only [h2, h3, h6, h7, h8, h9, h10, h11, go_sem, simprocAttr]; done) | (simp only [h2, h3, h6, h7, h8, h9, h10, h11, go_sem, simprocAttr]; rfl)), _, by (first | rfl | (simp only [h5, go_sem, simprocAttr]; done) | (simp only [h5, go_sem, simprocAttr]; rfl)), by (first | rfl | (simp only [hH5, go_sem, simprocAttr]; done) | (simp only [hH5, go_sem, simprocAttr]; rfl))⟩
      · obtain ⟨p0, p1⟩ := hpb hp
        obtain ⟨pv, hpv⟩ : ∃ pv, partS u ((k + 1 : Nat) : Int) = pv := ⟨_, rfl⟩
        obtain ⟨cv, hcv⟩ : ∃ cv, cumC r (k + 1) = cv := ⟨_, rfl⟩
        have hb := mul_bnd (a := cv * 840) (q := pv) (A := 0) (B := 168000000) (C := 1000) (by omega) (by omega) (by omega) (by omega) (by omega) (by omega)
        have ha : areaS r u (k + 1) = outK ⟨cumLo r (k + 1) * 1000, cumHi r (k + 1) * 1000⟩ ⟨cv * 840 * 1000 - cv * 840 * pv, cv * 840 * 1000 + cv * 840 * pv⟩ := by
          unfold areaS; rw [if_neg hp, hpv, hcv]
        obtain ⟨av, hav⟩ : ∃ av, areaS r u (k + 1) = av := ⟨_, rfl⟩
        have hro := routside_ok ⟨cumLo r (k + 1) * 1000, cumHi r (k + 1) * 1000⟩ ⟨cv * 840 * 1000 - cv * 840 * pv, cv * 840 * 1000 + cv * 840 * pv⟩
        rw [← ha, hav] at hro
        rw [hav] at hcutB
        rw [hcv] at h8 hcb2
        rw [hpv] at p0 p1
        have hlb : (leftB r u k ++ blindB r ((k + 1 : Nat) : Int)).length ≤ 1073741823 := by rw [List.length_append]; omega
        have hab : 0 ≤ av ∧ av ≤ 2 := by rw [← hav, ha]; exact outK_bnd
        by_cases ha0 : av = 0
        · rw [oneB_eq ha0, List.append_nil] at hcutB
          have ha1 : ¬ 0 < av := by omega
          repeat' (first | (with_reducible refine sk ?_; intro K hK) | ((first | (with_reducible first | refine rg (id := 9) (md := { base := 0, own := [43, 88, 137, 175] }) (h := ?_) | refine rgS (id := 9) [12, 18] (md := { base := 0, own := [43, 88, 137, 175] }) (h := ?_) | refine rg (id := 17) (md := { base := 0, own := [43, 88, 137, 175] }) (h := ?_) | refine rgS (id := 17) [12, 18] (md := { base := 0, own := [43, 88, 137, 175] }) (h := ?_) | refine rg (id := 24) (md := { base := 0, own := [43, 88, 137, 175] }) (h := ?_) | refine rgS (id := 24) [12, 18] (md := { base := 0, own := [43, 88, 137, 175] }) (h := ?_) | refine rg (id := 28) (md := { base := 0, own := [43, 88, 137, 175] }) (h := ?_) | refine rgS (id := 28) [12, 18] (md := { base := 0, own := [43, 88, 137, 175] }) (h := ?_) | refine rg (md := { base := 0, own := [5, 43, 88, 137, 175] }) (h := ?_) | refine rgS [12, 18] (md := { base := 0, own := [5, 43, 88, 137, 175] }) (h := ?_) | refine nx ?_) | refine pK (rpart_ok u hU ((k + 1 : Nat) : Int)) ?_ | refine pK (hro) ?_); try simp (disch := omega) only [h2, h3, h5, h6, h7, h8, h9, h10, h11, hH5, hpv, p0, ha1, encRules, cRules,go_sem, simprocAttr]) | (with_reducible refine bk ?_) | ((with_reducible refine' cE ?hv ?_ ?_); (case hv => first | rfl | (simp only [h2, h3, h5, h6, h7, h8, h9, h10, h11, hH5, hpv, p0, ha1, encRules, cRules,go_sem, simprocAttr]; rfl)); all_goals (intro hc; (try simp only [go_sem, simprocAttr] at hc); try (exfalso; omega))) | ((with_reducible first | refine grdS_split ?_ ?_ | refine lkG_split ?_ ?_) <;> intro hg <;> (try simp (disch := omega) only [hg, h2, h3, h5, h6, h7, h8, h9, h10, h11, hH5, hpv, p0, ha1, encRules, cRules,go_sem, simprocAttr]) <;> (try simp only [go_sem, simprocAttr] at hg) <;> (try (exfalso; omega))) | ((with_reducible refine fe ?_); refine ⟨_, (by simp only [Try.f58, h2, h3, h5, h6, h7, h8, h9, h10, h11, hH5, hpv, p0, ha1, encRules, cRules,go_sem, simprocAttr]; rfl), ?_⟩; first | rfl | (try simp only [h2, h3, h5, h6, h7, h8, h9, h10, h11, hH5, hpv, p0, ha1, encRules, cRules,go_sem, simprocAttr, seval])) | with_reducible intro (ep : Nat → Nat) | with_reducible apply_assumption -exfalso -symm only [*])
          exact ⟨by (and_intros <;> first | rfl | (simp only [h2, h3, h6, h7, hcv, h8, h9, h10, h11, go_sem, simprocAttr]; done) | (simp only [h2, h3, h6, h7, hcv, h8, h9, h10, h11, go_sem, simprocAttr]; rfl)), _, by (first | rfl | (simp only [h5, go_sem, simprocAttr]; done) | (simp only [h5, go_sem, simprocAttr]; rfl)), by (first | rfl | (simp only [hH5, go_sem, simprocAttr]; done) | (simp only [hH5, go_sem, simprocAttr]; rfl))⟩
        · rw [oneB_ne ha0] at hcutB
          have ha1 : 0 < av := by omega
          repeat' (first | (with_reducible refine sk ?_; intro K hK) | ((first | (with_reducible first | refine rg (id := 9) (md := { base := 0, own := [43, 88, 137, 175] }) (h := ?_) | refine rgS (id := 9) [12, 18] (md := { base := 0, own := [43, 88, 137, 175] }) (h := ?_) | refine rg (id := 17) (md := { base := 0, own := [43, 88, 137, 175] }) (h := ?_) | refine rgS (id := 17) [12, 18] (md := { base := 0, own := [43, 88, 137, 175] }) (h := ?_) | refine rg (id := 24) (md := { base := 0, own := [43, 88, 137, 175] }) (h := ?_) | refine rgS (id := 24) [12, 18] (md := { base := 0, own := [43, 88, 137, 175] }) (h := ?_) | refine rg (id := 28) (md := { base := 0, own := [43, 88, 137, 175] }) (h := ?_) | refine rgS (id := 28) [12, 18] (md := { base := 0, own := [43, 88, 137, 175] }) (h := ?_) | refine rg (md := { base := 0, own := [5, 43, 88, 137, 175] }) (h := ?_) | refine rgS [12, 18] (md := { base := 0, own := [5, 43, 88, 137, 175] }) (h := ?_) | refine nx ?_) | refine pK (rpart_ok u hU ((k + 1 : Nat) : Int)) ?_ | refine pK (hro) ?_); try simp (disch := omega) only [h2, h3, h5, h6, h7, h8, h9, h10, h11, hH5, hpv, p0, ha1, hlb, encRules, cRules,go_sem, simprocAttr]) | (with_reducible refine bk ?_) | ((with_reducible refine' cE ?hv ?_ ?_); (case hv => first | rfl | (simp only [h2, h3, h5, h6, h7, h8, h9, h10, h11, hH5, hpv, p0, ha1, hlb, encRules, cRules,go_sem, simprocAttr]; rfl)); all_goals (intro hc; (try simp only [go_sem, simprocAttr] at hc); try (exfalso; omega))) | ((with_reducible first | refine grdS_split ?_ ?_ | refine lkG_split ?_ ?_) <;> intro hg <;> (try simp (disch := omega) only [hg, h2, h3, h5, h6, h7, h8, h9, h10, h11, hH5, hpv, p0, ha1, hlb, encRules, cRules,go_sem, simprocAttr]) <;> (try simp only [go_sem, simprocAttr] at hg) <;> (try (exfalso; omega))) | ((with_reducible refine fe ?_); refine ⟨_, (by simp only [Try.f58, h2, h3, h5, h6, h7, h8, h9, h10, h11, hH5, hpv, p0, ha1, hlb, encRules, cRules,go_sem, simprocAttr]; rfl), ?_⟩; first | rfl | (try simp only [h2, h3, h5, h6, h7, h8, h9, h10, h11, hH5, hpv, p0, ha1, hlb, encRules, cRules,go_sem, simprocAttr, seval])) | with_reducible intro (ep : Nat → Nat) | with_reducible apply_assumption -exfalso -symm only [*])
          exact ⟨by (and_intros <;> first | rfl | (simp only [h2, h3, h6, h7, hcv, h8, h9, h10, h11, go_sem, simprocAttr]; done) | (simp only [h2, h3, h6, h7, hcv, h8, h9, h10, h11, go_sem, simprocAttr]; rfl)), OutL_app (by (first | rfl | (simp only [go_sem, simprocAttr]; done) | (simp only [go_sem, simprocAttr]; rfl))) (by (first | rfl | (simp only [go_sem, simprocAttr]; done) | (simp only [go_sem, simprocAttr]; rfl)))⟩
    clear hK
    by_cases hne : wk r ((k + 1 : Nat) : Int) = []
    · have hz : (natI (wk r ((k + 1 : Nat) : Int))).length = 0 := by rw [hne]; rfl
      have e1 : cumLo r (k + 1) = cumLo r k := by simp only [cumLo, if_pos hne, Int.add_zero]
      have e2 : cumHi r (k + 1) = cumHi r k := by simp only [cumHi, if_pos hne, Int.add_zero]
      have e3 : cumC r (k + 1) = cumC r k := by simp only [cumC, if_pos hne, Int.add_zero]
      have e4 : blindB r ((k + 1 : Nat) : Int) = [⟨((k + 1 : Nat) : Int), 1, -1, 2⟩] := by unfold blindB; rw [if_pos hne]
      rw [e1, e2, e3, e4] at hcutA
      have hlb : (leftB r u k).length ≤ 1073741823 := by omega
      repeat' (first | (with_reducible refine sk ?_; intro K hK) | ((with_reducible first | refine rg (id := 9) (md := { base := 0, own := [43, 88, 137, 175] }) (h := ?_) | refine rgS (id := 9) [12, 18] (md := { base := 0, own := [43, 88, 137, 175] }) (h := ?_) | refine rg (id := 17) (md := { base := 0, own := [43, 88, 137, 175] }) (h := ?_) | refine rgS (id := 17) [12, 18] (md := { base := 0, own := [43, 88, 137, 175] }) (h := ?_) | refine rg (id := 24) (md := { base := 0, own := [43, 88, 137, 175] }) (h := ?_) | refine rgS (id := 24) [12, 18] (md := { base := 0, own := [43, 88, 137, 175] }) (h := ?_) | refine rg (id := 28) (md := { base := 0, own := [43, 88, 137, 175] }) (h := ?_) | refine rgS (id := 28) [12, 18] (md := { base := 0, own := [43, 88, 137, 175] }) (h := ?_) | refine rg (md := { base := 0, own := [5, 43, 88, 137, 175] }) (h := ?_) | refine rgS [12, 18] (md := { base := 0, own := [5, 43, 88, 137, 175] }) (h := ?_) | refine nx ?_); try simp (disch := omega) only [h2, h3, h5, h6, h7, h8, h9, hH5, hz, hlb, cRun,go_sem, simprocAttr]) | (with_reducible refine bk ?_) | ((with_reducible refine' cE ?hv ?_ ?_); (case hv => first | rfl | (simp only [h2, h3, h5, h6, h7, h8, h9, hH5, hz, hlb, cRun,go_sem, simprocAttr]; rfl)); all_goals (intro hc; (try simp only [go_sem, simprocAttr] at hc); try (exfalso; omega))) | ((with_reducible first | refine grdS_split ?_ ?_ | refine lkG_split ?_ ?_) <;> intro hg <;> (try simp (disch := omega) only [hg, h2, h3, h5, h6, h7, h8, h9, hH5, hz, hlb, cRun,go_sem, simprocAttr]) <;> (try simp only [go_sem, simprocAttr] at hg) <;> (try (exfalso; omega))) | ((with_reducible refine fe ?_); refine ⟨_, (by simp only [Try.f58, h2, h3, h5, h6, h7, h8, h9, hH5, hz, hlb, cRun,go_sem, simprocAttr]; rfl), ?_⟩; first | rfl | (try simp only [h2, h3, h5, h6, h7, h8, h9, hH5, hz, hlb, cRun,go_sem, simprocAttr, seval])) | with_reducible intro (ep : Nat → Nat) | with_reducible apply_assumption -exfalso -symm only [*])
      exact ⟨by (and_intros <;> first | rfl | (simp only [h2, h3, h6, h7, h8, h9, cRun, hz, go_sem, simprocAttr]; done) | (simp only [h2, h3, h6, h7, h8, h9, cRun, hz, go_sem, simprocAttr]; rfl)), OutL_app (by (first | rfl | (simp only [go_sem, simprocAttr]; done) | (simp only [go_sem, simprocAttr]; rfl))) (by (first | rfl | (simp only [go_sem, simprocAttr]; done) | (simp only [go_sem, simprocAttr]; rfl)))⟩
    · have hz : ¬ (natI (wk r ((k + 1 : Nat) : Int))).length = 0 := by rw [natI_length]; exact fun e => hne (List.eq_nil_of_length_eq_zero e)
      have hmb := mean_bounds hF (m := ((k + 1 : Nat) : Int)) (by omega) (by omega) hne
      have e1 : cumLo r (k + 1) = cumLo r k + (meanS r ((k + 1 : Nat) : Int)).lo := by simp only [cumLo, if_neg hne]
      have e2 : cumHi r (k + 1) = cumHi r k + (meanS r ((k + 1 : Nat) : Int)).hi := by simp only [cumHi, if_neg hne]
      have e3 : cumC r (k + 1) = cumC r k + degAt r.curve ((k + 1 : Nat) : Int) := by simp only [cumC, if_neg hne]
      have e4 : blindB r ((k + 1 : Nat) : Int) = [] := by unfold blindB; rw [if_neg hne]
      rw [e1, e2, e3, e4, List.append_nil] at hcutA
      repeat' (first | (with_reducible refine sk ?_; intro K hK) | ((first | (with_reducible first | refine rg (id := 9) (md := { base := 0, own := [43, 88, 137, 175] }) (h := ?_) | refine rgS (id := 9) [12, 18] (md := { base := 0, own := [43, 88, 137, 175] }) (h := ?_) | refine rg (id := 17) (md := { base := 0, own := [43, 88, 137, 175] }) (h := ?_) | refine rgS (id := 17) [12, 18] (md := { base := 0, own := [43, 88, 137, 175] }) (h := ?_) | refine rg (id := 24) (md := { base := 0, own := [43, 88, 137, 175] }) (h := ?_) | refine rgS (id := 24) [12, 18] (md := { base := 0, own := [43, 88, 137, 175] }) (h := ?_) | refine rg (id := 28) (md := { base := 0, own := [43, 88, 137, 175] }) (h := ?_) | refine rgS (id := 28) [12, 18] (md := { base := 0, own := [43, 88, 137, 175] }) (h := ?_) | refine rg (md := { base := 0, own := [5, 43, 88, 137, 175] }) (h := ?_) | refine rgS [12, 18] (md := { base := 0, own := [5, 43, 88, 137, 175] }) (h := ?_) | refine nx ?_) | refine pK (rmean_ok r hF ((k + 1 : Nat) : Int) (by omega) (by omega) hne) ?_); try simp (disch := omega) only [h2, h3, h5, h6, h7, h8, h9, hH5, hz, cRun, encSpan,go_sem, simprocAttr]) | (with_reducible refine bk ?_) | ((with_reducible refine' cE ?hv ?_ ?_); (case hv => first | rfl | (simp only [h2, h3, h5, h6, h7, h8, h9, hH5, hz, cRun, encSpan,go_sem, simprocAttr]; rfl)); all_goals (intro hc; (try simp only [go_sem, simprocAttr] at hc); try (exfalso; omega))) | ((with_reducible first | refine grdS_split ?_ ?_ | refine lkG_split ?_ ?_) <;> intro hg <;> (try simp (disch := omega) only [hg, h2, h3, h5, h6, h7, h8, h9, hH5, hz, cRun, encSpan,go_sem, simprocAttr]) <;> (try simp only [go_sem, simprocAttr] at hg) <;> (try (exfalso; omega))) | ((with_reducible refine fe ?_); refine ⟨_, (by simp only [Try.f58, h2, h3, h5, h6, h7, h8, h9, hH5, hz, cRun, encSpan,go_sem, simprocAttr]; rfl), ?_⟩; first | rfl | (try simp only [h2, h3, h5, h6, h7, h8, h9, hH5, hz, cRun, encSpan,go_sem, simprocAttr, seval])) | with_reducible intro (ep : Nat → Nat) | with_reducible apply_assumption -exfalso -symm only [*])
      exact ⟨by (and_intros <;> first | rfl | (simp only [h2, h3, h6, h7, h8, h9, cRun, go_sem, simprocAttr]; done) | (simp only [h2, h3, h6, h7, h8, h9, cRun, go_sem, simprocAttr]; rfl)), _, by (first | rfl | (simp only [h5, go_sem, simprocAttr]; done) | (simp only [h5, go_sem, simprocAttr]; rfl)), by (first | rfl | (simp only [hH5, go_sem, simprocAttr]; done) | (simp only [hH5, go_sem, simprocAttr]; rfl))⟩
  · obtain rfl : k = r.rows.length := by omega
    repeat' (first | (with_reducible refine sk ?_; intro K hK) | ((with_reducible first | refine rg (id := 9) (md := { base := 0, own := [43, 88, 137, 175] }) (h := ?_) | refine rgS (id := 9) [12, 18] (md := { base := 0, own := [43, 88, 137, 175] }) (h := ?_) | refine rg (id := 17) (md := { base := 0, own := [43, 88, 137, 175] }) (h := ?_) | refine rgS (id := 17) [12, 18] (md := { base := 0, own := [43, 88, 137, 175] }) (h := ?_) | refine rg (id := 24) (md := { base := 0, own := [43, 88, 137, 175] }) (h := ?_) | refine rgS (id := 24) [12, 18] (md := { base := 0, own := [43, 88, 137, 175] }) (h := ?_) | refine rg (id := 28) (md := { base := 0, own := [43, 88, 137, 175] }) (h := ?_) | refine rgS (id := 28) [12, 18] (md := { base := 0, own := [43, 88, 137, 175] }) (h := ?_) | refine rg (md := { base := 0, own := [5, 43, 88, 137, 175] }) (h := ?_) | refine rgS [12, 18] (md := { base := 0, own := [5, 43, 88, 137, 175] }) (h := ?_) | refine nx ?_); try simp (disch := omega) only [h2, h3, h5, h6, h7, h8, h9, hH5, cRun,go_sem, simprocAttr]) | (with_reducible refine bk ?_) | ((with_reducible refine' cE ?hv ?_ ?_); (case hv => first | rfl | (simp only [h2, h3, h5, h6, h7, h8, h9, hH5, cRun,go_sem, simprocAttr]; rfl)); all_goals (intro hc; (try simp only [go_sem, simprocAttr] at hc); try (exfalso; omega))) | ((with_reducible first | refine grdS_split ?_ ?_ | refine lkG_split ?_ ?_) <;> intro hg <;> (try simp (disch := omega) only [hg, h2, h3, h5, h6, h7, h8, h9, hH5, cRun,go_sem, simprocAttr]) <;> (try simp only [go_sem, simprocAttr] at hg) <;> (try (exfalso; omega))) | with_reducible intro (ep : Nat → Nat) | with_reducible apply_assumption -exfalso -symm only [*])
    refine FnP_frz 5 (Or.inl rfl) (by simp only [go_sem, simprocAttr, hH5]; rfl) ⟨_, (by simp only [Try.f58, go_sem, simprocAttr, h5]; rfl), ?_⟩
    simp only [go_sem, simprocAttr, leftS]
end Cp
namespace Cp
open Go
theorem PureC.weak {P : Program} {fid : FuncId} {args : List Val} {v v' : Val} (h : PureC P fid args v) (hn : noid v' = true) (hw : ∀ G w x, VR G w v x → VR G w v' x) : PureC P fid args v' :=
  ⟨h.1, h.2.1, hn, fun G w xs hR hv => Calls.mono (h.2.2.2 G w xs hR hv) (by rintro e w' ⟨x, I', h1, h2, h3, h4⟩; exact ⟨x, I', h1, h2, h3, hw _ _ _ h4⟩)⟩
theorem VR.tup_nils {G : Gh} {w : World} {n : Nat} {cs : List Val} {x : Value} (h : VR G w (.tup (.nils :: cs)) x) : VR G w (.tup (.lst n [] :: cs)) x := by
  cases h with
  | tup _ xs hs hv =>
    refine .tup _ xs (by simpa using hs) (fun i v hi => ?_)
    cases i with
    | zero => cases hi; exact (hv 0 .nils rfl).nils_lst _
    | succ i => exact hv (i + 1) v hi
def p2 (b : Brc) : Bool := !decide (b.known = 2)
def firstK (l : List Brc) : Nat := (l.takeWhile p2).length
theorem firstK_lt : ∀ {l : List Brc} {i : Nat} {b : Brc}, i < firstK l → l[i]? = some b → ¬ b.known = 2
  | [], i, b, h, hb => by simp at hb
  | a :: l, i, b, h, hb => by
    unfold firstK at h
    rw [List.takeWhile_cons] at h
    split at h
    · rename_i hp
      cases i with
      | zero => simp at hb; subst hb; simpa [p2] using hp
      | succ i => exact firstK_lt (l := l) (i := i) (by simpa [firstK] using h) (by simpa using hb)
    · simp at h
theorem firstK_at : ∀ {l : List Brc} {b : Brc}, l[firstK l]? = some b → b.known = 2
  | [], b, h => by simp at h
  | a :: l, b, h => by
    unfold firstK at h
    rw [List.takeWhile_cons] at h
    split at h
    · rename_i hp
      exact firstK_at (l := l) (by simpa [firstK] using h)
    · rename_i hp
      simp at h; subst h; simpa [p2] using hp
def firstS (l : List Brc) (t : Int) : Int × Int := match l[0]? with | some b => if b.m ≤ t then (1, b.m) else (2, 0) | none => (2, 0)
def keptL (l : List Brc) (t : Int) : Int × Int := match l[firstK l]? with | some b => if b.m ≤ t then (0, b.m) else firstS l t | none => firstS l t
def countL (l : List Brc) (n : Int) : Int := match l[0]? with | some b => b.m - 1 | none => n
theorem firstK_ge {l : List Brc} {j : Nat} (h : ∀ i b, i < j → l[i]? = some b → ¬ b.known = 2) (hj : j ≤ l.length) : j ≤ firstK l := by
  rcases Nat.lt_or_ge (firstK l) j with hlt | hge
  · exfalso
    have hx : l[firstK l]? = some l[firstK l] := List.getElem?_eq_getElem (by omega)
    exact h _ _ hlt hx (firstK_at hx)
  · exact hge
theorem sorted_m {l : List Brc} (hs : l.Pairwise brLt) {i j : Nat} {a b : Brc} (hij : i ≤ j) (ha : l[i]? = some a) (hb : l[j]? = some b) : a.m ≤ b.m := by
  rcases Nat.eq_or_lt_of_le hij with rfl | hlt
  · rw [ha] at hb; cases hb; exact Int.le_refl _
  · obtain ⟨h1, rfl⟩ := List.getElem?_eq_some_iff.1 ha
    obtain ⟨h2, rfl⟩ := List.getElem?_eq_some_iff.1 hb
    have := (List.pairwise_iff_getElem.1 hs) i j h1 h2 hlt
    unfold brLt at this
    omega
theorem keptL_stop {l : List Brc} (hs : l.Pairwise brLt) {t : Int} {j : Nat} {b : Brc} (h : ∀ i b, i < j → l[i]? = some b → ¬ b.known = 2) (hb : l[j]? = some b) (hm : t < b.m) : keptL l t = firstS l t := by
  have hge := firstK_ge h (Nat.le_of_lt (List.getElem?_eq_some_iff.1 hb).1)
  unfold keptL
  cases hq : l[firstK l]? with
  | none => rfl
  | some c =>
    have := sorted_m hs hge hb hq
    simp only
    rw [if_neg (by omega)]
theorem keptL_sure {l : List Brc} {t : Int} {j : Nat} {b : Brc} (h : ∀ i b, i < j → l[i]? = some b → ¬ b.known = 2) (hb : l[j]? = some b) (h2 : b.known = 2) (hm : b.m ≤ t) : keptL l t = (0, b.m) := by
  have hge := firstK_ge h (Nat.le_of_lt (List.getElem?_eq_some_iff.1 hb).1)
  have : firstK l = j := by
    rcases Nat.eq_or_lt_of_le hge with h | h
    · exact h.symm
    · exact absurd h2 (firstK_lt h hb)
  unfold keptL
  rw [this, hb]
  simp only
  rw [if_pos hm]
theorem keptL_end {l : List Brc} {t : Int} (h : ∀ i b, i < l.length → l[i]? = some b → ¬ b.known = 2) : keptL l t = firstS l t := by
  have hge := firstK_ge h (Nat.le_refl _)
  unfold keptL
  rw [List.getElem?_eq_none hge]
end Cp
namespace Cp
open Go Go.Proofs
set_option maxRecDepth 10000
set_option maxHeartbeats 4000000
theorem check0 {r : RunT} {u : RulesT} (h : checkE r u = 0) : runOK r = true ∧ rulesOK u = true := by
  unfold checkE at h
  split at h
  · split at h
    · rename_i h1 h2; exact ⟨h1, h2⟩
    · omega
  · omega
theorem leftl_ok (r : RunT) (hF : RunF r) (u : RulesT) (hU : RulesF u) : PureC Try.prog 57 [encRun r, encRules u] (.lst 4 ((leftS r u).map cBrc)) := by
  refine (left_ok r hF u hU).weak (by simp only [noid, cBrc_noid]) fun G w x h => ?_
  unfold lftV at h
  split at h
  · rename_i he; rw [he]; exact h.nils_lst _
  · exact h
def leftT (r : RunT) (u : RulesT) : Val := if checkE r u = 0 then .tup [.lst 4 ((leftS r u).map cBrc), .int .i64 0] else .tup [.lst 4 [], .int .i64 (checkE r u)]
theorem Left_ok (r : RunT) (u : RulesT) (hb : RunB r) (hu : RulesB u) : PureC Try.prog 25 [encRun r, encRules u] (leftT r u) := by
  by_cases hc0 : checkE r u = 0
  · obtain ⟨h1, h2⟩ := check0 hc0
    rw [leftT, if_pos hc0]
    refine PureC_of (fn := Try.f25) tabOK (by kernel_rfl) rfl (by kernel_rfl) (by simp [Try.f25]) (by simp [noids, noid, noidss, go_sem, encRun, cRun, encRules, cRules]) (by first | rfl | simp [noids, noid, noidss, go_sem, encRun, cRun, encRules, cRules]) ?_
    intro X hX0 hXs
    repeat' (first | (with_reducible refine sk ?_; intro K hK) | ((first | (with_reducible first | refine rg (h := ?_) | refine nx ?_) | refine pK (check_ok r u hb hu) ?_ | refine pK (leftl_ok r (run_facts h1) u (rules_facts h2)) ?_); try simp (disch := omega) only [encRun, cRun, encRules, cRules, hc0,go_sem, simprocAttr]) | (with_reducible refine bk ?_) | ((with_reducible refine' cE ?hv ?_ ?_); (case hv => first | rfl | (simp only [encRun, cRun, encRules, cRules, hc0,go_sem, simprocAttr]; rfl)); all_goals (intro hc; (try simp only [go_sem, simprocAttr] at hc); try (exfalso; omega))) | ((with_reducible refine fe ?_); refine ⟨_, (by simp only [Try.f25, encRun, cRun, encRules, cRules, hc0,go_sem, simprocAttr]; rfl), ?_⟩; first | rfl | (try simp only [encRun, cRun, encRules, cRules, hc0,go_sem, simprocAttr, seval])) | with_reducible intro (ep : Nat → Nat) | with_reducible apply_assumption -exfalso -symm only [*])
  · rw [leftT, if_neg hc0]
    refine PureC.weak (v := .tup [.nils, .int .i64 (checkE r u)]) ?_ rfl fun G w x h => h.tup_nils
    refine PureC_of (fn := Try.f25) tabOK (by kernel_rfl) rfl (by kernel_rfl) (by simp [Try.f25]) (by simp [noids, noid, noidss, go_sem, encRun, cRun, encRules, cRules]) (by first | rfl | simp [noids, noid, noidss, go_sem, encRun, cRun, encRules, cRules]) ?_
    intro X hX0 hXs
    repeat' (first | (with_reducible refine sk ?_; intro K hK) | ((first | (with_reducible first | refine rg (h := ?_) | refine nx ?_) | refine pK (check_ok r u hb hu) ?_); try simp (disch := omega) only [encRun, cRun, encRules, cRules, hc0,go_sem, simprocAttr]) | (with_reducible refine bk ?_) | ((with_reducible refine' cE ?hv ?_ ?_); (case hv => first | rfl | (simp only [encRun, cRun, encRules, cRules, hc0,go_sem, simprocAttr]; rfl)); all_goals (intro hc; (try simp only [go_sem, simprocAttr] at hc); try (exfalso; omega))) | ((with_reducible refine fe ?_); refine ⟨_, (by simp only [Try.f25, encRun, cRun, encRules, cRules, hc0,go_sem, simprocAttr]; rfl), ?_⟩; first | rfl | (try simp only [encRun, cRun, encRules, cRules, hc0,go_sem, simprocAttr, seval])) | with_reducible intro (ep : Nat → Nat) | with_reducible apply_assumption -exfalso -symm only [*])
theorem rLeft_ok (r : RunT) (u : RulesT) (hb : RunB r) (hu : RulesB u) : PureC Try.prog 26 [encRun r, encRules u] (leftT r u) := by
  by_cases hc0 : checkE r u = 0
  · obtain ⟨h1, h2⟩ := check0 hc0
    rw [leftT, if_pos hc0]
    refine PureC_of (fn := Try.f26) tabOK (by kernel_rfl) rfl (by kernel_rfl) (by simp [Try.f26]) (by simp [noids, noid, noidss, go_sem, encRun, cRun, encRules, cRules]) (by first | rfl | simp [noids, noid, noidss, go_sem, encRun, cRun, encRules, cRules]) ?_
    intro X hX0 hXs
    repeat' (first | (with_reducible refine sk ?_; intro K hK) | ((first | (with_reducible first | refine rg (h := ?_) | refine nx ?_) | refine pK (rcheck_ok r u hb hu) ?_ | refine pK (rleft_ok r (run_facts h1) u (rules_facts h2)) ?_); try simp (disch := omega) only [encRun, cRun, encRules, cRules, hc0,go_sem, simprocAttr]) | (with_reducible refine bk ?_) | ((with_reducible refine' cE ?hv ?_ ?_); (case hv => first | rfl | (simp only [encRun, cRun, encRules, cRules, hc0,go_sem, simprocAttr]; rfl)); all_goals (intro hc; (try simp only [go_sem, simprocAttr] at hc); try (exfalso; omega))) | ((with_reducible refine fe ?_); refine ⟨_, (by simp only [Try.f26, encRun, cRun, encRules, cRules, hc0,go_sem, simprocAttr]; rfl), ?_⟩; first | rfl | (try simp only [encRun, cRun, encRules, cRules, hc0,go_sem, simprocAttr, seval])) | with_reducible intro (ep : Nat → Nat) | with_reducible apply_assumption -exfalso -symm only [*])
  · rw [leftT, if_neg hc0]
    refine PureC.weak (v := .tup [.nils, .int .i64 (checkE r u)]) ?_ rfl fun G w x h => h.tup_nils
    refine PureC_of (fn := Try.f26) tabOK (by kernel_rfl) rfl (by kernel_rfl) (by simp [Try.f26]) (by simp [noids, noid, noidss, go_sem, encRun, cRun, encRules, cRules]) (by first | rfl | simp [noids, noid, noidss, go_sem, encRun, cRun, encRules, cRules]) ?_
    intro X hX0 hXs
    repeat' (first | (with_reducible refine sk ?_; intro K hK) | ((first | (with_reducible first | refine rg (h := ?_) | refine nx ?_) | refine pK (rcheck_ok r u hb hu) ?_); try simp (disch := omega) only [encRun, cRun, encRules, cRules, hc0,go_sem, simprocAttr]) | (with_reducible refine bk ?_) | ((with_reducible refine' cE ?hv ?_ ?_); (case hv => first | rfl | (simp only [encRun, cRun, encRules, cRules, hc0,go_sem, simprocAttr]; rfl)); all_goals (intro hc; (try simp only [go_sem, simprocAttr] at hc); try (exfalso; omega))) | ((with_reducible refine fe ?_); refine ⟨_, (by simp only [Try.f26, encRun, cRun, encRules, cRules, hc0,go_sem, simprocAttr]; rfl), ?_⟩; first | rfl | (try simp only [encRun, cRun, encRules, cRules, hc0,go_sem, simprocAttr, seval])) | with_reducible intro (ep : Nat → Nat) | with_reducible apply_assumption -exfalso -symm only [*])
def countT (r : RunT) (u : RulesT) : Val := if checkE r u = 0 then .tup [.int .i64 (countL (leftS r u) r.rows.length), .int .i64 0] else .tup [.int .i64 0, .int .i64 (checkE r u)]
theorem left_m {r : RunT} {u : RulesT} {b : Brc} (h : b ∈ leftS r u) : 1 ≤ b.m ∧ b.m ≤ r.rows.length := by
  obtain ⟨j, h1, h2, h3⟩ := leftB_mem h
  obtain ⟨h4, _⟩ := minB_mem h3
  omega
theorem Counts_ok (r : RunT) (u : RulesT) (hb : RunB r) (hu : RulesB u) : PureC Try.prog 29 [encRun r, encRules u] (countT r u) := by
  by_cases hc0 : checkE r u = 0
  · obtain ⟨h1, h2⟩ := check0 hc0
    have hF := run_facts h1
    have hrl := hF.rows
    rw [countT, if_pos hc0]
    cases hl : leftS r u with
    | nil =>
      have hlk := leftl_ok r hF u (rules_facts h2)
      rw [hl] at hlk
      refine PureC_of (fn := Try.f29) tabOK (by kernel_rfl) rfl (by kernel_rfl) (by simp [Try.f29]) (by simp [noids, noid, noidss, go_sem, encRun, cRun, encRules, cRules]) (by first | rfl | simp [noids, noid, noidss, go_sem, encRun, cRun, encRules, cRules]) ?_
      intro X hX0 hXs
      repeat' (first | (with_reducible refine sk ?_; intro K hK) | ((first | (with_reducible first | refine rg (h := ?_) | refine nx ?_) | refine pK (check_ok r u hb hu) ?_ | refine pK (hlk) ?_); try simp (disch := omega) only [encRun, cRun, encRules, cRules, hc0,go_sem, simprocAttr]) | (with_reducible refine bk ?_) | ((with_reducible refine' cE ?hv ?_ ?_); (case hv => first | rfl | (simp only [encRun, cRun, encRules, cRules, hc0,go_sem, simprocAttr]; rfl)); all_goals (intro hc; (try simp only [go_sem, simprocAttr] at hc); try (exfalso; omega))) | ((with_reducible refine fe ?_); refine ⟨_, (by simp only [Try.f29, encRun, cRun, encRules, cRules, hc0,go_sem, simprocAttr]; rfl), ?_⟩; first | rfl | (try simp only [encRun, cRun, encRules, cRules, hc0,go_sem, simprocAttr, seval])) | with_reducible intro (ep : Nat → Nat) | with_reducible apply_assumption -exfalso -symm only [*])
      try rfl
    | cons b l =>
      have hbm := left_m (r := r) (u := u) (b := b) (by rw [hl]; simp)
      have hlk := leftl_ok r hF u (rules_facts h2)
      rw [hl] at hlk
      have hpos : (0 : Int) < ((l.length + 1 : Nat) : Int) := by omega
      refine PureC_of (fn := Try.f29) tabOK (by kernel_rfl) rfl (by kernel_rfl) (by simp [Try.f29]) (by simp [noids, noid, noidss, go_sem, encRun, cRun, encRules, cRules]) (by first | rfl | simp [noids, noid, noidss, go_sem, encRun, cRun, encRules, cRules]) ?_
      intro X hX0 hXs
      repeat' (first | (with_reducible refine sk ?_; intro K hK) | ((first | (with_reducible first | refine rg (h := ?_) | refine nx ?_) | refine pK (check_ok r u hb hu) ?_ | refine pK (hlk) ?_); try simp (disch := omega) only [encRun, cRun, encRules, cRules, hc0, cBrc, hpos,go_sem, simprocAttr]) | (with_reducible refine bk ?_) | ((with_reducible refine' cE ?hv ?_ ?_); (case hv => first | rfl | (simp only [encRun, cRun, encRules, cRules, hc0, cBrc, hpos,go_sem, simprocAttr]; rfl)); all_goals (intro hc; (try simp only [go_sem, simprocAttr] at hc); try (exfalso; omega))) | ((with_reducible refine fe ?_); refine ⟨_, (by simp only [Try.f29, encRun, cRun, encRules, cRules, hc0, cBrc, hpos,go_sem, simprocAttr]; rfl), ?_⟩; first | rfl | (try simp only [encRun, cRun, encRules, cRules, hc0, cBrc, hpos,go_sem, simprocAttr, seval])) | with_reducible intro (ep : Nat → Nat) | with_reducible apply_assumption -exfalso -symm only [*])
      try rfl
  · rw [countT, if_neg hc0]
    refine PureC_of (fn := Try.f29) tabOK (by kernel_rfl) rfl (by kernel_rfl) (by simp [Try.f29]) (by simp [noids, noid, noidss, go_sem, encRun, cRun, encRules, cRules]) (by first | rfl | simp [noids, noid, noidss, go_sem, encRun, cRun, encRules, cRules]) ?_
    intro X hX0 hXs
    repeat' (first | (with_reducible refine sk ?_; intro K hK) | ((first | (with_reducible first | refine rg (h := ?_) | refine nx ?_) | refine pK (check_ok r u hb hu) ?_); try simp (disch := omega) only [encRun, cRun, encRules, cRules, hc0,go_sem, simprocAttr]) | (with_reducible refine bk ?_) | ((with_reducible refine' cE ?hv ?_ ?_); (case hv => first | rfl | (simp only [encRun, cRun, encRules, cRules, hc0,go_sem, simprocAttr]; rfl)); all_goals (intro hc; (try simp only [go_sem, simprocAttr] at hc); try (exfalso; omega))) | ((with_reducible refine fe ?_); refine ⟨_, (by simp only [Try.f29, encRun, cRun, encRules, cRules, hc0,go_sem, simprocAttr]; rfl), ?_⟩; first | rfl | (try simp only [encRun, cRun, encRules, cRules, hc0,go_sem, simprocAttr, seval])) | with_reducible intro (ep : Nat → Nat) | with_reducible apply_assumption -exfalso -symm only [*])
theorem rCounts_ok (r : RunT) (u : RulesT) (hb : RunB r) (hu : RulesB u) : PureC Try.prog 30 [encRun r, encRules u] (countT r u) := by
  by_cases hc0 : checkE r u = 0
  · obtain ⟨h1, h2⟩ := check0 hc0
    have hF := run_facts h1
    have hrl := hF.rows
    rw [countT, if_pos hc0]
    cases hl : leftS r u with
    | nil =>
      have hlk := rleft_ok r hF u (rules_facts h2)
      rw [hl] at hlk
      refine PureC_of (fn := Try.f30) tabOK (by kernel_rfl) rfl (by kernel_rfl) (by simp [Try.f30]) (by simp [noids, noid, noidss, go_sem, encRun, cRun, encRules, cRules]) (by first | rfl | simp [noids, noid, noidss, go_sem, encRun, cRun, encRules, cRules]) ?_
      intro X hX0 hXs
      repeat' (first | (with_reducible refine sk ?_; intro K hK) | ((first | (with_reducible first | refine rg (h := ?_) | refine nx ?_) | refine pK (rcheck_ok r u hb hu) ?_ | refine pK (hlk) ?_); try simp (disch := omega) only [encRun, cRun, encRules, cRules, hc0,go_sem, simprocAttr]) | (with_reducible refine bk ?_) | ((with_reducible refine' cE ?hv ?_ ?_); (case hv => first | rfl | (simp only [encRun, cRun, encRules, cRules, hc0,go_sem, simprocAttr]; rfl)); all_goals (intro hc; (try simp only [go_sem, simprocAttr] at hc); try (exfalso; omega))) | ((with_reducible refine fe ?_); refine ⟨_, (by simp only [Try.f30, encRun, cRun, encRules, cRules, hc0,go_sem, simprocAttr]; rfl), ?_⟩; first | rfl | (try simp only [encRun, cRun, encRules, cRules, hc0,go_sem, simprocAttr, seval])) | with_reducible intro (ep : Nat → Nat) | with_reducible apply_assumption -exfalso -symm only [*])
      try rfl
    | cons b l =>
      have hbm := left_m (r := r) (u := u) (b := b) (by rw [hl]; simp)
      have hlk := rleft_ok r hF u (rules_facts h2)
      rw [hl] at hlk
      have hpos : (0 : Int) < ((l.length + 1 : Nat) : Int) := by omega
      refine PureC_of (fn := Try.f30) tabOK (by kernel_rfl) rfl (by kernel_rfl) (by simp [Try.f30]) (by simp [noids, noid, noidss, go_sem, encRun, cRun, encRules, cRules]) (by first | rfl | simp [noids, noid, noidss, go_sem, encRun, cRun, encRules, cRules]) ?_
      intro X hX0 hXs
      repeat' (first | (with_reducible refine sk ?_; intro K hK) | ((first | (with_reducible first | refine rg (h := ?_) | refine nx ?_) | refine pK (rcheck_ok r u hb hu) ?_ | refine pK (hlk) ?_); try simp (disch := omega) only [encRun, cRun, encRules, cRules, hc0, cBrc, hpos,go_sem, simprocAttr]) | (with_reducible refine bk ?_) | ((with_reducible refine' cE ?hv ?_ ?_); (case hv => first | rfl | (simp only [encRun, cRun, encRules, cRules, hc0, cBrc, hpos,go_sem, simprocAttr]; rfl)); all_goals (intro hc; (try simp only [go_sem, simprocAttr] at hc); try (exfalso; omega))) | ((with_reducible refine fe ?_); refine ⟨_, (by simp only [Try.f30, encRun, cRun, encRules, cRules, hc0, cBrc, hpos,go_sem, simprocAttr]; rfl), ?_⟩; first | rfl | (try simp only [encRun, cRun, encRules, cRules, hc0, cBrc, hpos,go_sem, simprocAttr, seval])) | with_reducible intro (ep : Nat → Nat) | with_reducible apply_assumption -exfalso -symm only [*])
      try rfl
  · rw [countT, if_neg hc0]
    refine PureC_of (fn := Try.f30) tabOK (by kernel_rfl) rfl (by kernel_rfl) (by simp [Try.f30]) (by simp [noids, noid, noidss, go_sem, encRun, cRun, encRules, cRules]) (by first | rfl | simp [noids, noid, noidss, go_sem, encRun, cRun, encRules, cRules]) ?_
    intro X hX0 hXs
    repeat' (first | (with_reducible refine sk ?_; intro K hK) | ((first | (with_reducible first | refine rg (h := ?_) | refine nx ?_) | refine pK (rcheck_ok r u hb hu) ?_); try simp (disch := omega) only [encRun, cRun, encRules, cRules, hc0,go_sem, simprocAttr]) | (with_reducible refine bk ?_) | ((with_reducible refine' cE ?hv ?_ ?_); (case hv => first | rfl | (simp only [encRun, cRun, encRules, cRules, hc0,go_sem, simprocAttr]; rfl)); all_goals (intro hc; (try simp only [go_sem, simprocAttr] at hc); try (exfalso; omega))) | ((with_reducible refine fe ?_); refine ⟨_, (by simp only [Try.f30, encRun, cRun, encRules, cRules, hc0,go_sem, simprocAttr]; rfl), ?_⟩; first | rfl | (try simp only [encRun, cRun, encRules, cRules, hc0,go_sem, simprocAttr, seval])) | with_reducible intro (ep : Nat → Nat) | with_reducible apply_assumption -exfalso -symm only [*])
end Cp
namespace Cp
open Go Go.Proofs
set_option maxRecDepth 10000
set_option maxHeartbeats 4000000
theorem indexBrc_ok (xs : List Brc) (hx : xs.length ≤ 4611686018427387904) (g : FuncId) (caps : List Val) (hcp : noids caps = true) (p : Brc → Bool) (hp : ∀ x ∈ xs, PureC Try.prog g (.agg (cBrc x) :: caps) (.bool (p x))) :
    PureC Try.prog 59 [.lst 4 (xs.map cBrc), .fn g caps] (.int .i64 (idxFrom p xs 0)) := by
  simp only [cBrc] at hp
  refine PureC_of (fn := Try.f59) tabOK (by kernel_rfl) rfl (by kernel_rfl) (by simp [Try.f59]) (by simp [noids, noid, noidss, go_sem, hcp]) (by first | rfl | simp [noids, noid, noidss, go_sem, hcp]) ?_
  intro X hX0 hXs
  repeat' (first | (with_reducible refine sk ?_; intro K hK) | ((with_reducible first | refine rg (h := ?_) | refine nx ?_); try simp (disch := omega) only [go_sem, simprocAttr]) | (with_reducible refine bk ?_) | ((with_reducible refine' cE ?hv ?_ ?_); (case hv => first | rfl | (simp only [go_sem, simprocAttr]; rfl)); all_goals (intro hc; (try simp only [go_sem, simprocAttr] at hc); try (exfalso; omega))) | ((with_reducible refine fe ?_); refine ⟨_, (by simp only [Try.f59, go_sem, simprocAttr]; rfl), ?_⟩; first | rfl | (try simp only [go_sem, simprocAttr, seval])) | with_reducible intro (ep : Nat → Nat) | with_reducible apply_assumption -exfalso -symm only [*])
  refine AW_range tabOK xs.length (fun k f H => f 0 = .lst 4 (xs.map cBrc) ∧ f 1 = .fn g caps ∧ H = none0 ∧ idxFrom p xs 0 = idxFrom p (xs.drop k) k) hx (by rw [hXs]; decide) (by decide) (by simp only [go_sem, simprocAttr]) (by simp only [go_sem, simprocAttr]) ⟨by simp only [go_sem, simprocAttr], by simp only [go_sem, simprocAttr], rfl, by simp⟩ ?_ ?_
  · rintro k f H hk h8 h7 ⟨h0, h1, rfl, hr⟩
    obtain ⟨x, hx⟩ : ∃ x, xs[k]? = some x := ⟨_, List.getElem?_eq_getElem hk⟩
    repeat' (first | (with_reducible refine sk ?_; intro K hK) | ((first | (with_reducible first | refine rg (h := ?_) | refine nx ?_) | refine pK (hp x (List.mem_of_getElem? hx)) ?_); try simp (disch := omega) only [h0, h1, h8, h7, hx, cBrc,go_sem, simprocAttr]) | (with_reducible refine bk ?_) | ((with_reducible refine' cE ?hv ?_ ?_); (case hv => first | rfl | (simp only [h0, h1, h8, h7, hx, cBrc,go_sem, simprocAttr]; rfl)); all_goals (intro hc; (try simp only [go_sem, simprocAttr] at hc); try (exfalso; omega))) | ((with_reducible refine fe ?_); refine ⟨_, (by simp only [Try.f59, h0, h1, h8, h7, hx, cBrc,go_sem, simprocAttr]; rfl), ?_⟩; first | rfl | (try simp only [h0, h1, h8, h7, hx, cBrc,go_sem, simprocAttr, seval])) | with_reducible intro (ep : Nat → Nat) | with_reducible apply_assumption -exfalso -symm only [*])
    · rw [hr, drop_cons hx]; simp [idxFrom, hc]
    · rw [hr, drop_cons hx]; simp [idxFrom, hc]
  · rintro f H h8 h7 ⟨h0, h1, rfl, hr⟩
    repeat' (first | (with_reducible refine sk ?_; intro K hK) | ((with_reducible first | refine rg (h := ?_) | refine nx ?_); try simp (disch := omega) only [go_sem, simprocAttr]) | (with_reducible refine bk ?_) | ((with_reducible refine' cE ?hv ?_ ?_); (case hv => first | rfl | (simp only [go_sem, simprocAttr]; rfl)); all_goals (intro hc; (try simp only [go_sem, simprocAttr] at hc); try (exfalso; omega))) | ((with_reducible refine fe ?_); refine ⟨_, (by simp only [Try.f59, go_sem, simprocAttr]; rfl), ?_⟩; first | rfl | (try simp only [go_sem, simprocAttr, seval])) | with_reducible intro (ep : Nat → Nat) | with_reducible apply_assumption -exfalso -symm only [*])
    rw [hr]; simp [idxFrom]
theorem kept1_ok (b : Brc) : PureC Try.prog 60 [.agg (cBrc b)] (.bool (!p2 b)) := by
  refine PureC_of (fn := Try.f60) tabOK (by kernel_rfl) rfl (by kernel_rfl) (by simp [Try.f60]) (by simp [noids, noid, noidss, go_sem, cBrc]) (by first | rfl | simp [noids, noid, noidss, go_sem, cBrc]) ?_
  intro X hX0 hXs
  repeat' (first | (with_reducible refine sk ?_; intro K hK) | ((with_reducible first | refine rg (h := ?_) | refine nx ?_); try simp (disch := omega) only [cBrc,go_sem, simprocAttr]) | (with_reducible refine bk ?_) | ((with_reducible refine' cE ?hv ?_ ?_); (case hv => first | rfl | (simp only [cBrc,go_sem, simprocAttr]; rfl)); all_goals (intro hc; (try simp only [go_sem, simprocAttr] at hc); try (exfalso; omega))) | ((with_reducible refine fe ?_); refine ⟨_, (by simp only [Try.f60, cBrc,go_sem, simprocAttr]; rfl), ?_⟩; first | rfl | (try simp only [cBrc,go_sem, simprocAttr, seval])) | with_reducible intro (ep : Nat → Nat) | with_reducible apply_assumption -exfalso -symm only [*])
  simp [p2]
def keptT (r : RunT) (u : RulesT) (t : Int) : Val :=
  if checkE r u = 0 then (if 0 ≤ t ∧ t ≤ r.rows.length then .tup [.int .u8 (keptL (leftS r u) t).1, .int .i64 (keptL (leftS r u) t).2, .int .i64 0] else .tup [.int .u8 0, .int .i64 0, .int .i64 2]) else .tup [.int .u8 0, .int .i64 0, .int .i64 (checkE r u)]
theorem Kept_ok (r : RunT) (u : RulesT) (hb : RunB r) (hu : RulesB u) (t : Int) : PureC Try.prog 27 [encRun r, encRules u, .int .i64 t] (keptT r u t) := by
  by_cases hc0 : checkE r u = 0
  · obtain ⟨h1, h2⟩ := check0 hc0
    have hF := run_facts h1
    have hrl := hF.rows
    rw [keptT, if_pos hc0]
    by_cases ht : 0 ≤ t ∧ t ≤ r.rows.length
    · rw [if_pos ht]
      obtain ⟨l, hl⟩ : ∃ l, leftS r u = l := ⟨_, rfl⟩
      have hlk := leftl_ok r hF u (rules_facts h2)
      have hll : l.length ≤ 1000 := by
        have := leftB_len (u := u) hF r.rows.length
        have : (leftS r u).length ≤ 11 * r.rows.length := this
        rw [← hl]; omega
      rw [hl] at hlk ⊢
      have hix := indexBrc_ok l (by omega) 60 [] rfl (fun b => !p2 b) (fun b _ => kept1_ok b)
      rw [idx_take] at hix
      have hfl : (l.takeWhile p2).length = firstK l := rfl
      rw [hfl] at hix
      by_cases hk : firstK l < l.length
      · rw [if_pos hk, Int.zero_add] at hix
        obtain ⟨b, hbk⟩ : ∃ b, l[firstK l]? = some b := ⟨_, List.getElem?_eq_getElem hk⟩
        by_cases hbm : b.m ≤ t
        · have hs : keptL l t = (0, b.m) := by unfold keptL; rw [hbk]; simp only; rw [if_pos hbm]
          rw [hs]
          refine PureC_of (fn := Try.f27) tabOK (by kernel_rfl) rfl (by kernel_rfl) (by simp [Try.f27]) (by simp [noids, noid, noidss, go_sem, encRun, cRun, encRules, cRules]) (by first | rfl | simp [noids, noid, noidss, go_sem, encRun, cRun, encRules, cRules]) ?_
          intro X hX0 hXs
          repeat' (first | (with_reducible refine sk ?_; intro K hK) | ((first | (with_reducible first | refine rg (h := ?_) | refine nx ?_) | refine pK (check_ok r u hb hu) ?_ | refine pK (in_1 _ _ _) ?_ | refine pK (hlk) ?_ | refine pK (hix) ?_); try simp (disch := omega) only [encRun, cRun, encRules, cRules, hc0, ht.1, ht.2, hbk, hbm, cBrc,go_sem, simprocAttr]) | (with_reducible refine bk ?_) | ((with_reducible refine' cE ?hv ?_ ?_); (case hv => first | rfl | (simp only [encRun, cRun, encRules, cRules, hc0, ht.1, ht.2, hbk, hbm, cBrc,go_sem, simprocAttr]; rfl)); all_goals (intro hc; (try simp only [go_sem, simprocAttr] at hc); try (exfalso; omega))) | ((with_reducible first | refine grdS_split ?_ ?_ | refine lkG_split ?_ ?_) <;> intro hg <;> (try simp (disch := omega) only [hg, encRun, cRun, encRules, cRules, hc0, ht.1, ht.2, hbk, hbm, cBrc,go_sem, simprocAttr]) <;> (try simp only [go_sem, simprocAttr] at hg) <;> (try (exfalso; omega))) | ((with_reducible refine fe ?_); refine ⟨_, (by simp only [Try.f27, encRun, cRun, encRules, cRules, hc0, ht.1, ht.2, hbk, hbm, cBrc,go_sem, simprocAttr]; rfl), ?_⟩; first | rfl | (try simp only [encRun, cRun, encRules, cRules, hc0, ht.1, ht.2, hbk, hbm, cBrc,go_sem, simprocAttr, seval])) | with_reducible intro (ep : Nat → Nat) | with_reducible apply_assumption -exfalso -symm only [*])
        · have hs : keptL l t = firstS l t := by unfold keptL; rw [hbk]; simp only; rw [if_neg hbm]
          rw [hs]
          obtain ⟨a, hak⟩ : ∃ a, l[0]? = some a := ⟨_, List.getElem?_eq_getElem (by omega)⟩
          have hpos : (0 : Int) < (l.length : Int) := by omega
          by_cases ham : a.m ≤ t
          · have hf : firstS l t = (1, a.m) := by unfold firstS; rw [hak]; simp only; rw [if_pos ham]
            rw [hf]
            refine PureC_of (fn := Try.f27) tabOK (by kernel_rfl) rfl (by kernel_rfl) (by simp [Try.f27]) (by simp [noids, noid, noidss, go_sem, encRun, cRun, encRules, cRules]) (by first | rfl | simp [noids, noid, noidss, go_sem, encRun, cRun, encRules, cRules]) ?_
            intro X hX0 hXs
            repeat' (first | (with_reducible refine sk ?_; intro K hK) | ((first | (with_reducible first | refine rg (h := ?_) | refine nx ?_) | refine pK (check_ok r u hb hu) ?_ | refine pK (in_1 _ _ _) ?_ | refine pK (hlk) ?_ | refine pK (hix) ?_); try simp (disch := omega) only [encRun, cRun, encRules, cRules, hc0, ht.1, ht.2, hbk, hbm, hak, ham, hpos, cBrc,go_sem, simprocAttr]) | (with_reducible refine bk ?_) | ((with_reducible refine' cE ?hv ?_ ?_); (case hv => first | rfl | (simp only [encRun, cRun, encRules, cRules, hc0, ht.1, ht.2, hbk, hbm, hak, ham, hpos, cBrc,go_sem, simprocAttr]; rfl)); all_goals (intro hc; (try simp only [go_sem, simprocAttr] at hc); try (exfalso; omega))) | ((with_reducible first | refine grdS_split ?_ ?_ | refine lkG_split ?_ ?_) <;> intro hg <;> (try simp (disch := omega) only [hg, encRun, cRun, encRules, cRules, hc0, ht.1, ht.2, hbk, hbm, hak, ham, hpos, cBrc,go_sem, simprocAttr]) <;> (try simp only [go_sem, simprocAttr] at hg) <;> (try (exfalso; omega))) | ((with_reducible refine fe ?_); refine ⟨_, (by simp only [Try.f27, encRun, cRun, encRules, cRules, hc0, ht.1, ht.2, hbk, hbm, hak, ham, hpos, cBrc,go_sem, simprocAttr]; rfl), ?_⟩; first | rfl | (try simp only [encRun, cRun, encRules, cRules, hc0, ht.1, ht.2, hbk, hbm, hak, ham, hpos, cBrc,go_sem, simprocAttr, seval])) | with_reducible intro (ep : Nat → Nat) | with_reducible apply_assumption -exfalso -symm only [*])
          · have hf : firstS l t = (2, 0) := by unfold firstS; rw [hak]; simp only; rw [if_neg ham]
            rw [hf]
            refine PureC_of (fn := Try.f27) tabOK (by kernel_rfl) rfl (by kernel_rfl) (by simp [Try.f27]) (by simp [noids, noid, noidss, go_sem, encRun, cRun, encRules, cRules]) (by first | rfl | simp [noids, noid, noidss, go_sem, encRun, cRun, encRules, cRules]) ?_
            intro X hX0 hXs
            repeat' (first | (with_reducible refine sk ?_; intro K hK) | ((first | (with_reducible first | refine rg (h := ?_) | refine nx ?_) | refine pK (check_ok r u hb hu) ?_ | refine pK (in_1 _ _ _) ?_ | refine pK (hlk) ?_ | refine pK (hix) ?_); try simp (disch := omega) only [encRun, cRun, encRules, cRules, hc0, ht.1, ht.2, hbk, hbm, hak, ham, hpos, cBrc,go_sem, simprocAttr]) | (with_reducible refine bk ?_) | ((with_reducible refine' cE ?hv ?_ ?_); (case hv => first | rfl | (simp only [encRun, cRun, encRules, cRules, hc0, ht.1, ht.2, hbk, hbm, hak, ham, hpos, cBrc,go_sem, simprocAttr]; rfl)); all_goals (intro hc; (try simp only [go_sem, simprocAttr] at hc); try (exfalso; omega))) | ((with_reducible first | refine grdS_split ?_ ?_ | refine lkG_split ?_ ?_) <;> intro hg <;> (try simp (disch := omega) only [hg, encRun, cRun, encRules, cRules, hc0, ht.1, ht.2, hbk, hbm, hak, ham, hpos, cBrc,go_sem, simprocAttr]) <;> (try simp only [go_sem, simprocAttr] at hg) <;> (try (exfalso; omega))) | ((with_reducible refine fe ?_); refine ⟨_, (by simp only [Try.f27, encRun, cRun, encRules, cRules, hc0, ht.1, ht.2, hbk, hbm, hak, ham, hpos, cBrc,go_sem, simprocAttr]; rfl), ?_⟩; first | rfl | (try simp only [encRun, cRun, encRules, cRules, hc0, ht.1, ht.2, hbk, hbm, hak, ham, hpos, cBrc,go_sem, simprocAttr, seval])) | with_reducible intro (ep : Nat → Nat) | with_reducible apply_assumption -exfalso -symm only [*])
      · rw [if_neg hk] at hix
        have hs : keptL l t = firstS l t := by unfold keptL; rw [List.getElem?_eq_none (by omega)]
        rw [hs]
        by_cases hpos : (0 : Int) < (l.length : Int)
        · obtain ⟨a, hak⟩ : ∃ a, l[0]? = some a := ⟨_, List.getElem?_eq_getElem (by omega)⟩
          by_cases ham : a.m ≤ t
          · have hf : firstS l t = (1, a.m) := by unfold firstS; rw [hak]; simp only; rw [if_pos ham]
            rw [hf]
            refine PureC_of (fn := Try.f27) tabOK (by kernel_rfl) rfl (by kernel_rfl) (by simp [Try.f27]) (by simp [noids, noid, noidss, go_sem, encRun, cRun, encRules, cRules]) (by first | rfl | simp [noids, noid, noidss, go_sem, encRun, cRun, encRules, cRules]) ?_
            intro X hX0 hXs
            repeat' (first | (with_reducible refine sk ?_; intro K hK) | ((first | (with_reducible first | refine rg (h := ?_) | refine nx ?_) | refine pK (check_ok r u hb hu) ?_ | refine pK (in_1 _ _ _) ?_ | refine pK (hlk) ?_ | refine pK (hix) ?_); try simp (disch := omega) only [encRun, cRun, encRules, cRules, hc0, ht.1, ht.2, hak, ham, hpos, cBrc,go_sem, simprocAttr]) | (with_reducible refine bk ?_) | ((with_reducible refine' cE ?hv ?_ ?_); (case hv => first | rfl | (simp only [encRun, cRun, encRules, cRules, hc0, ht.1, ht.2, hak, ham, hpos, cBrc,go_sem, simprocAttr]; rfl)); all_goals (intro hc; (try simp only [go_sem, simprocAttr] at hc); try (exfalso; omega))) | ((with_reducible first | refine grdS_split ?_ ?_ | refine lkG_split ?_ ?_) <;> intro hg <;> (try simp (disch := omega) only [hg, encRun, cRun, encRules, cRules, hc0, ht.1, ht.2, hak, ham, hpos, cBrc,go_sem, simprocAttr]) <;> (try simp only [go_sem, simprocAttr] at hg) <;> (try (exfalso; omega))) | ((with_reducible refine fe ?_); refine ⟨_, (by simp only [Try.f27, encRun, cRun, encRules, cRules, hc0, ht.1, ht.2, hak, ham, hpos, cBrc,go_sem, simprocAttr]; rfl), ?_⟩; first | rfl | (try simp only [encRun, cRun, encRules, cRules, hc0, ht.1, ht.2, hak, ham, hpos, cBrc,go_sem, simprocAttr, seval])) | with_reducible intro (ep : Nat → Nat) | with_reducible apply_assumption -exfalso -symm only [*])
          · have hf : firstS l t = (2, 0) := by unfold firstS; rw [hak]; simp only; rw [if_neg ham]
            rw [hf]
            refine PureC_of (fn := Try.f27) tabOK (by kernel_rfl) rfl (by kernel_rfl) (by simp [Try.f27]) (by simp [noids, noid, noidss, go_sem, encRun, cRun, encRules, cRules]) (by first | rfl | simp [noids, noid, noidss, go_sem, encRun, cRun, encRules, cRules]) ?_
            intro X hX0 hXs
            repeat' (first | (with_reducible refine sk ?_; intro K hK) | ((first | (with_reducible first | refine rg (h := ?_) | refine nx ?_) | refine pK (check_ok r u hb hu) ?_ | refine pK (in_1 _ _ _) ?_ | refine pK (hlk) ?_ | refine pK (hix) ?_); try simp (disch := omega) only [encRun, cRun, encRules, cRules, hc0, ht.1, ht.2, hak, ham, hpos, cBrc,go_sem, simprocAttr]) | (with_reducible refine bk ?_) | ((with_reducible refine' cE ?hv ?_ ?_); (case hv => first | rfl | (simp only [encRun, cRun, encRules, cRules, hc0, ht.1, ht.2, hak, ham, hpos, cBrc,go_sem, simprocAttr]; rfl)); all_goals (intro hc; (try simp only [go_sem, simprocAttr] at hc); try (exfalso; omega))) | ((with_reducible first | refine grdS_split ?_ ?_ | refine lkG_split ?_ ?_) <;> intro hg <;> (try simp (disch := omega) only [hg, encRun, cRun, encRules, cRules, hc0, ht.1, ht.2, hak, ham, hpos, cBrc,go_sem, simprocAttr]) <;> (try simp only [go_sem, simprocAttr] at hg) <;> (try (exfalso; omega))) | ((with_reducible refine fe ?_); refine ⟨_, (by simp only [Try.f27, encRun, cRun, encRules, cRules, hc0, ht.1, ht.2, hak, ham, hpos, cBrc,go_sem, simprocAttr]; rfl), ?_⟩; first | rfl | (try simp only [encRun, cRun, encRules, cRules, hc0, ht.1, ht.2, hak, ham, hpos, cBrc,go_sem, simprocAttr, seval])) | with_reducible intro (ep : Nat → Nat) | with_reducible apply_assumption -exfalso -symm only [*])
        · have hf : firstS l t = (2, 0) := by unfold firstS; rw [List.getElem?_eq_none (by omega)]
          rw [hf]
          refine PureC_of (fn := Try.f27) tabOK (by kernel_rfl) rfl (by kernel_rfl) (by simp [Try.f27]) (by simp [noids, noid, noidss, go_sem, encRun, cRun, encRules, cRules]) (by first | rfl | simp [noids, noid, noidss, go_sem, encRun, cRun, encRules, cRules]) ?_
          intro X hX0 hXs
          repeat' (first | (with_reducible refine sk ?_; intro K hK) | ((first | (with_reducible first | refine rg (h := ?_) | refine nx ?_) | refine pK (check_ok r u hb hu) ?_ | refine pK (in_1 _ _ _) ?_ | refine pK (hlk) ?_ | refine pK (hix) ?_); try simp (disch := omega) only [encRun, cRun, encRules, cRules, hc0, ht.1, ht.2, hpos, cBrc,go_sem, simprocAttr]) | (with_reducible refine bk ?_) | ((with_reducible refine' cE ?hv ?_ ?_); (case hv => first | rfl | (simp only [encRun, cRun, encRules, cRules, hc0, ht.1, ht.2, hpos, cBrc,go_sem, simprocAttr]; rfl)); all_goals (intro hc; (try simp only [go_sem, simprocAttr] at hc); try (exfalso; omega))) | ((with_reducible first | refine grdS_split ?_ ?_ | refine lkG_split ?_ ?_) <;> intro hg <;> (try simp (disch := omega) only [hg, encRun, cRun, encRules, cRules, hc0, ht.1, ht.2, hpos, cBrc,go_sem, simprocAttr]) <;> (try simp only [go_sem, simprocAttr] at hg) <;> (try (exfalso; omega))) | ((with_reducible refine fe ?_); refine ⟨_, (by simp only [Try.f27, encRun, cRun, encRules, cRules, hc0, ht.1, ht.2, hpos, cBrc,go_sem, simprocAttr]; rfl), ?_⟩; first | rfl | (try simp only [encRun, cRun, encRules, cRules, hc0, ht.1, ht.2, hpos, cBrc,go_sem, simprocAttr, seval])) | with_reducible intro (ep : Nat → Nat) | with_reducible apply_assumption -exfalso -symm only [*])
    · rw [if_neg ht]
      refine PureC_of (fn := Try.f27) tabOK (by kernel_rfl) rfl (by kernel_rfl) (by simp [Try.f27]) (by simp [noids, noid, noidss, go_sem, encRun, cRun, encRules, cRules]) (by first | rfl | simp [noids, noid, noidss, go_sem, encRun, cRun, encRules, cRules]) ?_
      intro X hX0 hXs
      repeat' (first | (with_reducible refine sk ?_; intro K hK) | ((first | (with_reducible first | refine rg (h := ?_) | refine nx ?_) | refine pK (check_ok r u hb hu) ?_ | refine pK (in_1 _ _ _) ?_); try simp (disch := omega) only [encRun, cRun, encRules, cRules, hc0,go_sem, simprocAttr]) | (with_reducible refine bk ?_) | ((with_reducible refine' cE ?hv ?_ ?_); (case hv => first | rfl | (simp only [encRun, cRun, encRules, cRules, hc0,go_sem, simprocAttr]; rfl)); all_goals (intro hc; (try simp only [go_sem, simprocAttr] at hc); try (exfalso; omega))) | ((with_reducible first | refine grdS_split ?_ ?_ | refine lkG_split ?_ ?_) <;> intro hg <;> (try simp (disch := omega) only [hg, encRun, cRun, encRules, cRules, hc0,go_sem, simprocAttr]) <;> (try simp only [go_sem, simprocAttr] at hg) <;> (try (exfalso; omega))) | ((with_reducible refine fe ?_); refine ⟨_, (by simp only [Try.f27, encRun, cRun, encRules, cRules, hc0,go_sem, simprocAttr]; rfl), ?_⟩; first | rfl | (try simp only [encRun, cRun, encRules, cRules, hc0,go_sem, simprocAttr, seval])) | with_reducible intro (ep : Nat → Nat) | with_reducible apply_assumption -exfalso -symm only [*])
  · rw [keptT, if_neg hc0]
    refine PureC_of (fn := Try.f27) tabOK (by kernel_rfl) rfl (by kernel_rfl) (by simp [Try.f27]) (by simp [noids, noid, noidss, go_sem, encRun, cRun, encRules, cRules]) (by first | rfl | simp [noids, noid, noidss, go_sem, encRun, cRun, encRules, cRules]) ?_
    intro X hX0 hXs
    repeat' (first | (with_reducible refine sk ?_; intro K hK) | ((first | (with_reducible first | refine rg (h := ?_) | refine nx ?_) | refine pK (check_ok r u hb hu) ?_); try simp (disch := omega) only [encRun, cRun, encRules, cRules, hc0,go_sem, simprocAttr]) | (with_reducible refine bk ?_) | ((with_reducible refine' cE ?hv ?_ ?_); (case hv => first | rfl | (simp only [encRun, cRun, encRules, cRules, hc0,go_sem, simprocAttr]; rfl)); all_goals (intro hc; (try simp only [go_sem, simprocAttr] at hc); try (exfalso; omega))) | ((with_reducible first | refine grdS_split ?_ ?_ | refine lkG_split ?_ ?_) <;> intro hg <;> (try simp (disch := omega) only [hg, encRun, cRun, encRules, cRules, hc0,go_sem, simprocAttr]) <;> (try simp only [go_sem, simprocAttr] at hg) <;> (try (exfalso; omega))) | ((with_reducible refine fe ?_); refine ⟨_, (by simp only [Try.f27, encRun, cRun, encRules, cRules, hc0,go_sem, simprocAttr]; rfl), ?_⟩; first | rfl | (try simp only [encRun, cRun, encRules, cRules, hc0,go_sem, simprocAttr, seval])) | with_reducible intro (ep : Nat → Nat) | with_reducible apply_assumption -exfalso -symm only [*])
theorem rKept_ok (r : RunT) (u : RulesT) (hb : RunB r) (hu : RulesB u) (t : Int) : PureC Try.prog 28 [encRun r, encRules u, .int .i64 t] (keptT r u t) := by
  by_cases hc0 : checkE r u = 0
  · obtain ⟨h1, h2⟩ := check0 hc0
    have hF := run_facts h1
    have hrl := hF.rows
    rw [keptT, if_pos hc0]
    by_cases ht : 0 ≤ t ∧ t ≤ r.rows.length
    · rw [if_pos ht]
      have hlk := rleft_ok r hF u (rules_facts h2)
      have hsort : (leftS r u).Pairwise brLt := leftB_pair hF
      obtain ⟨l, hl⟩ : ∃ l, leftS r u = l := ⟨_, rfl⟩
      have hll : l.length ≤ 1000 := by
        have := leftB_len (u := u) hF r.rows.length
        have : (leftS r u).length ≤ 11 * r.rows.length := this
        rw [← hl]; omega
      rw [hl] at hlk hsort ⊢
      refine PureC_of (fn := Try.f28) tabOK (by kernel_rfl) rfl (by kernel_rfl) (by simp [Try.f28]) (by simp [noids, noid, noidss, go_sem, encRun, cRun, encRules, cRules]) (by first | rfl | simp [noids, noid, noidss, go_sem, encRun, cRun, encRules, cRules]) ?_
      intro X hX0 hXs
      repeat' (first | (with_reducible refine sk ?_; intro K hK) | ((first | (with_reducible first | refine rg (h := ?_) | refine nx ?_) | refine pK (rcheck_ok r u hb hu) ?_ | refine pK (rwithin_ok _ _ _) ?_ | refine pK (hlk) ?_); try simp (disch := omega) only [encRun, cRun, encRules, cRules, hc0, ht.1, ht.2,go_sem, simprocAttr]) | (with_reducible refine bk ?_) | ((with_reducible refine' cE ?hv ?_ ?_); (case hv => first | rfl | (simp only [encRun, cRun, encRules, cRules, hc0, ht.1, ht.2,go_sem, simprocAttr]; rfl)); all_goals (intro hc; (try simp only [go_sem, simprocAttr] at hc); try (exfalso; omega))) | ((with_reducible refine fe ?_); refine ⟨_, (by simp only [Try.f28, encRun, cRun, encRules, cRules, hc0, ht.1, ht.2,go_sem, simprocAttr]; rfl), ?_⟩; first | rfl | (try simp only [encRun, cRun, encRules, cRules, hc0, ht.1, ht.2,go_sem, simprocAttr, seval])) | with_reducible intro (ep : Nat → Nat) | with_reducible apply_assumption -exfalso -symm only [*])
      refine AW_block (AW_loop (fun n f H => ∃ j : Nat, n = l.length - j ∧ j ≤ l.length ∧ (f 2 = .int .i64 t ∧ f 12 = .lst 4 (l.map cBrc) ∧ f 13 = .int .i64 j) ∧ (∀ i b, i < j → l[i]? = some b → ¬ b.known = 2) ∧ ∃ kk mm, f 10 = .int .u8 kk ∧ f 11 = .int .i64 mm ∧ ((j = 0 ∧ kk = 2 ∧ mm = 0) ∨ (0 < j ∧ kk = 1 ∧ ∃ a, l[0]? = some a ∧ a.m ≤ t ∧ mm = a.m))) l.length
        ⟨0, by simp, Nat.zero_le _, by (and_intros <;> first | rfl | (simp only [go_sem, simprocAttr]; done) | (simp only [go_sem, simprocAttr]; rfl)), fun i b h => by omega, 2, 0, by (first | rfl | (simp only [go_sem, simprocAttr]; done) | (simp only [go_sem, simprocAttr]; rfl)), by (first | rfl | (simp only [go_sem, simprocAttr]; done) | (simp only [go_sem, simprocAttr]; rfl)), .inl ⟨rfl, rfl, rfl⟩⟩ ?_)
      rintro n f H ⟨j, rfl, hj, ⟨g2, g12, g13⟩, hno, kk, mm, g10, g11, hst⟩
      refine AW_keep [] ?_
      by_cases hjl : j < l.length
      · obtain ⟨b, hbj⟩ : ∃ b, l[j]? = some b := ⟨_, List.getElem?_eq_getElem hjl⟩
        by_cases hm : b.m ≤ t
        · by_cases hk2 : b.known = 2
          · have hs := keptL_sure hno hbj hk2 hm
            rw [hs]
            rcases hst with ⟨rfl, rfl, rfl⟩ | ⟨hj0, rfl, a, ha, ham, rfl⟩
            · repeat' (first | (with_reducible refine sk ?_; intro K hK) | ((with_reducible first | refine rg (h := ?_) | refine nx ?_); try simp (disch := omega) only [g2, g10, g11, g12, g13, hbj, hm, hk2, cBrc,go_sem, simprocAttr]) | (with_reducible refine bk ?_) | ((with_reducible refine' cE ?hv ?_ ?_); (case hv => first | rfl | (simp only [g2, g10, g11, g12, g13, hbj, hm, hk2, cBrc,go_sem, simprocAttr]; rfl)); all_goals (intro hc; (try simp only [go_sem, simprocAttr] at hc); try (exfalso; omega))) | ((with_reducible refine fe ?_); refine ⟨_, (by simp only [Try.f28, g2, g10, g11, g12, g13, hbj, hm, hk2, cBrc,go_sem, simprocAttr]; rfl), ?_⟩; first | rfl | (try simp only [g2, g10, g11, g12, g13, hbj, hm, hk2, cBrc,go_sem, simprocAttr, seval])) | with_reducible intro (ep : Nat → Nat) | with_reducible apply_assumption -exfalso -symm only [*])
            · repeat' (first | (with_reducible refine sk ?_; intro K hK) | ((with_reducible first | refine rg (h := ?_) | refine nx ?_); try simp (disch := omega) only [g2, g10, g11, g12, g13, hbj, hm, hk2, cBrc,go_sem, simprocAttr]) | (with_reducible refine bk ?_) | ((with_reducible refine' cE ?hv ?_ ?_); (case hv => first | rfl | (simp only [g2, g10, g11, g12, g13, hbj, hm, hk2, cBrc,go_sem, simprocAttr]; rfl)); all_goals (intro hc; (try simp only [go_sem, simprocAttr] at hc); try (exfalso; omega))) | ((with_reducible refine fe ?_); refine ⟨_, (by simp only [Try.f28, g2, g10, g11, g12, g13, hbj, hm, hk2, cBrc,go_sem, simprocAttr]; rfl), ?_⟩; first | rfl | (try simp only [g2, g10, g11, g12, g13, hbj, hm, hk2, cBrc,go_sem, simprocAttr, seval])) | with_reducible intro (ep : Nat → Nat) | with_reducible apply_assumption -exfalso -symm only [*])
          · have hno' : ∀ i c, i < j + 1 → l[i]? = some c → ¬ c.known = 2 := fun i c hi hc => by
              by_cases hij : i = j
              · subst hij; rw [hbj] at hc; cases hc; exact hk2
              · exact hno i c (by omega) hc
            rcases hst with ⟨rfl, rfl, rfl⟩ | ⟨hj0, rfl, a, ha, ham, rfl⟩
            · repeat' (first | (with_reducible refine sk ?_; intro K hK) | ((with_reducible first | refine rg (h := ?_) | refine nx ?_); try simp (disch := omega) only [g2, g10, g11, g12, g13, hbj, hm, hk2, cBrc,go_sem, simprocAttr]) | (with_reducible refine bk ?_) | ((with_reducible refine' cE ?hv ?_ ?_); (case hv => first | rfl | (simp only [g2, g10, g11, g12, g13, hbj, hm, hk2, cBrc,go_sem, simprocAttr]; rfl)); all_goals (intro hc; (try simp only [go_sem, simprocAttr] at hc); try (exfalso; omega))) | ((with_reducible refine fe ?_); refine ⟨_, (by simp only [Try.f28, g2, g10, g11, g12, g13, hbj, hm, hk2, cBrc,go_sem, simprocAttr]; rfl), ?_⟩; first | rfl | (try simp only [g2, g10, g11, g12, g13, hbj, hm, hk2, cBrc,go_sem, simprocAttr, seval])) | with_reducible intro (ep : Nat → Nat) | with_reducible apply_assumption -exfalso -symm only [*])
              exact ⟨l.length - (0 + 1), by omega, 0 + 1, rfl, by omega, rfl, hno', _, _, rfl, rfl, .inr ⟨by omega, rfl, b, rfl, hm, rfl⟩⟩
            · repeat' (first | (with_reducible refine sk ?_; intro K hK) | ((with_reducible first | refine rg (h := ?_) | refine nx ?_); try simp (disch := omega) only [g2, g10, g11, g12, g13, hbj, hm, hk2, cBrc,go_sem, simprocAttr]) | (with_reducible refine bk ?_) | ((with_reducible refine' cE ?hv ?_ ?_); (case hv => first | rfl | (simp only [g2, g10, g11, g12, g13, hbj, hm, hk2, cBrc,go_sem, simprocAttr]; rfl)); all_goals (intro hc; (try simp only [go_sem, simprocAttr] at hc); try (exfalso; omega))) | ((with_reducible refine fe ?_); refine ⟨_, (by simp only [Try.f28, g2, g10, g11, g12, g13, hbj, hm, hk2, cBrc,go_sem, simprocAttr]; rfl), ?_⟩; first | rfl | (try simp only [g2, g10, g11, g12, g13, hbj, hm, hk2, cBrc,go_sem, simprocAttr, seval])) | with_reducible intro (ep : Nat → Nat) | with_reducible apply_assumption -exfalso -symm only [*])
              exact ⟨l.length - (j + 1), by omega, j + 1, rfl, by omega, rfl, hno', _, _, rfl, rfl, .inr ⟨by omega, rfl, a, ha, ham, rfl⟩⟩
        · have hs := keptL_stop hsort hno hbj (t := t) (by omega)
          have hf : firstS l t = (kk, mm) := by
            unfold firstS
            rcases hst with ⟨rfl, rfl, rfl⟩ | ⟨hj0, rfl, a, ha, ham, rfl⟩
            · rw [hbj]; simp only; rw [if_neg hm]
            · rw [ha]; simp only; rw [if_pos ham]
          clear hst
          repeat' (first | (with_reducible refine sk ?_; intro K hK) | ((with_reducible first | refine rg (h := ?_) | refine nx ?_); try simp (disch := omega) only [g2, g10, g11, g12, g13, hbj, hm, cBrc,go_sem, simprocAttr]) | (with_reducible refine bk ?_) | ((with_reducible refine' cE ?hv ?_ ?_); (case hv => first | rfl | (simp only [g2, g10, g11, g12, g13, hbj, hm, cBrc,go_sem, simprocAttr]; rfl)); all_goals (intro hc; (try simp only [go_sem, simprocAttr] at hc); try (exfalso; omega))) | ((with_reducible refine fe ?_); refine ⟨_, (by simp only [Try.f28, g2, g10, g11, g12, g13, hbj, hm, cBrc,go_sem, simprocAttr]; rfl), ?_⟩; first | rfl | (try simp only [g2, g10, g11, g12, g13, hbj, hm, cBrc,go_sem, simprocAttr, seval])) | with_reducible intro (ep : Nat → Nat) | with_reducible apply_assumption -exfalso -symm only [*])
          rw [hs, hf]; exact ⟨rfl, rfl⟩
      · obtain rfl : j = l.length := by omega
        have hs := keptL_end (t := t) hno
        have hf : firstS l t = (kk, mm) := by
          unfold firstS
          rcases hst with ⟨h0, rfl, rfl⟩ | ⟨hj0, rfl, a, ha, ham, rfl⟩
          · rw [List.getElem?_eq_none (by omega)]
          · rw [ha]; simp only; rw [if_pos ham]
        clear hst
        repeat' (first | (with_reducible refine sk ?_; intro K hK) | ((with_reducible first | refine rg (h := ?_) | refine nx ?_); try simp (disch := omega) only [g2, g10, g11, g12, g13, cBrc,go_sem, simprocAttr]) | (with_reducible refine bk ?_) | ((with_reducible refine' cE ?hv ?_ ?_); (case hv => first | rfl | (simp only [g2, g10, g11, g12, g13, cBrc,go_sem, simprocAttr]; rfl)); all_goals (intro hc; (try simp only [go_sem, simprocAttr] at hc); try (exfalso; omega))) | ((with_reducible refine fe ?_); refine ⟨_, (by simp only [Try.f28, g2, g10, g11, g12, g13, cBrc,go_sem, simprocAttr]; rfl), ?_⟩; first | rfl | (try simp only [g2, g10, g11, g12, g13, cBrc,go_sem, simprocAttr, seval])) | with_reducible intro (ep : Nat → Nat) | with_reducible apply_assumption -exfalso -symm only [*])
        rw [hs, hf]; exact ⟨rfl, rfl⟩
    · rw [if_neg ht]
      refine PureC_of (fn := Try.f28) tabOK (by kernel_rfl) rfl (by kernel_rfl) (by simp [Try.f28]) (by simp [noids, noid, noidss, go_sem, encRun, cRun, encRules, cRules]) (by first | rfl | simp [noids, noid, noidss, go_sem, encRun, cRun, encRules, cRules]) ?_
      intro X hX0 hXs
      repeat' (first | (with_reducible refine sk ?_; intro K hK) | ((first | (with_reducible first | refine rg (h := ?_) | refine nx ?_) | refine pK (rcheck_ok r u hb hu) ?_ | refine pK (rwithin_ok _ _ _) ?_); try simp (disch := omega) only [encRun, cRun, encRules, cRules, hc0,go_sem, simprocAttr]) | (with_reducible refine bk ?_) | ((with_reducible refine' cE ?hv ?_ ?_); (case hv => first | rfl | (simp only [encRun, cRun, encRules, cRules, hc0,go_sem, simprocAttr]; rfl)); all_goals (intro hc; (try simp only [go_sem, simprocAttr] at hc); try (exfalso; omega))) | ((with_reducible refine fe ?_); refine ⟨_, (by simp only [Try.f28, encRun, cRun, encRules, cRules, hc0,go_sem, simprocAttr]; rfl), ?_⟩; first | rfl | (try simp only [encRun, cRun, encRules, cRules, hc0,go_sem, simprocAttr, seval])) | with_reducible intro (ep : Nat → Nat) | with_reducible apply_assumption -exfalso -symm only [*])
  · rw [keptT, if_neg hc0]
    refine PureC_of (fn := Try.f28) tabOK (by kernel_rfl) rfl (by kernel_rfl) (by simp [Try.f28]) (by simp [noids, noid, noidss, go_sem, encRun, cRun, encRules, cRules]) (by first | rfl | simp [noids, noid, noidss, go_sem, encRun, cRun, encRules, cRules]) ?_
    intro X hX0 hXs
    repeat' (first | (with_reducible refine sk ?_; intro K hK) | ((first | (with_reducible first | refine rg (h := ?_) | refine nx ?_) | refine pK (rcheck_ok r u hb hu) ?_); try simp (disch := omega) only [encRun, cRun, encRules, cRules, hc0,go_sem, simprocAttr]) | (with_reducible refine bk ?_) | ((with_reducible refine' cE ?hv ?_ ?_); (case hv => first | rfl | (simp only [encRun, cRun, encRules, cRules, hc0,go_sem, simprocAttr]; rfl)); all_goals (intro hc; (try simp only [go_sem, simprocAttr] at hc); try (exfalso; omega))) | ((with_reducible refine fe ?_); refine ⟨_, (by simp only [Try.f28, encRun, cRun, encRules, cRules, hc0,go_sem, simprocAttr]; rfl), ?_⟩; first | rfl | (try simp only [encRun, cRun, encRules, cRules, hc0,go_sem, simprocAttr, seval])) | with_reducible intro (ep : Nat → Nat) | with_reducible apply_assumption -exfalso -symm only [*])
end Cp
namespace Cp
open Go Go.Proofs
set_option maxRecDepth 10000
theorem sameInts_ok (a b : List Int) (ha : a.length ≤ 4611686018427387904) : PureC Try.prog 56 [.lst 1 (ints a), .lst 1 (ints b)] (.bool (decide (a = b))) := by
  refine PureC_of (fn := Try.f56) tabOK (by kernel_rfl) rfl (by kernel_rfl) (by simp [Try.f56]) (by simp [noids, noid, noidss, go_sem]) (by first | rfl | simp [noids, noid, noidss, go_sem]) ?_
  intro X hX0 hXs
  repeat' (first | (with_reducible refine sk ?_; intro K hK) | ((with_reducible first | refine rg (h := ?_) | refine nx ?_); try simp (disch := omega) only [go_sem, simprocAttr]) | (with_reducible refine bk ?_) | ((with_reducible refine' cE ?hv ?_ ?_); (case hv => first | rfl | (simp only [go_sem, simprocAttr]; rfl)); all_goals (intro hc; (try simp only [go_sem, simprocAttr] at hc); try (exfalso; omega))) | ((with_reducible refine fe ?_); refine ⟨_, (by simp only [Try.f56, go_sem, simprocAttr]; rfl), ?_⟩; first | rfl | (try simp only [go_sem, simprocAttr, seval])) | with_reducible intro (ep : Nat → Nat) | with_reducible apply_assumption -exfalso -symm only [*])
  · have : a ≠ b := fun e => by subst e; omega
    simp [this]
  · have hab : a.length = b.length := by omega
    refine AW_block (AW_loop (fun n f H => ∃ k : Nat, n = a.length - k ∧ k ≤ a.length ∧ (f 0 = .lst 1 (ints a) ∧ f 1 = .lst 1 (ints b) ∧ f 5 = .int .i64 k ∧ H = none0) ∧ (decide (a = b) = decide (a.drop k = b.drop k))) a.length
      ⟨0, by simp, Nat.zero_le _, by (and_intros <;> first | rfl | (simp only [go_sem, simprocAttr]; done) | (simp only [go_sem, simprocAttr]; rfl)), by simp⟩ ?_)
    rintro n f H ⟨k, rfl, hk, ⟨h0, h1, h5, rfl⟩, hr⟩
    by_cases hlt : k < a.length
    · obtain ⟨x, hx⟩ : ∃ x, a[k]? = some x := ⟨_, List.getElem?_eq_getElem hlt⟩
      obtain ⟨y, hy⟩ : ∃ y, b[k]? = some y := ⟨_, List.getElem?_eq_getElem (by omega)⟩
      repeat' (first | (with_reducible refine sk ?_; intro K hK) | ((with_reducible first | refine rg (h := ?_) | refine nx ?_); try simp (disch := omega) only [h0, h1, h5, hx, hy,go_sem, simprocAttr]) | (with_reducible refine bk ?_) | ((with_reducible refine' cE ?hv ?_ ?_); (case hv => first | rfl | (simp only [h0, h1, h5, hx, hy,go_sem, simprocAttr]; rfl)); all_goals (intro hc; (try simp only [go_sem, simprocAttr] at hc); try (exfalso; omega))) | ((with_reducible refine fe ?_); refine ⟨_, (by simp only [Try.f56, h0, h1, h5, hx, hy,go_sem, simprocAttr]; rfl), ?_⟩; first | rfl | (try simp only [h0, h1, h5, hx, hy,go_sem, simprocAttr, seval])) | with_reducible intro (ep : Nat → Nat) | with_reducible apply_assumption -exfalso -symm only [*])
      · rw [hr, drop_cons hx, drop_cons hy]; simp [hc]
      · refine ⟨_, ?_, k + 1, rfl, by omega, by (and_intros <;> first | rfl | (simp only [h0, h1, h5, go_sem, simprocAttr]; done) | (simp only [h0, h1, h5, go_sem, simprocAttr]; rfl)), ?_⟩
        · omega
        · rw [hr, drop_cons hx, drop_cons hy]; simp [hc]
    · repeat' (first | (with_reducible refine sk ?_; intro K hK) | ((with_reducible first | refine rg (h := ?_) | refine nx ?_); try simp (disch := omega) only [h0, h1, h5,go_sem, simprocAttr]) | (with_reducible refine bk ?_) | ((with_reducible refine' cE ?hv ?_ ?_); (case hv => first | rfl | (simp only [h0, h1, h5,go_sem, simprocAttr]; rfl)); all_goals (intro hc; (try simp only [go_sem, simprocAttr] at hc); try (exfalso; omega))) | ((with_reducible refine fe ?_); refine ⟨_, (by simp only [Try.f56, h0, h1, h5,go_sem, simprocAttr]; rfl), ?_⟩; first | rfl | (try simp only [h0, h1, h5,go_sem, simprocAttr, seval])) | with_reducible intro (ep : Nat → Nat) | with_reducible apply_assumption -exfalso -symm only [*])
      rw [hr]; simp [List.drop_of_length_le (show b.length ≤ k by omega), List.drop_of_length_le (show a.length ≤ k by omega)]
theorem same_ok (a b : RunT) (ha : RunB a) : PureC Try.prog 22 [encRun a, encRun b] (.bool (decide (a = b))) := by
  have hb1 := ha.cpls
  have hb2 := ha.rows
  refine PureC_of (fn := Try.f22) tabOK (by kernel_rfl) rfl (by kernel_rfl) (by simp [Try.f22]) (by simp [noids, noid, noidss, go_sem, encRun, cRun]) (by first | rfl | simp [noids, noid, noidss, go_sem, encRun, cRun]) ?_
  intro X hX0 hXs
  repeat' (first | (with_reducible refine sk ?_; intro K hK) | ((first | (with_reducible first | refine rg (h := ?_) | refine nx ?_) | refine pK (samePoints_ok a.curve b.curve ha.curve) ?_); try simp (disch := omega) only [encRun, cRun,go_sem, simprocAttr]) | (with_reducible refine bk ?_) | ((with_reducible refine' cE ?hv ?_ ?_); (case hv => first | rfl | (simp only [encRun, cRun,go_sem, simprocAttr]; rfl)); all_goals (intro hc; (try simp only [go_sem, simprocAttr] at hc); try (exfalso; omega))) | ((with_reducible first | refine grdS_split ?_ ?_ | refine lkG_split ?_ ?_) <;> intro hg <;> (try simp (disch := omega) only [hg, encRun, cRun,go_sem, simprocAttr]) <;> (try simp only [go_sem, simprocAttr] at hg) <;> (try (exfalso; omega))) | ((with_reducible refine fe ?_); refine ⟨_, (by simp only [Try.f22, encRun, cRun,go_sem, simprocAttr]; rfl), ?_⟩; first | rfl | (try simp only [encRun, cRun,go_sem, simprocAttr, seval])) | with_reducible intro (ep : Nat → Nat) | with_reducible apply_assumption -exfalso -symm only [*])
  iterate 5 (have : a ≠ b := fun e => by (subst e; simp_all)
             simp [this])
  have hab : a.cpls.length = b.cpls.length := by omega
  have hab2 : a.rows.length = b.rows.length := by omega
  have hd : decide (a = b) = (decide (a.cpls = b.cpls) && decide (a.rows = b.rows)) := by rw [← Bool.decide_and]; exact dec_congr (by rw [run_eq]; grind)
  refine AW_block (AW_loop (fun n f H => ∃ k : Nat, n = a.cpls.length - k ∧ k ≤ a.cpls.length ∧ (f 2 = .pim (cRun a) ∧ f 3 = .pim (cRun b) ∧ f 5 = .int .i64 k) ∧ (decide (a.cpls = b.cpls) = decide (a.cpls.drop k = b.cpls.drop k))) a.cpls.length
    ⟨0, by simp, Nat.zero_le _, by (and_intros <;> first | rfl | (simp only [cRun, go_sem, simprocAttr]; done) | (simp only [cRun, go_sem, simprocAttr]; rfl)), by simp⟩ ?_)
  rintro n f H ⟨k, rfl, hk, ⟨h2, h3, h5⟩, hr⟩
  by_cases hlt : k < a.cpls.length
  · obtain ⟨x, hx⟩ : ∃ x, a.cpls[k]? = some x := ⟨_, List.getElem?_eq_getElem hlt⟩
    obtain ⟨y, hy⟩ : ∃ y, b.cpls[k]? = some y := ⟨_, List.getElem?_eq_getElem (by omega)⟩
    repeat' (first | (with_reducible refine sk ?_; intro K hK) | ((with_reducible first | refine rg (h := ?_) | refine nx ?_); try simp (disch := omega) only [h2, h3, h5, hx, hy, cRun, cCpl,go_sem, simprocAttr]) | (with_reducible refine bk ?_) | ((with_reducible refine' cE ?hv ?_ ?_); (case hv => first | rfl | (simp only [h2, h3, h5, hx, hy, cRun, cCpl,go_sem, simprocAttr]; rfl)); all_goals (intro hc; (try simp only [go_sem, simprocAttr] at hc); try (exfalso; omega))) | ((with_reducible first | refine grdS_split ?_ ?_ | refine lkG_split ?_ ?_) <;> intro hg <;> (try simp (disch := omega) only [hg, h2, h3, h5, hx, hy, cRun, cCpl,go_sem, simprocAttr]) <;> (try simp only [go_sem, simprocAttr] at hg) <;> (try (exfalso; omega))) | ((with_reducible refine fe ?_); refine ⟨_, (by simp only [Try.f22, h2, h3, h5, hx, hy, cRun, cCpl,go_sem, simprocAttr]; rfl), ?_⟩; first | rfl | (try simp only [h2, h3, h5, hx, hy, cRun, cCpl,go_sem, simprocAttr, seval])) | with_reducible intro (ep : Nat → Nat) | with_reducible apply_assumption -exfalso -symm only [*])
    · have : decide (a.cpls = b.cpls) = false := by rw [hr, drop_cons hx, drop_cons hy]; exact (cons_ne fun e => by (rw [cpl_eq] at e; simp [e] at hc)).symm
      rw [hd, this]; rfl
    · refine ⟨a.cpls.length - (k + 1), by omega, k + 1, rfl, by omega, rfl, ?_⟩
      rw [hr, drop_cons hx, drop_cons hy]; exact cons_same (by rw [cpl_eq]; simp at hc; simp [hc])
  · have hcp : decide (a.cpls = b.cpls) = true := by rw [hr]; simp [drop_none (show b.cpls.length ≤ k by omega), drop_none (show a.cpls.length ≤ k by omega)]
    rw [hcp, Bool.true_and] at hd
    repeat' (first | (with_reducible refine sk ?_; intro K hK) | ((with_reducible first | refine rg (h := ?_) | refine nx ?_); try simp (disch := omega) only [h2, h3, h5, cRun,go_sem, simprocAttr]) | (with_reducible refine bk ?_) | ((with_reducible refine' cE ?hv ?_ ?_); (case hv => first | rfl | (simp only [h2, h3, h5, cRun,go_sem, simprocAttr]; rfl)); all_goals (intro hc; (try simp only [go_sem, simprocAttr] at hc); try (exfalso; omega))) | ((with_reducible first | refine grdS_split ?_ ?_ | refine lkG_split ?_ ?_) <;> intro hg <;> (try simp (disch := omega) only [hg, h2, h3, h5, cRun,go_sem, simprocAttr]) <;> (try simp only [go_sem, simprocAttr] at hg) <;> (try (exfalso; omega))) | ((with_reducible refine fe ?_); refine ⟨_, (by simp only [Try.f22, h2, h3, h5, cRun,go_sem, simprocAttr]; rfl), ?_⟩; first | rfl | (try simp only [h2, h3, h5, cRun,go_sem, simprocAttr, seval])) | with_reducible intro (ep : Nat → Nat) | with_reducible apply_assumption -exfalso -symm only [*])
    refine AW_block (AW_loop (fun n f H => ∃ k : Nat, n = a.rows.length - k ∧ k ≤ a.rows.length ∧ (f 2 = .pim (cRun a) ∧ f 3 = .pim (cRun b) ∧ f 6 = .int .i64 k) ∧ (decide (a.rows = b.rows) = decide (a.rows.drop k = b.rows.drop k))) a.rows.length
      ⟨0, by simp, Nat.zero_le _, by (and_intros <;> first | rfl | (simp only [cRun, h2, h3, go_sem, simprocAttr]; done) | (simp only [cRun, h2, h3, go_sem, simprocAttr]; rfl)), by simp⟩ ?_)
    rintro n f H ⟨k, rfl, hk, ⟨h2, h3, h6⟩, hr⟩
    by_cases hlt : k < a.rows.length
    · obtain ⟨x, hx⟩ : ∃ x, a.rows[k]? = some x := ⟨_, List.getElem?_eq_getElem hlt⟩
      obtain ⟨y, hy⟩ : ∃ y, b.rows[k]? = some y := ⟨_, List.getElem?_eq_getElem (by omega)⟩
      repeat' (first | (with_reducible refine sk ?_; intro K hK) | ((first | (with_reducible first | refine rg (h := ?_) | refine nx ?_) | refine pK (sameInts_ok x.deg y.deg (ha.degs x (List.mem_of_getElem? hx))) ?_); try simp (disch := omega) only [h2, h3, h6, hx, hy, cRun, cRow,go_sem, simprocAttr]) | (with_reducible refine bk ?_) | ((with_reducible refine' cE ?hv ?_ ?_); (case hv => first | rfl | (simp only [h2, h3, h6, hx, hy, cRun, cRow,go_sem, simprocAttr]; rfl)); all_goals (intro hc; (try simp only [go_sem, simprocAttr] at hc); try (exfalso; omega))) | ((with_reducible first | refine grdS_split ?_ ?_ | refine lkG_split ?_ ?_) <;> intro hg <;> (try simp (disch := omega) only [hg, h2, h3, h6, hx, hy, cRun, cRow,go_sem, simprocAttr]) <;> (try simp only [go_sem, simprocAttr] at hg) <;> (try (exfalso; omega))) | ((with_reducible refine fe ?_); refine ⟨_, (by simp only [Try.f22, h2, h3, h6, hx, hy, cRun, cRow,go_sem, simprocAttr]; rfl), ?_⟩; first | rfl | (try simp only [h2, h3, h6, hx, hy, cRun, cRow,go_sem, simprocAttr, seval])) | with_reducible intro (ep : Nat → Nat) | with_reducible apply_assumption -exfalso -symm only [*])
      · have : decide (a.rows = b.rows) = false := by rw [hr, drop_cons hx, drop_cons hy]; exact (cons_ne fun e => by (subst e; simp_all)).symm
        rw [hd, this]
      · have : decide (a.rows = b.rows) = false := by rw [hr, drop_cons hx, drop_cons hy]; exact (cons_ne fun e => by (subst e; simp_all)).symm
        rw [hd, this]
      · refine ⟨a.rows.length - (k + 1), by omega, k + 1, rfl, by omega, rfl, ?_⟩
        rw [hr, drop_cons hx, drop_cons hy]; exact cons_same (by rw [row_eq]; simp_all)
    · repeat' (first | (with_reducible refine sk ?_; intro K hK) | ((with_reducible first | refine rg (h := ?_) | refine nx ?_); try simp (disch := omega) only [h2, h3, h6, cRun,go_sem, simprocAttr]) | (with_reducible refine bk ?_) | ((with_reducible refine' cE ?hv ?_ ?_); (case hv => first | rfl | (simp only [h2, h3, h6, cRun,go_sem, simprocAttr]; rfl)); all_goals (intro hc; (try simp only [go_sem, simprocAttr] at hc); try (exfalso; omega))) | ((with_reducible first | refine grdS_split ?_ ?_ | refine lkG_split ?_ ?_) <;> intro hg <;> (try simp (disch := omega) only [hg, h2, h3, h6, cRun,go_sem, simprocAttr]) <;> (try simp only [go_sem, simprocAttr] at hg) <;> (try (exfalso; omega))) | ((with_reducible refine fe ?_); refine ⟨_, (by simp only [Try.f22, h2, h3, h6, cRun,go_sem, simprocAttr]; rfl), ?_⟩; first | rfl | (try simp only [h2, h3, h6, cRun,go_sem, simprocAttr, seval])) | with_reducible intro (ep : Nat → Nat) | with_reducible apply_assumption -exfalso -symm only [*])
      rw [hd, hr]; simp [drop_none (show b.rows.length ≤ k by omega), drop_none (show a.rows.length ≤ k by omega)]
theorem twinRules_ok (u : RulesT) (hu : u.steps.length ≤ 1073741824) : PureC Try.prog 24 [encRules u] (encRules u) := by
  refine PureC_of (fn := Try.f24) tabOK (by kernel_rfl) rfl (by kernel_rfl) (by simp [Try.f24]) (by simp [noids, noid, noidss, go_sem, encRules, cRules]) (by first | rfl | simp [noids, noid, noidss, go_sem, encRules, cRules]) ?_
  intro X hX0 hXs
  repeat' (first | (with_reducible refine sk ?_; intro K hK) | ((with_reducible first | refine rg (md := { base := 0, own := [1] }) (h := ?_) | refine rgS [2] (md := { base := 0, own := [1] }) (h := ?_) | refine nx ?_); try simp (disch := omega) only [encRules, cRules, hu,go_sem, simprocAttr]) | (with_reducible refine bk ?_) | ((with_reducible refine' cE ?hv ?_ ?_); (case hv => first | rfl | (simp only [encRules, cRules, hu,go_sem, simprocAttr]; rfl)); all_goals (intro hc; (try simp only [go_sem, simprocAttr] at hc); try (exfalso; omega))) | ((with_reducible refine fe ?_); refine ⟨_, (by simp only [Try.f24, encRules, cRules, hu,go_sem, simprocAttr]; rfl), ?_⟩; first | rfl | (try simp only [encRules, cRules, hu,go_sem, simprocAttr, seval])) | with_reducible intro (ep : Nat → Nat) | with_reducible apply_assumption -exfalso -symm only [*])
theorem twin_ok (r : RunT) (hr : RunSm r) : PureC Try.prog 15 [encRun r] (encRun r) := by
  have hb := hr.b
  have hb1 : r.curve.length ≤ 1073741824 := by have := hr.curve; omega
  have hb2 : r.cpls.length ≤ 1073741824 := by have := hr.cpls; omega
  have hb3 : r.rows.length ≤ 1073741824 := by have := hr.rows; omega
  refine PureC_of (fn := Try.f15) tabOK (by kernel_rfl) rfl (by kernel_rfl) (by simp [Try.f15]) (by simp [noids, noid, noidss, go_sem, encRun, cRun]) (by first | rfl | simp [noids, noid, noidss, go_sem, encRun, cRun]) ?_
  intro X hX0 hXs
  by_cases hne : r.rows.length = 0
  · have hnil : r.rows = [] := List.eq_nil_of_length_eq_zero hne
    repeat' (first | (with_reducible refine sk ?_; intro K hK) | ((with_reducible first | refine rg (md := { base := 0, own := [1] }) (h := ?_) | refine rgS [2] (md := { base := 0, own := [1] }) (h := ?_) | refine nx ?_); try simp (disch := omega) only [encRun, cRun, hb1, hb2, hnil,go_sem, simprocAttr]) | (with_reducible refine bk ?_) | ((with_reducible refine' cE ?hv ?_ ?_); (case hv => first | rfl | (simp only [encRun, cRun, hb1, hb2, hnil,go_sem, simprocAttr]; rfl)); all_goals (intro hc; (try simp only [go_sem, simprocAttr] at hc); try (exfalso; omega))) | ((with_reducible refine fe ?_); refine ⟨_, (by simp only [Try.f15, encRun, cRun, hb1, hb2, hnil,go_sem, simprocAttr]; rfl), ?_⟩; first | rfl | (try simp only [encRun, cRun, hb1, hb2, hnil,go_sem, simprocAttr, seval])) | with_reducible intro (ep : Nat → Nat) | with_reducible apply_assumption -exfalso -symm only [*])
    refine AW_block (AW_loop (fun n f H => (f 3 = .int .i64 0) ∧ ∃ e1 e2 x, f 1 = .ptr 1 e1 6 0 0 ∧ H 1 = some (e1, .arr 6 [[.int .i64 r.id, .lst 2 (r.curve.map cPt), .lst 6 (r.cpls.map cCpl), .lst 2 [], .int .i64 r.gauge.lo, .int .i64 r.gauge.hi]]) ∧ f 2 = .ptr 2 e2 6 0 0 ∧ H 2 = some (e2, .arr 6 [x]) ∧ x.length = 6) 0
      ⟨by (first | rfl | (simp only [go_sem, simprocAttr]; done) | (simp only [go_sem, simprocAttr]; rfl)), _, _, _, by (first | rfl | (simp only [go_sem, simprocAttr]; done) | (simp only [go_sem, simprocAttr]; rfl)), by (first | rfl | (simp only [go_sem, simprocAttr]; done) | (simp only [go_sem, simprocAttr]; rfl)), by (first | rfl | (simp only [go_sem, simprocAttr]; done) | (simp only [go_sem, simprocAttr]; rfl)), by (first | rfl | (simp only [go_sem, simprocAttr]; done) | (simp only [go_sem, simprocAttr]; rfl)), rfl⟩ ?_)
    rintro n f H ⟨h3, e1, e2, x, h1, hH1, h2, hH2, hx⟩
    match x, hx with
    | [x0, x1, x2, x3, x4, x5], _ =>
    repeat' (first | (with_reducible refine sk ?_; intro K hK) | ((with_reducible first | refine rg (md := { base := 0, own := [1] }) (h := ?_) | refine rgS [2] (md := { base := 0, own := [1] }) (h := ?_) | refine nx ?_); try simp (disch := omega) only [h1, h2, h3, hH1, hH2, hnil, encRun, cRun,go_sem, simprocAttr]) | (with_reducible refine bk ?_) | ((with_reducible refine' cE ?hv ?_ ?_); (case hv => first | rfl | (simp only [h1, h2, h3, hH1, hH2, hnil, encRun, cRun,go_sem, simprocAttr]; rfl)); all_goals (intro hc; (try simp only [go_sem, simprocAttr] at hc); try (exfalso; omega))) | ((with_reducible refine fe ?_); refine ⟨_, (by simp only [Try.f15, h1, h2, h3, hH1, hH2, hnil, encRun, cRun,go_sem, simprocAttr]; rfl), ?_⟩; first | rfl | (try simp only [h1, h2, h3, hH1, hH2, hnil, encRun, cRun,go_sem, simprocAttr, seval])) | with_reducible intro (ep : Nat → Nat) | with_reducible apply_assumption -exfalso -symm only [*])
  · have hpos : 0 < r.rows.length := by omega
    repeat' (first | (with_reducible refine sk ?_; intro K hK) | ((with_reducible first | refine rg (md := { base := 0, own := [1, 17] }) (h := ?_) | refine rgS [2] (md := { base := 0, own := [1, 17] }) (h := ?_) | refine nx ?_); try simp (disch := omega) only [encRun, cRun, hb1, hb2, hb3, hne,go_sem, simprocAttr]) | (with_reducible refine bk ?_) | ((with_reducible refine' cE ?hv ?_ ?_); (case hv => first | rfl | (simp only [encRun, cRun, hb1, hb2, hb3, hne,go_sem, simprocAttr]; rfl)); all_goals (intro hc; (try simp only [go_sem, simprocAttr] at hc); try (exfalso; omega))) | ((with_reducible refine fe ?_); refine ⟨_, (by simp only [Try.f15, encRun, cRun, hb1, hb2, hb3, hne,go_sem, simprocAttr]; rfl), ?_⟩; first | rfl | (try simp only [encRun, cRun, hb1, hb2, hb3, hne,go_sem, simprocAttr, seval])) | with_reducible intro (ep : Nat → Nat) | with_reducible apply_assumption -exfalso -symm only [*])
    refine AW_block (AW_loop (fun n f H => ∃ k : Nat, n = r.rows.length - k ∧ k ≤ r.rows.length ∧ (f 3 = .int .i64 k) ∧ ∃ e1 e2 e17 x, f 1 = .ptr 1 e1 6 0 0 ∧ H 1 = some (e1, .arr 6 [[.int .i64 r.id, .lst 2 (r.curve.map cPt), .lst 6 (r.cpls.map cCpl), .gr 17 e17 r.rows.length, .int .i64 r.gauge.lo, .int .i64 r.gauge.hi]]) ∧ f 2 = .ptr 2 e2 6 0 0 ∧ H 2 = some (e2, .arr 6 [x]) ∧ x.length = 6 ∧ H 17 = some (e17, .arr 2 (r.rows.map cRow))) r.rows.length
      ⟨0, by simp, Nat.zero_le _, by (first | rfl | (simp only [go_sem, simprocAttr]; done) | (simp only [go_sem, simprocAttr]; rfl)), _, _, _, _, by (first | rfl | (simp only [go_sem, simprocAttr]; done) | (simp only [go_sem, simprocAttr]; rfl)), by (first | rfl | (simp only [go_sem, simprocAttr]; done) | (simp only [go_sem, simprocAttr]; rfl)), by (first | rfl | (simp only [go_sem, simprocAttr]; done) | (simp only [go_sem, simprocAttr]; rfl)), by (first | rfl | (simp only [go_sem, simprocAttr]; done) | (simp only [go_sem, simprocAttr]; rfl)), rfl, by (first | rfl | (simp only [go_sem, simprocAttr]; done) | (simp only [go_sem, simprocAttr]; rfl))⟩ ?_)
    rintro n f H ⟨k, rfl, hk, h3, e1, e2, e17, x, h1, hH1, h2, hH2, hx, hH17⟩
    match x, hx with
    | [x0, x1, x2, x3, x4, x5], _ =>
    by_cases hlt : k < r.rows.length
    · obtain ⟨y, hy⟩ : ∃ y, r.rows[k]? = some y := ⟨_, List.getElem?_eq_getElem hlt⟩
      have hyd : y.deg.length ≤ 1073741824 := by have := hr.degs y (List.mem_of_getElem? hy); omega
      have hset := map_set_self (g := cRow) hy
      simp only [cRow] at hset
      repeat' (first | (with_reducible refine sk ?_; intro K hK) | ((with_reducible first | refine rg (md := { base := 0, own := [1, 17] }) (h := ?_) | refine rgS [2] (md := { base := 0, own := [1, 17] }) (h := ?_) | refine nx ?_); try simp (disch := omega) only [h1, h2, h3, hH1, hH2, hH17, hy, hyd, hlt, cRow,go_sem, simprocAttr]) | (with_reducible refine bk ?_) | ((with_reducible refine' cE ?hv ?_ ?_); (case hv => first | rfl | (simp only [h1, h2, h3, hH1, hH2, hH17, hy, hyd, hlt, cRow,go_sem, simprocAttr]; rfl)); all_goals (intro hc; (try simp only [go_sem, simprocAttr] at hc); try (exfalso; omega))) | ((with_reducible refine fe ?_); refine ⟨_, (by simp only [Try.f15, h1, h2, h3, hH1, hH2, hH17, hy, hyd, hlt, cRow,go_sem, simprocAttr]; rfl), ?_⟩; first | rfl | (try simp only [h1, h2, h3, hH1, hH2, hH17, hy, hyd, hlt, cRow,go_sem, simprocAttr, seval])) | with_reducible intro (ep : Nat → Nat) | with_reducible apply_assumption -exfalso -symm only [*])
      exact ⟨r.rows.length - (k + 1), by omega, k + 1, rfl, by omega, rfl, _, _, _, _, rfl, rfl, rfl, rfl, rfl, by rw [hset]⟩
    · repeat' (first | (with_reducible refine sk ?_; intro K hK) | ((with_reducible first | refine rg (md := { base := 0, own := [1, 17] }) (h := ?_) | refine rgS [2] (md := { base := 0, own := [1, 17] }) (h := ?_) | refine nx ?_); try simp (disch := omega) only [h1, h2, h3, hH1, hH2, hH17,go_sem, simprocAttr]) | (with_reducible refine bk ?_) | ((with_reducible refine' cE ?hv ?_ ?_); (case hv => first | rfl | (simp only [h1, h2, h3, hH1, hH2, hH17,go_sem, simprocAttr]; rfl)); all_goals (intro hc; (try simp only [go_sem, simprocAttr] at hc); try (exfalso; omega))) | with_reducible intro (ep : Nat → Nat) | with_reducible apply_assumption -exfalso -symm only [*])
      refine FnP_frz 17 (Or.inl rfl) (by simp only [go_sem, simprocAttr, hH17]; rfl) ⟨_, (by simp only [Try.f15, go_sem, simprocAttr, h1, h2, hH1, hH2]; rfl), ?_⟩
      simp only [go_sem, simprocAttr, encRun, cRun]
end Cp
namespace Cp
open Go
theorem fit_map {α : Type} {c : α → List Val} : ∀ {xss : List (List Val)}, (∀ es ∈ xss, ∃ x, es = c x) → ∃ l : List α, xss = l.map c
  | [], _ => ⟨[], rfl⟩
  | es :: xss, h => by
    obtain ⟨x, rfl⟩ := h es (by simp)
    obtain ⟨l, rfl⟩ := fit_map fun es he => h es (List.mem_cons_of_mem _ he)
    exact ⟨x :: l, rfl⟩
theorem fit_slice {T : Tab} {n : Nat} {t e sz : Nat} {vs : List Val} {b b2 s1 : Nat} {z z2 : Val} {p p2 : Bool} {k2 : TK} {α : Type} {c : α → List Val} (ht : T t = some { kind := .slice e, sz := s1, bytes := b, zero := z, plain := p })
    (he : T e = some { kind := k2, sz := sz, bytes := b2, zero := z2, plain := p2 }) (h : Fit T (n + 1) t vs) (hc : ∀ es, Fit T n e es → ∃ x, es = c x) : ∃ l : List α, vs = [.lst sz (l.map c)] := by
  simp only [Fit, ht] at h
  obtain ⟨sz', xss, rfl, hs, _, hx⟩ := h
  rw [he] at hs
  cases hs
  obtain ⟨l, rfl⟩ := fit_map (c := c) fun es hes => hc es (hx es hes).2
  exact ⟨l, rfl⟩
theorem fit_struct {T : Tab} {n : Nat} {t sz : Nat} {vs : List Val} {b : Nat} {z : Val} {p : Bool} {fs : List (Nat × Nat)} (ht : T t = some { kind := .struct fs, sz := sz, bytes := b, zero := z, plain := p }) (h : Fit T (n + 1) t vs) :
    vs.length = sz ∧ ∀ q ∈ fs, ∃ fi, T q.2 = some fi ∧ Fit T n q.2 ((vs.drop q.1).take fi.sz) := by
  simp only [Fit, ht] at h
  exact h
theorem fit_int {T : Tab} {n : Nat} {t : Nat} {vs : List Val} {s b : Nat} {z : Val} {p : Bool} {k : IntKind} (ht : T t = some { kind := .int k, sz := s, bytes := b, zero := z, plain := p }) (h : Fit T (n + 1) t vs) : ∃ m, vs = [.int k m] ∧ (Lit.int k m).wf = true := by
  simp only [Fit, ht] at h
  exact h
theorem fit3 {n : Nat} {vs : List Val} (h : Fit tab (n + 1) 3 vs) : ∃ m, vs = [.int .i64 m] := by
  obtain ⟨m, h, _⟩ := fit_int tab_3 h; exact ⟨m, h⟩
theorem fit_ints {n : Nat} {vs : List Val} {t b s1 : Nat} {z : Val} {p : Bool} (ht : tab t = some { kind := .slice 3, sz := s1, bytes := b, zero := z, plain := p }) (h : Fit tab (n + 2) t vs) : ∃ l : List Int, vs = [.lst 1 (ints l)] := by
  obtain ⟨l, rfl⟩ := fit_slice (c := fun m : Int => [Val.int .i64 m]) ht tab_3 h fun es he => fit3 he
  exact ⟨l, rfl⟩
theorem fit_two {n : Nat} {vs : List Val} {t b : Nat} {z : Val} {p : Bool} (ht : tab t = some { kind := .struct [(0, 3), (1, 3)], sz := 2, bytes := b, zero := z, plain := p }) (h : Fit tab (n + 2) t vs) : ∃ x y : Int, vs = [.int .i64 x, .int .i64 y] := by
  obtain ⟨hl, hq⟩ := fit_struct ht h
  match vs, hl with
  | [a, b], _ =>
    obtain ⟨fi, e, h0⟩ := hq (0, 3) (by simp)
    rw [tab_3] at e; cases e
    obtain ⟨fi, e, h1⟩ := hq (1, 3) (by simp)
    rw [tab_3] at e; cases e
    obtain ⟨x, hx⟩ := fit3 h0
    obtain ⟨y, hy⟩ := fit3 h1
    simp at hx hy
    exact ⟨x, y, by rw [hx, hy]⟩
theorem fit_span {n : Nat} {vs : List Val} (h : Fit tab (n + 2) 26 vs) : ∃ s : Span, vs = [.int .i64 s.lo, .int .i64 s.hi] := by
  obtain ⟨x, y, h⟩ := fit_two tab_26 h; exact ⟨⟨x, y⟩, h⟩
theorem fit_pt {n : Nat} {vs : List Val} (h : Fit tab (n + 2) 93 vs) : ∃ x : Pt, vs = cPt x := by
  obtain ⟨x, y, h⟩ := fit_two tab_93 h; exact ⟨⟨x, y⟩, h⟩
theorem fit_step {n : Nat} {vs : List Val} (h : Fit tab (n + 2) 85 vs) : ∃ x : StepT, vs = cStep x := by
  obtain ⟨x, y, h⟩ := fit_two tab_85 h; exact ⟨⟨x, y⟩, h⟩
theorem fit_cpl {n : Nat} {vs : List Val} (h : Fit tab (n + 3) 76 vs) : ∃ x : Cpl, vs = cCpl x := by
  obtain ⟨hl, hq⟩ := fit_struct tab_76 h
  match vs, hl with
  | [a, b, c, d, e, f], _ =>
    obtain ⟨fi, e0, h0⟩ := hq (0, 3) (by simp)
    rw [tab_3] at e0; cases e0
    obtain ⟨fi, e1, h1⟩ := hq (1, 26) (by simp)
    rw [tab_26] at e1; cases e1
    obtain ⟨fi, e2, h2⟩ := hq (3, 26) (by simp)
    rw [tab_26] at e2; cases e2
    obtain ⟨fi, e3, h3⟩ := hq (5, 3) (by simp)
    rw [tab_3] at e3; cases e3
    obtain ⟨x0, h0⟩ := fit3 h0
    obtain ⟨x1, h1⟩ := fit_span h1
    obtain ⟨x2, h2⟩ := fit_span h2
    obtain ⟨x3, h3⟩ := fit3 h3
    simp at h0 h1 h2 h3
    obtain ⟨h1, h1'⟩ := h1
    obtain ⟨h2, h2'⟩ := h2
    exact ⟨⟨x0, x1, x2, x3⟩, by rw [h0, h1, h1', h2, h2', h3]; rfl⟩
theorem fit_row {n : Nat} {vs : List Val} (h : Fit tab (n + 3) 89 vs) : ∃ x : RowT, vs = cRow x := by
  obtain ⟨hl, hq⟩ := fit_struct tab_89 h
  match vs, hl with
  | [a, b], _ =>
    obtain ⟨fi, e0, h0⟩ := hq (0, 87) (by simp)
    rw [tab_87] at e0; cases e0
    obtain ⟨fi, e1, h1⟩ := hq (1, 3) (by simp)
    rw [tab_3] at e1; cases e1
    obtain ⟨x0, h0⟩ := fit_ints tab_87 h0
    obtain ⟨x1, h1⟩ := fit3 h1
    simp at h0 h1
    exact ⟨⟨x0, x1⟩, by rw [h0, h1]; rfl⟩
theorem fit_pts {n : Nat} {vs : List Val} (h : Fit tab (n + 3) 22 vs) : ∃ l : List Pt, vs = [.lst 2 (l.map cPt)] := fit_slice tab_22 tab_93 h fun es he => fit_pt he
theorem fit_run {n : Nat} {vs : List Val} (h : Fit tab (n + 5) 28 vs) : ∃ r : RunT, vs = cRun r := by
  obtain ⟨hl, hq⟩ := fit_struct tab_28 h
  match vs, hl with
  | [a, b, c, d, e, f], _ =>
    obtain ⟨fi, e0, h0⟩ := hq (0, 3) (by simp)
    rw [tab_3] at e0; cases e0
    obtain ⟨fi, e1, h1⟩ := hq (1, 22) (by simp)
    rw [tab_22] at e1; cases e1
    obtain ⟨fi, e2, h2⟩ := hq (2, 23) (by simp)
    rw [tab_23] at e2; cases e2
    obtain ⟨fi, e3, h3⟩ := hq (3, 24) (by simp)
    rw [tab_24] at e3; cases e3
    obtain ⟨fi, e4, h4⟩ := hq (4, 26) (by simp)
    rw [tab_26] at e4; cases e4
    obtain ⟨x0, h0⟩ := fit3 h0
    obtain ⟨x1, h1⟩ := fit_pts h1
    obtain ⟨x2, h2⟩ := fit_slice tab_23 tab_76 h2 fun es he => fit_cpl he
    obtain ⟨x3, h3⟩ := fit_slice tab_24 tab_89 h3 fun es he => fit_row he
    obtain ⟨x4, h4⟩ := fit_span h4
    simp at h0 h1 h2 h3 h4
    obtain ⟨h4, h4'⟩ := h4
    exact ⟨⟨x0, x1, x2, x3, x4⟩, by rw [h0, h1, h2, h3, h4, h4']; rfl⟩
theorem fit_rules {n : Nat} {vs : List Val} (h : Fit tab (n + 5) 31 vs) : ∃ u : RulesT, vs = cRules u := by
  obtain ⟨hl, hq⟩ := fit_struct tab_31 h
  match vs, hl with
  | [a, b, c, d, e, f], _ =>
    obtain ⟨fi, e0, h0⟩ := hq (0, 29) (by simp)
    rw [tab_29] at e0; cases e0
    obtain ⟨fi, e1, h1⟩ := hq (1, 3) (by simp)
    rw [tab_3] at e1; cases e1
    obtain ⟨fi, e2, h2⟩ := hq (2, 3) (by simp)
    rw [tab_3] at e2; cases e2
    obtain ⟨fi, e3, h3⟩ := hq (3, 26) (by simp)
    rw [tab_26] at e3; cases e3
    obtain ⟨fi, e4, h4⟩ := hq (5, 3) (by simp)
    rw [tab_3] at e4; cases e4
    obtain ⟨x0, h0⟩ := fit_slice tab_29 tab_85 h0 fun es he => fit_step he
    obtain ⟨x1, h1⟩ := fit3 h1
    obtain ⟨x2, h2⟩ := fit3 h2
    obtain ⟨x3, h3⟩ := fit_span h3
    obtain ⟨x4, h4⟩ := fit3 h4
    simp at h0 h1 h2 h3 h4
    obtain ⟨h3, h3'⟩ := h3
    exact ⟨⟨x0, x1, x2, x3, x4⟩, by rw [h0, h1, h2, h3, h3', h4]; rfl⟩
theorem arg_int {a : Val} (h : FitV tab 8 3 a) : ∃ m, a = .int .i64 m := by
  obtain ⟨ti, cs, e, h, _, rfl⟩ := h
  obtain ⟨m, rfl⟩ := fit3 h
  rw [tab_3] at e; cases e; exact ⟨m, rfl⟩
theorem arg_run {a : Val} (h : FitV tab 8 28 a) : ∃ r : RunT, a = encRun r := by
  obtain ⟨ti, cs, e, h, _, rfl⟩ := h
  obtain ⟨l, rfl⟩ := fit_run h
  rw [tab_28] at e; cases e; exact ⟨l, rfl⟩
theorem arg_rules {a : Val} (h : FitV tab 8 31 a) : ∃ r : RulesT, a = encRules r := by
  obtain ⟨ti, cs, e, h, _, rfl⟩ := h
  obtain ⟨l, rfl⟩ := fit_rules h
  rw [tab_31] at e; cases e; exact ⟨l, rfl⟩
end Cp
