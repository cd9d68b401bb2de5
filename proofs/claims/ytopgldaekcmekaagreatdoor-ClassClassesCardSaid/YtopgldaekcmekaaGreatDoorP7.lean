/- Rules, facts and contracts that the statement's proof leans on. Conditions: none. -/
import Derived.Test.YtopgldaekcmekaaGreatDoorP6
set_option linter.unusedVariables false
set_option linter.unusedSimpArgs false
set_option linter.unusedSectionVars false
namespace Cp
open Go Go.Proofs
set_option maxRecDepth 10000
theorem rrules_ok (u : RulesT) (hb : RulesB u) : PureC Tryz.prog 93 [encRules u] (.bool (rulesOK u)) := by
  have hb1 := hb.steps
  refine PureC_of (fn := Tryz.f93) tabOK (by kernel_rfl) rfl (by kernel_rfl) (by simp [Tryz.f93]) (by simp [noids, noid, noidss, go_sem, encRules, cRules]) (by first | rfl | simp [noids, noid, noidss, go_sem, encRules, cRules]) ?_
  intro X hX0 hXs
  repeat' (first | with_reducible (first | (refine sk ?_; intro K hK) | apply_assumption -exfalso -symm only [*]) | ((first | (with_reducible first | refine rg (h := ?_) | refine nx ?_) | refine pK (rwithin_ok _ _ _) ?_ | refine pK (rspanned_ok u.press _ _) ?_); try simp (disch := omega) only [encRules, cRules,go_sem, simprocAttr]) | ((with_reducible refine' cE ?hv ?_ ?_); (case hv => rfl); all_goals (intro hc; (try simp only [go_sem, simprocAttr] at hc))) | ((with_reducible refine grdS_split ?_ ?_) <;> intro hg <;> (try simp (disch := omega) only [hg, encRules, cRules,go_sem, simprocAttr]) <;> (try simp only [go_sem, simprocAttr] at hg) <;> (try (exfalso; omega))) | ((with_reducible refine fe ?_); refine ⟨_, (by simp only [Tryz.f93, encRules, cRules,go_sem, simprocAttr]; rfl), ?_⟩; (try simp only [encRules, cRules,go_sem, simprocAttr, seval])) | fail)
  iterate 5 (have : limsOK u = false := by (simp only [limsOK, decide_eq_false_iff_not]; omega)
             rw [rulesOK, this]; rfl)
  have hh : limsOK u = true := by simp only [limsOK, decide_eq_true_eq]; omega
  have hR : rulesOK u = stepsFrom 0 u.steps := by rw [rulesOK, hh]; rfl
  refine AW_block (AW_loop (fun n f H => ∃ k : Nat, n = u.steps.length - k ∧ k ≤ u.steps.length ∧ (f 1 = .pim (cRules u) ∧ f 3 = .int .i64 k) ∧ ∃ last, (k = 0 → last = 0) ∧ (∀ j, k = j + 1 → ∃ a, u.steps[j]? = some a ∧ a.frm = last) ∧ 0 ≤ last ∧ last ≤ 600 ∧ stepsFrom 0 u.steps = stepsFrom last (u.steps.drop k)) u.steps.length
    ⟨0, by simp, Nat.zero_le _, by (and_intros <;> first | rfl | (simp only [cRules, go_sem, simprocAttr]; done) | (simp only [cRules, go_sem, simprocAttr]; rfl)), 0, by simp, by simp, by simp, by simp, by simp⟩ ?_)
  rintro n f H ⟨k, rfl, hk, ⟨h1, h3⟩, last, hl0, hl1, hl2, hl3, hr⟩
  by_cases hlt : k < u.steps.length
  · obtain ⟨x, hx⟩ : ∃ x, u.steps[k]? = some x := ⟨_, List.getElem?_eq_getElem hlt⟩
    rw [drop_cons hx] at hr
    simp only [stepsFrom] at hr
    have bad : stepOK last x = false → false = rulesOK u := fun h => by rw [hR, hr, h]; simp
    have good : stepOK last x = true → ∃ m, m < u.steps.length - k ∧ ∃ k', m = u.steps.length - k' ∧ k' ≤ u.steps.length ∧ Val.int .i64 ((k + 1 : Nat) : Int) = .int .i64 (k' : Int) ∧ ∃ last, (k' = 0 → last = 0) ∧ (∀ j, k' = j + 1 → ∃ a, u.steps[j]? = some a ∧ a.frm = last) ∧ 0 ≤ last ∧ last ≤ 600 ∧ stepsFrom 0 u.steps = stepsFrom last (u.steps.drop k') := fun h => by
      refine ⟨u.steps.length - (k + 1), by omega, k + 1, rfl, by omega, rfl, x.frm, by omega, (fun j hj => ⟨x, (by rw [show j = k by omega]; exact hx), rfl⟩), ?_⟩
      have h' := h
      simp only [stepOK, decide_eq_true_eq] at h
      refine ⟨by omega, by omega, ?_⟩
      rw [hr, h']; simp
    simp only [stepOK, decide_eq_false_iff_not, decide_eq_true_eq] at bad good
    rcases k with _ | j
    · obtain rfl := hl0 rfl
      repeat' (first | with_reducible (first | (refine sk ?_; intro K hK) | refine bk ?_ | apply_assumption -exfalso -symm only [*]) | ((first | (with_reducible first | refine rg (h := ?_) | refine nx ?_) | refine pK (rwithin_ok _ _ _) ?_); try simp (disch := omega) only [h1, h3, hx, cRules, cStep,go_sem, simprocAttr]) | ((with_reducible refine' cE ?hv ?_ ?_); (case hv => rfl); all_goals (intro hc; (try simp only [go_sem, simprocAttr] at hc); try (exfalso; omega))) | ((with_reducible refine grdS_split ?_ ?_) <;> intro hg <;> (try simp (disch := omega) only [hg, h1, h3, hx, cRules, cStep,go_sem, simprocAttr]) <;> (try simp only [go_sem, simprocAttr] at hg) <;> (try (exfalso; omega))) | ((with_reducible refine fe ?_); refine ⟨_, (by simp only [Tryz.f93, h1, h3, hx, cRules, cStep,go_sem, simprocAttr]; rfl), ?_⟩; (try simp only [h1, h3, hx, cRules, cStep,go_sem, simprocAttr, seval])) | fail)
      all_goals omega
    · obtain ⟨a, haj, hal⟩ := hl1 j rfl
      repeat' (first | with_reducible (first | (refine sk ?_; intro K hK) | refine bk ?_ | apply_assumption -exfalso -symm only [*]) | ((first | (with_reducible first | refine rg (h := ?_) | refine nx ?_) | refine pK (rwithin_ok _ _ _) ?_); try simp (disch := omega) only [h1, h3, hx, haj, cRules, cStep,go_sem, simprocAttr]) | ((with_reducible refine' cE ?hv ?_ ?_); (case hv => rfl); all_goals (intro hc; (try simp only [go_sem, simprocAttr] at hc); try (exfalso; omega))) | ((with_reducible refine grdS_split ?_ ?_) <;> intro hg <;> (try simp (disch := omega) only [hg, h1, h3, hx, haj, cRules, cStep,go_sem, simprocAttr]) <;> (try simp only [go_sem, simprocAttr] at hg) <;> (try (exfalso; omega))) | ((with_reducible refine fe ?_); refine ⟨_, (by simp only [Tryz.f93, h1, h3, hx, haj, cRules, cStep,go_sem, simprocAttr]; rfl), ?_⟩; (try simp only [h1, h3, hx, haj, cRules, cStep,go_sem, simprocAttr, seval])) | fail)
      all_goals omega
  · repeat' (first | with_reducible (first | (refine sk ?_; intro K hK) | apply_assumption -exfalso -symm only [*]) | ((with_reducible first | refine rg (h := ?_) | refine nx ?_); try simp (disch := omega) only [h1, h3, cRules,go_sem, simprocAttr]) | ((with_reducible refine' cE ?hv ?_ ?_); (case hv => rfl); all_goals (intro hc; (try simp only [go_sem, simprocAttr] at hc); try (exfalso; omega))) | ((with_reducible refine fe ?_); refine ⟨_, (by simp only [Tryz.f93, h1, h3, cRules,go_sem, simprocAttr]; rfl), ?_⟩; (try simp only [h1, h3, cRules,go_sem, simprocAttr, seval])) | fail)
    rw [hR, hr, drop_none (by omega)]; rfl
def checkE (r : RunT) (u : RulesT) : Int := if runOK r = true then (if rulesOK u = true then 0 else 12) else 11
theorem rcheck_ok (r : RunT) (u : RulesT) (hb : RunB r) (hu : RulesB u) : PureC Tryz.prog 68 [encRun r, encRules u] (.int .i64 (checkE r u)) := by
 refine PureC_of (fn := Tryz.f68) tabOK (by kernel_rfl) rfl (by kernel_rfl) (by simp [Tryz.f68]) (by simp [noids, noid, noidss, go_sem, encRun, cRun, encRules, cRules]) (by first | rfl | simp [noids, noid, noidss, go_sem, encRun, cRun, encRules, cRules]) ?_
 intro X hX0 hXs
 repeat' (first | with_reducible (first | (refine sk ?_; intro K hK) | apply_assumption -exfalso -symm only [*]) | ((first | (with_reducible first | refine rg (h := ?_) | refine nx ?_) | refine pK (rrun_ok r hb) ?_ | refine pK (rrules_ok u hu) ?_); try simp (disch := omega) only [encRun, cRun, encRules, cRules,go_sem, simprocAttr]) | ((with_reducible refine' cE ?hv ?_ ?_); (case hv => rfl); all_goals (intro hc; (try simp only [go_sem, simprocAttr] at hc))) | ((with_reducible refine fe ?_); refine ⟨_, (by simp only [Tryz.f68, encRun, cRun, encRules, cRules,go_sem, simprocAttr]; rfl), ?_⟩; (try simp only [encRun, cRun, encRules, cRules,go_sem, simprocAttr, seval])) | fail)
 all_goals simp_all [checkE]
theorem check_ok (r : RunT) (u : RulesT) (hb : RunB r) (hu : RulesB u) : PureC Tryz.prog 58 [encRun r, encRules u] (.int .i64 (checkE r u)) := by
 have hb1 := hu.steps
 refine PureC_of (fn := Tryz.f58) tabOK (by kernel_rfl) rfl (by kernel_rfl) (by simp [Tryz.f58]) (by simp [noids, noid, noidss, go_sem, encRun, cRun, encRules, cRules]) (by first | rfl | simp [noids, noid, noidss, go_sem, encRun, cRun, encRules, cRules]) ?_
 intro X hX0 hXs
 repeat' (first | with_reducible (first | (refine sk ?_; intro K hK) | apply_assumption -exfalso -symm only [*]) | ((first | (with_reducible first | refine rg (h := ?_) | refine nx ?_) | refine pK (ran_ok r hb) ?_); try simp (disch := omega) only [encRun, cRun, encRules, cRules,go_sem, simprocAttr]) | ((with_reducible refine' cE ?hv ?_ ?_); (case hv => rfl); all_goals (intro hc; (try simp only [go_sem, simprocAttr] at hc))) | ((with_reducible refine fe ?_); refine ⟨_, (by simp only [Tryz.f58, encRun, cRun, encRules, cRules,go_sem, simprocAttr]; rfl), ?_⟩; (try simp only [encRun, cRun, encRules, cRules,go_sem, simprocAttr, seval])) | fail)
 ·simp_all [checkE]
 ·have hC : checkE r u = if rulesOK u = true then 0 else 12 := by simp_all [checkE]
  refine AW_range tabOK u.steps.length (fun k f H => f 3 = .pim (cRules u) ∧ f 12 = .lst 2 (u.steps.map cStep) ∧ ∃ last, f 5 = .int .i64 last ∧ 0 ≤ last ∧ last ≤ 600 ∧ stepsFrom 0 u.steps = stepsFrom last (u.steps.drop k)) hu.steps (by rw [hXs]; decide) (by decide) (by simp only [go_sem, simprocAttr]) (by simp only [go_sem, simprocAttr])
   ⟨by simp only [go_sem, simprocAttr, cRules], by simp only [go_sem, simprocAttr], 0, by simp only [go_sem, simprocAttr], by omega, by omega, by simp⟩ ?_ ?_
  ·rintro k f H hk h14 h13 ⟨h3, h12, last, h5, hl1, hl2, hr⟩
   obtain ⟨x, hx⟩ : ∃ x, u.steps[k]? = some x := ⟨_, List.getElem?_eq_getElem hk⟩
   rw [drop_cons hx] at hr
   simp only [stepsFrom] at hr
   have bad : stepOK last x = false → 12 = checkE r u := fun h => by
    have : rulesOK u = false := by rw [rulesOK, hr, h]; simp
    rw [hC, this]; rfl
   simp only [stepOK, decide_eq_false_iff_not] at bad
   refine AW_keep [] ?_
   repeat' (first | with_reducible (first | (refine sk ?_; intro K hK) | intro (ep : Nat → Nat) | apply_assumption -exfalso -symm only [*]) | ((first | (with_reducible first | refine rg (h := ?_) | refine nx ?_) | refine pK (in_1 _ _ _) ?_); try simp (disch := omega) only [h3, h5, h12, h13, h14, hx, cRules, cStep,go_sem, simprocAttr]) | ((with_reducible refine' cE ?hv ?_ ?_); (case hv => rfl); all_goals (intro hc; (try simp only [go_sem, simprocAttr] at hc))) | ((with_reducible refine grdS_split ?_ ?_) <;> intro hg <;> (try simp (disch := omega) only [hg, h3, h5, h12, h13, h14, hx, cRules, cStep,go_sem, simprocAttr]) <;> (try simp only [go_sem, simprocAttr] at hg) <;> (try (exfalso; omega))) | ((with_reducible refine fe ?_); refine ⟨_, (by simp only [Tryz.f58, h3, h5, h12, h13, h14, hx, cRules, cStep,go_sem, simprocAttr]; rfl), ?_⟩; (try simp only [h3, h5, h12, h13, h14, hx, cRules, cStep,go_sem, simprocAttr, seval])) | fail)
   iterate 2 (first | exact bad (by omega) | omega)
   have h' : stepOK last x = true := by simp only [stepOK, decide_eq_true_eq]; omega
   refine ⟨x.frm, rfl, by omega, by omega, ?_⟩
   rw [hr, h']; simp
  ·rintro f H h14 h13 ⟨h3, h12, last, h5, hl1, hl2, hr⟩
   have hs : stepsFrom 0 u.steps = true := by rw [hr, drop_none (Nat.le_refl _)]; rfl
   have hR : rulesOK u = limsOK u := by rw [rulesOK, hs, Bool.and_true]
   have bad : limsOK u = false → 12 = checkE r u := fun h => by rw [hC, hR, h]; rfl
   simp only [limsOK, decide_eq_false_iff_not] at bad
   repeat' (first | with_reducible (first | (refine sk ?_; intro K hK) | apply_assumption -exfalso -symm only [*]) | ((first | (with_reducible first | refine rg (h := ?_) | refine nx ?_) | refine pK (in_1 _ _ _) ?_ | refine pK (in_2 _ _ _ _) ?_ | refine pK (ordered_ok u.press _ _) ?_); try simp (disch := omega) only [h3, cRules,go_sem, simprocAttr]) | ((with_reducible refine' cE ?hv ?_ ?_); (case hv => rfl); all_goals (intro hc; (try simp only [go_sem, simprocAttr] at hc))) | ((with_reducible refine grdS_split ?_ ?_) <;> intro hg <;> (try simp (disch := omega) only [hg, h3, cRules,go_sem, simprocAttr]) <;> (try simp only [go_sem, simprocAttr] at hg) <;> (try (exfalso; omega))) | ((with_reducible refine fe ?_); refine ⟨_, (by simp only [Tryz.f58, h3, cRules,go_sem, simprocAttr]; rfl), ?_⟩; (try simp only [h3, cRules,go_sem, simprocAttr, seval])) | fail)
   iterate 4 (first | exact bad (by omega) | omega)
   have h' : limsOK u = true := by simp only [limsOK, decide_eq_true_eq]; omega
   rw [hC, hR, h']; rfl
end Cp
namespace Cp
open Go Go.Proofs
set_option maxRecDepth 10000
theorem works_ok (c : Cpl) (m : Int) : PureC Tryz.prog 120 [.agg (cCpl c), .int .i64 m] (.bool (works c m)) := by
 refine PureC_of (fn := Tryz.f120) tabOK (by kernel_rfl) rfl (by kernel_rfl) (by simp [Tryz.f120]) (by simp [noids, noid, noidss, go_sem, cCpl]) (by first | rfl | simp [noids, noid, noidss, go_sem, cCpl]) ?_
 intro X hX0 hXs
 repeat' (first | with_reducible (first | (refine sk ?_; intro K hK) | apply_assumption -exfalso -symm only [*]) | ((with_reducible first | refine rg (h := ?_) | refine nx ?_); try simp (disch := omega) only [cCpl,go_sem, simprocAttr]) | ((with_reducible refine grdS_split ?_ ?_) <;> intro hg <;> (try simp (disch := omega) only [hg, cCpl,go_sem, simprocAttr]) <;> (try simp only [go_sem, simprocAttr] at hg) <;> (try (exfalso; omega))) | ((with_reducible refine fe ?_); refine ⟨_, (by simp only [Tryz.f120, cCpl,go_sem, simprocAttr]; rfl), ?_⟩; (try simp only [cCpl,go_sem, simprocAttr, seval])) | fail)
 all_goals (rw [works, Bool.eq_iff_iff]; simp; omega)
theorem rworking_ok (r : RunT) (m : Int) (hc : r.cpls.length ≤ 1000000) : PureC Tryz.prog 95 [encRun r, .int .i64 m] (.lst 1 (ints (natI (wk r m)))) := by
 refine PureC_of (fn := Tryz.f95) tabOK (by kernel_rfl) rfl (by kernel_rfl) (by simp [Tryz.f95]) (by simp [noids, noid, noidss, go_sem, encRun, cRun]) (by first | rfl | simp [noids, noid, noidss, go_sem, encRun, cRun]) ?_
 intro X hX0 hXs
 repeat' (first | with_reducible (first | (refine sk ?_; intro K hK) | intro (ep : Nat → Nat) | apply_assumption -exfalso -symm only [*]) | ((with_reducible refine rg (md := { base := 0, own := [5, 24] }) (h := ?_)); try simp (disch := omega) only [encRun, cRun,go_sem, simprocAttr]) | fail)
 refine AW_block (AW_loop (fun n f H => ∃ k : Nat, n = r.cpls.length - k ∧ k ≤ r.cpls.length ∧ (f 1 = .int .i64 m ∧ f 2 = .pim (cRun r) ∧ f 6 = .int .i64 k) ∧ ∃ e acc, f 5 = .gr 5 e acc.length ∧ H 5 = some (e, .arr 1 (ints (natI acc))) ∧ acc.length ≤ k ∧ wk r m = acc ++ wkFrom m k (r.cpls.drop k)) r.cpls.length
  ⟨0, by simp, Nat.zero_le _, by (and_intros <;> first | rfl | (simp only [cRun, go_sem, simprocAttr]; done) | (simp only [cRun, go_sem, simprocAttr]; rfl)), _, [], by simp only [go_sem, simprocAttr]; rfl, by simp only [go_sem, simprocAttr]; rfl, by simp, by simp [wk]⟩ ?_)
 rintro n f H ⟨k, rfl, hk, ⟨h1, h2, h6⟩, e, acc, h5, hH, hacc, hr⟩
 refine AW_keep [5] ?_
 by_cases hlt : k < r.cpls.length
 ·obtain ⟨x, hx⟩ : ∃ x, r.cpls[k]? = some x := ⟨_, List.getElem?_eq_getElem hlt⟩
  rw [drop_cons hx, wkFrom] at hr
  have hn : (natI acc).length = acc.length := by simp [natI]
  have hle : acc.length + 1 ≤ 1073741824 := by omega
  repeat' (first | with_reducible (first | (refine sk ?_; intro K hK) | refine bk ?_ | intro (ep : Nat → Nat) | apply_assumption -exfalso -symm only [*]) | ((first | (with_reducible first | refine rg (id := 6) (md := { base := 0, own := [24] }) (h := ?_) | refine rg (md := { base := 0, own := [5, 24] }) (h := ?_) | refine nx ?_) | refine pK (works_ok x _) ?_); try simp (disch := omega) only [h1, h2, h5, h6, hH, hx, hn, hle, cRun, cCpl,go_sem, simprocAttr]) | ((with_reducible refine' cE ?hv ?_ ?_); (case hv => rfl); all_goals (intro hc; (try simp only [go_sem, simprocAttr] at hc); try (exfalso; omega))) | fail)
  ·refine ⟨r.cpls.length - (k + 1), by omega, k + 1, rfl, by omega, rfl, _, acc ++ [k], by rw [List.length_append]; rfl, by rw [ints_snoc, natI_snoc], by simp; omega, ?_⟩
   rw [hr, if_pos hc]; simp
  ·refine ⟨r.cpls.length - (k + 1), by omega, k + 1, rfl, by omega, rfl, _, acc, rfl, rfl, by omega, ?_⟩
   rw [hr, hc]; rfl
 ·rw [drop_none (by omega), wkFrom, List.append_nil] at hr
  have hn : (natI acc).length = acc.length := by simp [natI]
  repeat' (first | with_reducible (first | (refine sk ?_; intro K hK) | apply_assumption -exfalso -symm only [*]) | ((with_reducible first | refine rg (md := { base := 0, own := [5, 24] }) (h := ?_) | refine nx ?_); try simp (disch := omega) only [h1, h2, h5, h6, hH, cRun,go_sem, simprocAttr]) | ((with_reducible refine' cE ?hv ?_ ?_); (case hv => rfl); all_goals (intro hc; (try simp only [go_sem, simprocAttr] at hc); try (exfalso; omega))) | fail)
  refine FnP_frz 5 (Or.inl rfl) (by simp only [go_sem, simprocAttr, hH]; rfl) ⟨_, (by simp only [Tryz.f95, go_sem, simprocAttr, h5]; rfl), ?_⟩
  simp only [go_sem, simprocAttr, hn, hr]
theorem rtrue_ok (r : RunT) (hF : RunF r) (i : Nat) (m : Int) (c : Cpl) (hc : r.cpls[i]? = some c) (hm : 1 ≤ m) (hm2 : m ≤ r.rows.length) (hw : works c m = true) :
  PureC Tryz.prog 99 [encRun r, .int .i64 i, .int .i64 m] (encSpan (truth r c i m)) := by
 have hi : i < r.cpls.length := (List.getElem?_eq_some_iff.1 hc).1
 have hcf := hF.cpl i c hc
 have hrows := hF.rows
 have hcl := hF.cpls
 obtain ⟨l1, l2⟩ := lastRow_pos hF hc hm hw
 have hw' := works_iff.1 hw
 have hred : ∀ lag : Int, 0 ≤ lag → ∃ x d, r.rows[(min (m + lag) (lastRow r c) - 1).toNat]? = some x ∧ x.deg[i]? = some d ∧ readLag r c i m lag = d ∧ 0 ≤ d ∧ d ≤ 2000 := fun lag h => readAt_ok hF hi (by omega) (by omega)
 refine PureC_of (fn := Tryz.f99) tabOK (by kernel_rfl) rfl (by kernel_rfl) (by simp [Tryz.f99]) (by simp [noids, noid, noidss, go_sem, encRun, cRun]) (by first | rfl | simp [noids, noid, noidss, go_sem, encRun, cRun]) ?_
 intro X hX0 hXs
 repeat' (first | with_reducible (first | (refine sk ?_; intro K hK) | intro (ep : Nat → Nat) | apply_assumption -exfalso -symm only [*]) | ((with_reducible refine rg (h := ?_)); try simp (disch := omega) only [encRun, cRun, hc, cCpl,go_sem, simprocAttr]) | fail)
 refine AW_block (AW_loop (fun n f H => ∃ k : Nat, n = (c.lag.hi - c.lag.lo + 1).toNat - k ∧ k ≤ (c.lag.hi - c.lag.lo + 1).toNat ∧ (f 1 = .int .i64 i ∧ f 2 = .int .i64 m ∧ f 3 = .pim (cRun r)) ∧ ∃ lag lo hi e6 e7 e8, lag = c.lag.lo + k ∧ f 9 = .int .i64 lag ∧ f 6 = .ptr 6 e6 2 0 0 ∧ H 6 = some (e6, .arr 2 [[.int .i64 0, .int .i64 0]]) ∧ f 7 = .ptr 7 e7 6 0 0 ∧ H 7 = some (e7, .arr 6 [cCpl c]) ∧ f 8 = .ptr 8 e8 2 0 0 ∧ H 8 = some (e8, .arr 2 [[.int .i64 lo, .int .i64 hi]]) ∧
   ((k = 0 ∧ lo = 9999 ∧ hi = -9999) ∨ ∃ j, k = j + 1 ∧ lo = extLo (readLag r c i m) c.lag.lo j - c.err.hi ∧ hi = extHi (readLag r c i m) c.lag.lo j - c.err.lo)) (c.lag.hi - c.lag.lo + 1).toNat
  ⟨0, by simp, Nat.zero_le _, by (and_intros <;> first | rfl | (simp only [cRun, go_sem, simprocAttr]; done) | (simp only [cRun, go_sem, simprocAttr]; rfl)), c.lag.lo, 9999, -9999, _, _, _, by simp, by (first | rfl | (simp only [go_sem, simprocAttr]; done) | (simp only [go_sem, simprocAttr]; rfl)), by (first | rfl | (simp only [go_sem, simprocAttr]; done) | (simp only [go_sem, simprocAttr]; rfl)), by (first | rfl | (simp only [go_sem, simprocAttr]; done) | (simp only [go_sem, simprocAttr]; rfl)), by (first | rfl | (simp only [go_sem, simprocAttr]; done) | (simp only [go_sem, simprocAttr]; rfl)), by (first | rfl | (simp only [cCpl, go_sem, simprocAttr]; done) | (simp only [cCpl, go_sem, simprocAttr]; rfl)), by (first | rfl | (simp only [go_sem, simprocAttr]; done) | (simp only [go_sem, simprocAttr]; rfl)), by (first | rfl | (simp only [go_sem, simprocAttr]; done) | (simp only [go_sem, simprocAttr]; rfl)), .inl ⟨rfl, rfl, rfl⟩⟩ ?_)
 rintro n f H ⟨k, rfl, hk, ⟨h1, h2, h3⟩, lag, lo, hi', e6, e7, e8, hlag, h9, h6, hH6, h7, hH7, h8, hH8, hr⟩
 by_cases hlt : lag ≤ c.lag.hi
 ·obtain ⟨x, d, hx, hd, hrd, hd1, hd2⟩ := hred lag (by omega)
  have stepL : min lo (d - c.err.hi) = extLo (readLag r c i m) c.lag.lo k - c.err.hi ∧ max hi' (d - c.err.lo) = extHi (readLag r c i m) c.lag.lo k - c.err.lo := by
   rcases hr with ⟨rfl, rfl, rfl⟩ | ⟨j, rfl, rfl, rfl⟩
   ·simp only [extLo, extHi]
    rw [show c.lag.lo = lag by omega, hrd]
    omega
   ·simp only [extLo, extHi]
    rw [show c.lag.lo + ((j + 1 : Nat) : Int) = lag by omega, hrd]
    omega
  clear hr
  by_cases hb : 0 < c.brk
  ·have hlr : lastRow r c = min (r.rows.length : Int) (c.brk - 1) := by rw [lastRow, if_pos hb]
   rw [hlr] at hx
   have e1 : min (min (m + lag) (r.rows.length : Int)) (c.brk - 1) = min (m + lag) (min (r.rows.length : Int) (c.brk - 1)) := by omega
   have hge : 0 ≤ min (m + lag) (min (r.rows.length : Int) (c.brk - 1)) - 1 := by omega
   repeat' (first | with_reducible (first | (refine sk ?_; intro K hK) | refine bk ?_ | apply_assumption -exfalso -symm only [*]) | ((with_reducible first | refine rg (h := ?_) | refine nx ?_); try simp (disch := omega) only [h1, h2, h3, h6, h7, h8, h9, hH6, hH7, hH8, e1, hge, hx, hd, cRun, cCpl, cRow,go_sem, simprocAttr]) | ((with_reducible refine' cE ?hv ?_ ?_); (case hv => rfl); all_goals (intro hc; (try simp only [go_sem, simprocAttr] at hc); try (exfalso; omega))) | fail)
   exact ⟨(c.lag.hi - c.lag.lo + 1).toNat - (k + 1), by omega, k + 1, rfl, by omega, _, _, _, _, _, _, by omega, rfl, rfl, rfl, rfl, rfl, rfl, rfl, .inr ⟨k, rfl, stepL.1, stepL.2⟩⟩
  ·have hlr : lastRow r c = r.rows.length := by rw [lastRow, if_neg hb]
   rw [hlr] at hx
   have hge : 0 ≤ min (m + lag) (r.rows.length : Int) - 1 := by omega
   repeat' (first | with_reducible (first | (refine sk ?_; intro K hK) | refine bk ?_ | apply_assumption -exfalso -symm only [*]) | ((with_reducible first | refine rg (h := ?_) | refine nx ?_); try simp (disch := omega) only [h1, h2, h3, h6, h7, h8, h9, hH6, hH7, hH8, hge, hx, hd, cRun, cCpl, cRow,go_sem, simprocAttr]) | ((with_reducible refine' cE ?hv ?_ ?_); (case hv => rfl); all_goals (intro hc; (try simp only [go_sem, simprocAttr] at hc); try (exfalso; omega))) | fail)
   exact ⟨(c.lag.hi - c.lag.lo + 1).toNat - (k + 1), by omega, k + 1, rfl, by omega, _, _, _, _, _, _, by omega, rfl, rfl, rfl, rfl, rfl, rfl, rfl, .inr ⟨k, rfl, stepL.1, stepL.2⟩⟩
 ·repeat' (first | with_reducible (first | (refine sk ?_; intro K hK) | apply_assumption -exfalso -symm only [*]) | ((with_reducible first | refine rg (h := ?_) | refine nx ?_); try simp (disch := omega) only [h1, h2, h3, h6, h7, h8, h9, hH6, hH7, hH8, cRun, cCpl, encSpan,go_sem, simprocAttr]) | ((with_reducible refine' cE ?hv ?_ ?_); (case hv => rfl); all_goals (intro hc; (try simp only [go_sem, simprocAttr] at hc); try (exfalso; omega))) | ((with_reducible refine fe ?_); refine ⟨_, (by simp only [Tryz.f99, h1, h2, h3, h6, h7, h8, h9, hH6, hH7, hH8, cRun, cCpl, encSpan,go_sem, simprocAttr]; rfl), ?_⟩; (try simp only [h1, h2, h3, h6, h7, h8, h9, hH6, hH7, hH8, cRun, cCpl, encSpan,go_sem, simprocAttr, seval])) | fail)
  rcases hr with ⟨rfl, rfl, rfl⟩ | ⟨j, rfl, rfl, rfl⟩
  ·omega
  ·have : (c.lag.hi - c.lag.lo).toNat = j := by omega
   simp only [truth, this, and_self]
end Cp
namespace Cp
open Go Go.Proofs
set_option maxRecDepth 10000
theorem quo840 {n : Nat} (h1 : 1 ≤ n) (h2 : n ≤ 8) : IntKind.i64.wrap ((840 : Int).tdiv (n : Int)) = 840 / (n : Int) ∧ 105 ≤ 840 / (n : Int) ∧ 840 / (n : Int) ≤ 840 := by
 have e : (840 : Int).tdiv (n : Int) = 840 / (n : Int) := Int.tdiv_eq_ediv_of_nonneg (by omega)
 obtain rfl | rfl | rfl | rfl | rfl | rfl | rfl | rfl : n = 1 ∨ n = 2 ∨ n = 3 ∨ n = 4 ∨ n = 5 ∨ n = 6 ∨ n = 7 ∨ n = 8 := by omega
 all_goals decide
theorem rmean_ok (r : RunT) (hF : RunF r) (m : Int) (hm : 1 ≤ m) (hm2 : m ≤ r.rows.length) (hne : wk r m ≠ []) : PureC Tryz.prog 96 [encRun r, .int .i64 m] (encSpan (meanS r m)) := by
 have hcl := hF.cpls
 have hn1 : 1 ≤ (wk r m).length := List.length_pos_iff.2 hne
 have hn2 : (wk r m).length ≤ r.cpls.length := wk_len
 have hnl : (natI (wk r m)).length = (wk r m).length := natI_length
 refine PureC_of (fn := Tryz.f96) tabOK (by kernel_rfl) rfl (by kernel_rfl) (by simp [Tryz.f96]) (by simp [noids, noid, noidss, go_sem, encRun, cRun]) (by first | rfl | simp [noids, noid, noidss, go_sem, encRun, cRun]) ?_
 intro X hX0 hXs
 repeat' (first | with_reducible (first | (refine sk ?_; intro K hK) | intro (ep : Nat → Nat) | apply_assumption -exfalso -symm only [*]) | ((first | (with_reducible refine rg (h := ?_)) | refine pK (rworking_ok r m (by omega)) ?_); try simp (disch := omega) only [encRun, cRun,go_sem, simprocAttr]) | fail)
 refine AW_block (AW_loop (fun n f H => ∃ k : Nat, n = (wk r m).length - k ∧ k ≤ (wk r m).length ∧ (f 2 = .pim (cRun r) ∧ f 1 = .int .i64 m ∧ f 5 = .lst 1 (ints (natI (wk r m))) ∧ f 8 = .int .i64 k) ∧ ∃ a b e4, f 6 = .int .i64 a ∧ f 7 = .int .i64 b ∧ f 4 = .ptr 4 e4 2 0 0 ∧ H 4 = some (e4, .arr 2 [[.int .i64 0, .int .i64 0]]) ∧
   a = sumLo r m ((wk r m).take k) ∧ b = sumHi r m ((wk r m).take k)) (wk r m).length
  ⟨0, by simp, Nat.zero_le _, by (and_intros <;> first | rfl | (simp only [cRun, go_sem, simprocAttr]; done) | (simp only [cRun, go_sem, simprocAttr]; rfl)), 0, 0, _, by (first | rfl | (simp only [go_sem, simprocAttr]; done) | (simp only [go_sem, simprocAttr]; rfl)), by (first | rfl | (simp only [go_sem, simprocAttr]; done) | (simp only [go_sem, simprocAttr]; rfl)), by (first | rfl | (simp only [go_sem, simprocAttr]; done) | (simp only [go_sem, simprocAttr]; rfl)), by (first | rfl | (simp only [go_sem, simprocAttr]; done) | (simp only [go_sem, simprocAttr]; rfl)), by simp [sumLo], by simp [sumHi]⟩ ?_)
 rintro n f H ⟨k, rfl, hk, ⟨h2, h1, h5, h8⟩, a, b, e4, h6, h7, h4, hH4, ha, hb⟩
 refine AW_keep [4] ?_
 by_cases hlt : k < (wk r m).length
 ·obtain ⟨i, hi⟩ : ∃ i, (wk r m)[k]? = some i := ⟨_, List.getElem?_eq_getElem hlt⟩
  obtain ⟨c, hcc, hw⟩ := wk_mem.1 (List.mem_of_getElem? hi)
  have hil := (List.getElem?_eq_some_iff.1 hcc).1
  have hsb := sum_bounds hF hm hm2 ((wk r m).take k) (fun j hj => List.mem_of_mem_take hj)
  have htb := truth_bounds hF hcc hm hm2 hw
  have htl : ((wk r m).take k).length ≤ 8 := by rw [List.length_take]; omega
  rw [← ha, ← hb] at hsb
  repeat' (first | with_reducible (first | (refine sk ?_; intro K hK) | refine bk ?_ | intro (ep : Nat → Nat) | apply_assumption -exfalso -symm only [*]) | ((first | (with_reducible first | refine rg (h := ?_) | refine nx ?_) | refine pK (rtrue_ok r hF i m c hcc hm hm2 hw) ?_); try simp (disch := omega) only [h1, h2, h4, h5, h6, h7, h8, hH4, hi, cRun, encSpan,go_sem, simprocAttr]) | ((with_reducible refine' cE ?hv ?_ ?_); (case hv => rfl); all_goals (intro hc; (try simp only [go_sem, simprocAttr] at hc); try (exfalso; omega))) | fail)
  refine ⟨(wk r m).length - (k + 1), by omega, k + 1, rfl, by omega, rfl, _, _, _, rfl, rfl, rfl, rfl, ?_, ?_⟩
  ·rw [take_snoc hi, sumLo_append, ← ha]; simp [sumLo, hcc]
  ·rw [take_snoc hi, sumHi_append, ← hb]; simp [sumHi, hcc]
 ·have hsb := sum_bounds hF hm hm2 (wk r m) (fun j hj => hj)
  rw [List.take_of_length_le (by omega)] at ha hb
  rw [← ha, ← hb] at hsb
  obtain ⟨q1, q2, q3⟩ := quo840 hn1 (by omega)
  have hne0 : ¬ ((wk r m).length : Int) = 0 := by omega
  have b1 := mul_bnd (A := 400) (B := 16400) (C := 840) (q := 840 / ((wk r m).length : Int)) (show -400 ≤ a by omega) (by omega) (by omega) (by omega) (by omega) (by omega)
  have b2 := mul_bnd (A := 400) (B := 16400) (C := 840) (q := 840 / ((wk r m).length : Int)) (show -400 ≤ b by omega) (by omega) (by omega) (by omega) (by omega) (by omega)
  repeat' (first | with_reducible (first | (refine sk ?_; intro K hK) | apply_assumption -exfalso -symm only [*]) | ((with_reducible first | refine rg (h := ?_) | refine nx ?_); try simp (disch := omega) only [h1, h2, h4, h5, h6, h7, h8, hH4, hne0, q1, cRun, encSpan, meanS,go_sem, simprocAttr]) | ((with_reducible refine' cE ?hv ?_ ?_); (case hv => rfl); all_goals (intro hc; (try simp only [go_sem, simprocAttr] at hc); try (exfalso; omega))) | ((with_reducible refine fe ?_); refine ⟨_, (by simp only [Tryz.f96, h1, h2, h4, h5, h6, h7, h8, hH4, hne0, q1, cRun, encSpan, meanS,go_sem, simprocAttr]; rfl), ?_⟩; (try simp only [h1, h2, h4, h5, h6, h7, h8, hH4, hne0, q1, cRun, encSpan, meanS,go_sem, simprocAttr, seval])) | fail)
  exact ⟨by rw [ha], by rw [hb]⟩
end Cp
namespace Cp
open Go Go.Proofs
set_option maxRecDepth 10000
theorem great_ok (r : RunT) (u : RulesT) : PureC Tryz.prog 35 [encRun r, encRules u] (.bool (greatS r u)) := by
  refine PureC_of (fn := Tryz.f35) tabOK (by kernel_rfl) rfl (by kernel_rfl) (by simp [Tryz.f35]) (by simp [noids, noid, noidss, go_sem, encRun, cRun, encRules, cRules]) (by first | rfl | simp [noids, noid, noidss, go_sem, encRun, cRun, encRules, cRules]) ?_
  intro X hX0 hXs
  repeat' (first | with_reducible (first | (refine sk ?_; intro K hK) | apply_assumption -exfalso -symm only [*]) | ((with_reducible first | refine rg (h := ?_) | refine nx ?_); try simp (disch := omega) only [encRun, cRun, encRules, cRules,go_sem, simprocAttr]) | ((with_reducible refine' cE ?hv ?_ ?_); (case hv => rfl); all_goals (intro hc; (try simp only [go_sem, simprocAttr] at hc))) | ((with_reducible refine grdS_split ?_ ?_) <;> intro hg <;> (try simp (disch := omega) only [hg, encRun, cRun, encRules, cRules,go_sem, simprocAttr]) <;> (try simp only [go_sem, simprocAttr] at hg) <;> (try (exfalso; omega))) | ((with_reducible refine fe ?_); refine ⟨_, (by simp only [Tryz.f35, encRun, cRun, encRules, cRules,go_sem, simprocAttr]; rfl), ?_⟩; (try simp only [encRun, cRun, encRules, cRules,go_sem, simprocAttr, seval])) | fail)
  iterate 4 (have : 15 < r.curve.length ∨ 12 < r.cpls.length ∨ 80 < r.rows.length ∨ 10 < u.steps.length := by omega
             rw [greatS, decide_eq_true this]; rfl)
  have hg : greatS r u = r.rows.any fun x => decide (15 < x.deg.length) := by rw [greatS, decide_eq_false (by omega)]; rfl
  refine AW_block (AW_loop (fun n f H => ∃ k : Nat, n = r.rows.length - k ∧ k ≤ r.rows.length ∧ (f 2 = .pim (cRun r) ∧ f 5 = .int .i64 k) ∧ greatS r u = (r.rows.drop k).any fun x => decide (15 < x.deg.length)) r.rows.length
    ⟨0, by simp, Nat.zero_le _, by (and_intros <;> first | rfl | (simp only [cRun, go_sem, simprocAttr]; done) | (simp only [cRun, go_sem, simprocAttr]; rfl)), by simpa using hg⟩ ?_)
  rintro n f H ⟨k, rfl, hk, ⟨h2, h5⟩, hr⟩
  by_cases hlt : k < r.rows.length
  · obtain ⟨x, hx⟩ : ∃ x, r.rows[k]? = some x := ⟨_, List.getElem?_eq_getElem hlt⟩
    rw [drop_cons hx, List.any_cons] at hr
    repeat' (first | with_reducible (first | (refine sk ?_; intro K hK) | refine bk ?_ | apply_assumption -exfalso -symm only [*]) | ((with_reducible first | refine rg (h := ?_) | refine nx ?_); try simp (disch := omega) only [h2, h5, hx, cRun, cRow,go_sem, simprocAttr]) | ((with_reducible refine' cE ?hv ?_ ?_); (case hv => rfl); all_goals (intro hc; (try simp only [go_sem, simprocAttr] at hc); try (exfalso; omega))) | ((with_reducible refine fe ?_); refine ⟨_, (by simp only [Tryz.f35, h2, h5, hx, cRun, cRow,go_sem, simprocAttr]; rfl), ?_⟩; (try simp only [h2, h5, hx, cRun, cRow,go_sem, simprocAttr, seval])) | fail)
    · rw [hr, decide_eq_true (by omega)]; rfl
    · refine ⟨r.rows.length - (k + 1), by omega, k + 1, rfl, by omega, rfl, ?_⟩
      rw [hr, decide_eq_false (by omega)]; rfl
  · repeat' (first | with_reducible (first | (refine sk ?_; intro K hK) | apply_assumption -exfalso -symm only [*]) | ((with_reducible first | refine rg (h := ?_) | refine nx ?_); try simp (disch := omega) only [h2, h5, cRun,go_sem, simprocAttr]) | ((with_reducible refine' cE ?hv ?_ ?_); (case hv => rfl); all_goals (intro hc; (try simp only [go_sem, simprocAttr] at hc); try (exfalso; omega))) | ((with_reducible refine fe ?_); refine ⟨_, (by simp only [Tryz.f35, h2, h5, cRun,go_sem, simprocAttr]; rfl), ?_⟩; (try simp only [h2, h5, cRun,go_sem, simprocAttr, seval])) | fail)
    rw [hr, drop_none (by omega)]; rfl
theorem sameRules_ok (a b : RulesT) (ha : a.steps.length ≤ 4611686018427387904) : PureC Tryz.prog 54 [encRules a, encRules b] (.bool (decide (a = b))) := by
  refine PureC_of (fn := Tryz.f54) tabOK (by kernel_rfl) rfl (by kernel_rfl) (by simp [Tryz.f54]) (by simp [noids, noid, noidss, go_sem, encRules, cRules]) (by first | rfl | simp [noids, noid, noidss, go_sem, encRules, cRules]) ?_
  intro X hX0 hXs
  repeat' (first | with_reducible (first | (refine sk ?_; intro K hK) | apply_assumption -exfalso -symm only [*]) | ((with_reducible first | refine rg (h := ?_) | refine nx ?_); try simp (disch := omega) only [encRules, cRules,go_sem, simprocAttr]) | ((with_reducible refine' cE ?hv ?_ ?_); (case hv => rfl); all_goals (intro hc; (try simp only [go_sem, simprocAttr] at hc))) | ((with_reducible refine grdS_split ?_ ?_) <;> intro hg <;> (try simp (disch := omega) only [hg, encRules, cRules,go_sem, simprocAttr]) <;> (try simp only [go_sem, simprocAttr] at hg) <;> (try (exfalso; omega))) | ((with_reducible refine fe ?_); refine ⟨_, (by simp only [Tryz.f54, encRules, cRules,go_sem, simprocAttr]; rfl), ?_⟩; (try simp only [encRules, cRules,go_sem, simprocAttr, seval])) | fail)
  iterate 5 (have : a ≠ b := fun e => by (subst e; simp_all)
             simp [this])
  have hab : a.steps.length = b.steps.length := by omega
  have hd : decide (a = b) = decide (a.steps = b.steps) := dec_congr (by rw [rules_eq]; grind)
  refine AW_block (AW_loop (fun n f H => ∃ k : Nat, n = a.steps.length - k ∧ k ≤ a.steps.length ∧ (f 2 = .pim (cRules a) ∧ f 3 = .pim (cRules b) ∧ f 5 = .int .i64 k) ∧ (decide (a = b) = decide (a.steps.drop k = b.steps.drop k))) a.steps.length
    ⟨0, by simp, Nat.zero_le _, by (and_intros <;> first | rfl | (simp only [cRules, go_sem, simprocAttr]; done) | (simp only [cRules, go_sem, simprocAttr]; rfl)), by simpa using hd⟩ ?_)
  rintro n f H ⟨k, rfl, hk, ⟨h2, h3, h5⟩, hr⟩
  by_cases hlt : k < a.steps.length
  · obtain ⟨x, hx⟩ : ∃ x, a.steps[k]? = some x := ⟨_, List.getElem?_eq_getElem hlt⟩
    obtain ⟨y, hy⟩ : ∃ y, b.steps[k]? = some y := ⟨_, List.getElem?_eq_getElem (by omega)⟩
    repeat' (first | with_reducible (first | (refine sk ?_; intro K hK) | refine bk ?_ | apply_assumption -exfalso -symm only [*]) | ((with_reducible first | refine rg (h := ?_) | refine nx ?_); try simp (disch := omega) only [h2, h3, h5, hx, hy, cRules, cStep,go_sem, simprocAttr]) | ((with_reducible refine' cE ?hv ?_ ?_); (case hv => rfl); all_goals (intro hc; (try simp only [go_sem, simprocAttr] at hc); try (exfalso; omega))) | ((with_reducible refine fe ?_); refine ⟨_, (by simp only [Tryz.f54, h2, h3, h5, hx, hy, cRules, cStep,go_sem, simprocAttr]; rfl), ?_⟩; (try simp only [h2, h3, h5, hx, hy, cRules, cStep,go_sem, simprocAttr, seval])) | fail)
    · rw [hr, drop_cons hx, drop_cons hy]; exact cons_ne fun e => by (rw [step_eq] at e; simp [e] at hc)
    · refine ⟨a.steps.length - (k + 1), by omega, k + 1, rfl, by omega, rfl, ?_⟩
      rw [hr, drop_cons hx, drop_cons hy]; exact cons_same (by rw [step_eq]; simpa using hc)
  · repeat' (first | with_reducible (first | (refine sk ?_; intro K hK) | apply_assumption -exfalso -symm only [*]) | ((with_reducible first | refine rg (h := ?_) | refine nx ?_); try simp (disch := omega) only [h2, h3, h5, cRules,go_sem, simprocAttr]) | ((with_reducible refine' cE ?hv ?_ ?_); (case hv => rfl); all_goals (intro hc; (try simp only [go_sem, simprocAttr] at hc); try (exfalso; omega))) | ((with_reducible refine fe ?_); refine ⟨_, (by simp only [Tryz.f54, h2, h3, h5, cRules,go_sem, simprocAttr]; rfl), ?_⟩; (try simp only [h2, h3, h5, cRules,go_sem, simprocAttr, seval])) | fail)
    rw [hr]; simp [drop_none (show b.steps.length ≤ k by omega), drop_none (show a.steps.length ≤ k by omega)]
end Cp
namespace Cp
open Go Go.Proofs
set_option maxRecDepth 10000
theorem sameInts_ok (a b : List Int) (ha : a.length ≤ 4611686018427387904) : PureC Tryz.prog 74 [.lst 1 (ints a), .lst 1 (ints b)] (.bool (decide (a = b))) := by
 refine PureC_of (fn := Tryz.f74) tabOK (by kernel_rfl) rfl (by kernel_rfl) (by simp [Tryz.f74]) (by simp [noids, noid, noidss, go_sem]) (by first | rfl | simp [noids, noid, noidss, go_sem]) ?_
 intro X hX0 hXs
 repeat' (first | with_reducible (first | (refine sk ?_; intro K hK) | apply_assumption -exfalso -symm only [*]) | ((with_reducible first | refine rg (h := ?_) | refine nx ?_); try simp (disch := omega) only [go_sem, simprocAttr]) | ((with_reducible refine' cE ?hv ?_ ?_); (case hv => rfl); all_goals (intro hc; (try simp only [go_sem, simprocAttr] at hc))) | ((with_reducible refine fe ?_); refine ⟨_, (by simp only [Tryz.f74, go_sem, simprocAttr]; rfl), ?_⟩; (try simp only [go_sem, simprocAttr, seval])) | fail)
 ·have : a ≠ b := fun e => by subst e; omega
  simp [this]
 ·have hab : a.length = b.length := by omega
  refine AW_block (AW_loop (fun n f H => ∃ k : Nat, n = a.length - k ∧ k ≤ a.length ∧ (f 0 = .lst 1 (ints a) ∧ f 1 = .lst 1 (ints b) ∧ f 5 = .int .i64 k ∧ H = none0) ∧ (decide (a = b) = decide (a.drop k = b.drop k))) a.length
   ⟨0, by simp, Nat.zero_le _, by (and_intros <;> first | rfl | (simp only [go_sem, simprocAttr]; done) | (simp only [go_sem, simprocAttr]; rfl)), by simp⟩ ?_)
  rintro n f H ⟨k, rfl, hk, ⟨h0, h1, h5, rfl⟩, hr⟩
  by_cases hlt : k < a.length
  ·obtain ⟨x, hx⟩ : ∃ x, a[k]? = some x := ⟨_, List.getElem?_eq_getElem hlt⟩
   obtain ⟨y, hy⟩ : ∃ y, b[k]? = some y := ⟨_, List.getElem?_eq_getElem (by omega)⟩
   repeat' (first | with_reducible (first | (refine sk ?_; intro K hK) | refine bk ?_ | apply_assumption -exfalso -symm only [*]) | ((with_reducible first | refine rg (h := ?_) | refine nx ?_); try simp (disch := omega) only [h0, h1, h5, hx, hy,go_sem, simprocAttr]) | ((with_reducible refine' cE ?hv ?_ ?_); (case hv => rfl); all_goals (intro hc; (try simp only [go_sem, simprocAttr] at hc); try (exfalso; omega))) | ((with_reducible refine fe ?_); refine ⟨_, (by simp only [Tryz.f74, h0, h1, h5, hx, hy,go_sem, simprocAttr]; rfl), ?_⟩; (try simp only [h0, h1, h5, hx, hy,go_sem, simprocAttr, seval])) | fail)
   ·rw [hr, drop_cons hx, drop_cons hy]; simp [hc]
   ·refine ⟨_, ?_, k + 1, rfl, by omega, by (and_intros <;> first | rfl | (simp only [h0, h1, h5, go_sem, simprocAttr]; done) | (simp only [h0, h1, h5, go_sem, simprocAttr]; rfl)), ?_⟩
    ·omega
    ·rw [hr, drop_cons hx, drop_cons hy]; simp [hc]
  ·repeat' (first | with_reducible (first | (refine sk ?_; intro K hK) | apply_assumption -exfalso -symm only [*]) | ((with_reducible first | refine rg (h := ?_) | refine nx ?_); try simp (disch := omega) only [h0, h1, h5,go_sem, simprocAttr]) | ((with_reducible refine' cE ?hv ?_ ?_); (case hv => rfl); all_goals (intro hc; (try simp only [go_sem, simprocAttr] at hc); try (exfalso; omega))) | ((with_reducible refine fe ?_); refine ⟨_, (by simp only [Tryz.f74, h0, h1, h5,go_sem, simprocAttr]; rfl), ?_⟩; (try simp only [h0, h1, h5,go_sem, simprocAttr, seval])) | fail)
   rw [hr]; simp [List.drop_of_length_le (show b.length ≤ k by omega), List.drop_of_length_le (show a.length ≤ k by omega)]
theorem same_ok (a b : RunT) (ha : RunB a) : PureC Tryz.prog 53 [encRun a, encRun b] (.bool (decide (a = b))) := by
  have hb1 := ha.cpls
  have hb2 := ha.rows
  refine PureC_of (fn := Tryz.f53) tabOK (by kernel_rfl) rfl (by kernel_rfl) (by simp [Tryz.f53]) (by simp [noids, noid, noidss, go_sem, encRun, cRun]) (by first | rfl | simp [noids, noid, noidss, go_sem, encRun, cRun]) ?_
  intro X hX0 hXs
  repeat' (first | with_reducible (first | (refine sk ?_; intro K hK) | apply_assumption -exfalso -symm only [*]) | ((first | (with_reducible first | refine rg (h := ?_) | refine nx ?_) | refine pK (samePoints_ok a.curve b.curve ha.curve) ?_); try simp (disch := omega) only [encRun, cRun,go_sem, simprocAttr]) | ((with_reducible refine' cE ?hv ?_ ?_); (case hv => rfl); all_goals (intro hc; (try simp only [go_sem, simprocAttr] at hc))) | ((with_reducible refine grdS_split ?_ ?_) <;> intro hg <;> (try simp (disch := omega) only [hg, encRun, cRun,go_sem, simprocAttr]) <;> (try simp only [go_sem, simprocAttr] at hg) <;> (try (exfalso; omega))) | ((with_reducible refine fe ?_); refine ⟨_, (by simp only [Tryz.f53, encRun, cRun,go_sem, simprocAttr]; rfl), ?_⟩; (try simp only [encRun, cRun,go_sem, simprocAttr, seval])) | fail)
  iterate 5 (have : a ≠ b := fun e => by (subst e; simp_all)
             simp [this])
  have hab : a.cpls.length = b.cpls.length := by omega
  have hab2 : a.rows.length = b.rows.length := by omega
  have hd : decide (a = b) = (decide (a.cpls = b.cpls) && decide (a.rows = b.rows)) := by rw [← Bool.decide_and]; exact dec_congr (by rw [run_eq]; grind)
  refine AW_block (AW_loop (fun n f H => ∃ k : Nat, n = a.cpls.length - k ∧ k ≤ a.cpls.length ∧ (f 2 = .pim (cRun a) ∧ f 3 = .pim (cRun b) ∧ f 5 = .int .i64 k) ∧ (decide (a.cpls = b.cpls) = decide (a.cpls.drop k = b.cpls.drop k))) a.cpls.length
    ⟨0, by simp, Nat.zero_le _, by (and_intros <;> first | rfl | (simp only [cRun, go_sem, simprocAttr]; done) | (simp only [cRun, go_sem, simprocAttr]; rfl)), by simp⟩ ?_)
  rintro n f H ⟨k, rfl, hk, ⟨h2, h3, h5⟩, hr⟩
  by_cases hlt : k < a.cpls.length
  · obtain ⟨x, hx⟩ : ∃ x, a.cpls[k]? = some x := ⟨_, List.getElem?_eq_getElem hlt⟩
    obtain ⟨y, hy⟩ : ∃ y, b.cpls[k]? = some y := ⟨_, List.getElem?_eq_getElem (by omega)⟩
    repeat' (first | with_reducible (first | (refine sk ?_; intro K hK) | refine bk ?_ | apply_assumption -exfalso -symm only [*]) | ((with_reducible first | refine rg (h := ?_) | refine nx ?_); try simp (disch := omega) only [h2, h3, h5, hx, hy, cRun, cCpl,go_sem, simprocAttr]) | ((with_reducible refine' cE ?hv ?_ ?_); (case hv => rfl); all_goals (intro hc; (try simp only [go_sem, simprocAttr] at hc); try (exfalso; omega))) | ((with_reducible refine fe ?_); refine ⟨_, (by simp only [Tryz.f53, h2, h3, h5, hx, hy, cRun, cCpl,go_sem, simprocAttr]; rfl), ?_⟩; (try simp only [h2, h3, h5, hx, hy, cRun, cCpl,go_sem, simprocAttr, seval])) | fail)
    · have : decide (a.cpls = b.cpls) = false := by rw [hr, drop_cons hx, drop_cons hy]; exact (cons_ne fun e => by (rw [cpl_eq] at e; simp [e] at hc)).symm
      rw [hd, this]; rfl
    · refine ⟨a.cpls.length - (k + 1), by omega, k + 1, rfl, by omega, rfl, ?_⟩
      rw [hr, drop_cons hx, drop_cons hy]; exact cons_same (by rw [cpl_eq]; simp at hc; simp [hc])
  · have hcp : decide (a.cpls = b.cpls) = true := by rw [hr]; simp [drop_none (show b.cpls.length ≤ k by omega), drop_none (show a.cpls.length ≤ k by omega)]
    rw [hcp, Bool.true_and] at hd
    repeat' (first | with_reducible (first | (refine sk ?_; intro K hK) | apply_assumption -exfalso -symm only [*]) | ((with_reducible first | refine rg (h := ?_) | refine nx ?_); try simp (disch := omega) only [h2, h3, h5, cRun,go_sem, simprocAttr]) | ((with_reducible refine' cE ?hv ?_ ?_); (case hv => rfl); all_goals (intro hc; (try simp only [go_sem, simprocAttr] at hc); try (exfalso; omega))) | fail)
    refine AW_block (AW_loop (fun n f H => ∃ k : Nat, n = a.rows.length - k ∧ k ≤ a.rows.length ∧ (f 2 = .pim (cRun a) ∧ f 3 = .pim (cRun b) ∧ f 6 = .int .i64 k) ∧ (decide (a.rows = b.rows) = decide (a.rows.drop k = b.rows.drop k))) a.rows.length
      ⟨0, by simp, Nat.zero_le _, by (and_intros <;> first | rfl | (simp only [cRun, h2, h3, go_sem, simprocAttr]; done) | (simp only [cRun, h2, h3, go_sem, simprocAttr]; rfl)), by simp⟩ ?_)
    rintro n f H ⟨k, rfl, hk, ⟨h2, h3, h6⟩, hr⟩
    by_cases hlt : k < a.rows.length
    · obtain ⟨x, hx⟩ : ∃ x, a.rows[k]? = some x := ⟨_, List.getElem?_eq_getElem hlt⟩
      obtain ⟨y, hy⟩ : ∃ y, b.rows[k]? = some y := ⟨_, List.getElem?_eq_getElem (by omega)⟩
      repeat' (first | with_reducible (first | (refine sk ?_; intro K hK) | refine bk ?_ | apply_assumption -exfalso -symm only [*]) | ((first | (with_reducible first | refine rg (h := ?_) | refine nx ?_) | refine pK (sameInts_ok x.deg y.deg (ha.degs x (List.mem_of_getElem? hx))) ?_); try simp (disch := omega) only [h2, h3, h6, hx, hy, cRun, cRow,go_sem, simprocAttr]) | ((with_reducible refine' cE ?hv ?_ ?_); (case hv => rfl); all_goals (intro hc; (try simp only [go_sem, simprocAttr] at hc); try (exfalso; omega))) | ((with_reducible refine grdS_split ?_ ?_) <;> intro hg <;> (try simp (disch := omega) only [hg, h2, h3, h6, hx, hy, cRun, cRow,go_sem, simprocAttr]) <;> (try simp only [go_sem, simprocAttr] at hg) <;> (try (exfalso; omega))) | ((with_reducible refine fe ?_); refine ⟨_, (by simp only [Tryz.f53, h2, h3, h6, hx, hy, cRun, cRow,go_sem, simprocAttr]; rfl), ?_⟩; (try simp only [h2, h3, h6, hx, hy, cRun, cRow,go_sem, simprocAttr, seval])) | fail)
      · have : decide (a.rows = b.rows) = false := by rw [hr, drop_cons hx, drop_cons hy]; exact (cons_ne fun e => by (subst e; simp_all)).symm
        rw [hd, this]
      · have : decide (a.rows = b.rows) = false := by rw [hr, drop_cons hx, drop_cons hy]; exact (cons_ne fun e => by (subst e; simp_all)).symm
        rw [hd, this]
      · refine ⟨a.rows.length - (k + 1), by omega, k + 1, rfl, by omega, rfl, ?_⟩
        rw [hr, drop_cons hx, drop_cons hy]; exact cons_same (by rw [row_eq]; simp_all)
    · repeat' (first | with_reducible (first | (refine sk ?_; intro K hK) | apply_assumption -exfalso -symm only [*]) | ((with_reducible first | refine rg (h := ?_) | refine nx ?_); try simp (disch := omega) only [h2, h3, h6, cRun,go_sem, simprocAttr]) | ((with_reducible refine' cE ?hv ?_ ?_); (case hv => rfl); all_goals (intro hc; (try simp only [go_sem, simprocAttr] at hc); try (exfalso; omega))) | ((with_reducible refine fe ?_); refine ⟨_, (by simp only [Tryz.f53, h2, h3, h6, cRun,go_sem, simprocAttr]; rfl), ?_⟩; (try simp only [h2, h3, h6, cRun,go_sem, simprocAttr, seval])) | fail)
      rw [hd, hr]; simp [drop_none (show b.rows.length ≤ k by omega), drop_none (show a.rows.length ≤ k by omega)]
theorem twinRules_ok (u : RulesT) (hu : u.steps.length ≤ 1073741824) : PureC Tryz.prog 37 [encRules u] (encRules u) := by
 refine PureC_of (fn := Tryz.f37) tabOK (by kernel_rfl) rfl (by kernel_rfl) (by simp [Tryz.f37]) (by simp [noids, noid, noidss, go_sem, encRules, cRules]) (by first | rfl | simp [noids, noid, noidss, go_sem, encRules, cRules]) ?_
 intro X hX0 hXs
 repeat' (first | with_reducible (first | (refine sk ?_; intro K hK) | intro (ep : Nat → Nat) | apply_assumption -exfalso -symm only [*]) | ((with_reducible first | refine rg (md := { base := 0, own := [1] }) (h := ?_) | refine nx ?_); try simp (disch := omega) only [encRules, cRules, hu,go_sem, simprocAttr]) | ((with_reducible refine fe ?_); refine ⟨_, (by simp only [Tryz.f37, encRules, cRules, hu,go_sem, simprocAttr]; rfl), ?_⟩; (try simp only [encRules, cRules, hu,go_sem, simprocAttr, seval])) | fail)
theorem twin_ok (r : RunT) (hr : RunSm r) : PureC Tryz.prog 36 [encRun r] (encRun r) := by
 have hb := hr.b
 have hb1 : r.curve.length ≤ 1073741824 := by have := hr.curve; omega
 have hb2 : r.cpls.length ≤ 1073741824 := by have := hr.cpls; omega
 have hb3 : r.rows.length ≤ 1073741824 := by have := hr.rows; omega
 refine PureC_of (fn := Tryz.f36) tabOK (by kernel_rfl) rfl (by kernel_rfl) (by simp [Tryz.f36]) (by simp [noids, noid, noidss, go_sem, encRun, cRun]) (by first | rfl | simp [noids, noid, noidss, go_sem, encRun, cRun]) ?_
 intro X hX0 hXs
 by_cases hne : r.rows.length = 0
 ·have hnil : r.rows = [] := List.eq_nil_of_length_eq_zero hne
  repeat' (first | with_reducible (first | (refine sk ?_; intro K hK) | intro (ep : Nat → Nat) | apply_assumption -exfalso -symm only [*]) | ((with_reducible refine rg (md := { base := 0, own := [1] }) (h := ?_)); try simp (disch := omega) only [encRun, cRun, hb1, hb2, hnil,go_sem, simprocAttr]) | fail)
  refine AW_block (AW_loop (fun n f H => (f 3 = .int .i64 0) ∧ ∃ e1 e2 x, f 1 = .ptr 1 e1 6 0 0 ∧ H 1 = some (e1, .arr 6 [[.int .i64 r.id, .lst 2 (r.curve.map cPt), .lst 6 (r.cpls.map cCpl), .lst 2 [], .int .i64 r.gauge.lo, .int .i64 r.gauge.hi]]) ∧ f 2 = .ptr 2 e2 6 0 0 ∧ H 2 = some (e2, .arr 6 [x]) ∧ x.length = 6) 0
   ⟨by (first | rfl | (simp only [go_sem, simprocAttr]; done) | (simp only [go_sem, simprocAttr]; rfl)), _, _, _, by (first | rfl | (simp only [go_sem, simprocAttr]; done) | (simp only [go_sem, simprocAttr]; rfl)), by (first | rfl | (simp only [go_sem, simprocAttr]; done) | (simp only [go_sem, simprocAttr]; rfl)), by (first | rfl | (simp only [go_sem, simprocAttr]; done) | (simp only [go_sem, simprocAttr]; rfl)), by (first | rfl | (simp only [go_sem, simprocAttr]; done) | (simp only [go_sem, simprocAttr]; rfl)), rfl⟩ ?_)
  rintro n f H ⟨h3, e1, e2, x, h1, hH1, h2, hH2, hx⟩
  match x, hx with
  | [x0, x1, x2, x3, x4, x5], _ =>
  repeat' (first | with_reducible (first | (refine sk ?_; intro K hK) | apply_assumption -exfalso -symm only [*]) | ((with_reducible first | refine rg (md := { base := 0, own := [1] }) (h := ?_) | refine nx ?_); try simp (disch := omega) only [h1, h2, h3, hH1, hH2, hnil, encRun, cRun,go_sem, simprocAttr]) | ((with_reducible refine' cE ?hv ?_ ?_); (case hv => rfl); all_goals (intro hc; (try simp only [go_sem, simprocAttr] at hc))) | ((with_reducible refine fe ?_); refine ⟨_, (by simp only [Tryz.f36, h1, h2, h3, hH1, hH2, hnil, encRun, cRun,go_sem, simprocAttr]; rfl), ?_⟩; (try simp only [h1, h2, h3, hH1, hH2, hnil, encRun, cRun,go_sem, simprocAttr, seval])) | fail)
 ·have hpos : 0 < r.rows.length := by omega
  repeat' (first | with_reducible (first | (refine sk ?_; intro K hK) | intro (ep : Nat → Nat) | apply_assumption -exfalso -symm only [*]) | ((with_reducible refine rg (md := { base := 0, own := [1, 17] }) (h := ?_)); try simp (disch := omega) only [encRun, cRun, hb1, hb2, hb3, hne,go_sem, simprocAttr]) | fail)
  refine AW_block (AW_loop (fun n f H => ∃ k : Nat, n = r.rows.length - k ∧ k ≤ r.rows.length ∧ (f 3 = .int .i64 k) ∧ ∃ e1 e2 e17 x, f 1 = .ptr 1 e1 6 0 0 ∧ H 1 = some (e1, .arr 6 [[.int .i64 r.id, .lst 2 (r.curve.map cPt), .lst 6 (r.cpls.map cCpl), .gr 17 e17 r.rows.length, .int .i64 r.gauge.lo, .int .i64 r.gauge.hi]]) ∧ f 2 = .ptr 2 e2 6 0 0 ∧ H 2 = some (e2, .arr 6 [x]) ∧ x.length = 6 ∧ H 17 = some (e17, .arr 2 (r.rows.map cRow))) r.rows.length
   ⟨0, by simp, Nat.zero_le _, by (first | rfl | (simp only [go_sem, simprocAttr]; done) | (simp only [go_sem, simprocAttr]; rfl)), _, _, _, _, by (first | rfl | (simp only [go_sem, simprocAttr]; done) | (simp only [go_sem, simprocAttr]; rfl)), by (first | rfl | (simp only [go_sem, simprocAttr]; done) | (simp only [go_sem, simprocAttr]; rfl)), by (first | rfl | (simp only [go_sem, simprocAttr]; done) | (simp only [go_sem, simprocAttr]; rfl)), by (first | rfl | (simp only [go_sem, simprocAttr]; done) | (simp only [go_sem, simprocAttr]; rfl)), rfl, by (first | rfl | (simp only [go_sem, simprocAttr]; done) | (simp only [go_sem, simprocAttr]; rfl))⟩ ?_)
  rintro n f H ⟨k, rfl, hk, h3, e1, e2, e17, x, h1, hH1, h2, hH2, hx, hH17⟩
  match x, hx with
  | [x0, x1, x2, x3, x4, x5], _ =>
  by_cases hlt : k < r.rows.length
  ·obtain ⟨y, hy⟩ : ∃ y, r.rows[k]? = some y := ⟨_, List.getElem?_eq_getElem hlt⟩
   have hyd : y.deg.length ≤ 1073741824 := by have := hr.degs y (List.mem_of_getElem? hy); omega
   have hset := map_set_self (g := cRow) hy
   simp only [cRow] at hset
   repeat' (first | with_reducible (first | (refine sk ?_; intro K hK) | refine bk ?_ | apply_assumption -exfalso -symm only [*]) | ((with_reducible first | refine rg (md := { base := 0, own := [1, 17] }) (h := ?_) | refine nx ?_); try simp (disch := omega) only [h1, h2, h3, hH1, hH2, hH17, hy, hyd, hlt, cRow,go_sem, simprocAttr]) | ((with_reducible refine' cE ?hv ?_ ?_); (case hv => rfl); all_goals (intro hc; (try simp only [go_sem, simprocAttr] at hc); try (exfalso; omega))) | fail)
   exact ⟨r.rows.length - (k + 1), by omega, k + 1, rfl, by omega, rfl, _, _, _, _, rfl, rfl, rfl, rfl, rfl, by rw [hset]⟩
  ·repeat' (first | with_reducible (first | (refine sk ?_; intro K hK) | apply_assumption -exfalso -symm only [*]) | ((with_reducible first | refine rg (md := { base := 0, own := [1, 17] }) (h := ?_) | refine nx ?_); try simp (disch := omega) only [h1, h2, h3, hH1, hH2, hH17,go_sem, simprocAttr]) | ((with_reducible refine' cE ?hv ?_ ?_); (case hv => rfl); all_goals (intro hc; (try simp only [go_sem, simprocAttr] at hc); try (exfalso; omega))) | fail)
   refine FnP_frz 17 (Or.inl rfl) (by simp only [go_sem, simprocAttr, hH17]; rfl) ⟨_, (by simp only [Tryz.f36, go_sem, simprocAttr, h1, h2, hH1, hH2]; rfl), ?_⟩
   simp only [go_sem, simprocAttr, encRun, cRun]
end Cp
namespace Cp
open Go
structure NoteT where
 sec : Int
 kind : Int
 val : Int
 off : Span
 deriving DecidableEq
structure TestT where
 id : Int
 run : RunT
 rules : RulesT
 clock : Span
 fin : Int
 l0 : Int
 l1 : Int
 l2 : Int
 l3 : Int
 l4 : Int
 l5 : Int
 notes : List NoteT
 deriving DecidableEq
structure FailT where
 held : Int
 at1 : Span
 deriving DecidableEq
def cNote (n : NoteT) : List Val := [.int .i64 n.sec, .int .u8 n.kind, .int .i64 n.val, .int .i64 n.off.lo, .int .i64 n.off.hi]
def cTest (t : TestT) : List Val := [.int .i64 t.id, .int .i64 t.run.id, .lst 2 (t.run.curve.map cPt), .lst 6 (t.run.cpls.map cCpl), .lst 2 (t.run.rows.map cRow), .int .i64 t.run.gauge.lo, .int .i64 t.run.gauge.hi,
 .lst 2 (t.rules.steps.map cStep), .int .i64 t.rules.single, .int .i64 t.rules.sfrom, .int .i64 t.rules.press.lo, .int .i64 t.rules.press.hi, .int .i64 t.rules.pfrom, .int .i64 t.clock.lo, .int .i64 t.clock.hi, .int .i64 t.fin,
 .int .i64 t.l0, .int .i64 t.l1, .int .i64 t.l2, .int .i64 t.l3, .int .i64 t.l4, .int .i64 t.l5, .lst 5 (t.notes.map cNote)]
def encTest (t : TestT) : Val := .agg (cTest t)
def encNote (n : NoteT) : Val := .agg (cNote n)
def cFail (f : FailT) : List Val := [.int .u8 f.held, .int .i64 f.at1.lo, .int .i64 f.at1.hi]
def encFail (f : FailT) : Val := .agg (cFail f)
@[go_sem] theorem cNote_noid {l : List NoteT} : noidss (l.map cNote) = true := noidss_map fun _ => rfl
@[go_sem] theorem fzd_cNote {H : Hp} {n : Nat} {l : List NoteT} : ((l.map cNote).map fun es => es.map (fzd H (n + 1))) = l.map cNote := map_id2 (fun _ => rfl) l
def limC (t : TestT) : Nat → Int
 | 0 => t.l0
 | 1 => t.l1
 | 2 => t.l2
 | 3 => t.l3
 | 4 => t.l4
 | 5 => t.l5
 | _ => 0
def offOK (s : Span) : Bool := decide (-200 ≤ s.lo ∧ s.lo ≤ s.hi ∧ s.hi ≤ 200)
def noteOK (last fin : Int) (n : NoteT) : Bool := decide ((last ≤ n.sec ∧ n.sec ≤ fin) ∧ (1 ≤ n.kind ∧ n.kind ≤ 6) ∧ 0 ≤ n.val ∧ n.val ≤ 10000) && offOK n.off
def notesFrom (fin : Int) : Int → List NoteT → Bool
 | _, [] => true
 | last, n :: l => noteOK last fin n && notesFrom fin n.sec l
def headT (t : TestT) : Bool := decide ((0 ≤ t.id ∧ t.id ≤ 9999) ∧ (-120 ≤ t.clock.lo ∧ t.clock.lo ≤ t.clock.hi ∧ t.clock.hi ≤ 120) ∧ (1 ≤ t.fin ∧ t.fin ≤ 60 * (t.run.rows.length : Int)) ∧
 ((0 ≤ t.l0 ∧ t.l0 ≤ 10000) ∧ (0 ≤ t.l1 ∧ t.l1 ≤ 10000) ∧ (0 ≤ t.l2 ∧ t.l2 ≤ 10000) ∧ (0 ≤ t.l3 ∧ t.l3 ≤ 10000) ∧ (0 ≤ t.l4 ∧ t.l4 ≤ 10000) ∧ (0 ≤ t.l5 ∧ t.l5 ≤ 10000)) ∧ t.notes.length ≤ 60)
def testOK (t : TestT) : Bool := headT t && notesFrom t.fin 0 t.notes
def shHold (t : TestT) (c : Nat) (n : NoteT) : Bool := decide (n.kind = ((c + 1 : Nat) : Int)) && decide (n.val - n.off.lo ≤ limC t c)
def shFail (t : TestT) (c : Nat) (n : NoteT) : Bool := decide (n.kind = ((c + 1 : Nat) : Int)) && decide (limC t c < n.val - n.off.hi)
def goodL (t : TestT) (c : Nat) : List NoteT → Option Int → Option Int
 | [], a => a
 | n :: l, a => goodL t c l (if shHold t c n = true then some n.sec else a)
def badL (t : TestT) (c : Nat) (l : List NoteT) : Option Int := (l.find? (shFail t c)).map (·.sec)
def goodC (t : TestT) (c : Nat) : Option Int := goodL t c t.notes none
def badC (t : TestT) (c : Nat) : Option Int := badL t c t.notes
def twistC (t : TestT) (c : Nat) : Bool := match goodC t c, badC t c with | some g, some b => decide (b ≤ g) | _, _ => false
def frC (t : TestT) (c : Nat) : Int := match goodC t c with | some g => g + 1 | none => 0
def toC (t : TestT) (c : Nat) : Int := match badC t c with | some b => b | none => t.fin
def failC (t : TestT) (c : Nat) : FailT := if toC t c < frC t c then ⟨2, ⟨0, 0⟩⟩ else ⟨if (badC t c).isSome = true then 0 else 1, ⟨frC t c - t.clock.hi, toC t c - t.clock.lo⟩⟩
end Cp
namespace Cp
open Go
def secStep (t : TestT) (c : Nat) (s : Int × Int × Bool) (n : NoteT) : Int × Int × Bool :=
 (if shHold t c n = true then max s.1 (n.sec + 1) else s.1, if shFail t c n = true then min s.2.1 n.sec else s.2.1, s.2.2 || shFail t c n)
def frO (a : Option Int) : Int := match a with | some g => g + 1 | none => 0
theorem noteOK_sec {last fin : Int} {n : NoteT} (h : noteOK last fin n = true) : last ≤ n.sec ∧ n.sec ≤ fin := by
 simp only [noteOK, Bool.and_eq_true, decide_eq_true_eq] at h
 exact h.1.1
theorem secs_fst {t : TestT} {c : Nat} {fin : Int} : ∀ {l : List NoteT} {last : Int} {a : Option Int} {s : Int × Int × Bool}, notesFrom fin last l = true → (∀ g, a = some g → g ≤ last) → 0 ≤ last → s.1 = frO a → (l.foldl (secStep t c) s).1 = frO (goodL t c l a)
 | [], _, _, _, _, _, _, h => h
 | n :: l, last, a, s, hn, ha, h0, h => by
  simp only [notesFrom, Bool.and_eq_true] at hn
  have hs := (noteOK_sec hn.1).1
  rw [List.foldl_cons]
  simp only [goodL]
  refine secs_fst hn.2 (fun g hg => ?_) (by omega) ?_
  ·split at hg
   ·cases hg; exact Int.le_refl _
   ·have := ha g hg; omega
  ·simp only [secStep]
   split
   ·rw [h]
    cases a with
    | none => simp only [frO]; omega
    | some g => have := ha g rfl; simp only [frO]; omega
   ·exact h
theorem secs_done {t : TestT} {c : Nat} {fin : Int} : ∀ {l : List NoteT} {last b : Int} {s : Int × Int × Bool}, notesFrom fin last l = true → s.2 = (b, true) → b ≤ last → (l.foldl (secStep t c) s).2 = (b, true)
 | [], _, _, _, _, h, _ => h
 | n :: l, last, b, s, hn, h, hb => by
  simp only [notesFrom, Bool.and_eq_true] at hn
  have hs := (noteOK_sec hn.1).1
  rw [List.foldl_cons]
  refine secs_done hn.2 ?_ (show b ≤ n.sec by omega)
  simp only [secStep, h, Bool.true_or, Prod.mk.injEq, and_true]
  split
  ·omega
  ·rfl
theorem secs_snd {t : TestT} {c : Nat} {fin : Int} : ∀ {l : List NoteT} {last : Int} {s : Int × Int × Bool}, notesFrom fin last l = true → s.2 = (fin, false) → (l.foldl (secStep t c) s).2 = (match badL t c l with | some b => (b, true) | none => (fin, false))
 | [], _, _, _, h => h
 | n :: l, last, s, hn, h => by
  simp only [notesFrom, Bool.and_eq_true] at hn
  have hs := noteOK_sec hn.1
  rw [List.foldl_cons]
  unfold badL
  rw [List.find?_cons]
  cases hf : shFail t c n with
  | true =>
   simp only [Option.map_some]
   refine secs_done (b := n.sec) hn.2 ?_ (Int.le_refl _)
   simp only [secStep, h, hf, if_true, Bool.or_true, Prod.mk.injEq, and_true]
   omega
  | false =>
   refine secs_snd hn.2 ?_
   simp only [secStep, h, hf, Bool.false_eq_true, if_false, Bool.or_false]
theorem secs_all {t : TestT} (c : Nat) (h : notesFrom t.fin 0 t.notes = true) : t.notes.foldl (secStep t c) (0, t.fin, false) = (frC t c, toC t c, (badC t c).isSome) := by
 have h1 := secs_fst (t := t) (c := c) (a := none) (s := (0, t.fin, false)) h (fun g hg => by cases hg) (Int.le_refl _) rfl
 have h2 := secs_snd (t := t) (c := c) (s := (0, t.fin, false)) h rfl
 have e1 : frO (goodL t c t.notes none) = frC t c := rfl
 rw [e1] at h1
 have e2 : badL t c t.notes = badC t c := rfl
 rw [e2] at h2
 refine Prod.ext h1 ?_
 rw [h2]
 unfold toC
 cases badC t c <;> rfl
theorem twist_eq {t : TestT} (c : Nat) (h : notesFrom t.fin 0 t.notes = true) : twistC t c = ((badC t c).isSome && decide (toC t c < frC t c)) := by
 have hb : ∀ b, badC t c = some b → 0 ≤ b := fun b hb => by
  have gen : ∀ {l : List NoteT} {last : Int}, notesFrom t.fin last l = true → 0 ≤ last → ∀ b, badL t c l = some b → 0 ≤ b := by
   intro l
   induction l with
   | nil => intro last _ _ b hb; simp [badL] at hb
   | cons n l ih =>
    intro last hn h0 b hb
    simp only [notesFrom, Bool.and_eq_true] at hn
    have hs := (noteOK_sec hn.1).1
    unfold badL at hb
    rw [List.find?_cons] at hb
    split at hb
    ·simp at hb; omega
    ·exact ih hn.2 (by omega) b hb
  exact gen h (Int.le_refl _) b hb
 unfold twistC toC frC
 cases hg : goodC t c with
 | none =>
  cases hc : badC t c with
  | none => rfl
  | some b => have := hb b hc; simp; omega
 | some g =>
  cases hc : badC t c with
  | none => rfl
  | some b =>
   simp only [Option.isSome_some, Bool.true_and]
   have : (b ≤ g) ↔ b < g + 1 := by omega
   simp only [this]
end Cp
namespace Cp
open Go Go.Proofs
set_option maxRecDepth 10000
set_option maxHeartbeats 1000000
theorem cin1_ok (lo hi n : Int) : PureC Tryz.prog 91 [.int .i64 n, .pim [.int .i64 lo], .pim [.int .i64 hi]] (.bool (!decide (lo ≤ n ∧ n ≤ hi))) := by
 refine PureC_of (fn := Tryz.f91) tabOK (by kernel_rfl) rfl (by kernel_rfl) (by simp [Tryz.f91]) (by simp [noids, noid, noidss, go_sem]) (by first | rfl | simp [noids, noid, noidss, go_sem]) ?_
 intro X hX0 hXs
 repeat' (first | with_reducible (first | (refine sk ?_; intro K hK) | apply_assumption -exfalso -symm only [*]) | ((with_reducible first | refine rg (h := ?_) | refine nx ?_); try simp (disch := omega) only [go_sem, simprocAttr]) | ((with_reducible refine grdS_split ?_ ?_) <;> intro hg <;> (try simp (disch := omega) only [hg, go_sem, simprocAttr]) <;> (try simp only [go_sem, simprocAttr] at hg) <;> (try (exfalso; omega))) | ((with_reducible refine fe ?_); refine ⟨_, (by simp only [Tryz.f91, go_sem, simprocAttr]; rfl), ?_⟩; (try simp only [go_sem, simprocAttr, seval])) | fail)
 ·simp; omega
 ·rw [Bool.eq_iff_iff]; simp; omega
theorem cin_ok (xs : List Int) (hx : xs.length ≤ 4611686018427387904) (lo hi : Int) : PureC Tryz.prog 65 [.int .i64 lo, .int .i64 hi, .lst 1 (ints xs)] (.bool (xs.all fun n => decide (lo ≤ n ∧ n ≤ hi))) := by
 refine PureC_of (fn := Tryz.f65) tabOK (by kernel_rfl) rfl (by kernel_rfl) (by simp [Tryz.f65]) (by simp [noids, noid, noidss, go_sem]) (by first | rfl | simp [noids, noid, noidss, go_sem]) ?_
 intro X hX0 hXs
 repeat' (first | with_reducible (first | (refine sk ?_; intro K hK) | apply_assumption -exfalso -symm only [*]) | ((first | (with_reducible first | refine rg (h := ?_) | refine nx ?_) | refine pK (containsInt_ok xs hx _ _ (by rfl) (fun n => !decide (lo ≤ n ∧ n ≤ hi)) (fun n _ => cin1_ok lo hi n)) ?_); try simp (disch := omega) only [go_sem, simprocAttr]) | ((with_reducible refine fe ?_); refine ⟨_, (by simp only [Tryz.f65, go_sem, simprocAttr]; rfl), ?_⟩; (try simp only [go_sem, simprocAttr, seval])) | fail)
 simp [List.all_eq_not_any_not]
theorem cin_1 (lo hi a : Int) : PureC Tryz.prog 65 [.int .i64 lo, .int .i64 hi, .lst 1 [[.int .i64 a]]] (.bool (decide (lo ≤ a ∧ a ≤ hi))) := by
 have := cin_ok [a] (by simp) lo hi
 simpa [ints] using this
theorem cin_2 (lo hi a b : Int) : PureC Tryz.prog 65 [.int .i64 lo, .int .i64 hi, .lst 1 [[.int .i64 a], [.int .i64 b]]] (.bool (decide ((lo ≤ a ∧ a ≤ hi) ∧ lo ≤ b ∧ b ≤ hi))) := by
 have := cin_ok [a, b] (by simp) lo hi
 simpa [ints] using this
theorem cin_6 (lo hi a b c d e g : Int) : PureC Tryz.prog 65 [.int .i64 lo, .int .i64 hi, .lst 1 [[.int .i64 a], [.int .i64 b], [.int .i64 c], [.int .i64 d], [.int .i64 e], [.int .i64 g]]] (.bool (decide ((lo ≤ a ∧ a ≤ hi) ∧ (lo ≤ b ∧ b ≤ hi) ∧ (lo ≤ c ∧ c ≤ hi) ∧ (lo ≤ d ∧ d ≤ hi) ∧ (lo ≤ e ∧ e ≤ hi) ∧ lo ≤ g ∧ g ≤ hi))) := by
 have := cin_ok [a, b, c, d, e, g] (by simp) lo hi
 simpa [ints] using this
theorem cordered_ok (s : Span) (lo hi : Int) : PureC Tryz.prog 89 [.int .i64 lo, .int .i64 hi, encSpan s] (.bool (decide (lo ≤ s.lo ∧ s.lo ≤ s.hi ∧ s.hi ≤ hi))) := by
 refine PureC_of (fn := Tryz.f89) tabOK (by kernel_rfl) rfl (by kernel_rfl) (by simp [Tryz.f89]) (by simp [noids, noid, noidss, go_sem, encSpan]) (by first | rfl | simp [noids, noid, noidss, go_sem, encSpan]) ?_
 intro X hX0 hXs
 repeat' (first | with_reducible (first | (refine sk ?_; intro K hK) | apply_assumption -exfalso -symm only [*]) | ((first | (with_reducible first | refine rg (h := ?_) | refine nx ?_) | refine pK (cin_2 _ _ _ _) ?_); try simp (disch := omega) only [encSpan,go_sem, simprocAttr]) | ((with_reducible refine grdS_split ?_ ?_) <;> intro hg <;> (try simp (disch := omega) only [hg, encSpan,go_sem, simprocAttr]) <;> (try simp only [go_sem, simprocAttr] at hg) <;> (try (exfalso; omega))) | ((with_reducible refine fe ?_); refine ⟨_, (by simp only [Tryz.f89, encSpan,go_sem, simprocAttr]; rfl), ?_⟩; (try simp only [encSpan,go_sem, simprocAttr, seval])) | fail)
 all_goals (rw [Bool.eq_iff_iff]; simp; omega)
theorem shows1_ok (n : NoteT) (lim : Int) (h : (0 ≤ n.val ∧ n.val ≤ 10000) ∧ -200 ≤ n.off.lo ∧ n.off.lo ≤ n.off.hi ∧ n.off.hi ≤ 200) : PureC Tryz.prog 160 [encNote n, .int .i64 lim] (.bool (decide (n.val - n.off.lo ≤ lim))) := by
 refine PureC_of (fn := Tryz.f160) tabOK (by kernel_rfl) rfl (by kernel_rfl) (by simp [Tryz.f160]) (by simp [noids, noid, noidss, go_sem, encNote, cNote]) (by first | rfl | simp [noids, noid, noidss, go_sem, encNote, cNote]) ?_
 intro X hX0 hXs
 repeat' (first | with_reducible (first | (refine sk ?_; intro K hK) | apply_assumption -exfalso -symm only [*]) | ((with_reducible first | refine rg (h := ?_) | refine nx ?_); try simp (disch := omega) only [encNote, cNote,go_sem, simprocAttr]) | ((with_reducible refine fe ?_); refine ⟨_, (by simp only [Tryz.f160, encNote, cNote,go_sem, simprocAttr]; rfl), ?_⟩; rfl) | fail)
theorem shows2_ok (n : NoteT) (lim : Int) (h : (0 ≤ n.val ∧ n.val ≤ 10000) ∧ -200 ≤ n.off.lo ∧ n.off.lo ≤ n.off.hi ∧ n.off.hi ≤ 200) : PureC Tryz.prog 161 [encNote n, .int .i64 lim] (.bool (decide (lim < n.val - n.off.hi))) := by
 refine PureC_of (fn := Tryz.f161) tabOK (by kernel_rfl) rfl (by kernel_rfl) (by simp [Tryz.f161]) (by simp [noids, noid, noidss, go_sem, encNote, cNote]) (by first | rfl | simp [noids, noid, noidss, go_sem, encNote, cNote]) ?_
 intro X hX0 hXs
 repeat' (first | with_reducible (first | (refine sk ?_; intro K hK) | apply_assumption -exfalso -symm only [*]) | ((with_reducible first | refine rg (h := ?_) | refine nx ?_); try simp (disch := omega) only [encNote, cNote,go_sem, simprocAttr]) | ((with_reducible refine fe ?_); refine ⟨_, (by simp only [Tryz.f161, encNote, cNote,go_sem, simprocAttr]; rfl), ?_⟩; rfl) | fail)
theorem note_at {l : List NoteT} {k : Nat} {x : NoteT} (h : l[k]? = some x) : (l.map cNote)[k]? = some (cNote x) := by rw [List.getElem?_map, h]; rfl
theorem of_ok (kb eb sz : Nat) (c : Int) (H0 : Hp) : ACall Tryz.prog 90 [.ptr kb eb sz 0 0, .int .u8 c] H0 fun v H' => v = .fn 117 [.pim [.ptr kb eb sz 0 0], .pim [.int .u8 c]] ∧ H' = H0 := by
 refine ACall_of (fn := Tryz.f90) tabOK (by kernel_rfl) rfl (by kernel_rfl) (by simp [Tryz.f90]) ?_
 intro X hX0 hXs
 repeat' (first | with_reducible (first | (refine sk ?_; intro K hK) | apply_assumption -exfalso -symm only [*]) | ((with_reducible first | refine rg (h := ?_) | refine nx ?_); try simp (disch := omega) only [go_sem, simprocAttr]) | fail)
 refine FnQ_end (Or.inl rfl) (.refl _) (by simp only [Tryz.f90, go_sem, simprocAttr]; rfl) ?_
 exact ⟨rfl, rfl⟩
theorem of1_ok (t : TestT) (mv : Val) (hl : t.notes.length ≤ 100000) (c : Int) (kb eb : Nat) (H0 : Hp) (ky ey : Nat) (J : Nat → Hp → Prop) (hJ0 : J 0 H0) (hJb : ∀ k H, J k H → H kb = some (eb, .arr 24 [cTest t ++ [mv]]))
  (hloc : ∀ k H H', J k H → (∀ j, ¬ j = 2405 → H' j = H j) → J k H')
  (hN : ∀ k n H, t.notes[k]? = some n → ¬ n.kind = c → J k H → J (k + 1) H)
  (hY : ∀ k n H, t.notes[k]? = some n → n.kind = c → J k H → RoundC Tryz.prog ky ey [encNote n] H (fun v H' => v = .bool true ∧ J (k + 1) H')) :
  ACall Tryz.prog 117 [.yld ky ey, .pim [.ptr kb eb 24 0 0], .pim [.int .u8 c]] H0 (fun v H' => J t.notes.length H') := by
 refine ACall_of (fn := Tryz.f117) tabOK (by kernel_rfl) rfl (by kernel_rfl) (by simp [Tryz.f117]) ?_
 intro X hX0 hXs
 have hb0 := hJb _ _ hJ0
 repeat' (first | with_reducible (first | (refine sk ?_; intro K hK) | apply_assumption -exfalso -symm only [*]) | ((with_reducible refine rg (md := { base := 2400, own := [] }) (h := ?_)); try simp (disch := omega) only [hb0, cTest,go_sem, simprocAttr]) | fail)
 refine AW_range tabOK t.notes.length (fun k f H => (f 0 = .yld ky ey ∧ f 2 = .pim [.int .u8 c] ∧ f 10 = .lst 5 (t.notes.map cNote)) ∧ J k H) (by omega) (by rw [hXs]; decide) (by decide) (by (first | rfl | (simp only [go_sem, simprocAttr]; done) | (simp only [go_sem, simprocAttr]; rfl))) (by (first | rfl | (simp only [go_sem, simprocAttr]; done) | (simp only [go_sem, simprocAttr]; rfl)))
   ⟨by (and_intros <;> first | rfl | (simp only [go_sem, simprocAttr]; done) | (simp only [go_sem, simprocAttr]; rfl)), hJ0⟩ ?_ ?_
 ·clear hJ0 hb0
  rintro k f H hk h12 h11 ⟨⟨h0, h2, h10⟩, hJ⟩
  obtain ⟨n, hn⟩ : ∃ x, t.notes[k]? = some x := ⟨_, List.getElem?_eq_getElem hk⟩
  have hna := note_at hn
  refine AW_lose 2405 fun H1 g5 hs1 => ?_
  have hJ1 : J k H1 := hloc _ _ _ hJ hs1
  simp only [cNote] at hna
  clear hJ hs1
  by_cases hc' : n.kind = c
  ·have hY' := fun H => hY k n H hn hc'
   simp only [encNote, cNote, hc'] at hY'
   repeat' (first | with_reducible (first | (refine sk ?_; intro K hK) | intro (ep : Nat → Nat) | apply_assumption -exfalso -symm only [*]) | ((with_reducible first | refine AW_regG (id := 3) tabOK { base := 2400, own := [] } [] [] (by rw [hXs]; decide +kernel) ?_ | refine rg (md := { base := 2400, own := [] }) (h := ?_)); try simp (disch := omega) only [h0, h2, h10, h11, h12, hna, hc', g5,go_sem, simprocAttr]) | fail)
   refine yldK_intro (hY' _ (hloc _ _ _ hJ1 fun j hj => by repeat rw [upd_ne _ _ hj])) ?_
   rintro v H3 ⟨rfl, hJ3⟩
   clear hN hloc hY hJb hY' hJ1
   simp only [go_sem, simprocAttr]
   repeat' (first | with_reducible apply_assumption -exfalso -symm only [*] | ((with_reducible refine nx ?_); try simp (disch := omega) only [h0, h2, h10, h11, h12, hJ3,go_sem, simprocAttr]) | ((with_reducible refine' cE ?hv ?_ ?_); (case hv => rfl); all_goals (intro hc; (try simp only [go_sem, simprocAttr] at hc))) | fail)
  ·have hJ' : ∀ H', (∀ j, ¬ j = 2405 → H' j = H1 j) → J (k + 1) H' := fun H' h => hloc _ _ _ (hN k n H1 hn hc' hJ1) h
   clear hN hloc hY hJb hJ1
   repeat' (first | with_reducible (first | (refine sk ?_; intro K hK) | intro (ep : Nat → Nat) | apply_assumption -exfalso -symm only [*]) | ((with_reducible first | refine AW_regG (id := 3) tabOK { base := 2400, own := [] } [] [] (by rw [hXs]; decide +kernel) ?_ | refine rg (md := { base := 2400, own := [] }) (h := ?_) | refine nx ?_); try simp (disch := omega) only [h0, h2, h10, h11, h12, hna, hc', g5,go_sem, simprocAttr]) | ((with_reducible refine' cE ?hv ?_ ?_); (case hv => rfl); all_goals (intro hc; (try simp only [go_sem, simprocAttr] at hc))) | fail)
   exact fun j hj => by repeat rw [upd_ne _ _ hj]
 ·rintro f H h12 h11 ⟨⟨h0, h2, h10⟩, hJ⟩
  exact FnQ_end (Or.inr rfl) (.refl _) (by simp only [Tryz.f117, go_sem, simprocAttr]; rfl) hJ
end Cp
namespace Cp
open Go
structure SeenT where
 c : Int
 s : Int
 v : Int
 deriving DecidableEq
def seenK (c s : Int) : Val := .agg [.int .u8 c, .int .i64 s]
def smap (l : List SeenT) : List (Val × Val) := l.map fun x => (seenK x.c x.s, .int .i64 x.v)
def findS (c s : Int) : List SeenT → Nat → Option (Nat × Int)
 | [], _ => none
 | x :: l, i => if c = x.c ∧ s = x.s then some (i, x.v) else findS c s l (i + 1)
def getS (l : List SeenT) (c s : Int) : Option Int := (findS c s l 0).map (·.2)
def putS (l : List SeenT) (c s v : Int) : List SeenT := match findS c s l 0 with | none => l ++ [⟨c, s, v⟩] | some (i, _) => l.set i ⟨c, s, v⟩
theorem xeq_seenK {a b c d : Int} : xeq tab 131 (seenK a b) (seenK c d) = some (decide (a = c ∧ b = d)) := by
 have e : xeq tab 131 (seenK a b) (seenK c d) = some (decide (a = c) && (decide (b = d) && true)) := rfl
 rw [e, Bool.and_true]; congr 1; rw [Bool.eq_iff_iff, decide_eq_true_iff]; simp
theorem keq_seenK {a b c d : Int} (h : a = c ∧ b = d) : keq (seenK a b) (seenK c d) = true := by
 obtain ⟨rfl, rfl⟩ := h
 simp [seenK, keq, keqs]
theorem xfind_smap {c s : Int} : ∀ (l : List SeenT) (i : Nat), xfind tab 131 (seenK c s) (smap l) i = some ((findS c s l i).map fun p => (p.1, .int .i64 p.2))
 | [], i => rfl
 | x :: l, i => by
  have ih := xfind_smap (c := c) (s := s) l (i + 1)
  show xfind tab 131 (seenK c s) ((seenK x.c x.s, .int .i64 x.v) :: smap l) i = _
  simp only [xfind, xeq_seenK, findS]
  by_cases h : c = x.c ∧ s = x.s
  ·simp [h, keq_seenK]
  ·simp only [decide_eq_false h, if_neg h]; exact ih
theorem findS_shift {c s : Int} : ∀ {l : List SeenT} {i : Nat}, findS c s l (i + 1) = (findS c s l i).map fun p => (p.1 + 1, p.2)
 | [], i => rfl
 | x :: l, i => by
  simp only [findS]
  split
  ·rfl
  ·exact findS_shift
theorem findS_some {c s : Int} {l : List SeenT} {i : Nat} {v : Int} (h : findS c s l 0 = some (i, v)) : ∃ x, l[i]? = some x ∧ x.c = c ∧ x.s = s ∧ x.v = v ∧ (∀ j y, j < i → l[j]? = some y → ¬ (c = y.c ∧ s = y.s)) := by
 induction l generalizing i with
 | nil => simp [findS] at h
 | cons x l ih =>
  simp only [findS] at h
  split at h
  ·rename_i hx
   cases h
   exact ⟨x, rfl, hx.1.symm, hx.2.symm, rfl, fun j y hj => by omega⟩
  ·rename_i hx
   rw [findS_shift] at h
   cases hf : findS c s l 0 with
   | none => rw [hf] at h; cases h
   | some p =>
    rw [hf] at h
    simp only [Option.map_some, Option.some.injEq, Prod.mk.injEq] at h
    obtain ⟨rfl, rfl⟩ := h
    obtain ⟨y, h1, h2, h3, h4, h5⟩ := ih hf
    refine ⟨y, by simpa using h1, h2, h3, h4, fun j z hj hz => ?_⟩
    cases j with
    | zero => simp at hz; subst hz; exact hx
    | succ j => exact h5 j z (by omega) (by simpa using hz)
theorem getS_nil {c s : Int} : getS [] c s = none := rfl
theorem getS_cons {c s : Int} {x : SeenT} {l : List SeenT} : getS (x :: l) c s = if c = x.c ∧ s = x.s then some x.v else getS l c s := by
 unfold getS
 simp only [findS]
 split
 ·rfl
 ·rw [findS_shift]; cases findS c s l 0 <;> rfl
theorem getS_append {c s : Int} : ∀ {l : List SeenT} {x : SeenT}, getS l c s = none → getS (l ++ [x]) c s = if c = x.c ∧ s = x.s then some x.v else none
 | [], x, _ => by rw [List.nil_append, getS_cons, getS_nil]
 | y :: l, x, h => by
  rw [getS_cons] at h
  rw [List.cons_append, getS_cons]
  split at h
  ·cases h
  ·rename_i hy; rw [if_neg hy]; exact getS_append h
theorem getS_append_ne {c s : Int} : ∀ {l : List SeenT} {x : SeenT}, ¬ (c = x.c ∧ s = x.s) → getS (l ++ [x]) c s = getS l c s
 | [], x, h => by rw [List.nil_append, getS_cons, if_neg h]
 | y :: l, x, h => by rw [List.cons_append, getS_cons, getS_cons, getS_append_ne h]
theorem getS_set {c s v : Int} : ∀ {l : List SeenT} {i : Nat} {x : SeenT}, l[i]? = some x → x.c = c → x.s = s → (∀ j y, j < i → l[j]? = some y → ¬ (c = y.c ∧ s = y.s)) → ∀ c' s', getS (l.set i ⟨c, s, v⟩) c' s' = if c' = c ∧ s' = s then some v else getS l c' s'
 | [], i, x, h, _, _, _, _, _ => by simp at h
 | y :: l, 0, x, h, h1, h2, _, c', s' => by
  simp at h; subst h
  rw [List.set_cons_zero, getS_cons, getS_cons]
  simp only [h1, h2]
  by_cases hc : c' = c ∧ s' = s
  ·rw [if_pos hc, if_pos hc]
  ·rw [if_neg hc, if_neg hc, if_neg hc]
 | y :: l, i + 1, x, h, h1, h2, h3, c', s' => by
  rw [List.set_cons_succ, getS_cons, getS_cons]
  have hy := h3 0 y (by omega) rfl
  rw [getS_set (by simpa using h) h1 h2 (fun j z hj hz => h3 (j + 1) z (by omega) (by simpa using hz))]
  by_cases hc : c' = y.c ∧ s' = y.s
  ·rw [if_pos hc, if_neg (by rintro ⟨rfl, rfl⟩; exact hy hc), if_pos hc]
  ·rw [if_neg hc, if_neg hc]
theorem getS_putS {l : List SeenT} {c s v : Int} (c' s' : Int) : getS (putS l c s v) c' s' = if c' = c ∧ s' = s then some v else getS l c' s' := by
 unfold putS
 cases hf : findS c s l 0 with
 | none =>
  simp only
  by_cases hc : c' = c ∧ s' = s
  ·obtain ⟨rfl, rfl⟩ := hc
   rw [getS_append (by unfold getS; rw [hf]; rfl)]; simp
  ·rw [getS_append_ne hc, if_neg hc]
 | some p =>
  obtain ⟨i, w⟩ := p
  obtain ⟨x, h1, h2, h3, h4, h5⟩ := findS_some hf
  exact getS_set h1 h2 h3 h5 c' s'
theorem mu_seen {ep : Nat → Nat} {k em : Nat} {c s v : Int} {l : List SeenT} : muF ep k em (seenK c s) (.int .i64 v) (smap l) (some ((findS c s l 0).map fun p => (p.1, .int .i64 p.2))) = some (some (k, some (em, .map (ep k) (smap (putS l c s v))))) := by
 unfold putS
 cases findS c s l 0 with
 | none => simp [muF, smap, seenK]
 | some p => simp [muF, smap, seenK, List.map_set]
theorem lk_seen {c s : Int} {l : List SeenT} : lkF2 (.int .i64 0) (some ((findS c s l 0).map fun p => (p.1, .int .i64 p.2))) = some (.tup [.int .i64 ((getS l c s).getD 0), .bool (getS l c s).isSome]) := by
 unfold getS
 cases findS c s l 0 <;> rfl
def SeenM (t : TestT) (k : Nat) (m : List SeenT) : Prop := (∀ c, c < k → getS m ((c + 1 : Nat) : Int) 0 = goodC t c ∧ getS m ((c + 1 : Nat) : Int) 1 = badC t c) ∧ ∀ c : Nat, k ≤ c → getS m ((c + 1 : Nat) : Int) 0 = none ∧ getS m ((c + 1 : Nat) : Int) 1 = none
def SeenN (t : TestT) (k : Nat) (l : List NoteT) (m : List SeenT) : Prop := (∀ c, c < k → getS m ((c + 1 : Nat) : Int) 0 = goodC t c ∧ getS m ((c + 1 : Nat) : Int) 1 = badC t c) ∧ (getS m ((k + 1 : Nat) : Int) 0 = goodL t k l none ∧ getS m ((k + 1 : Nat) : Int) 1 = badL t k l) ∧
 ∀ c : Nat, k < c → getS m ((c + 1 : Nat) : Int) 0 = none ∧ getS m ((c + 1 : Nat) : Int) 1 = none
theorem SeenM.start {t : TestT} {k : Nat} {m : List SeenT} (h : SeenM t k m) : SeenN t k [] m := ⟨h.1, h.2 k (Nat.le_refl k), fun c hc => h.2 c (by omega)⟩
theorem SeenN.done {t : TestT} {k : Nat} {m : List SeenT} (h : SeenN t k t.notes m) : SeenM t (k + 1) m := by
 refine ⟨fun c hc => ?_, fun c hc => h.2.2 c (by omega)⟩
 by_cases hck : c = k
 ·subst hck; exact h.2.1
 ·exact h.1 c (by omega)
theorem goodL_app {t : TestT} {c : Nat} {n : NoteT} : ∀ {l : List NoteT} {a : Option Int}, goodL t c (l ++ [n]) a = if shHold t c n = true then some n.sec else goodL t c l a
 | [], a => by simp [goodL]
 | x :: l, a => by simp only [List.cons_append, goodL]; exact goodL_app
theorem badL_app {t : TestT} {c : Nat} {n : NoteT} {l : List NoteT} : badL t c (l ++ [n]) = match badL t c l with | some b => some b | none => if shFail t c n = true then some n.sec else none := by
 unfold badL
 rw [List.find?_append]
 cases l.find? (shFail t c) with
 | some b => rfl
 | none =>
  simp only [Option.none_or, Option.map_none, List.find?_cons, List.find?_nil]
  cases shFail t c n <;> rfl
theorem SeenN.other {t : TestT} {k : Nat} {l : List NoteT} {m : List SeenT} {n : NoteT} (h : SeenN t k l m) (hn : ¬ n.kind = ((k + 1 : Nat) : Int)) : SeenN t k (l ++ [n]) m := by
 refine ⟨h.1, ?_, h.2.2⟩
 rw [goodL_app, badL_app, h.2.1.1, h.2.1.2]
 simp only [shHold, shFail, decide_eq_false hn, Bool.false_and, Bool.false_eq_true, if_false]
 cases badL t k l <;> simp
def seenG (m : List SeenT) (t : TestT) (k : Nat) (n : NoteT) : List SeenT := if n.val - n.off.lo ≤ limC t k then putS m ((k + 1 : Nat) : Int) 0 n.sec else m
def seenB (m : List SeenT) (t : TestT) (k : Nat) (n : NoteT) : List SeenT := if getS m ((k + 1 : Nat) : Int) 1 = none ∧ limC t k < n.val - n.off.hi then putS m ((k + 1 : Nat) : Int) 1 n.sec else m
theorem SeenN.step {t : TestT} {k : Nat} {l : List NoteT} {m : List SeenT} {n : NoteT} (h : SeenN t k l m) (hn : n.kind = ((k + 1 : Nat) : Int)) : SeenN t k (l ++ [n]) (seenB (seenG m t k n) t k n) := by
 have g1 : ∀ c' s' : Int, getS (seenG m t k n) c' s' = if (c' = ((k + 1 : Nat) : Int) ∧ s' = 0) ∧ n.val - n.off.lo ≤ limC t k then some n.sec else getS m c' s' := fun c' s' => by
  unfold seenG
  split
  ·rw [getS_putS]; simp only [*, and_true]
  ·rw [if_neg (by omega)]
 have g2 : ∀ c' s' : Int, getS (seenB (seenG m t k n) t k n) c' s' = if (c' = ((k + 1 : Nat) : Int) ∧ s' = 1) ∧ badL t k l = none ∧ limC t k < n.val - n.off.hi then some n.sec else getS (seenG m t k n) c' s' := fun c' s' => by
  have e : getS (seenG m t k n) ((k + 1 : Nat) : Int) 1 = badL t k l := by rw [g1, if_neg (by omega), h.2.1.2]
  unfold seenB
  rw [e]
  split
  ·rename_i hx; rw [getS_putS]; simp only [hx, and_true]
  ·rename_i hx; rw [if_neg (fun h => hx h.2)]
 refine ⟨fun c hc => ?_, ?_, fun c hc => ?_⟩
 ·rw [g2, g2, if_neg (by omega), if_neg (by omega), g1, g1, if_neg (by omega), if_neg (by omega)]; exact h.1 c hc
 ·rw [g2, g2, if_neg (by omega), g1, g1, goodL_app, badL_app, h.2.1.1, h.2.1.2]
  simp only [shHold, shFail, hn, decide_true, Bool.true_and, decide_eq_true_eq, true_and]
  cases badL t k l with
  | none => simp
  | some b => simp
 ·rw [g2, g2, if_neg (by omega), if_neg (by omega), g1, g1, if_neg (by omega), if_neg (by omega)]; exact h.2.2 c hc
end Cp
namespace Cp
open Go Go.Proofs
set_option maxRecDepth 10000
set_option maxHeartbeats 1000000
def twistT (t : TestT) : Bool := (List.range 6).any (twistC t)
def checkT (t : TestT) : Int := if checkE t.run t.rules = 0 then (if testOK t = true then (if twistT t = true then 21 else 0) else 20) else checkE t.run t.rules
structure TestB (t : TestT) : Prop where
 run : RunB t.run
 rules : RulesB t.rules
 notes : t.notes.length ≤ 100000
 kinds : ∀ n ∈ t.notes, 0 ≤ n.kind ∧ n.kind ≤ 255
def trialV (t : TestT) (em : Nat) : List Val := cTest t ++ [.map 2202 em]
def copenR (t : TestT) (H0 : Hp) (v : Val) (H' : Hp) : Prop :=
 (∀ j, j < 2100 → H' j = H0 j) ∧ if checkT t = 0 then ∃ eb em ver m, v = .tup [.ptr 2204 eb 24 0 0, .int .i64 0] ∧ H' 2204 = some (eb, .arr 24 [trialV t em]) ∧ H' 2202 = some (em, .map ver (smap m)) ∧ SeenM t 6 m else v = .tup [.nilp, .int .i64 (checkT t)]
theorem copenR_20 {t : TestT} {H0 H : Hp} (hE : checkE t.run t.rules = 0) (h : testOK t = false) (hl : ∀ j, j < 2100 → H j = H0 j) : copenR t H0 (.tup [.nilp, .int .i64 20]) H := by
 have e : checkT t = 20 := by simp [checkT, hE, h]
 refine ⟨hl, ?_⟩
 rw [if_neg (by omega), e]
theorem copenR_21 {t : TestT} {H0 H : Hp} (hE : checkE t.run t.rules = 0) (h : testOK t = true) (ht : twistT t = true) (hl : ∀ j, j < 2100 → H j = H0 j) : copenR t H0 (.tup [.nilp, .int .i64 21]) H := by
 have e : checkT t = 21 := by simp [checkT, hE, h, ht]
 refine ⟨hl, ?_⟩
 rw [if_neg (by omega), e]
theorem copenR_0 {t : TestT} {H0 H : Hp} (hE : checkE t.run t.rules = 0) (h : testOK t = true) (ht : twistT t = false) (hl : ∀ j, j < 2100 → H j = H0 j) {eb em ver : Nat} {m : List SeenT} (h1 : H 2204 = some (eb, .arr 24 [trialV t em])) (h2 : H 2202 = some (em, .map ver (smap m))) (h3 : SeenM t 6 m) :
  copenR t H0 (.tup [.ptr 2204 eb 24 0 0, .int .i64 0]) H := by
 have e : checkT t = 0 := by simp [checkT, hE, h, ht]
 refine ⟨hl, ?_⟩
 rw [if_pos e]
 exact ⟨_, _, _, _, rfl, h1, h2, h3⟩
theorem take_snocC {α : Type} {l : List α} {k : Nat} {x : α} (h : l[k]? = some x) : l.take (k + 1) = l.take k ++ [x] := by
 obtain ⟨hk, rfl⟩ := List.getElem?_eq_some_iff.1 h
 simp [List.take_add_one]
theorem notes_all {fin : Int} : ∀ {l : List NoteT} {last : Int}, notesFrom fin last l = true → ∀ n ∈ l, (1 ≤ n.kind ∧ n.kind ≤ 6) ∧ (0 ≤ n.val ∧ n.val ≤ 10000) ∧ -200 ≤ n.off.lo ∧ n.off.lo ≤ n.off.hi ∧ n.off.hi ≤ 200
 | [], _, _, n, h => by cases h
 | x :: l, last, h, n, hn => by
  simp only [notesFrom, noteOK, offOK, Bool.and_eq_true, decide_eq_true_eq] at h
  rcases List.mem_cons.1 hn with rfl | hn
  ·omega
  ·exact notes_all h.2 n hn
theorem lim_at (t : TestT) {k : Nat} (hk : k < 6) (v : Val) : List.drop (k * 1) [Val.int .i64 t.l0, .int .i64 t.l1, .int .i64 t.l2, .int .i64 t.l3, .int .i64 t.l4, .int .i64 t.l5, v] = .int .i64 (limC t k) :: List.drop (k + 1) [Val.int .i64 t.l0, .int .i64 t.l1, .int .i64 t.l2, .int .i64 t.l3, .int .i64 t.l4, .int .i64 t.l5, v] := by
 match k, hk with
 | 0, _ => rfl
 | 1, _ => rfl
 | 2, _ => rfl
 | 3, _ => rfl
 | 4, _ => rfl
 | 5, _ => rfl
def TriH (t : TestT) (e8 e4 e2 ver : Nat) (m : List SeenT) (H : Hp) : Prop := H 2108 = some (e8, .arr 1 [[.ptr 2204 e4 24 0 0]]) ∧ H 2204 = some (e4, .arr 24 [trialV t e2]) ∧ H 2202 = some (e2, .map ver (smap m))
def OJ (Hz : Hp) (t : TestT) (k e8 e10 e11 e4 e2 ey : Nat) (L0 : AObj) (j : Nat) (H : Hp) : Prop :=
 (∀ i, i < 2100 → H i = Hz i) ∧ H 2300 = some (ey, L0) ∧ H 2110 = some (e10, .arr 1 [[.int .i64 (k : Int)]]) ∧ H 2111 = some (e11, .arr 1 [[.int .u8 ((k + 1 : Nat) : Int)]]) ∧ ∃ ver m, TriH t e8 e4 e2 ver m H ∧ SeenN t k (t.notes.take j) m
theorem OJ.upd {Hz : Hp} {t : TestT} {k e8 e10 e11 e4 e2 ey : Nat} {L0 : AObj} {j : Nat} {H H' : Hp} (h : OJ Hz t k e8 e10 e11 e4 e2 ey L0 j H) (q : Nat) (hq : 2400 ≤ q) (hs : ∀ i, ¬ i = q → H' i = H i) : OJ Hz t k e8 e10 e11 e4 e2 ey L0 j H' := by
 obtain ⟨a, b, c, d, ver, m, ⟨x, y, z⟩, w⟩ := h
 exact ⟨fun i hi => (hs i (by omega)).trans (a i hi), (hs _ (by omega)).trans b, (hs _ (by omega)).trans c, (hs _ (by omega)).trans d, ver, m, ⟨(hs _ (by omega)).trans x, (hs _ (by omega)).trans y, (hs _ (by omega)).trans z⟩, w⟩
theorem copen_ok (t : TestT) (hb : TestB t) (H0 : Hp) : ACall Tryz.prog 64 [encTest t] H0 (copenR t H0) := by
 have hnl := hb.notes
 have hck := check_ok t.run t.rules hb.run hb.rules
 have hcs := cordered_ok t.clock (-120) 120
 simp only [encRun, cRun, encRules, cRules, encSpan] at hck hcs
 refine ACall_ofR (fn := Tryz.f64) tabOK (by kernel_rfl) rfl (by kernel_rfl) (by simp [Tryz.f64]) ?_
 intro X hX0 hXs hXr
 refine AW_cutC 2100 fun H1 hlow hnone => ?_
 clear hnone
 by_cases hE : checkE t.run t.rules = 0
 ·have e20 := fun H => @copenR_20 t H0 H hE
  have e21 := fun H => @copenR_21 t H0 H hE
  have e0 := fun H => @copenR_0 t H0 H hE
  rw [hE] at hck
  have hR : t.run.rows.length ≤ 60 := by
   have h1 : runOK t.run = true := by unfold checkE at hE; split at hE <;> simp_all
   exact (run_facts h1).rows.2.1
  have bad : headT t = false → testOK t = false := fun h => by rw [testOK, h]; rfl
  simp only [headT, decide_eq_false_iff_not] at bad
  obtain ⟨Qr, hQr⟩ : ∃ Q, copenR t H0 = Q := ⟨_, rfl⟩
  rw [hQr] at e20 e21 e0 ⊢
  repeat' (first | with_reducible (first | (refine sk ?_; intro K hK) | refine bk ?_ | apply_assumption -exfalso -symm only [*]) | ((first | (with_reducible first | refine rg (md := { base := 2100, own := [102, 104], imp := [113] }) (h := ?_) | refine nx ?_) | refine pK (hck) ?_ | refine pK (hcs) ?_ | refine pK (cin_1 _ _ _) ?_ | refine pK (cin_6 _ _ _ _ _ _ _ _) ?_); try simp (disch := omega) only [encTest, cTest, encRun, cRun, encRules, cRules,go_sem, simprocAttr]) | ((with_reducible refine' cE ?hv ?_ ?_); (case hv => rfl); all_goals (intro hc; (try simp only [go_sem, simprocAttr] at hc))) | ((with_reducible refine grdS_split ?_ ?_) <;> intro hg <;> (try simp (disch := omega) only [hg, encTest, cTest, encRun, cRun, encRules, cRules,go_sem, simprocAttr]) <;> (try simp only [go_sem, simprocAttr] at hg) <;> (try (exfalso; omega))) | fail)
  iterate 5 (refine FnQ_end (Or.inl rfl) (.refl _) (by simp only [Tryz.f64, go_sem, simprocAttr]; rfl) ?_; simp only [go_sem, simprocAttr]; exact e20 _ (bad (by omega)) hlow)
  have hh : headT t = true := by simp only [headT, decide_eq_true_eq]; omega
  have hT : testOK t = notesFrom t.fin 0 t.notes := by rw [testOK, hh, Bool.true_and]
  have hfin : t.fin ≤ 3600 := by omega
  clear bad hck hcs
  refine AW_range tabOK t.notes.length (fun k f H => (f 1 = .pim (cTest t) ∧ f 63 = .lst 5 (t.notes.map cNote)) ∧ (∀ j, j < 2100 → H j = H0 j) ∧ ∃ last, f 5 = .int .i64 last ∧ 0 ≤ last ∧ last ≤ 3600 ∧ notesFrom t.fin 0 t.notes = notesFrom t.fin last (t.notes.drop k)) (by omega) (by rw [hXs]; decide) (by decide) (by (first | rfl | (simp only [go_sem, simprocAttr]; done) | (simp only [go_sem, simprocAttr]; rfl))) (by (first | rfl | (simp only [go_sem, simprocAttr]; done) | (simp only [go_sem, simprocAttr]; rfl)))
   ⟨by (and_intros <;> first | rfl | (simp only [cTest, go_sem, simprocAttr]; done) | (simp only [cTest, go_sem, simprocAttr]; rfl)), hlow, 0, by (first | rfl | (simp only [go_sem, simprocAttr]; done) | (simp only [go_sem, simprocAttr]; rfl)), by omega, by omega, by simp⟩ ?_ ?_
  ·clear hlow
   rintro k f H hk h65 h64 ⟨⟨h1, h63⟩, hlow, last, h5, hl1, hl2, hr⟩
   obtain ⟨n, hn⟩ : ∃ x, t.notes[k]? = some x := ⟨_, List.getElem?_eq_getElem hk⟩
   have hna := note_at hn
   have hkb := hb.kinds n (List.mem_of_getElem? hn)
   rw [drop_cons hn] at hr
   simp only [notesFrom] at hr
   have bad : noteOK last t.fin n = false → testOK t = false := fun h => by rw [hT, hr, h]; rfl
   have hof := cordered_ok n.off (-200) 200
   simp only [noteOK, offOK, Bool.and_eq_false_iff, decide_eq_false_iff_not] at bad
   simp only [encSpan] at hof
   simp only [cNote] at hna
   refine AW_cutC 2100 fun H1 hlow1 hnone => ?_
   have hlow2 : ∀ j, j < 2100 → H1 j = H0 j := fun j hj => (hlow1 j hj).trans (hlow j hj)
   have g7 := hnone 2107 (by decide)
   clear hnone hlow1 hlow
   repeat' (first | with_reducible (first | (refine sk ?_; intro K hK) | intro (ep : Nat → Nat) | apply_assumption -exfalso -symm only [*]) | ((first | (with_reducible first | refine rg (md := { base := 2100, own := [102, 104], imp := [113] }) (h := ?_) | refine nx ?_) | refine pK (cin_1 _ _ _) ?_ | refine pK (hof) ?_); try simp (disch := omega) only [h1, h5, h63, h64, h65, hna, g7, cTest,go_sem, simprocAttr]) | ((with_reducible refine' cE ?hv ?_ ?_); (case hv => rfl); all_goals (intro hc; (try simp only [go_sem, simprocAttr] at hc))) | ((with_reducible refine grdS_split ?_ ?_) <;> intro hg <;> (try simp (disch := omega) only [hg, h1, h5, h63, h64, h65, hna, g7, cTest,go_sem, simprocAttr]) <;> (try simp only [go_sem, simprocAttr] at hg) <;> (try (exfalso; omega))) | fail)
   iterate 4 (refine FnQ_end (Or.inl rfl) (.refl _) (by simp only [Tryz.f64, go_sem, simprocAttr]; rfl) ?_; simp only [go_sem, simprocAttr]; exact e20 _ (bad (by omega)) (fun j hj => by (repeat rw [upd_ne _ _ (by omega)]); exact hlow2 j hj))
   have h' : noteOK last t.fin n = true := by simp only [noteOK, offOK, Bool.and_eq_true, decide_eq_true_eq]; omega
   refine ⟨fun j hj => by (repeat rw [if_neg (by omega)]); exact hlow2 j hj, n.sec, rfl, by omega, by omega, by rw [hr, h', Bool.true_and]⟩
  ·rintro f H h65 h64 ⟨⟨h1, h63⟩, hlow1, last, h5, hl1, hl2, hr⟩
   clear e20 hlow
   repeat' (first | with_reducible apply_assumption -exfalso -symm only [*] | fail)
   have hN : notesFrom t.fin 0 t.notes = true := by rw [hr, drop_none (Nat.le_refl _)]; rfl
   have hOK : testOK t = true := by rw [hT, hN]
   refine AW_cutC 2100 fun H2 hlow2 hnone => ?_
   have hlow : ∀ j, j < 2100 → H2 j = H0 j := fun j hj => (hlow2 j hj).trans (hlow1 j hj)
   have g2 := hnone 2202 (by decide)
   have g4 := hnone 2204 (by decide)
   have g8 := hnone 2108 (by decide)
   clear hnone hlow1 hlow2 h65 h64 h63 h5 hr hl1 hl2
   repeat' (first | with_reducible (first | ((fail_if_success (refine AW_at (id := 16) ?_)); refine sk ?_; intro K hK) | intro (ep : Nat → Nat) | apply_assumption -exfalso -symm only [*]) | ((with_reducible first | refine rg (md := { base := 2100, own := [102, 104], imp := [113] }) (h := ?_) | refine nx ?_); try simp (disch := omega) only [h1, g2, g4, g8, cTest,go_sem, simprocAttr]) | fail)
   have hcut : ∀ f H, (f 9 = .bool (!twistT t) ∧ (∀ j, j < 2100 → H j = H0 j) ∧ (twistT t = false → ∃ e8 e4 e2 ver m, f 8 = .ptr 2108 e8 1 0 0 ∧ TriH t e8 e4 e2 ver m H ∧ SeenM t 6 m)) → K f H := by
    clear hlow g2 g4 g8
    rintro f H ⟨h9, hlow, hS⟩
    refine hK f H ?_
    clear hK
    cases htw : twistT t with
    | false =>
     rw [htw] at h9
     obtain ⟨e8, e4, e2, ver, m, h8, ⟨H8, H4, H2⟩, hS⟩ := hS htw
     repeat' (first | with_reducible (first | (refine sk ?_; intro K hK) | apply_assumption -exfalso -symm only [*]) | ((with_reducible first | refine rg (md := { base := 2100, own := [102, 104], imp := [113] }) (h := ?_) | refine nx ?_); try simp (disch := omega) only [h8, h9, H8, H4, H2,go_sem, simprocAttr]) | ((with_reducible refine' cE ?hv ?_ ?_); (case hv => rfl); all_goals (intro hc; (try simp only [go_sem, simprocAttr] at hc))) | fail)
     refine FnQ_end (Or.inl rfl) (.refl _) (by simp only [Tryz.f64, go_sem, simprocAttr]; rfl) ?_
     simp only [go_sem, simprocAttr, H4]
     exact e0 _ hOK htw hlow H4 H2 hS
    | true =>
     rw [htw] at h9
     repeat' (first | with_reducible (first | (refine sk ?_; intro K hK) | apply_assumption -exfalso -symm only [*]) | ((with_reducible first | refine rg (md := { base := 2100, own := [102, 104], imp := [113] }) (h := ?_) | refine nx ?_); try simp (disch := omega) only [h9,go_sem, simprocAttr]) | ((with_reducible refine' cE ?hv ?_ ?_); (case hv => rfl); all_goals (intro hc; (try simp only [go_sem, simprocAttr] at hc))) | fail)
     refine FnQ_end (Or.inl rfl) (.refl _) (by simp only [Tryz.f64, go_sem, simprocAttr]; rfl) ?_
     simp only [go_sem, simprocAttr]
     exact e21 _ hOK htw hlow
   clear hK e0 e21
   repeat' (first | with_reducible (first | (refine sk ?_; intro K hK) | apply_assumption -exfalso -symm only [*]) | ((with_reducible refine rg (md := { base := 2100, own := [102, 104], imp := [113] }) (h := ?_)); try simp (disch := omega) only [h1,go_sem, simprocAttr]) | fail)
   refine AW_block (AW_loop (fun n f H => ∃ k : Nat, n = 6 - k ∧ k ≤ 6 ∧ (f 1 = .pim (cTest t) ∧ f 9 = .bool true ∧ f 105 = .int .i64 (k : Int)) ∧ (∀ j, j < 2100 → H j = H0 j) ∧ ∃ e8 e4 e2 ver m, f 8 = .ptr 2108 e8 1 0 0 ∧ TriH t e8 e4 e2 ver m H ∧ SeenM t k m ∧ ∀ c, c < k → twistC t c = false) 6
    ⟨0, rfl, by omega, by (and_intros <;> first | rfl | (simp only [h1, go_sem, simprocAttr]; done) | (simp only [h1, go_sem, simprocAttr]; rfl)), fun j hj => by (repeat rw [upd_ne _ _ (by omega)]); exact hlow j hj, _, _, _, _, [], by (first | rfl | (simp only [go_sem, simprocAttr]; done) | (simp only [go_sem, simprocAttr]; rfl)), ⟨by (first | rfl | (simp only [go_sem, simprocAttr]; done) | (simp only [go_sem, simprocAttr]; rfl)), by (first | rfl | (simp only [cTest, trialV, go_sem, simprocAttr]; done) | (simp only [cTest, trialV, go_sem, simprocAttr]; rfl)), by (first | rfl | (simp only [go_sem, simprocAttr]; done) | (simp only [go_sem, simprocAttr]; rfl))⟩, ⟨fun c hc => by omega, fun c hc => ⟨rfl, rfl⟩⟩, fun c hc => by omega⟩ ?_)
   clear h1 hlow g2 g4 g8
   rintro n f H ⟨k, rfl, hk, ⟨h1, h9, h105⟩, hlow, e8, e4, e2, ver, m, h8, ⟨H8, H4, H2⟩, hS, hT'⟩
   by_cases hlt : k < 6
   ·refine AW_lose 2110 fun H3 g10 hs1 => ?_
    refine AW_lose 2111 fun H5 g11 hs2 => ?_
    have hs : ∀ j, ¬ j = 2110 → ¬ j = 2111 → H5 j = H j := fun j a b => (hs2 j b).trans (hs1 j a)
    have g10' : H5 2110 = none := (hs2 2110 (by decide)).trans g10
    have K8 := (hs 2108 (by decide) (by decide)).trans H8
    have K4 := (hs 2204 (by decide) (by decide)).trans H4
    have K2 := (hs 2202 (by decide) (by decide)).trans H2
    have hlow5 : ∀ j, j < 2100 → H5 j = H0 j := fun j hj => (hs j (by omega) (by omega)).trans (hlow j hj)
    have hw : IntKind.u8.wrap ((k + 1 : Nat) : Int) = ((k + 1 : Nat) : Int) := IntWalk.u8_in _ (by omega)
    have hcutE : ∃ _ : Unit, _ := ⟨(), hcut⟩
    clear hs1 hs2 hs H8 H4 H2 hlow g10 hcut
    repeat' (first | with_reducible (first | (refine sk ?_; intro K hK) | refine bk ?_ | intro (ep : Nat → Nat) | apply_assumption -exfalso -symm only [*]) | ((with_reducible first | refine rg (md := { base := 2100, own := [102, 104], imp := [113] }) (h := ?_) | refine nx ?_); try simp (disch := omega) only [h1, h8, h9, h105, K8, g10', g11, hw,go_sem, simprocAttr]) | ((with_reducible refine' cE ?hv ?_ ?_); (case hv => rfl); all_goals (intro hc; (try simp only [go_sem, simprocAttr] at hc); try (exfalso; omega))) | fail)
    refine iK (of_ok 2204 e4 24 _ _) ?_
    rintro v H6 ⟨rfl, rfl⟩
    simp only [go_sem, simprocAttr]
    repeat' (first | with_reducible apply_assumption -exfalso -symm only [*] | fail)
    refine AW_block ?_
    refine AW_rangeFunc 2300 (by simp only [go_sem, simprocAttr]; rfl) hXr fun ey => ?_
    generalize hf0 : (upd _ _ _ : Fr) = f0
    generalize hH : (upd (upd (upd (upd H5 _ _) _ _) _ _) _ _ : Hp) = HH
    obtain ⟨e10, e11, k1, k8, k9, k10, k11, k105, G10, G11, Gs⟩ : ∃ e10 e11, f0 1 = .pim (cTest t) ∧ f0 8 = .ptr 2108 e8 1 0 0 ∧ f0 9 = .bool true ∧ f0 10 = .ptr 2110 e10 1 0 0 ∧ f0 11 = .ptr 2111 e11 1 0 0 ∧ f0 105 = .int .i64 (k : Int) ∧
      HH 2110 = some (e10, .arr 1 [[.int .i64 (k : Int)]]) ∧ HH 2111 = some (e11, .arr 1 [[.int .u8 ((k + 1 : Nat) : Int)]]) ∧ ∀ j, ¬ j = 2110 → ¬ j = 2111 → HH j = H5 j := by
     refine ⟨_, _, by rw [← hf0]; simp only [go_sem, simprocAttr, h1], by rw [← hf0]; simp only [go_sem, simprocAttr, h8], by rw [← hf0]; simp only [go_sem, simprocAttr, h9], by rw [← hf0]; rfl, by rw [← hf0]; rfl, by rw [← hf0]; simp only [go_sem, simprocAttr, h105], by rw [← hH]; rfl, by rw [← hH]; rfl, fun j a b => ?_⟩
     rw [← hH, upd_ne _ _ b, upd_ne _ _ b, upd_ne _ _ a, upd_ne _ _ a]
    have G8 := (Gs 2108 (by decide) (by decide)).trans K8
    have G4 := (Gs 2204 (by decide) (by decide)).trans K4
    have G2 := (Gs 2202 (by decide) (by decide)).trans K2
    have Gl : ∀ j, j < 2100 → HH j = H0 j := fun j hj => (Gs j (by omega) (by omega)).trans (hlow5 j hj)
    have hXs0 : X.sz = 196 := hXs
    clear hf0 hH hXs Gs K8 K4 K2 g10' g11 hlow5 h1 h8 h9 h105
    generalize hL : AObj.loop _ _ _ _ _ _ = L0
    refine ⟨fun v H' => OJ H0 t k e8 e10 e11 e4 e2 ey L0 t.notes.length H', of1_ok t (.map 2202 e2) (by omega) ((k + 1 : Nat) : Int) 2204 e4 _ 2300 ey (OJ H0 t k e8 e10 e11 e4 e2 ey L0) ?_ ?_ ?_ ?_ ?_, ?_⟩
    ·exact ⟨fun j hj => by rw [upd_ne _ _ (by omega), Gl j hj], upd_same _ _ _, by rw [upd_ne _ _ (by decide), G10], by rw [upd_ne _ _ (by decide), G11], ver, m, ⟨by rw [upd_ne _ _ (by decide), G8], by rw [upd_ne _ _ (by decide), G4], by rw [upd_ne _ _ (by decide), G2]⟩, hS.start⟩
    ·rintro j H ⟨_, _, _, _, ver, m, ⟨_, h, _⟩, _⟩
     exact h
    ·exact fun j H H' h hs => h.upd 2405 (by decide) hs
    ·rintro j n H hn hne ⟨a, b, c, d, ver, m, h, hS⟩
     exact ⟨a, b, c, d, ver, m, h, by rw [take_snocC hn]; exact hS.other hne⟩
    ·clear G10 G11 G8 G4 G2 Gl hS
     rintro j n Hs hn hkind ⟨jl, j00, j10, j11, ver, m, ⟨j8, j4, j2⟩, hS⟩
     have hnb := notes_all hN n (List.mem_of_getElem? hn)
     have hlim := lim_at t hlt
     have hst := hS.step hkind
     rw [← take_snocC hn] at hst
     subst hL
     refine ⟨_, _, _, _, _, j00, rfl, fun t ht => ?_, fun X1 b h10 h1s h1r => ?_⟩
     ·rw [frL_len, hXs0]
      have ht' : t = 114 := by simpa using ht
      subst ht'; decide
     have hXs : X1.sz = 196 := by rw [h1s, frL_len, hXs0]
     show AW _ _ _ _ _ (upd (frOf (frL f0 X.sz)) 114 (encNote n)) Hs
     have k1' : frOf (frL f0 X.sz) 1 = .pim (cTest t) := by rw [frOf_frL, hXs0, if_pos (by decide), k1]
     have k8' : frOf (frL f0 X.sz) 8 = .ptr 2108 e8 1 0 0 := by rw [frOf_frL, hXs0, if_pos (by decide), k8]
     have k10' : frOf (frL f0 X.sz) 10 = .ptr 2110 e10 1 0 0 := by rw [frOf_frL, hXs0, if_pos (by decide), k10]
     have k11' : frOf (frL f0 X.sz) 11 = .ptr 2111 e11 1 0 0 := by rw [frOf_frL, hXs0, if_pos (by decide), k11]
     generalize frOf (frL f0 X.sz) = f1 at k1' k8' k10' k11'
     refine AW_lose 2112 fun H1 g12 hs1 => ?_
     repeat' (first | with_reducible intro (ep : Nat → Nat) | ((with_reducible refine rg (md := { base := 2100, own := [102, 104], imp := [113] }) (h := ?_)); try simp (disch := omega) only [k1', k8', k10', k11', g12, encNote, cNote,go_sem, simprocAttr]) | fail)
     refine ⟨rfl, _, _, _, _, _, by rw [upd_ne _ _ (by decide), upd_ne _ _ (by decide), hs1 _ (by decide), j00], ?_⟩
     generalize hHs : (upd (upd (upd H1 _ _) _ _) 2300 _ : Hp) = HB
     generalize hfB : (upd _ _ _ : Fr) = fB
     obtain ⟨e12, b1, b8, b10, b11, b12, B12, B00, Bs⟩ : ∃ e12, fB 1 = .pim (cTest t) ∧ fB 8 = .ptr 2108 e8 1 0 0 ∧ fB 10 = .ptr 2110 e10 1 0 0 ∧ fB 11 = .ptr 2111 e11 1 0 0 ∧ fB 12 = .ptr 2112 e12 5 0 0 ∧ HB 2112 = some (e12, .arr 5 [cNote n]) ∧ HB 2300 = _ ∧ ∀ j, ¬ j = 2112 → ¬ j = 2300 → HB j = Hs j := by
      refine ⟨_, by rw [← hfB]; simp only [k1', go_sem, simprocAttr], by rw [← hfB]; simp only [k8', go_sem, simprocAttr], by rw [← hfB]; simp only [k10', go_sem, simprocAttr], by rw [← hfB]; simp only [k11', go_sem, simprocAttr], by rw [← hfB]; rfl, by rw [← hHs]; rfl, by rw [← hHs, upd_same], fun j h1 h2 => ?_⟩
      rw [← hHs, upd_ne _ _ h2, upd_ne _ _ h1, upd_ne _ _ h1, hs1 _ h1]
     clear hHs hfB hs1 k1' k8' k10' k11' g12
     have B8 := (Bs 2108 (by decide) (by decide)).trans j8
     have B4 := (Bs 2204 (by decide) (by decide)).trans j4
     have B2 := (Bs 2202 (by decide) (by decide)).trans j2
     have B10 := (Bs 2110 (by decide) (by decide)).trans j10
     have B11 := (Bs 2111 (by decide) (by decide)).trans j11
     simp only [cNote] at B12
     have s1 := shows1_ok n (limC t k) hnb.2
     have s2 := shows2_ok n (limC t k) hnb.2
     simp only [encNote, cNote] at s1 s2
     have hlk := @lk_seen ((k + 1 : Nat) : Int) 1
     have fi := fun (s : Int) (m : List SeenT) => xfind_smap (c := ((k + 1 : Nat) : Int)) (s := s) m 0
     have mu := fun (ep : Nat → Nat) (em : Nat) (s v : Int) (m : List SeenT) => @mu_seen ep 2202 em ((k + 1 : Nat) : Int) s v m
     have hgp : ∀ v, getS (putS m ((k + 1 : Nat) : Int) 0 v) ((k + 1 : Nat) : Int) 1 = getS m ((k + 1 : Nat) : Int) 1 := fun v => by rw [getS_putS, if_neg (by omega)]
     simp only [seenK] at fi mu
     have zz : ∀ (H : Hp), (∀ i, ¬ i = 2202 → H i = HB i) → ∀ {o : Option (Nat × AObj)} (i : Nat), ¬ i = 2202 → ¬ i = 2112 → ¬ i = 2300 → upd H 2300 o i = Hs i := fun H h {o} i h1 h2 h3 => by rw [upd_ne _ _ h3, h _ h1, Bs i h2 h3]
     have hq1 : ∀ {p : Option (Nat × AObj)} (i : Nat), ¬ i = 2202 → upd HB 2202 p i = HB i := fun i h => upd_ne _ _ h
     have hq2 : ∀ {p q : Option (Nat × AObj)} (i : Nat), ¬ i = 2202 → upd (upd HB 2202 p) 2202 q i = HB i := fun i h => by rw [upd_ne _ _ h, upd_ne _ _ h]
     have hq0 : ∀ (i : Nat), ¬ i = 2202 → HB i = HB i := fun i h => rfl
     obtain ⟨x, hx⟩ | hB : (∃ x, getS m ((k + 1 : Nat) : Int) 1 = some x) ∨ getS m ((k + 1 : Nat) : Int) 1 = none := by cases getS m ((k + 1 : Nat) : Int) 1 <;> simp
     ·by_cases hA : n.val - n.off.lo ≤ limC t k
      ·repeat' (first | with_reducible (first | (refine sk ?_; intro K hK) | refine bk ?_ | intro (ep : Nat → Nat) | apply_assumption -exfalso -symm only [*]) | ((first | (with_reducible first | refine rg (md := { base := 2100, own := [102, 104], imp := [] }) (h := ?_) | refine nx ?_) | refine pK (s1) ?_); try simp (disch := omega) only [b1, b8, b10, b11, b12, B8, B4, B2, B10, B11, B12, hlt, hlim, hlk, fi, mu, hgp, hA, hx, Option.isSome_some, Option.isSome_none, Option.getD_some, Option.getD_none, cTest, trialV,go_sem, simprocAttr]) | ((with_reducible refine' cE ?hv ?_ ?_); (case hv => rfl); all_goals (intro hc; (try simp only [go_sem, simprocAttr] at hc))) | fail)
       have C00 := B00
       refine ⟨_, _, _, _, _, _, (by (repeat rw [upd_ne _ _ (by decide)]); exact B00), ?_⟩
       refine ⟨rfl, ?_⟩
       have hm : seenB (seenG m t k n) t k n = putS m ((k + 1 : Nat) : Int) 0 n.sec := by simp only [seenB, seenG, hA, hx, hgp, if_true, if_false, and_self, true_and, and_true, false_and, and_false, reduceCtorEq]
       rw [hm] at hst
       exact ⟨fun i hi => (zz _ hq1 i (by omega) (by omega) (by omega)).trans (jl i hi), upd_same _ _ _, (zz _ hq1 2110 (by decide) (by decide) (by decide)).trans j10, (zz _ hq1 2111 (by decide) (by decide) (by decide)).trans j11, _, _, ⟨(zz _ hq1 2108 (by decide) (by decide) (by decide)).trans j8, (zz _ hq1 2204 (by decide) (by decide) (by decide)).trans j4, by rw [upd_ne _ _ (by decide)]; (first | exact upd_same _ _ _ | exact B2)⟩, hst⟩
      ·repeat' (first | with_reducible (first | (refine sk ?_; intro K hK) | refine bk ?_ | apply_assumption -exfalso -symm only [*]) | ((first | (with_reducible first | refine rg (md := { base := 2100, own := [102, 104], imp := [] }) (h := ?_) | refine nx ?_) | refine pK (s1) ?_); try simp (disch := omega) only [b1, b8, b10, b11, b12, B8, B4, B2, B10, B11, B12, hlt, hlim, hlk, fi, mu, hgp, hA, hx, Option.isSome_some, Option.isSome_none, Option.getD_some, Option.getD_none, cTest, trialV,go_sem, simprocAttr]) | ((with_reducible refine' cE ?hv ?_ ?_); (case hv => rfl); all_goals (intro hc; (try simp only [go_sem, simprocAttr] at hc))) | fail)
       have C00 := B00
       refine ⟨_, _, _, _, _, _, (by (repeat rw [upd_ne _ _ (by decide)]); exact B00), ?_⟩
       refine ⟨rfl, ?_⟩
       have hm : seenB (seenG m t k n) t k n = m := by simp only [seenB, seenG, hA, hx, if_true, if_false, and_self, true_and, and_true, false_and, and_false, reduceCtorEq]
       rw [hm] at hst
       exact ⟨fun i hi => (zz _ hq0 i (by omega) (by omega) (by omega)).trans (jl i hi), upd_same _ _ _, (zz _ hq0 2110 (by decide) (by decide) (by decide)).trans j10, (zz _ hq0 2111 (by decide) (by decide) (by decide)).trans j11, _, _, ⟨(zz _ hq0 2108 (by decide) (by decide) (by decide)).trans j8, (zz _ hq0 2204 (by decide) (by decide) (by decide)).trans j4, by rw [upd_ne _ _ (by decide)]; (first | exact upd_same _ _ _ | exact B2)⟩, hst⟩
     ·by_cases hA : n.val - n.off.lo ≤ limC t k
      ·by_cases hC : limC t k < n.val - n.off.hi
       ·exfalso; omega
       ·repeat' (first | with_reducible (first | (refine sk ?_; intro K hK) | refine bk ?_ | intro (ep : Nat → Nat) | apply_assumption -exfalso -symm only [*]) | ((first | (with_reducible first | refine rg (md := { base := 2100, own := [102, 104], imp := [] }) (h := ?_) | refine nx ?_) | refine pK (s1) ?_ | refine pK (s2) ?_); try simp (disch := omega) only [b1, b8, b10, b11, b12, B8, B4, B2, B10, B11, B12, hlt, hlim, hlk, fi, mu, hgp, hA, hB, hC, Option.isSome_some, Option.isSome_none, Option.getD_some, Option.getD_none, cTest, trialV,go_sem, simprocAttr]) | ((with_reducible refine' cE ?hv ?_ ?_); (case hv => rfl); all_goals (intro hc; (try simp only [go_sem, simprocAttr] at hc))) | fail)
        have C00 := B00
        refine ⟨_, _, _, _, _, _, (by (repeat rw [upd_ne _ _ (by decide)]); exact B00), ?_⟩
        refine ⟨rfl, ?_⟩
        have hm : seenB (seenG m t k n) t k n = putS m ((k + 1 : Nat) : Int) 0 n.sec := by simp only [seenB, seenG, hA, hB, hC, hgp, if_true, if_false, and_self, true_and, and_true, false_and, and_false, reduceCtorEq]
        rw [hm] at hst
        exact ⟨fun i hi => (zz _ hq1 i (by omega) (by omega) (by omega)).trans (jl i hi), upd_same _ _ _, (zz _ hq1 2110 (by decide) (by decide) (by decide)).trans j10, (zz _ hq1 2111 (by decide) (by decide) (by decide)).trans j11, _, _, ⟨(zz _ hq1 2108 (by decide) (by decide) (by decide)).trans j8, (zz _ hq1 2204 (by decide) (by decide) (by decide)).trans j4, by rw [upd_ne _ _ (by decide)]; (first | exact upd_same _ _ _ | exact B2)⟩, hst⟩
      ·by_cases hC : limC t k < n.val - n.off.hi
       ·repeat' (first | with_reducible (first | (refine sk ?_; intro K hK) | refine bk ?_ | intro (ep : Nat → Nat) | apply_assumption -exfalso -symm only [*]) | ((first | (with_reducible first | refine rg (md := { base := 2100, own := [102, 104], imp := [] }) (h := ?_) | refine nx ?_) | refine pK (s1) ?_ | refine pK (s2) ?_); try simp (disch := omega) only [b1, b8, b10, b11, b12, B8, B4, B2, B10, B11, B12, hlt, hlim, hlk, fi, mu, hgp, hA, hB, hC, Option.isSome_some, Option.isSome_none, Option.getD_some, Option.getD_none, cTest, trialV,go_sem, simprocAttr]) | ((with_reducible refine' cE ?hv ?_ ?_); (case hv => rfl); all_goals (intro hc; (try simp only [go_sem, simprocAttr] at hc))) | fail)
        have C00 := B00
        refine ⟨_, _, _, _, _, _, (by (repeat rw [upd_ne _ _ (by decide)]); exact B00), ?_⟩
        refine ⟨rfl, ?_⟩
        have hm : seenB (seenG m t k n) t k n = putS m ((k + 1 : Nat) : Int) 1 n.sec := by simp only [seenB, seenG, hA, hB, hC, if_true, if_false, and_self, true_and, and_true, false_and, and_false, reduceCtorEq]
        rw [hm] at hst
        exact ⟨fun i hi => (zz _ hq1 i (by omega) (by omega) (by omega)).trans (jl i hi), upd_same _ _ _, (zz _ hq1 2110 (by decide) (by decide) (by decide)).trans j10, (zz _ hq1 2111 (by decide) (by decide) (by decide)).trans j11, _, _, ⟨(zz _ hq1 2108 (by decide) (by decide) (by decide)).trans j8, (zz _ hq1 2204 (by decide) (by decide) (by decide)).trans j4, by rw [upd_ne _ _ (by decide)]; (first | exact upd_same _ _ _ | exact B2)⟩, hst⟩
       ·repeat' (first | with_reducible (first | (refine sk ?_; intro K hK) | refine bk ?_ | apply_assumption -exfalso -symm only [*]) | ((first | (with_reducible first | refine rg (md := { base := 2100, own := [102, 104], imp := [] }) (h := ?_) | refine nx ?_) | refine pK (s1) ?_ | refine pK (s2) ?_); try simp (disch := omega) only [b1, b8, b10, b11, b12, B8, B4, B2, B10, B11, B12, hlt, hlim, hlk, fi, mu, hgp, hA, hB, hC, Option.isSome_some, Option.isSome_none, Option.getD_some, Option.getD_none, cTest, trialV,go_sem, simprocAttr]) | ((with_reducible refine' cE ?hv ?_ ?_); (case hv => rfl); all_goals (intro hc; (try simp only [go_sem, simprocAttr] at hc))) | fail)
        have C00 := B00
        refine ⟨_, _, _, _, _, _, (by (repeat rw [upd_ne _ _ (by decide)]); exact B00), ?_⟩
        refine ⟨rfl, ?_⟩
        have hm : seenB (seenG m t k n) t k n = m := by simp only [seenB, seenG, hA, hB, hC, if_true, if_false, and_self, true_and, and_true, false_and, and_false, reduceCtorEq]
        rw [hm] at hst
        exact ⟨fun i hi => (zz _ hq0 i (by omega) (by omega) (by omega)).trans (jl i hi), upd_same _ _ _, (zz _ hq0 2110 (by decide) (by decide) (by decide)).trans j10, (zz _ hq0 2111 (by decide) (by decide) (by decide)).trans j11, _, _, ⟨(zz _ hq0 2108 (by decide) (by decide) (by decide)).trans j8, (zz _ hq0 2204 (by decide) (by decide) (by decide)).trans j4, by rw [upd_ne _ _ (by decide)]; (first | exact upd_same _ _ _ | exact B2)⟩, hst⟩
    ·clear G10 G11 G8 G4 G2 Gl hS
     rintro v Hs ⟨jl, j00, j10, j11, ver, m, ⟨j8, j4, j2⟩, hS⟩
     rw [List.take_of_length_le (Nat.le_refl _)] at hS
     have hS := hS.done
     subst hL
     refine ⟨_, _, _, _, _, _, j00, by simp, ?_⟩
     have y8 := (upd_ne Hs none (show 2108 ≠ 2300 by decide)).trans j8
     have y4 := (upd_ne Hs none (show 2204 ≠ 2300 by decide)).trans j4
     have y2 := (upd_ne Hs none (show 2202 ≠ 2300 by decide)).trans j2
     have y11 := (upd_ne Hs none (show 2111 ≠ 2300 by decide)).trans j11
     have yl : ∀ j, j < 2100 → upd Hs 2300 none j = H0 j := fun j hj => by rw [upd_ne _ _ (by omega), jl j hj]
     generalize upd Hs 2300 none = H2 at y8 y4 y2 y11 yl
     have hlk := @lk_seen ((k + 1 : Nat) : Int)
     have fi := fun (s : Int) (m : List SeenT) => xfind_smap (c := ((k + 1 : Nat) : Int)) (s := s) m 0
     simp only [seenK] at fi
     obtain ⟨hgc, hbc⟩ := hS.1 k (Nat.lt_succ_self k)
     have hnext : twistC t k = false → ∀ c, c < k + 1 → twistC t c = false := fun h c hc => by
      by_cases hck : c = k
      ·subst hck; exact h
      ·exact hT' c (by omega)
     have htwist : twistC t k = true → twistT t = true := fun h => by
      rw [twistT, List.any_eq_true]
      exact ⟨k, by simpa using hlt, h⟩
     unfold twistC at hnext htwist
     clear j00 j10 j11 j8 j4 j2 jl
     cases hg1 : goodC t k <;> cases hb1 : badC t k <;> rw [hg1, hb1] at hnext htwist <;> rw [hg1] at hgc <;> rw [hb1] at hbc
     ·repeat' (first | with_reducible (first | (refine sk ?_; intro K hK) | apply_assumption -exfalso -symm only [*]) | ((with_reducible first | refine rg (md := { base := 2100, own := [102, 104], imp := [] }) (h := ?_) | refine nx ?_); try simp (disch := omega) only [k1, k8, k9, k10, k11, k105, y8, y4, y2, y11, hlk, fi, hgc, hbc, Option.isSome_some, Option.isSome_none, Option.getD_some, Option.getD_none, cTest, trialV,go_sem, simprocAttr]) | ((with_reducible refine' cE ?hv ?_ ?_); (case hv => rfl); all_goals (intro hc; (try simp only [go_sem, simprocAttr] at hc))) | fail)
      exact ⟨6 - (k + 1), by omega, k + 1, rfl, by omega, ⟨by (and_intros <;> first | rfl | (simp only [k1, k9, go_sem, simprocAttr]; done) | (simp only [k1, k9, go_sem, simprocAttr]; rfl)), yl, e8, e4, e2, ver, m, by (first | rfl | (simp only [k8, go_sem, simprocAttr]; done) | (simp only [k8, go_sem, simprocAttr]; rfl)), ⟨y8, y4, y2⟩, hS, hnext rfl⟩⟩
     ·repeat' (first | with_reducible (first | (refine sk ?_; intro K hK) | apply_assumption -exfalso -symm only [*]) | ((with_reducible first | refine rg (md := { base := 2100, own := [102, 104], imp := [] }) (h := ?_) | refine nx ?_); try simp (disch := omega) only [k1, k8, k9, k10, k11, k105, y8, y4, y2, y11, hlk, fi, hgc, hbc, Option.isSome_some, Option.isSome_none, Option.getD_some, Option.getD_none, cTest, trialV,go_sem, simprocAttr]) | ((with_reducible refine' cE ?hv ?_ ?_); (case hv => rfl); all_goals (intro hc; (try simp only [go_sem, simprocAttr] at hc))) | fail)
      exact ⟨6 - (k + 1), by omega, k + 1, rfl, by omega, ⟨by (and_intros <;> first | rfl | (simp only [k1, k9, go_sem, simprocAttr]; done) | (simp only [k1, k9, go_sem, simprocAttr]; rfl)), yl, e8, e4, e2, ver, m, by (first | rfl | (simp only [k8, go_sem, simprocAttr]; done) | (simp only [k8, go_sem, simprocAttr]; rfl)), ⟨y8, y4, y2⟩, hS, hnext rfl⟩⟩
     ·repeat' (first | with_reducible (first | (refine sk ?_; intro K hK) | apply_assumption -exfalso -symm only [*]) | ((with_reducible first | refine rg (md := { base := 2100, own := [102, 104], imp := [] }) (h := ?_) | refine nx ?_); try simp (disch := omega) only [k1, k8, k9, k10, k11, k105, y8, y4, y2, y11, hlk, fi, hgc, hbc, Option.isSome_some, Option.isSome_none, Option.getD_some, Option.getD_none, cTest, trialV,go_sem, simprocAttr]) | ((with_reducible refine' cE ?hv ?_ ?_); (case hv => rfl); all_goals (intro hc; (try simp only [go_sem, simprocAttr] at hc))) | fail)
      exact ⟨6 - (k + 1), by omega, k + 1, rfl, by omega, ⟨by (and_intros <;> first | rfl | (simp only [k1, k9, go_sem, simprocAttr]; done) | (simp only [k1, k9, go_sem, simprocAttr]; rfl)), yl, e8, e4, e2, ver, m, by (first | rfl | (simp only [k8, go_sem, simprocAttr]; done) | (simp only [k8, go_sem, simprocAttr]; rfl)), ⟨y8, y4, y2⟩, hS, hnext rfl⟩⟩
     ·rename_i gs bs
      by_cases hle : bs ≤ gs
      ·obtain ⟨_, hcut'⟩ := hcutE
       rw [htwist (by simpa using hle)] at hcut'
       clear hnext
       repeat' (first | with_reducible (first | (refine sk ?_; intro K hK) | apply_assumption -exfalso -symm only [*]) | ((with_reducible first | refine rg (md := { base := 2100, own := [102, 104], imp := [] }) (h := ?_) | refine nx ?_); try simp (disch := omega) only [k1, k8, k9, k10, k11, k105, y8, y4, y2, y11, hlk, fi, hgc, hbc, hle, Option.isSome_some, Option.isSome_none, Option.getD_some, Option.getD_none, cTest, trialV,go_sem, simprocAttr]) | ((with_reducible refine' cE ?hv ?_ ?_); (case hv => rfl); all_goals (intro hc; (try simp only [go_sem, simprocAttr] at hc))) | fail)
       exact ⟨by (first | rfl | (simp only [go_sem, simprocAttr]; done) | (simp only [go_sem, simprocAttr]; rfl)), yl, fun h => by cases h⟩
      ·repeat' (first | with_reducible (first | (refine sk ?_; intro K hK) | apply_assumption -exfalso -symm only [*]) | ((with_reducible first | refine rg (md := { base := 2100, own := [102, 104], imp := [] }) (h := ?_) | refine nx ?_); try simp (disch := omega) only [k1, k8, k9, k10, k11, k105, y8, y4, y2, y11, hlk, fi, hgc, hbc, hle, Option.isSome_some, Option.isSome_none, Option.getD_some, Option.getD_none, cTest, trialV,go_sem, simprocAttr]) | ((with_reducible refine' cE ?hv ?_ ?_); (case hv => rfl); all_goals (intro hc; (try simp only [go_sem, simprocAttr] at hc))) | fail)
       exact ⟨6 - (k + 1), by omega, k + 1, rfl, by omega, ⟨by (and_intros <;> first | rfl | (simp only [k1, k9, go_sem, simprocAttr]; done) | (simp only [k1, k9, go_sem, simprocAttr]; rfl)), yl, e8, e4, e2, ver, m, by (first | rfl | (simp only [k8, go_sem, simprocAttr]; done) | (simp only [k8, go_sem, simprocAttr]; rfl)), ⟨y8, y4, y2⟩, hS, hnext (by simpa using hle)⟩⟩
   ·obtain rfl : k = 6 := by omega
    have htw : twistT t = false := by
     rw [twistT, List.any_eq_false]
     intro c hc
     rw [hT' c (by simpa using hc)]; simp
    have hcut' := hcut
    rw [htw] at hcut'
    clear hcut
    repeat' (first | with_reducible (first | (refine sk ?_; intro K hK) | apply_assumption -exfalso -symm only [*]) | ((with_reducible first | refine rg (md := { base := 2100, own := [102, 104], imp := [] }) (h := ?_) | refine nx ?_); try simp (disch := omega) only [h1, h8, h9, h105,go_sem, simprocAttr]) | ((with_reducible refine' cE ?hv ?_ ?_); (case hv => rfl); all_goals (intro hc; (try simp only [go_sem, simprocAttr] at hc))) | fail)
    exact ⟨by (first | rfl | (simp only [h9, go_sem, simprocAttr]; done) | (simp only [h9, go_sem, simprocAttr]; rfl)), hlow, fun _ => ⟨e8, e4, e2, ver, m, by (first | rfl | (simp only [h8, go_sem, simprocAttr]; done) | (simp only [h8, go_sem, simprocAttr]; rfl)), ⟨H8, H4, H2⟩, hS⟩⟩
 ·repeat' (first | with_reducible (first | (refine sk ?_; intro K hK) | refine bk ?_ | apply_assumption -exfalso -symm only [*]) | ((first | (with_reducible first | refine rg (md := { base := 2100, own := [102, 104], imp := [] }) (h := ?_) | refine nx ?_) | refine pK (hck) ?_); try simp (disch := omega) only [encTest, cTest, encRun, cRun, encRules, cRules, hE,go_sem, simprocAttr]) | ((with_reducible refine' cE ?hv ?_ ?_); (case hv => rfl); all_goals (intro hc; (try simp only [go_sem, simprocAttr] at hc))) | fail)
  refine FnQ_end (Or.inl rfl) (.refl _) (by simp only [Tryz.f64, go_sem, simprocAttr]; rfl) ?_
  simp only [go_sem, simprocAttr]
  refine ⟨hlow, ?_⟩
  have e : checkT t = checkE t.run t.rules := by simp [checkT, hE]
  rw [e, if_neg hE]
end Cp
namespace Cp
open Go
theorem fzd_grC {H : Hp} {n k e m sz : Nat} {xss : List (List Val)} (h : H k = some (e, .fro sz xss)) (hm : m = xss.length) : fzd H (n + 1) (.gr k e m) = .lst sz (xss.map fun es => es.map (fzd H n)) := by
 simp only [fzd, h, hm, and_self, if_true]
def LstC (k sz : Nat) (L : List (List Val)) (v : Val) (H : Hp) : Prop := (L = [] ∧ v = .nils) ∨ (¬ L = [] ∧ ∃ ea, v = .gr k ea L.length ∧ H k = some (ea, .arr sz L))
theorem LstC.same {k sz : Nat} {L : List (List Val)} {v : Val} {H H' : Hp} (h : LstC k sz L v H) (e : H' k = H k) : LstC k sz L v H' := by
 rcases h with h | ⟨h1, ea, h2, h3⟩
 ·exact .inl h
 ·exact .inr ⟨h1, ea, h2, by rw [e]; exact h3⟩
theorem LstC.snoc {k sz ea : Nat} {L : List (List Val)} {x : List Val} {H : Hp} (h : H k = some (ea, .arr sz (L ++ [x]))) : LstC k sz (L ++ [x]) (.gr k ea (L.length + 1)) H :=
 .inr ⟨by simp, ea, by simp, h⟩
theorem LstC.one {k sz ea : Nat} {x : List Val} {H : Hp} (h : H k = some (ea, .arr sz [x])) : LstC k sz ([] ++ [x]) (.gr k ea 1) H := LstC.snoc (L := []) h
section
variable {P : Program} {ro : Option Nat} {X : Cx} {Q : Exit → Fr → Hp → Prop} {f : Fr} {H : Hp} {c : Code}
theorem AW_nilC (t n : Nat) (hv : f t = .nils) (h : AW P ro X c Q (upd f t (.lst n [])) H) : AW P ro X c Q f H := fun G a w s => by
 refine h G a w ⟨s.tr, s.rel, fun t' => ?_, s.size, s.dfr⟩
 by_cases ht : t' = t
 ·subst ht
  rw [upd_same]
  have := s.fr t'
  rw [hv] at this
  exact this.nils_lst n
 ·rw [upd_ne _ _ ht]; exact s.fr t'
theorem AW_lstC {t k sz : Nat} {L : List (List Val)} (hz : ∀ H : Hp, (L.map fun es => es.map (fzd H 5)) = L) (h : LstC k sz L (f t) H) (hc : ∀ f' H', f' t = .lst sz L → (∀ j, ¬ j = t → f' j = f j) → (∀ j, ¬ j = k → H' j = H j) → AW P ro X c Q f' H') : AW P ro X c Q f H := by
 rcases h with ⟨rfl, h⟩ | ⟨_, ea, h, hk⟩
 ·exact AW_nilC t sz h (hc _ _ (upd_same _ _ _) (fun j hj => upd_ne _ _ hj) fun _ _ => rfl)
 ·refine AW_freeze k hk ?_
  refine AW_retell t 6 ?_
  refine hc _ _ ?_ (fun j hj => upd_ne _ _ hj) fun j hj => upd_ne _ _ hj
  rw [upd_same, h]
  rw [fzd_grC (n := 5) (upd_same _ _ _) rfl, hz]
end
end Cp
namespace Cp
open Go Go.Proofs
set_option maxRecDepth 10000
set_option maxHeartbeats 1000000
def encI (f : FailT) : Val := if f.held = 2 then .iface 133 (.agg []) else .iface 104 (.agg [.int .i64 f.at1.lo, .int .i64 f.at1.hi, .bool (decide (f.held = 0))])
theorem encI_flat (f : FailT) : flat (encI f) = true := by unfold encI; split <;> rfl
def TriL (t : TestT) (eb em ver : Nat) (m : List SeenT) (H : Hp) : Prop := H 2204 = some (eb, .arr 24 [trialV t em]) ∧ H 2202 = some (em, .map ver (smap m))
theorem good_bnd {t : TestT} (h : notesFrom t.fin 0 t.notes = true) (c : Nat) : (∀ g, goodC t c = some g → 0 ≤ g ∧ g ≤ t.fin) ∧ ∀ b, badC t c = some b → 0 ≤ b ∧ b ≤ t.fin := by
 have hs : ∀ {l : List NoteT} {last : Int}, 0 ≤ last → notesFrom t.fin last l = true → ∀ n ∈ l, 0 ≤ n.sec ∧ n.sec ≤ t.fin := by
  intro l
  induction l with
  | nil => intro _ _ _ n hn; cases hn
  | cons x l ih =>
   intro last h0 h n hn
   simp only [notesFrom, noteOK, offOK, Bool.and_eq_true, decide_eq_true_eq] at h
   rcases List.mem_cons.1 hn with rfl | hn
   ·omega
   ·exact ih (by omega) h.2 n hn
 have hs := hs (Int.le_refl 0) h
 constructor
 ·have gen : ∀ (l : List NoteT) (a : Option Int), (∀ n ∈ l, 0 ≤ n.sec ∧ n.sec ≤ t.fin) → (∀ g, a = some g → 0 ≤ g ∧ g ≤ t.fin) → ∀ g, goodL t c l a = some g → 0 ≤ g ∧ g ≤ t.fin := by
   intro l
   induction l with
   | nil => intro a _ ha g hg; exact ha g hg
   | cons x l ih =>
    intro a hl ha g hg
    simp only [goodL] at hg
    refine ih _ (fun n hn => hl n (by simp [hn])) (fun g hg => ?_) g hg
    split at hg
    ·cases hg; exact hl x (by simp)
    ·exact ha g hg
  exact gen t.notes none hs (fun g hg => by cases hg)
 ·intro b hb
  unfold badC badL at hb
  rw [Option.map_eq_some_iff] at hb
  obtain ⟨n, h1, rfl⟩ := hb
  exact hs n (List.mem_of_find?_eq_some h1)
theorem cfails_look (t : TestT) (hT : testOK t = true) (hR : t.run.rows.length ≤ 60) (c : Nat) (hc6 : c < 6) (eb em ver : Nat) (m : List SeenT) (hS : SeenM t 6 m) (H : Hp) (hL : TriL t eb em ver m H) :
  LookC Tryz.prog 50 [.ptr 2204 eb 24 0 0, .int .u8 ((c + 1 : Nat) : Int)] H (encI (failC t c)) := by
 obtain ⟨h4, h2⟩ := hL
 obtain ⟨hgc, hbc⟩ := hS.1 c hc6
 simp only [testOK, headT, Bool.and_eq_true, decide_eq_true_eq] at hT
 obtain ⟨hH, hN⟩ := hT
 obtain ⟨gb, bb⟩ := good_bnd hN c
 have hlk := @lk_seen ((c + 1 : Nat) : Int)
 have fi := fun (s : Int) (m : List SeenT) => xfind_smap (c := ((c + 1 : Nat) : Int)) (s := s) m 0
 simp only [seenK] at fi
 have key : ∀ fr to sure, frC t c = fr → toC t c = to → (badC t c).isSome = sure → encI (failC t c) = if to < fr then .iface 133 (.agg []) else .iface 104 (.agg [.int .i64 (fr - t.clock.hi), .int .i64 (to - t.clock.lo), .bool sure]) := by
  rintro fr to sure rfl rfl rfl
  unfold encI failC
  by_cases h : toC t c < frC t c
  ·simp only [if_pos h, if_true]
  ·simp only [if_neg h]
   cases (badC t c).isSome <;> simp
 refine LookC_of (fn := Tryz.f50) tabOK (by kernel_rfl) rfl (by kernel_rfl) (by simp [Tryz.f50]) (encI_flat _) ?_
 unfold frC toC at key
 intro X hX0 hXs
 cases hg1 : goodC t c <;> cases hb1 : badC t c <;> rw [hg1] at hgc gb <;> rw [hb1] at hbc bb <;> rw [hg1, hb1] at key
 ·rw [key 0 t.fin false rfl rfl rfl, if_neg (by omega)]
  repeat' (first | with_reducible (first | (refine sk ?_; intro K hK) | apply_assumption -exfalso -symm only [*]) | ((with_reducible first | refine rg (md := { base := 2500, own := [] }) (h := ?_) | refine nx ?_); try simp (disch := omega) only [h4, h2, hlk, fi, hgc, hbc, Option.isSome_some, Option.isSome_none, Option.getD_some, Option.getD_none, cTest, trialV,go_sem, simprocAttr]) | ((with_reducible refine' cE ?hv ?_ ?_); (case hv => rfl); all_goals (intro hc; (try simp only [go_sem, simprocAttr] at hc); try (exfalso; omega))) | ((with_reducible refine fe ?_); refine ⟨_, (by simp only [Tryz.f50, h4, h2, hlk, fi, hgc, hbc, Option.isSome_some, Option.isSome_none, Option.getD_some, Option.getD_none, cTest, trialV,go_sem, simprocAttr]; rfl), ?_⟩; rfl) | fail)
 ·rename_i b
  have hb := bb b rfl
  rw [key 0 b true rfl rfl rfl, if_neg (by omega)]
  repeat' (first | with_reducible (first | (refine sk ?_; intro K hK) | apply_assumption -exfalso -symm only [*]) | ((with_reducible first | refine rg (md := { base := 2500, own := [] }) (h := ?_) | refine nx ?_); try simp (disch := omega) only [h4, h2, hlk, fi, hgc, hbc, Option.isSome_some, Option.isSome_none, Option.getD_some, Option.getD_none, cTest, trialV,go_sem, simprocAttr]) | ((with_reducible refine' cE ?hv ?_ ?_); (case hv => rfl); all_goals (intro hc; (try simp only [go_sem, simprocAttr] at hc); try (exfalso; omega))) | ((with_reducible refine fe ?_); refine ⟨_, (by simp only [Tryz.f50, h4, h2, hlk, fi, hgc, hbc, Option.isSome_some, Option.isSome_none, Option.getD_some, Option.getD_none, cTest, trialV,go_sem, simprocAttr]; rfl), ?_⟩; rfl) | fail)
 ·rename_i g
  have hg := gb g rfl
  rw [key (g + 1) t.fin false rfl rfl rfl]
  by_cases hlt : t.fin < g + 1
  ·rw [if_pos hlt]
   repeat' (first | with_reducible (first | (refine sk ?_; intro K hK) | apply_assumption -exfalso -symm only [*]) | ((with_reducible first | refine rg (md := { base := 2500, own := [] }) (h := ?_) | refine nx ?_); try simp (disch := omega) only [h4, h2, hlk, fi, hgc, hbc, Option.isSome_some, Option.isSome_none, Option.getD_some, Option.getD_none, cTest, trialV, hlt,go_sem, simprocAttr]) | ((with_reducible refine' cE ?hv ?_ ?_); (case hv => rfl); all_goals (intro hc; (try simp only [go_sem, simprocAttr] at hc))) | ((with_reducible refine fe ?_); refine ⟨_, (by simp only [Tryz.f50, h4, h2, hlk, fi, hgc, hbc, Option.isSome_some, Option.isSome_none, Option.getD_some, Option.getD_none, cTest, trialV, hlt,go_sem, simprocAttr]; rfl), ?_⟩; rfl) | fail)
  ·rw [if_neg hlt]
   repeat' (first | with_reducible (first | (refine sk ?_; intro K hK) | apply_assumption -exfalso -symm only [*]) | ((with_reducible first | refine rg (md := { base := 2500, own := [] }) (h := ?_) | refine nx ?_); try simp (disch := omega) only [h4, h2, hlk, fi, hgc, hbc, Option.isSome_some, Option.isSome_none, Option.getD_some, Option.getD_none, cTest, trialV, hlt,go_sem, simprocAttr]) | ((with_reducible refine' cE ?hv ?_ ?_); (case hv => rfl); all_goals (intro hc; (try simp only [go_sem, simprocAttr] at hc))) | ((with_reducible refine fe ?_); refine ⟨_, (by simp only [Tryz.f50, h4, h2, hlk, fi, hgc, hbc, Option.isSome_some, Option.isSome_none, Option.getD_some, Option.getD_none, cTest, trialV, hlt,go_sem, simprocAttr]; rfl), ?_⟩; rfl) | fail)
 ·rename_i g b
  have hg := gb g rfl
  have hb := bb b rfl
  rw [key (g + 1) b true rfl rfl rfl]
  by_cases hlt : b < g + 1
  ·rw [if_pos hlt]
   repeat' (first | with_reducible (first | (refine sk ?_; intro K hK) | apply_assumption -exfalso -symm only [*]) | ((with_reducible first | refine rg (md := { base := 2500, own := [] }) (h := ?_) | refine nx ?_); try simp (disch := omega) only [h4, h2, hlk, fi, hgc, hbc, Option.isSome_some, Option.isSome_none, Option.getD_some, Option.getD_none, cTest, trialV, hlt,go_sem, simprocAttr]) | ((with_reducible refine' cE ?hv ?_ ?_); (case hv => rfl); all_goals (intro hc; (try simp only [go_sem, simprocAttr] at hc))) | ((with_reducible refine fe ?_); refine ⟨_, (by simp only [Tryz.f50, h4, h2, hlk, fi, hgc, hbc, Option.isSome_some, Option.isSome_none, Option.getD_some, Option.getD_none, cTest, trialV, hlt,go_sem, simprocAttr]; rfl), ?_⟩; rfl) | fail)
  ·rw [if_neg hlt]
   repeat' (first | with_reducible (first | (refine sk ?_; intro K hK) | apply_assumption -exfalso -symm only [*]) | ((with_reducible first | refine rg (md := { base := 2500, own := [] }) (h := ?_) | refine nx ?_); try simp (disch := omega) only [h4, h2, hlk, fi, hgc, hbc, Option.isSome_some, Option.isSome_none, Option.getD_some, Option.getD_none, cTest, trialV, hlt,go_sem, simprocAttr]) | ((with_reducible refine' cE ?hv ?_ ?_); (case hv => rfl); all_goals (intro hc; (try simp only [go_sem, simprocAttr] at hc))) | ((with_reducible refine fe ?_); refine ⟨_, (by simp only [Tryz.f50, h4, h2, hlk, fi, hgc, hbc, Option.isSome_some, Option.isSome_none, Option.getD_some, Option.getD_none, cTest, trialV, hlt,go_sem, simprocAttr]; rfl), ?_⟩; rfl) | fail)
end Cp
namespace Cp
open Go Go.Proofs
set_option maxRecDepth 10000
set_option maxHeartbeats 1000000
def comeF (fs : List FailT) : List FailT := fs.filter fun f => decide (f.held ≠ 2)
def sureF (fs : List FailT) : Bool := fs.any fun f => decide (f.held = 0)
def hiStep (sure : Bool) (h : Int) (b : FailT) : Int := if sure = true then (if b.held = 0 then min h b.at1.hi else h) else max h b.at1.hi
def fstS (fs : List FailT) : FailT := match comeF fs with
 | [] => ⟨2, ⟨0, 0⟩⟩
 | b :: l => ⟨if sureF fs = true then 0 else 1, ⟨(b :: l).foldl (fun x y => min x y.at1.lo) b.at1.lo, (b :: l).foldl (hiStep (sureF fs)) (if sureF fs = true then 36000 else -36000)⟩⟩
def cBrk (f : FailT) : List Val := [.int .i64 f.at1.lo, .int .i64 f.at1.hi, .bool (decide (f.held = 0))]
theorem brk_at {l : List FailT} {k : Nat} {x : FailT} (h : l[k]? = some x) : (l.map cBrk)[k]? = some (cBrk x) := by rw [List.getElem?_map, h]; rfl
theorem encI_at {l : List FailT} {k : Nat} {x : FailT} (h : l[k]? = some x) : (l.map fun f => [encI f])[k]? = some [encI x] := by rw [List.getElem?_map, h]; rfl
theorem encI_noid (f : FailT) : noid (encI f) = true := by unfold encI; split <;> simp [noid, noids]
theorem encIs_noid (fs : List FailT) : noidss (fs.map fun f => [encI f]) = true := noidss_map fun f => by simp [noids, encI_noid]
theorem cfirst_ok (fs : List FailT) (hl : fs.length ≤ 100000) (hh : ∀ f ∈ fs, f.held = 0 ∨ f.held = 1 ∨ f.held = 2) : PureC Tryz.prog 66 [.lst 1 (fs.map fun f => [encI f])] (encI (fstS fs)) := by
 have hnv := encI_noid (fstS fs)
 have hn := encIs_noid fs
 refine PureC_of (fn := Tryz.f66) tabOK (by kernel_rfl) rfl (by kernel_rfl) (by simp [Tryz.f66]) (by simp [noids, noid, noidss, go_sem, hnv, hn]) (by first | rfl | simp [noids, noid, noidss, go_sem, hnv, hn]) ?_
 intro X hX0 hXs
 repeat' (first | with_reducible (first | ((fail_if_success (refine AW_at (id := 3) ?_)); refine sk ?_; intro K hK) | apply_assumption -exfalso -symm only [*]) | ((with_reducible refine rg (md := { base := 0, own := [9, 27] }) (h := ?_)); try simp (disch := omega) only [go_sem, simprocAttr]) | fail)
 have hcut : ∀ f H, f 4 = .bool (sureF fs) ∧ LstC 27 3 ((comeF fs).map cBrk) (f 3) H → K f H := by
  rintro f H ⟨h4, hL⟩
  refine hK f H ?_
  clear hK
  have hz : ∀ H : Hp, (((comeF fs).map cBrk).map fun es => es.map (fzd H 5)) = (comeF fs).map cBrk := fun H => map_id2 (fun _ => rfl) _
  refine AW_lstC (t := 3) hz hL fun f2 H2 h3 hf2 hH2 => ?_
  have g4 := (hf2 4 (by decide)).trans h4
  clear hf2 hH2 hL h4
  unfold fstS at hnv ⊢
  obtain ⟨bs, hbs⟩ : ∃ bs, comeF fs = bs := ⟨_, rfl⟩
  have hbl : bs.length ≤ 100000 := by
   have := List.length_filter_le (fun f : FailT => decide (f.held ≠ 2)) fs
   rw [← hbs]; unfold comeF; omega
  rw [hbs] at h3 hnv ⊢
  clear hz
  generalize sureF fs = S at *
  cases bs with
  | nil =>
   repeat' (first | with_reducible (first | (refine sk ?_; intro K hK) | apply_assumption -exfalso -symm only [*]) | ((with_reducible first | refine rg (md := { base := 0, own := [9, 27] }) (h := ?_) | refine nx ?_); try simp (disch := omega) only [h3, g4, encI,go_sem, simprocAttr]) | ((with_reducible refine' cE ?hv ?_ ?_); (case hv => rfl); all_goals (intro hc; (try simp only [go_sem, simprocAttr] at hc))) | ((with_reducible refine fe ?_); refine ⟨_, (by simp only [Tryz.f66, h3, g4, encI,go_sem, simprocAttr]; rfl), ?_⟩; rfl) | fail)
  | cons b0 l0 =>
   refine AW_keep [] ?_
   obtain ⟨bs, hbs2⟩ : ∃ bs, b0 :: l0 = bs := ⟨_, rfl⟩
   have h0 : bs[0]? = some b0 := by rw [← hbs2]; rfl
   have h0a := brk_at h0
   have hne : ¬ bs.length = 0 := by rw [← hbs2]; simp
   simp only [hbs2] at *
   have hne' : ¬ ((bs.length : Nat) : Int) = 0 := by omega
   have hpos : 0 < bs.length := by omega
   clear hbs2
   cases S with
   | true =>
    repeat' (first | with_reducible (first | (refine sk ?_; intro K hK) | intro (ep : Nat → Nat) | apply_assumption -exfalso -symm only [*]) | ((with_reducible first | refine rg (md := { base := 0, own := [9, 27] }) (h := ?_) | refine nx ?_); try simp (disch := omega) only [h3, g4, h0a, hne', hpos, cBrk,go_sem, simprocAttr]) | ((with_reducible refine' cE ?hv ?_ ?_); (case hv => rfl); all_goals (intro hc; (try simp only [go_sem, simprocAttr] at hc))) | fail)
    refine AW_range tabOK bs.length (fun k f H => (f 4 = .bool true ∧ f 50 = .lst 3 (bs.map cBrk)) ∧ ∃ e9, f 9 = .ptr 9 e9 3 0 0 ∧ H 9 = some (e9, .arr 3 [[.int .i64 ((bs.take k).foldl (fun x y => min x y.at1.lo) b0.at1.lo), .int .i64 ((bs.take k).foldl (hiStep true) 36000), .bool true]])) (by omega) (by rw [hXs]; decide) (by decide) (by (first | rfl | (simp only [h3, go_sem, simprocAttr]; done) | (simp only [h3, go_sem, simprocAttr]; rfl))) (by (first | rfl | (simp only [h3, go_sem, simprocAttr]; done) | (simp only [h3, go_sem, simprocAttr]; rfl)))
     ⟨by (and_intros <;> first | rfl | (simp only [h3, g4, go_sem, simprocAttr]; done) | (simp only [h3, g4, go_sem, simprocAttr]; rfl)), _, by (first | rfl | (simp only [go_sem, simprocAttr]; done) | (simp only [go_sem, simprocAttr]; rfl)), by (first | rfl | (simp only [List.take_zero, List.foldl_nil, go_sem, simprocAttr]; done) | (simp only [List.take_zero, List.foldl_nil, go_sem, simprocAttr]; rfl))⟩ ?_ ?_
    ·rintro k f H hk h52 h51 ⟨⟨h4, h50⟩, e9, h9, H9⟩
     obtain ⟨x, hx⟩ : ∃ x, bs[k]? = some x := ⟨_, List.getElem?_eq_getElem hk⟩
     have hxa := brk_at hx
     simp only [take_snocC hx, List.foldl_append, List.foldl_cons, List.foldl_nil]
     generalize (bs.take k).foldl (fun x y => min x y.at1.lo) b0.at1.lo = lo at *
     generalize (bs.take k).foldl (hiStep true) 36000 = hi at *
     refine AW_keep [9] ?_
     have k11 : keep H [9] 11 = none := rfl
     have k9 := H9
     change keep H [9] 9 = _ at k9
     generalize keep H [9] = H2 at k11 k9 ⊢
     clear H9 h3 g4 h0a hnv
     by_cases h0 : x.held = 0
     ·repeat' (first | with_reducible (first | (refine sk ?_; intro K hK) | refine bk ?_ | intro (ep : Nat → Nat) | apply_assumption -exfalso -symm only [*]) | ((with_reducible refine rg (md := { base := 0, own := [9, 27] }) (h := ?_)); try simp (disch := omega) only [h4, h9, h50, h51, h52, hxa, k11, k9, h0, cBrk,go_sem, simprocAttr]) | ((with_reducible refine' cE ?hv ?_ ?_); (case hv => rfl); all_goals (intro hc; (try simp only [go_sem, simprocAttr] at hc))) | fail)
      exact ⟨e9, rfl, by simp only [hiStep, h0, if_true, if_false]⟩
     ·repeat' (first | with_reducible (first | (refine sk ?_; intro K hK) | refine bk ?_ | intro (ep : Nat → Nat) | apply_assumption -exfalso -symm only [*]) | ((with_reducible first | refine rg (md := { base := 0, own := [9, 27] }) (h := ?_) | refine nx ?_); try simp (disch := omega) only [h4, h9, h50, h51, h52, hxa, k11, k9, h0, cBrk,go_sem, simprocAttr]) | ((with_reducible refine' cE ?hv ?_ ?_); (case hv => rfl); all_goals (intro hc; (try simp only [go_sem, simprocAttr] at hc))) | fail)
      exact ⟨e9, rfl, by simp only [hiStep, h0, if_true, if_false]⟩
    ·rintro f H h52 h51 ⟨⟨h4, h50⟩, e9, h9, H9⟩
     rw [List.take_of_length_le (Nat.le_refl _)] at H9
     repeat' (first | with_reducible (first | (refine sk ?_; intro K hK) | apply_assumption -exfalso -symm only [*]) | ((with_reducible first | refine rg (md := { base := 0, own := [9, 27] }) (h := ?_) | refine nx ?_); try simp (disch := omega) only [h4, h9, H9, encI,go_sem, simprocAttr]) | ((with_reducible refine fe ?_); refine ⟨_, (by simp only [Tryz.f66, h4, h9, H9, encI,go_sem, simprocAttr]; rfl), ?_⟩; rfl) | fail)
   | false =>
    repeat' (first | with_reducible (first | (refine sk ?_; intro K hK) | intro (ep : Nat → Nat) | apply_assumption -exfalso -symm only [*]) | ((with_reducible first | refine rg (md := { base := 0, own := [9, 27] }) (h := ?_) | refine nx ?_); try simp (disch := omega) only [h3, g4, h0a, hne', hpos, cBrk,go_sem, simprocAttr]) | ((with_reducible refine' cE ?hv ?_ ?_); (case hv => rfl); all_goals (intro hc; (try simp only [go_sem, simprocAttr] at hc))) | fail)
    refine AW_range tabOK bs.length (fun k f H => (f 4 = .bool false ∧ f 50 = .lst 3 (bs.map cBrk)) ∧ ∃ e9, f 9 = .ptr 9 e9 3 0 0 ∧ H 9 = some (e9, .arr 3 [[.int .i64 ((bs.take k).foldl (fun x y => min x y.at1.lo) b0.at1.lo), .int .i64 ((bs.take k).foldl (hiStep false) (-36000)), .bool false]])) (by omega) (by rw [hXs]; decide) (by decide) (by (first | rfl | (simp only [h3, go_sem, simprocAttr]; done) | (simp only [h3, go_sem, simprocAttr]; rfl))) (by (first | rfl | (simp only [h3, go_sem, simprocAttr]; done) | (simp only [h3, go_sem, simprocAttr]; rfl)))
     ⟨by (and_intros <;> first | rfl | (simp only [h3, g4, go_sem, simprocAttr]; done) | (simp only [h3, g4, go_sem, simprocAttr]; rfl)), _, by (first | rfl | (simp only [go_sem, simprocAttr]; done) | (simp only [go_sem, simprocAttr]; rfl)), by (first | rfl | (simp only [List.take_zero, List.foldl_nil, go_sem, simprocAttr]; done) | (simp only [List.take_zero, List.foldl_nil, go_sem, simprocAttr]; rfl))⟩ ?_ ?_
    ·rintro k f H hk h52 h51 ⟨⟨h4, h50⟩, e9, h9, H9⟩
     obtain ⟨x, hx⟩ : ∃ x, bs[k]? = some x := ⟨_, List.getElem?_eq_getElem hk⟩
     have hxa := brk_at hx
     simp only [take_snocC hx, List.foldl_append, List.foldl_cons, List.foldl_nil]
     generalize (bs.take k).foldl (fun x y => min x y.at1.lo) b0.at1.lo = lo at *
     generalize (bs.take k).foldl (hiStep false) (-36000) = hi at *
     refine AW_keep [9] ?_
     have k11 : keep H [9] 11 = none := rfl
     have k9 := H9
     change keep H [9] 9 = _ at k9
     generalize keep H [9] = H2 at k11 k9 ⊢
     clear H9 h3 g4 h0a hnv
     repeat' (first | with_reducible (first | (refine sk ?_; intro K hK) | refine bk ?_ | intro (ep : Nat → Nat) | apply_assumption -exfalso -symm only [*]) | ((with_reducible refine rg (md := { base := 0, own := [9, 27] }) (h := ?_)); try simp (disch := omega) only [h4, h9, h50, h51, h52, hxa, k11, k9, cBrk,go_sem, simprocAttr]) | ((with_reducible refine' cE ?hv ?_ ?_); (case hv => rfl); all_goals (intro hc; (try simp only [go_sem, simprocAttr] at hc))) | fail)
     exact ⟨e9, rfl, by simp only [hiStep, Bool.false_eq_true, if_false]⟩
    ·rintro f H h52 h51 ⟨⟨h4, h50⟩, e9, h9, H9⟩
     rw [List.take_of_length_le (Nat.le_refl _)] at H9
     repeat' (first | with_reducible (first | (refine sk ?_; intro K hK) | apply_assumption -exfalso -symm only [*]) | ((with_reducible first | refine rg (md := { base := 0, own := [9, 27] }) (h := ?_) | refine nx ?_); try simp (disch := omega) only [h4, h9, H9, encI,go_sem, simprocAttr]) | ((with_reducible refine fe ?_); refine ⟨_, (by simp only [Tryz.f66, h4, h9, H9, encI,go_sem, simprocAttr]; rfl), ?_⟩; rfl) | fail)
 clear hK
 repeat' (first | with_reducible (first | (refine sk ?_; intro K hK) | apply_assumption -exfalso -symm only [*]) | ((with_reducible refine rg (md := { base := 0, own := [9, 27] }) (h := ?_)); try simp (disch := omega) only [hn,go_sem, simprocAttr]) | fail)
 refine AW_range tabOK fs.length (fun k f H => (f 12 = .lst 1 (fs.map fun f => [encI f]) ∧ f 4 = .bool (sureF (fs.take k))) ∧ LstC 27 3 ((comeF (fs.take k)).map cBrk) (f 3) H) (by omega) (by rw [hXs]; decide) (by decide) (by (first | rfl | (simp only [go_sem, simprocAttr]; done) | (simp only [go_sem, simprocAttr]; rfl))) (by (first | rfl | (simp only [go_sem, simprocAttr]; done) | (simp only [go_sem, simprocAttr]; rfl)))
  ⟨by (and_intros <;> first | rfl | (simp only [go_sem, simprocAttr]; done) | (simp only [go_sem, simprocAttr]; rfl)), .inl ⟨rfl, by (first | rfl | (simp only [go_sem, simprocAttr]; done) | (simp only [go_sem, simprocAttr]; rfl))⟩⟩ ?_ ?_
 ·clear hcut
  rintro k f H hk h14 h13 ⟨⟨h12, h4⟩, hL⟩
  obtain ⟨x, hx⟩ : ∃ x, fs[k]? = some x := ⟨_, List.getElem?_eq_getElem hk⟩
  have hxa := encI_at hx
  have hxh := hh x (List.mem_of_getElem? hx)
  have hcs : comeF (fs.take (k + 1)) = comeF (fs.take k) ++ (if x.held = 2 then [] else [x]) := by
   rw [take_snocC hx, comeF, List.filter_append]
   by_cases h : x.held = 2 <;> simp [comeF, h]
  have hsn : sureF (fs.take (k + 1)) = (sureF (fs.take k) || decide (x.held = 0)) := by
   rw [take_snocC hx, sureF, List.any_append]
   simp [sureF]
  have hcl : (comeF (fs.take k)).length ≤ 100000 := by
   have := List.length_filter_le (fun f : FailT => decide (f.held ≠ 2)) (fs.take k)
   rw [List.length_take] at this
   unfold comeF; omega
  generalize comeF (fs.take k) = C at *
  generalize sureF (fs.take k) = S at *
  refine AW_keep [27] ?_
  have k7 : keep H [27] 7 = none := rfl
  have k3 : LstC 27 3 (C.map cBrk) (f 3) (keep H [27]) := hL.same rfl
  generalize keep H [27] = H2 at k7 k3 ⊢
  clear hL
  by_cases h2 : x.held = 2
  ·have he : encI x = .iface 133 (.agg []) := if_pos h2
   rw [he] at hxa
   rw [if_pos h2, List.append_nil] at hcs
   have h0 : ¬ x.held = 0 := by omega
   rw [decide_eq_false h0, Bool.or_false] at hsn
   repeat' (first | with_reducible (first | (refine sk ?_; intro K hK) | intro (ep : Nat → Nat) | apply_assumption -exfalso -symm only [*]) | ((with_reducible first | refine rg (md := { base := 0, own := [9, 27] }) (h := ?_) | refine nx ?_); try simp (disch := omega) only [h4, h12, h13, h14, hxa, k7,go_sem, simprocAttr]) | ((with_reducible refine' cE ?hv ?_ ?_); (case hv => rfl); all_goals (intro hc; (try simp only [go_sem, simprocAttr] at hc))) | fail)
   exact ⟨by rw [hsn], by rw [hcs]; exact k3.same (by rw [upd_ne _ _ (by decide), upd_ne _ _ (by decide)])⟩
  ·have he : encI x = .iface 104 (.agg [.int .i64 x.at1.lo, .int .i64 x.at1.hi, .bool (decide (x.held = 0))]) := if_neg h2
   rw [he] at hxa
   rw [if_neg h2] at hcs
   rcases k3 with ⟨hC, h3⟩ | ⟨hne, ea, h3, k27⟩
   ·refine AW_lose 27 fun H3 g27 hs3 => ?_
    have q7 := (hs3 7 (by decide)).trans k7
    clear hs3 k7
    repeat' (first | with_reducible (first | (refine sk ?_; intro K hK) | intro (ep : Nat → Nat) | apply_assumption -exfalso -symm only [*]) | ((with_reducible refine rg (md := { base := 0, own := [9, 27] }) (h := ?_)); try simp (disch := omega) only [h3, h4, h12, h13, h14, hxa, q7, g27,go_sem, simprocAttr]) | ((with_reducible refine' cE ?hv ?_ ?_); (case hv => rfl); all_goals (intro hc; (try simp only [go_sem, simprocAttr] at hc))) | ((with_reducible refine grdS_split ?_ ?_) <;> intro hg <;> (try simp (disch := omega) only [hg, h3, h4, h12, h13, h14, hxa, q7, g27,go_sem, simprocAttr]) <;> (try simp only [go_sem, simprocAttr] at hg) <;> (try (exfalso; omega))) | fail)
    all_goals exact ⟨by rw [hsn]; simp_all, by rw [hcs, List.map_append, hC]; exact .one (by (first | rfl | (simp only [cBrk, go_sem, simprocAttr]; done) | (simp only [cBrk, go_sem, simprocAttr]; rfl)))⟩
   ·have hkb : C.length ≤ 1073741823 := by omega
    rw [List.length_map] at h3
    repeat' (first | with_reducible (first | (refine sk ?_; intro K hK) | intro (ep : Nat → Nat) | apply_assumption -exfalso -symm only [*]) | ((with_reducible refine rg (md := { base := 0, own := [9, 27] }) (h := ?_)); try simp (disch := omega) only [h3, h4, h12, h13, h14, hxa, k7, k27, hkb,go_sem, simprocAttr]) | ((with_reducible refine' cE ?hv ?_ ?_); (case hv => rfl); all_goals (intro hc; (try simp only [go_sem, simprocAttr] at hc))) | ((with_reducible refine grdS_split ?_ ?_) <;> intro hg <;> (try simp (disch := omega) only [hg, h3, h4, h12, h13, h14, hxa, k7, k27, hkb,go_sem, simprocAttr]) <;> (try simp only [go_sem, simprocAttr] at hg) <;> (try (exfalso; omega))) | fail)
    all_goals exact ⟨by rw [hsn]; simp_all, by rw [hcs, List.map_append, List.map_cons, List.map_nil, ← List.length_map (f := cBrk)]; exact .snoc (by (first | rfl | (simp only [cBrk, go_sem, simprocAttr]; done) | (simp only [cBrk, go_sem, simprocAttr]; rfl)))⟩
 ·rintro f H h14 h13 ⟨⟨h12, h4⟩, hL⟩
  rw [List.take_of_length_le (Nat.le_refl _)] at h4 hL
  repeat' (first | with_reducible apply_assumption -exfalso -symm only [*] | fail)
  exact ⟨by (first | rfl | (simp only [h4, go_sem, simprocAttr]; done) | (simp only [h4, go_sem, simprocAttr]; rfl)), hL⟩
end Cp
