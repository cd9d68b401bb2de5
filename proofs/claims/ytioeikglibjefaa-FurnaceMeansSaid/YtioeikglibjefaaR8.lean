/- What functions of the furnace and of its reference compute (R8). Conditions: none. -/
import Derived.Test.YtioeikglibjefaaR7
set_option linter.unusedSimpArgs false
set_option linter.unusedVariables false
namespace Cp
open Go Go.Proofs
set_option maxRecDepth 10000

theorem rrules_ok (u : RulesT) (hb : RulesB u) : PureC Try.prog 55 [encRules u] (.bool (rulesOK u)) := by
  have hb1 := hb.steps
  refine PureC_of (fn := Try.f55) tabOK (by kernel_rfl) rfl (by kernel_rfl) (by simp [Try.f55]) (by simp [noids, noid, noidss, go_sem, encRules, cRules]) (by first | rfl | simp [noids, noid, noidss, go_sem, encRules, cRules]) ?_
  intro X hX0 hXs
  repeat' (first
    | (with_reducible refine AW_seq_k ?_; intro K hK)
    | ((first | ((with_reducible first | refine AW_region tabOK { base := 0, own := [] } ?hsz ?_ | refine AW_draw tabOK mix { base := 0, own := [] } ?hsz (by decide +kernel) ?_); (case hsz => rw [hXs]; rfl)) | (with_reducible first | refine AW_skip ?_ | refine AW_ret ?_ | refine AW_exit ?_ | refine AW_label ?_) | refine pureK_intro (rwithin_ok _ _ _) ?_ | refine pureK_intro (rspanned_ok u.press _ _) ?_); try simp (disch := omega) only [encRules, cRules,go_sem, simprocAttr])
    | (with_reducible first | refine AW_scope ?_ | refine AW_blockS ?_ | refine AW_blockR ?_ | refine AW_blockC ?_)
    | ((with_reducible refine AW_condE ?_); refine ⟨_, (by first | rfl | (simp only [encRules, cRules,go_sem, simprocAttr]; rfl)), ?_, ?_⟩ <;> intro hc <;> (try simp only [go_sem, simprocAttr] at hc) <;> (try (exfalso; omega)))
    | ((with_reducible first | refine grdS_split ?_ ?_ | refine lkG_split ?_ ?_) <;> intro hg <;> (try simp (disch := omega) only [hg, encRules, cRules,go_sem, simprocAttr]) <;> (try simp only [go_sem, simprocAttr] at hg) <;> (try (exfalso; omega)))
    | (with_reducible refine FnP_endE (by simp) ?_; refine ⟨_, (by simp only [Try.f55, encRules, cRules,go_sem, simprocAttr]; rfl), ?_⟩; first | rfl | (try simp only [encRules, cRules,go_sem, simprocAttr, Val.bool.injEq, Val.int.injEq, Val.tup.injEq, Val.agg.injEq, List.cons.injEq]))
    | with_reducible intro (ep : Nat → Nat)
    | with_reducible apply_assumption -exfalso -symm only [*])
  iterate 5 (have : limsOK u = false := by (simp only [limsOK, decide_eq_false_iff_not]; omega)
             rw [rulesOK, this]; rfl)
  have hh : limsOK u = true := by simp only [limsOK, decide_eq_true_eq]; omega
  have hR : rulesOK u = stepsFrom 0 u.steps := by rw [rulesOK, hh]; rfl
  refine AW_block (AW_loop (fun n f H => ∃ k : Nat, n = u.steps.length - k ∧ k ≤ u.steps.length ∧ (f 1 = .pim (cRules u) ∧ f 3 = .int .i64 k) ∧ ∃ last, (k = 0 → last = 0) ∧ (∀ j, k = j + 1 → ∃ a, u.steps[j]? = some a ∧ a.frm = last) ∧ 0 ≤ last ∧ last ≤ 600 ∧ stepsFrom 0 u.steps = stepsFrom last (u.steps.drop k)) u.steps.length
    ⟨0, by simp, Nat.zero_le _, by (and_intros <;> first | rfl | (simp only [cRules, go_sem, simprocAttr]; done) | (simp only [cRules, go_sem, simprocAttr]; rfl)), 0, by simp, by simp, by simp, by simp, by simp⟩ ?_)
  rintro n f H ⟨k, rfl, hk, ⟨h1, h3⟩, last, hl0, hl1, hl2, hl3, hr⟩
  by_cases hlt : k < u.steps.length
  · obtain ⟨x, hx⟩ : ∃ x, u.steps[k]? = some x := ⟨_, List.getElem?_eq_getElem hlt⟩
    rw [drop_cons hx] at hr
    simp only [stepsFrom] at hr
    have bad : stepOK last x = false → false = rulesOK u := fun h => by rw [hR, hr, h]; simp
    have good : stepOK last x = true → ∃ m, m < u.steps.length - k ∧ ∃ k', m = u.steps.length - k' ∧ k' ≤ u.steps.length ∧ Val.int .i64 ((k + 1 : Nat) : Int) = .int .i64 (k' : Int) ∧ ∃ last, (k' = 0 → last = 0) ∧ (∀ j, k' = j + 1 → ∃ a, u.steps[j]? = some a ∧ a.frm = last) ∧ 0 ≤ last ∧ last ≤ 600 ∧ stepsFrom 0 u.steps = stepsFrom last (u.steps.drop k') := fun h => by
      refine ⟨u.steps.length - (k + 1), by omega, k + 1, rfl, by omega, rfl, x.frm, by omega, (fun j hj => ⟨x, (by rw [show j = k by omega]; exact hx), rfl⟩), ?_⟩
      have h' := h
      simp only [stepOK, decide_eq_true_eq] at h
      refine ⟨by omega, by omega, ?_⟩
      rw [hr, h']; simp
    simp only [stepOK, decide_eq_false_iff_not, decide_eq_true_eq] at bad good
    rcases k with _ | j
    · obtain rfl := hl0 rfl
      repeat' (first
        | (with_reducible refine AW_seq_k ?_; intro K hK)
        | ((first | ((with_reducible first | refine AW_region tabOK { base := 0, own := [] } ?hsz ?_ | refine AW_draw tabOK mix { base := 0, own := [] } ?hsz (by decide +kernel) ?_); (case hsz => rw [hXs]; rfl)) | (with_reducible first | refine AW_skip ?_ | refine AW_ret ?_ | refine AW_exit ?_ | refine AW_label ?_) | refine pureK_intro (rwithin_ok _ _ _) ?_); try simp (disch := omega) only [h1, h3, hx, cRules, cStep,go_sem, simprocAttr])
        | (with_reducible first | refine AW_scope ?_ | refine AW_blockS ?_ | refine AW_blockR ?_ | refine AW_blockC ?_)
        | ((with_reducible refine AW_condE ?_); refine ⟨_, (by first | rfl | (simp only [h1, h3, hx, cRules, cStep,go_sem, simprocAttr]; rfl)), ?_, ?_⟩ <;> intro hc <;> (try simp only [go_sem, simprocAttr] at hc) <;> (try (exfalso; omega)))
        | ((with_reducible first | refine grdS_split ?_ ?_ | refine lkG_split ?_ ?_) <;> intro hg <;> (try simp (disch := omega) only [hg, h1, h3, hx, cRules, cStep,go_sem, simprocAttr]) <;> (try simp only [go_sem, simprocAttr] at hg) <;> (try (exfalso; omega)))
        | (with_reducible refine FnP_endE (by simp) ?_; refine ⟨_, (by simp only [Try.f55, h1, h3, hx, cRules, cStep,go_sem, simprocAttr]; rfl), ?_⟩; first | rfl | (try simp only [h1, h3, hx, cRules, cStep,go_sem, simprocAttr, Val.bool.injEq, Val.int.injEq, Val.tup.injEq, Val.agg.injEq, List.cons.injEq]))
        | with_reducible intro (ep : Nat → Nat)
        | with_reducible apply_assumption -exfalso -symm only [*])
      all_goals omega
    · obtain ⟨a, haj, hal⟩ := hl1 j rfl
      repeat' (first
        | (with_reducible refine AW_seq_k ?_; intro K hK)
        | ((first | ((with_reducible first | refine AW_region tabOK { base := 0, own := [] } ?hsz ?_ | refine AW_draw tabOK mix { base := 0, own := [] } ?hsz (by decide +kernel) ?_); (case hsz => rw [hXs]; rfl)) | (with_reducible first | refine AW_skip ?_ | refine AW_ret ?_ | refine AW_exit ?_ | refine AW_label ?_) | refine pureK_intro (rwithin_ok _ _ _) ?_); try simp (disch := omega) only [h1, h3, hx, haj, cRules, cStep,go_sem, simprocAttr])
        | (with_reducible first | refine AW_scope ?_ | refine AW_blockS ?_ | refine AW_blockR ?_ | refine AW_blockC ?_)
        | ((with_reducible refine AW_condE ?_); refine ⟨_, (by first | rfl | (simp only [h1, h3, hx, haj, cRules, cStep,go_sem, simprocAttr]; rfl)), ?_, ?_⟩ <;> intro hc <;> (try simp only [go_sem, simprocAttr] at hc) <;> (try (exfalso; omega)))
        | ((with_reducible first | refine grdS_split ?_ ?_ | refine lkG_split ?_ ?_) <;> intro hg <;> (try simp (disch := omega) only [hg, h1, h3, hx, haj, cRules, cStep,go_sem, simprocAttr]) <;> (try simp only [go_sem, simprocAttr] at hg) <;> (try (exfalso; omega)))
        | (with_reducible refine FnP_endE (by simp) ?_; refine ⟨_, (by simp only [Try.f55, h1, h3, hx, haj, cRules, cStep,go_sem, simprocAttr]; rfl), ?_⟩; first | rfl | (try simp only [h1, h3, hx, haj, cRules, cStep,go_sem, simprocAttr, Val.bool.injEq, Val.int.injEq, Val.tup.injEq, Val.agg.injEq, List.cons.injEq]))
        | with_reducible intro (ep : Nat → Nat)
        | with_reducible apply_assumption -exfalso -symm only [*])
      all_goals omega
  · repeat' (first
      | (with_reducible refine AW_seq_k ?_; intro K hK)
      | ((first | ((with_reducible first | refine AW_region tabOK { base := 0, own := [] } ?hsz ?_ | refine AW_draw tabOK mix { base := 0, own := [] } ?hsz (by decide +kernel) ?_); (case hsz => rw [hXs]; rfl)) | (with_reducible first | refine AW_skip ?_ | refine AW_ret ?_ | refine AW_exit ?_ | refine AW_label ?_)); try simp (disch := omega) only [h1, h3, cRules,go_sem, simprocAttr])
      | (with_reducible first | refine AW_scope ?_ | refine AW_blockS ?_ | refine AW_blockR ?_ | refine AW_blockC ?_)
      | ((with_reducible refine AW_condE ?_); refine ⟨_, (by first | rfl | (simp only [h1, h3, cRules,go_sem, simprocAttr]; rfl)), ?_, ?_⟩ <;> intro hc <;> (try simp only [go_sem, simprocAttr] at hc) <;> (try (exfalso; omega)))
      | ((with_reducible first | refine grdS_split ?_ ?_ | refine lkG_split ?_ ?_) <;> intro hg <;> (try simp (disch := omega) only [hg, h1, h3, cRules,go_sem, simprocAttr]) <;> (try simp only [go_sem, simprocAttr] at hg) <;> (try (exfalso; omega)))
      | (with_reducible refine FnP_endE (by simp) ?_; refine ⟨_, (by simp only [Try.f55, h1, h3, cRules,go_sem, simprocAttr]; rfl), ?_⟩; first | rfl | (try simp only [h1, h3, cRules,go_sem, simprocAttr, Val.bool.injEq, Val.int.injEq, Val.tup.injEq, Val.agg.injEq, List.cons.injEq]))
      | with_reducible intro (ep : Nat → Nat)
      | with_reducible apply_assumption -exfalso -symm only [*])
    rw [hR, hr, drop_none (by omega)]; rfl

/-- The error of a run and rules. -/
def checkE (r : RunT) (u : RulesT) : Int := if runOK r = true then (if rulesOK u = true then 0 else 12) else 11

theorem rcheck_ok (r : RunT) (u : RulesT) (hb : RunB r) (hu : RulesB u) : PureC Try.prog 21 [encRun r, encRules u] (.int .i64 (checkE r u)) := by
  refine PureC_of (fn := Try.f21) tabOK (by kernel_rfl) rfl (by kernel_rfl) (by simp [Try.f21]) (by simp [noids, noid, noidss, go_sem, encRun, cRun, encRules, cRules]) (by first | rfl | simp [noids, noid, noidss, go_sem, encRun, cRun, encRules, cRules]) ?_
  intro X hX0 hXs
  repeat' (first
    | (with_reducible refine AW_seq_k ?_; intro K hK)
    | ((first | ((with_reducible first | refine AW_region tabOK { base := 0, own := [] } ?hsz ?_ | refine AW_draw tabOK mix { base := 0, own := [] } ?hsz (by decide +kernel) ?_); (case hsz => rw [hXs]; rfl)) | (with_reducible first | refine AW_skip ?_ | refine AW_ret ?_ | refine AW_exit ?_ | refine AW_label ?_) | refine pureK_intro (rrun_ok r hb) ?_ | refine pureK_intro (rrules_ok u hu) ?_); try simp (disch := omega) only [encRun, cRun, encRules, cRules,go_sem, simprocAttr])
    | (with_reducible first | refine AW_scope ?_ | refine AW_blockS ?_ | refine AW_blockR ?_ | refine AW_blockC ?_)
    | ((with_reducible refine AW_condE ?_); refine ⟨_, (by first | rfl | (simp only [encRun, cRun, encRules, cRules,go_sem, simprocAttr]; rfl)), ?_, ?_⟩ <;> intro hc <;> (try simp only [go_sem, simprocAttr] at hc) <;> (try (exfalso; omega)))
    | (with_reducible refine FnP_endE (by simp) ?_; refine ⟨_, (by simp only [Try.f21, encRun, cRun, encRules, cRules,go_sem, simprocAttr]; rfl), ?_⟩; first | rfl | (try simp only [encRun, cRun, encRules, cRules,go_sem, simprocAttr, Val.bool.injEq, Val.int.injEq, Val.tup.injEq, Val.agg.injEq, List.cons.injEq]))
    | with_reducible intro (ep : Nat → Nat)
    | with_reducible apply_assumption -exfalso -symm only [*])
  all_goals simp_all [checkE]

theorem check_ok (r : RunT) (u : RulesT) (hb : RunB r) (hu : RulesB u) : PureC Try.prog 20 [encRun r, encRules u] (.int .i64 (checkE r u)) := by
  have hb1 := hu.steps
  refine PureC_of (fn := Try.f20) tabOK (by kernel_rfl) rfl (by kernel_rfl) (by simp [Try.f20]) (by simp [noids, noid, noidss, go_sem, encRun, cRun, encRules, cRules]) (by first | rfl | simp [noids, noid, noidss, go_sem, encRun, cRun, encRules, cRules]) ?_
  intro X hX0 hXs
  repeat' (first
    | (with_reducible refine AW_seq_k ?_; intro K hK)
    | ((first | ((with_reducible first | refine AW_region tabOK { base := 0, own := [] } ?hsz ?_ | refine AW_draw tabOK mix { base := 0, own := [] } ?hsz (by decide +kernel) ?_ | refine AW_drawS tabOK mix { base := 0, own := [] } [7] ?hsz (by decide +kernel) ?_); (case hsz => rw [hXs]; rfl)) | (with_reducible first | refine AW_skip ?_ | refine AW_ret ?_ | refine AW_exit ?_ | refine AW_label ?_) | refine pureK_intro (ran_ok r hb) ?_); try simp (disch := omega) only [encRun, cRun, encRules, cRules,go_sem, simprocAttr])
    | (with_reducible first | refine AW_scope ?_ | refine AW_blockS ?_ | refine AW_blockR ?_ | refine AW_blockC ?_)
    | ((with_reducible refine AW_condE ?_); refine ⟨_, (by first | rfl | (simp only [encRun, cRun, encRules, cRules,go_sem, simprocAttr]; rfl)), ?_, ?_⟩ <;> intro hc <;> (try simp only [go_sem, simprocAttr] at hc) <;> (try (exfalso; omega)))
    | ((with_reducible first | refine grdS_split ?_ ?_ | refine lkG_split ?_ ?_) <;> intro hg <;> (try simp (disch := omega) only [hg, encRun, cRun, encRules, cRules,go_sem, simprocAttr]) <;> (try simp only [go_sem, simprocAttr] at hg) <;> (try (exfalso; omega)))
    | (with_reducible refine FnP_endE (by simp) ?_; refine ⟨_, (by simp only [Try.f20, encRun, cRun, encRules, cRules,go_sem, simprocAttr]; rfl), ?_⟩; first | rfl | (try simp only [encRun, cRun, encRules, cRules,go_sem, simprocAttr, Val.bool.injEq, Val.int.injEq, Val.tup.injEq, Val.agg.injEq, List.cons.injEq]))
    | with_reducible intro (ep : Nat → Nat)
    | with_reducible apply_assumption -exfalso -symm only [*])
  · simp_all [checkE]
  · have hC : checkE r u = if rulesOK u = true then 0 else 12 := by simp_all [checkE]
    refine AW_range tabOK u.steps.length (fun k f H => f 3 = .pim (cRules u) ∧ f 12 = .lst 2 (u.steps.map cStep) ∧ ∃ last, f 5 = .int .i64 last ∧ 0 ≤ last ∧ last ≤ 600 ∧ stepsFrom 0 u.steps = stepsFrom last (u.steps.drop k)) hu.steps (by rw [hXs]; decide) (by decide) (by simp only [go_sem, simprocAttr]) (by simp only [go_sem, simprocAttr])
      ⟨by simp only [go_sem, simprocAttr, cRules], by simp only [go_sem, simprocAttr], 0, by simp only [go_sem, simprocAttr], by omega, by omega, by simp⟩ ?_ ?_
    · rintro k f H hk h14 h13 ⟨h3, h12, last, h5, hl1, hl2, hr⟩
      obtain ⟨x, hx⟩ : ∃ x, u.steps[k]? = some x := ⟨_, List.getElem?_eq_getElem hk⟩
      rw [drop_cons hx] at hr
      simp only [stepsFrom] at hr
      have bad : stepOK last x = false → 12 = checkE r u := fun h => by
        have : rulesOK u = false := by rw [rulesOK, hr, h]; simp
        rw [hC, this]; rfl
      simp only [stepOK, decide_eq_false_iff_not] at bad
      refine AW_keep [] ?_
      repeat' (first
        | (with_reducible refine AW_seq_k ?_; intro K hK)
        | ((first | ((with_reducible first | refine AW_region tabOK { base := 0, own := [] } ?hsz ?_ | refine AW_draw tabOK mix { base := 0, own := [] } ?hsz (by decide +kernel) ?_ | refine AW_drawS tabOK mix { base := 0, own := [] } [7] ?hsz (by decide +kernel) ?_); (case hsz => rw [hXs]; rfl)) | (with_reducible first | refine AW_skip ?_ | refine AW_ret ?_ | refine AW_exit ?_ | refine AW_label ?_) | refine pureK_intro (in_1 _ _ _) ?_); try simp (disch := omega) only [h3, h5, h12, h13, h14, hx, cRules, cStep,go_sem, simprocAttr])
        | (with_reducible first | refine AW_scope ?_ | refine AW_blockS ?_ | refine AW_blockR ?_ | refine AW_blockC ?_)
        | ((with_reducible refine AW_condE ?_); refine ⟨_, (by first | rfl | (simp only [h3, h5, h12, h13, h14, hx, cRules, cStep,go_sem, simprocAttr]; rfl)), ?_, ?_⟩ <;> intro hc <;> (try simp only [go_sem, simprocAttr] at hc) <;> (try (exfalso; omega)))
        | ((with_reducible first | refine grdS_split ?_ ?_ | refine lkG_split ?_ ?_) <;> intro hg <;> (try simp (disch := omega) only [hg, h3, h5, h12, h13, h14, hx, cRules, cStep,go_sem, simprocAttr]) <;> (try simp only [go_sem, simprocAttr] at hg) <;> (try (exfalso; omega)))
        | (with_reducible refine FnP_endE (by simp) ?_; refine ⟨_, (by simp only [Try.f20, h3, h5, h12, h13, h14, hx, cRules, cStep,go_sem, simprocAttr]; rfl), ?_⟩; first | rfl | (try simp only [h3, h5, h12, h13, h14, hx, cRules, cStep,go_sem, simprocAttr, Val.bool.injEq, Val.int.injEq, Val.tup.injEq, Val.agg.injEq, List.cons.injEq]))
        | with_reducible intro (ep : Nat → Nat)
        | with_reducible apply_assumption -exfalso -symm only [*])
      iterate 2 (first | exact bad (by omega) | omega)
      have h' : stepOK last x = true := by simp only [stepOK, decide_eq_true_eq]; omega
      refine ⟨x.frm, rfl, by omega, by omega, ?_⟩
      rw [hr, h']; simp
    · rintro f H h14 h13 ⟨h3, h12, last, h5, hl1, hl2, hr⟩
      have hs : stepsFrom 0 u.steps = true := by rw [hr, drop_none (Nat.le_refl _)]; rfl
      have hR : rulesOK u = limsOK u := by rw [rulesOK, hs, Bool.and_true]
      have bad : limsOK u = false → 12 = checkE r u := fun h => by rw [hC, hR, h]; rfl
      simp only [limsOK, decide_eq_false_iff_not] at bad
      repeat' (first
        | (with_reducible refine AW_seq_k ?_; intro K hK)
        | ((first | ((with_reducible first | refine AW_region tabOK { base := 0, own := [] } ?hsz ?_ | refine AW_draw tabOK mix { base := 0, own := [] } ?hsz (by decide +kernel) ?_ | refine AW_drawS tabOK mix { base := 0, own := [] } [7] ?hsz (by decide +kernel) ?_); (case hsz => rw [hXs]; rfl)) | (with_reducible first | refine AW_skip ?_ | refine AW_ret ?_ | refine AW_exit ?_ | refine AW_label ?_) | refine pureK_intro (in_1 _ _ _) ?_ | refine pureK_intro (in_2 _ _ _ _) ?_ | refine pureK_intro (ordered_ok u.press _ _) ?_); try simp (disch := omega) only [h3, cRules,go_sem, simprocAttr])
        | (with_reducible first | refine AW_scope ?_ | refine AW_blockS ?_ | refine AW_blockR ?_ | refine AW_blockC ?_)
        | ((with_reducible refine AW_condE ?_); refine ⟨_, (by first | rfl | (simp only [h3, cRules,go_sem, simprocAttr]; rfl)), ?_, ?_⟩ <;> intro hc <;> (try simp only [go_sem, simprocAttr] at hc) <;> (try (exfalso; omega)))
        | ((with_reducible first | refine grdS_split ?_ ?_ | refine lkG_split ?_ ?_) <;> intro hg <;> (try simp (disch := omega) only [hg, h3, cRules,go_sem, simprocAttr]) <;> (try simp only [go_sem, simprocAttr] at hg) <;> (try (exfalso; omega)))
        | (with_reducible refine FnP_endE (by simp) ?_; refine ⟨_, (by simp only [Try.f20, h3, cRules,go_sem, simprocAttr]; rfl), ?_⟩; first | rfl | (try simp only [h3, cRules,go_sem, simprocAttr, Val.bool.injEq, Val.int.injEq, Val.tup.injEq, Val.agg.injEq, List.cons.injEq]))
        | with_reducible intro (ep : Nat → Nat)
        | with_reducible apply_assumption -exfalso -symm only [*])
      iterate 4 (first | exact bad (by omega) | omega)
      have h' : limsOK u = true := by simp only [limsOK, decide_eq_true_eq]; omega
      rw [hC, hR, h']; rfl
end Cp

