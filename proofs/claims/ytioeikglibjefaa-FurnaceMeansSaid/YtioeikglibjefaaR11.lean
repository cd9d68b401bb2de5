/- What functions of the furnace and of its reference compute (R11). Conditions: none. -/
import Derived.Test.YtioeikglibjefaaR10
import Derived.Test.YtioeikglibjefaaS5
set_option linter.unusedSimpArgs false
set_option linter.unusedVariables false
namespace Cp
open Go Go.Proofs
set_option maxRecDepth 10000

theorem great_ok (r : RunT) (u : RulesT) : PureC Try.prog 14 [encRun r, encRules u] (.bool (greatS r u)) := by
  refine PureC_of (fn := Try.f14) tabOK (by kernel_rfl) rfl (by kernel_rfl) (by simp [Try.f14]) (by simp [noids, noid, noidss, go_sem, encRun, cRun, encRules, cRules]) (by first | rfl | simp [noids, noid, noidss, go_sem, encRun, cRun, encRules, cRules]) ?_
  intro X hX0 hXs
  repeat' (first
    | (with_reducible refine AW_seq_k ?_; intro K hK)
    | ((first | ((with_reducible first | refine AW_region tabOK { base := 0, own := [] } ?hsz ?_ | refine AW_draw tabOK mix { base := 0, own := [] } ?hsz (by decide +kernel) ?_); (case hsz => rw [hXs]; rfl)) | (with_reducible first | refine AW_skip ?_ | refine AW_ret ?_ | refine AW_exit ?_ | refine AW_label ?_)); try simp (disch := omega) only [encRun, cRun, encRules, cRules,go_sem, simprocAttr])
    | (with_reducible first | refine AW_scope ?_ | refine AW_blockS ?_ | refine AW_blockR ?_ | refine AW_blockC ?_)
    | ((with_reducible refine AW_condE ?_); refine ⟨_, (by first | rfl | (simp only [encRun, cRun, encRules, cRules,go_sem, simprocAttr]; rfl)), ?_, ?_⟩ <;> intro hc <;> (try simp only [go_sem, simprocAttr] at hc) <;> (try (exfalso; omega)))
    | ((with_reducible first | refine grdS_split ?_ ?_ | refine lkG_split ?_ ?_) <;> intro hg <;> (try simp (disch := omega) only [hg, encRun, cRun, encRules, cRules,go_sem, simprocAttr]) <;> (try simp only [go_sem, simprocAttr] at hg) <;> (try (exfalso; omega)))
    | (with_reducible refine FnP_endE (by simp) ?_; refine ⟨_, (by simp only [Try.f14, encRun, cRun, encRules, cRules,go_sem, simprocAttr]; rfl), ?_⟩; first | rfl | (try simp only [encRun, cRun, encRules, cRules,go_sem, simprocAttr, Val.bool.injEq, Val.int.injEq, Val.tup.injEq, Val.agg.injEq, List.cons.injEq]))
    | with_reducible intro (ep : Nat → Nat)
    | with_reducible apply_assumption -exfalso -symm only [*])
  iterate 4 (have : 15 < r.curve.length ∨ 12 < r.cpls.length ∨ 80 < r.rows.length ∨ 10 < u.steps.length := by omega
             rw [greatS, decide_eq_true this]; rfl)
  have hg : greatS r u = r.rows.any fun x => decide (15 < x.deg.length) := by rw [greatS, decide_eq_false (by omega)]; rfl
  refine AW_block (AW_loop (fun n f H => ∃ k : Nat, n = r.rows.length - k ∧ k ≤ r.rows.length ∧ (f 2 = .pim (cRun r) ∧ f 5 = .int .i64 k) ∧ greatS r u = (r.rows.drop k).any fun x => decide (15 < x.deg.length)) r.rows.length
    ⟨0, by simp, Nat.zero_le _, by (and_intros <;> first | rfl | (simp only [cRun, go_sem, simprocAttr]; done) | (simp only [cRun, go_sem, simprocAttr]; rfl)), by simpa using hg⟩ ?_)
  rintro n f H ⟨k, rfl, hk, ⟨h2, h5⟩, hr⟩
  by_cases hlt : k < r.rows.length
  · obtain ⟨x, hx⟩ : ∃ x, r.rows[k]? = some x := ⟨_, List.getElem?_eq_getElem hlt⟩
    rw [drop_cons hx, List.any_cons] at hr
    repeat' (first
      | (with_reducible refine AW_seq_k ?_; intro K hK)
      | ((first | ((with_reducible first | refine AW_region tabOK { base := 0, own := [] } ?hsz ?_ | refine AW_draw tabOK mix { base := 0, own := [] } ?hsz (by decide +kernel) ?_); (case hsz => rw [hXs]; rfl)) | (with_reducible first | refine AW_skip ?_ | refine AW_ret ?_ | refine AW_exit ?_ | refine AW_label ?_)); try simp (disch := omega) only [h2, h5, hx, cRun, cRow,go_sem, simprocAttr])
      | (with_reducible first | refine AW_scope ?_ | refine AW_blockS ?_ | refine AW_blockR ?_ | refine AW_blockC ?_)
      | ((with_reducible refine AW_condE ?_); refine ⟨_, (by first | rfl | (simp only [h2, h5, hx, cRun, cRow,go_sem, simprocAttr]; rfl)), ?_, ?_⟩ <;> intro hc <;> (try simp only [go_sem, simprocAttr] at hc) <;> (try (exfalso; omega)))
      | ((with_reducible first | refine grdS_split ?_ ?_ | refine lkG_split ?_ ?_) <;> intro hg <;> (try simp (disch := omega) only [hg, h2, h5, hx, cRun, cRow,go_sem, simprocAttr]) <;> (try simp only [go_sem, simprocAttr] at hg) <;> (try (exfalso; omega)))
      | (with_reducible refine FnP_endE (by simp) ?_; refine ⟨_, (by simp only [Try.f14, h2, h5, hx, cRun, cRow,go_sem, simprocAttr]; rfl), ?_⟩; first | rfl | (try simp only [h2, h5, hx, cRun, cRow,go_sem, simprocAttr, Val.bool.injEq, Val.int.injEq, Val.tup.injEq, Val.agg.injEq, List.cons.injEq]))
      | with_reducible intro (ep : Nat → Nat)
      | with_reducible apply_assumption -exfalso -symm only [*])
    · rw [hr, decide_eq_true (by omega)]; rfl
    · refine ⟨r.rows.length - (k + 1), by omega, k + 1, rfl, by omega, rfl, ?_⟩
      rw [hr, decide_eq_false (by omega)]; rfl
  · repeat' (first
      | (with_reducible refine AW_seq_k ?_; intro K hK)
      | ((first | ((with_reducible first | refine AW_region tabOK { base := 0, own := [] } ?hsz ?_ | refine AW_draw tabOK mix { base := 0, own := [] } ?hsz (by decide +kernel) ?_); (case hsz => rw [hXs]; rfl)) | (with_reducible first | refine AW_skip ?_ | refine AW_ret ?_ | refine AW_exit ?_ | refine AW_label ?_)); try simp (disch := omega) only [h2, h5, cRun,go_sem, simprocAttr])
      | (with_reducible first | refine AW_scope ?_ | refine AW_blockS ?_ | refine AW_blockR ?_ | refine AW_blockC ?_)
      | ((with_reducible refine AW_condE ?_); refine ⟨_, (by first | rfl | (simp only [h2, h5, cRun,go_sem, simprocAttr]; rfl)), ?_, ?_⟩ <;> intro hc <;> (try simp only [go_sem, simprocAttr] at hc) <;> (try (exfalso; omega)))
      | ((with_reducible first | refine grdS_split ?_ ?_ | refine lkG_split ?_ ?_) <;> intro hg <;> (try simp (disch := omega) only [hg, h2, h5, cRun,go_sem, simprocAttr]) <;> (try simp only [go_sem, simprocAttr] at hg) <;> (try (exfalso; omega)))
      | (with_reducible refine FnP_endE (by simp) ?_; refine ⟨_, (by simp only [Try.f14, h2, h5, cRun,go_sem, simprocAttr]; rfl), ?_⟩; first | rfl | (try simp only [h2, h5, cRun,go_sem, simprocAttr, Val.bool.injEq, Val.int.injEq, Val.tup.injEq, Val.agg.injEq, List.cons.injEq]))
      | with_reducible intro (ep : Nat → Nat)
      | with_reducible apply_assumption -exfalso -symm only [*])
    rw [hr, drop_none (by omega)]; rfl

theorem sameBreaches_ok (a b : List Brc) (ha : a.length ≤ 4611686018427387904) : PureC Try.prog 31 [.lst 4 (a.map cBrc), .lst 4 (b.map cBrc)] (.bool (decide (a = b))) := by
  refine PureC_of (fn := Try.f31) tabOK (by kernel_rfl) rfl (by kernel_rfl) (by simp [Try.f31]) (by simp [noids, noid, noidss, go_sem]) (by first | rfl | simp [noids, noid, noidss, go_sem]) ?_
  intro X hX0 hXs
  repeat' (first
    | (with_reducible refine AW_seq_k ?_; intro K hK)
    | ((first | ((with_reducible first | refine AW_region tabOK { base := 0, own := [] } ?hsz ?_ | refine AW_draw tabOK mix { base := 0, own := [] } ?hsz (by decide +kernel) ?_); (case hsz => rw [hXs]; rfl)) | (with_reducible first | refine AW_skip ?_ | refine AW_ret ?_ | refine AW_exit ?_ | refine AW_label ?_)); try simp (disch := omega) only [go_sem, simprocAttr])
    | (with_reducible first | refine AW_scope ?_ | refine AW_blockS ?_ | refine AW_blockR ?_ | refine AW_blockC ?_)
    | ((with_reducible refine AW_condE ?_); refine ⟨_, (by first | rfl | (simp only [go_sem, simprocAttr]; rfl)), ?_, ?_⟩ <;> intro hc <;> (try simp only [go_sem, simprocAttr] at hc) <;> (try (exfalso; omega)))
    | (with_reducible refine FnP_endE (by simp) ?_; refine ⟨_, (by simp only [Try.f31, go_sem, simprocAttr]; rfl), ?_⟩; first | rfl | (try simp only [go_sem, simprocAttr, Val.bool.injEq, Val.int.injEq, Val.tup.injEq, Val.agg.injEq, List.cons.injEq]))
    | with_reducible intro (ep : Nat → Nat)
    | with_reducible apply_assumption -exfalso -symm only [*])
  · have : a ≠ b := fun e => by subst e; omega
    simp [this]
  · have hab : a.length = b.length := by omega
    refine AW_block (AW_loop (fun n f H => ∃ k : Nat, n = a.length - k ∧ k ≤ a.length ∧ (f 0 = .lst 4 (a.map cBrc) ∧ f 1 = .lst 4 (b.map cBrc) ∧ f 5 = .int .i64 k ∧ H = none0) ∧ (decide (a = b) = decide (a.drop k = b.drop k))) a.length
      ⟨0, by simp, Nat.zero_le _, by (and_intros <;> first | rfl | (simp only [go_sem, simprocAttr]; done) | (simp only [go_sem, simprocAttr]; rfl)), by simp⟩ ?_)
    rintro n f H ⟨k, rfl, hk, ⟨h0, h1, h5, rfl⟩, hr⟩
    by_cases hlt : k < a.length
    · obtain ⟨x, hx⟩ : ∃ x, a[k]? = some x := ⟨_, List.getElem?_eq_getElem hlt⟩
      obtain ⟨y, hy⟩ : ∃ y, b[k]? = some y := ⟨_, List.getElem?_eq_getElem (by omega)⟩
      repeat' (first
        | (with_reducible refine AW_seq_k ?_; intro K hK)
        | ((first | ((with_reducible first | refine AW_region tabOK { base := 0, own := [] } ?hsz ?_ | refine AW_draw tabOK mix { base := 0, own := [] } ?hsz (by decide +kernel) ?_); (case hsz => rw [hXs]; rfl)) | (with_reducible first | refine AW_skip ?_ | refine AW_ret ?_ | refine AW_exit ?_ | refine AW_label ?_)); try simp (disch := omega) only [h0, h1, h5, hx, hy, cBrc,go_sem, simprocAttr])
        | (with_reducible first | refine AW_scope ?_ | refine AW_blockS ?_ | refine AW_blockR ?_ | refine AW_blockC ?_)
        | ((with_reducible refine AW_condE ?_); refine ⟨_, (by first | rfl | (simp only [h0, h1, h5, hx, hy, cBrc,go_sem, simprocAttr]; rfl)), ?_, ?_⟩ <;> intro hc <;> (try simp only [go_sem, simprocAttr] at hc) <;> (try (exfalso; omega)))
        | (with_reducible refine FnP_endE (by simp) ?_; refine ⟨_, (by simp only [Try.f31, h0, h1, h5, hx, hy, cBrc,go_sem, simprocAttr]; rfl), ?_⟩; first | rfl | (try simp only [h0, h1, h5, hx, hy, cBrc,go_sem, simprocAttr, Val.bool.injEq, Val.int.injEq, Val.tup.injEq, Val.agg.injEq, List.cons.injEq]))
        | with_reducible intro (ep : Nat → Nat)
        | with_reducible apply_assumption -exfalso -symm only [*])
      · rw [hr, drop_cons hx, drop_cons hy]; exact cons_ne fun e => by (rw [brc_eq] at e; simp [e] at hc)
      · refine ⟨_, ?_, k + 1, rfl, by omega, by (and_intros <;> first | rfl | (simp only [h0, h1, h5, go_sem, simprocAttr]; done) | (simp only [h0, h1, h5, go_sem, simprocAttr]; rfl)), ?_⟩
        · omega
        · rw [hr, drop_cons hx, drop_cons hy]; exact cons_same (by rw [brc_eq]; simpa using hc)
    · repeat' (first
        | (with_reducible refine AW_seq_k ?_; intro K hK)
        | ((first | ((with_reducible first | refine AW_region tabOK { base := 0, own := [] } ?hsz ?_ | refine AW_draw tabOK mix { base := 0, own := [] } ?hsz (by decide +kernel) ?_); (case hsz => rw [hXs]; rfl)) | (with_reducible first | refine AW_skip ?_ | refine AW_ret ?_ | refine AW_exit ?_ | refine AW_label ?_)); try simp (disch := omega) only [h0, h1, h5,go_sem, simprocAttr])
        | (with_reducible first | refine AW_scope ?_ | refine AW_blockS ?_ | refine AW_blockR ?_ | refine AW_blockC ?_)
        | ((with_reducible refine AW_condE ?_); refine ⟨_, (by first | rfl | (simp only [h0, h1, h5,go_sem, simprocAttr]; rfl)), ?_, ?_⟩ <;> intro hc <;> (try simp only [go_sem, simprocAttr] at hc) <;> (try (exfalso; omega)))
        | (with_reducible refine FnP_endE (by simp) ?_; refine ⟨_, (by simp only [Try.f31, h0, h1, h5,go_sem, simprocAttr]; rfl), ?_⟩; first | rfl | (try simp only [h0, h1, h5,go_sem, simprocAttr, Val.bool.injEq, Val.int.injEq, Val.tup.injEq, Val.agg.injEq, List.cons.injEq]))
        | with_reducible intro (ep : Nat → Nat)
        | with_reducible apply_assumption -exfalso -symm only [*])
      rw [hr]; simp [drop_none (show b.length ≤ k by omega), drop_none (show a.length ≤ k by omega)]

theorem sameRules_ok (a b : RulesT) (ha : a.steps.length ≤ 4611686018427387904) : PureC Try.prog 32 [encRules a, encRules b] (.bool (decide (a = b))) := by
  refine PureC_of (fn := Try.f32) tabOK (by kernel_rfl) rfl (by kernel_rfl) (by simp [Try.f32]) (by simp [noids, noid, noidss, go_sem, encRules, cRules]) (by first | rfl | simp [noids, noid, noidss, go_sem, encRules, cRules]) ?_
  intro X hX0 hXs
  repeat' (first
    | (with_reducible refine AW_seq_k ?_; intro K hK)
    | ((first | ((with_reducible first | refine AW_region tabOK { base := 0, own := [] } ?hsz ?_ | refine AW_draw tabOK mix { base := 0, own := [] } ?hsz (by decide +kernel) ?_); (case hsz => rw [hXs]; rfl)) | (with_reducible first | refine AW_skip ?_ | refine AW_ret ?_ | refine AW_exit ?_ | refine AW_label ?_)); try simp (disch := omega) only [encRules, cRules,go_sem, simprocAttr])
    | (with_reducible first | refine AW_scope ?_ | refine AW_blockS ?_ | refine AW_blockR ?_ | refine AW_blockC ?_)
    | ((with_reducible refine AW_condE ?_); refine ⟨_, (by first | rfl | (simp only [encRules, cRules,go_sem, simprocAttr]; rfl)), ?_, ?_⟩ <;> intro hc <;> (try simp only [go_sem, simprocAttr] at hc) <;> (try (exfalso; omega)))
    | ((with_reducible first | refine grdS_split ?_ ?_ | refine lkG_split ?_ ?_) <;> intro hg <;> (try simp (disch := omega) only [hg, encRules, cRules,go_sem, simprocAttr]) <;> (try simp only [go_sem, simprocAttr] at hg) <;> (try (exfalso; omega)))
    | (with_reducible refine FnP_endE (by simp) ?_; refine ⟨_, (by simp only [Try.f32, encRules, cRules,go_sem, simprocAttr]; rfl), ?_⟩; first | rfl | (try simp only [encRules, cRules,go_sem, simprocAttr, Val.bool.injEq, Val.int.injEq, Val.tup.injEq, Val.agg.injEq, List.cons.injEq]))
    | with_reducible intro (ep : Nat → Nat)
    | with_reducible apply_assumption -exfalso -symm only [*])
  iterate 5 (have : a ≠ b := fun e => by (subst e; simp_all)
             simp [this])
  have hab : a.steps.length = b.steps.length := by omega
  have hd : decide (a = b) = decide (a.steps = b.steps) := dec_congr (by rw [rules_eq]; grind)
  refine AW_block (AW_loop (fun n f H => ∃ k : Nat, n = a.steps.length - k ∧ k ≤ a.steps.length ∧ (f 2 = .pim (cRules a) ∧ f 3 = .pim (cRules b) ∧ f 5 = .int .i64 k) ∧ (decide (a = b) = decide (a.steps.drop k = b.steps.drop k))) a.steps.length
    ⟨0, by simp, Nat.zero_le _, by (and_intros <;> first | rfl | (simp only [cRules, go_sem, simprocAttr]; done) | (simp only [cRules, go_sem, simprocAttr]; rfl)), by simpa using hd⟩ ?_)
  rintro n f H ⟨k, rfl, hk, ⟨h2, h3, h5⟩, hr⟩
  by_cases hlt : k < a.steps.length
  · obtain ⟨x, hx⟩ : ∃ x, a.steps[k]? = some x := ⟨_, List.getElem?_eq_getElem hlt⟩
    obtain ⟨y, hy⟩ : ∃ y, b.steps[k]? = some y := ⟨_, List.getElem?_eq_getElem (by omega)⟩
    repeat' (first
      | (with_reducible refine AW_seq_k ?_; intro K hK)
      | ((first | ((with_reducible first | refine AW_region tabOK { base := 0, own := [] } ?hsz ?_ | refine AW_draw tabOK mix { base := 0, own := [] } ?hsz (by decide +kernel) ?_); (case hsz => rw [hXs]; rfl)) | (with_reducible first | refine AW_skip ?_ | refine AW_ret ?_ | refine AW_exit ?_ | refine AW_label ?_)); try simp (disch := omega) only [h2, h3, h5, hx, hy, cRules, cStep,go_sem, simprocAttr])
      | (with_reducible first | refine AW_scope ?_ | refine AW_blockS ?_ | refine AW_blockR ?_ | refine AW_blockC ?_)
      | ((with_reducible refine AW_condE ?_); refine ⟨_, (by first | rfl | (simp only [h2, h3, h5, hx, hy, cRules, cStep,go_sem, simprocAttr]; rfl)), ?_, ?_⟩ <;> intro hc <;> (try simp only [go_sem, simprocAttr] at hc) <;> (try (exfalso; omega)))
      | ((with_reducible first | refine grdS_split ?_ ?_ | refine lkG_split ?_ ?_) <;> intro hg <;> (try simp (disch := omega) only [hg, h2, h3, h5, hx, hy, cRules, cStep,go_sem, simprocAttr]) <;> (try simp only [go_sem, simprocAttr] at hg) <;> (try (exfalso; omega)))
      | (with_reducible refine FnP_endE (by simp) ?_; refine ⟨_, (by simp only [Try.f32, h2, h3, h5, hx, hy, cRules, cStep,go_sem, simprocAttr]; rfl), ?_⟩; first | rfl | (try simp only [h2, h3, h5, hx, hy, cRules, cStep,go_sem, simprocAttr, Val.bool.injEq, Val.int.injEq, Val.tup.injEq, Val.agg.injEq, List.cons.injEq]))
      | with_reducible intro (ep : Nat → Nat)
      | with_reducible apply_assumption -exfalso -symm only [*])
    · rw [hr, drop_cons hx, drop_cons hy]; exact cons_ne fun e => by (rw [step_eq] at e; simp [e] at hc)
    · refine ⟨a.steps.length - (k + 1), by omega, k + 1, rfl, by omega, rfl, ?_⟩
      rw [hr, drop_cons hx, drop_cons hy]; exact cons_same (by rw [step_eq]; simpa using hc)
  · repeat' (first
      | (with_reducible refine AW_seq_k ?_; intro K hK)
      | ((first | ((with_reducible first | refine AW_region tabOK { base := 0, own := [] } ?hsz ?_ | refine AW_draw tabOK mix { base := 0, own := [] } ?hsz (by decide +kernel) ?_); (case hsz => rw [hXs]; rfl)) | (with_reducible first | refine AW_skip ?_ | refine AW_ret ?_ | refine AW_exit ?_ | refine AW_label ?_)); try simp (disch := omega) only [h2, h3, h5, cRules,go_sem, simprocAttr])
      | (with_reducible first | refine AW_scope ?_ | refine AW_blockS ?_ | refine AW_blockR ?_ | refine AW_blockC ?_)
      | ((with_reducible refine AW_condE ?_); refine ⟨_, (by first | rfl | (simp only [h2, h3, h5, cRules,go_sem, simprocAttr]; rfl)), ?_, ?_⟩ <;> intro hc <;> (try simp only [go_sem, simprocAttr] at hc) <;> (try (exfalso; omega)))
      | ((with_reducible first | refine grdS_split ?_ ?_ | refine lkG_split ?_ ?_) <;> intro hg <;> (try simp (disch := omega) only [hg, h2, h3, h5, cRules,go_sem, simprocAttr]) <;> (try simp only [go_sem, simprocAttr] at hg) <;> (try (exfalso; omega)))
      | (with_reducible refine FnP_endE (by simp) ?_; refine ⟨_, (by simp only [Try.f32, h2, h3, h5, cRules,go_sem, simprocAttr]; rfl), ?_⟩; first | rfl | (try simp only [h2, h3, h5, cRules,go_sem, simprocAttr, Val.bool.injEq, Val.int.injEq, Val.tup.injEq, Val.agg.injEq, List.cons.injEq]))
      | with_reducible intro (ep : Nat → Nat)
      | with_reducible apply_assumption -exfalso -symm only [*])
    rw [hr]; simp [drop_none (show b.steps.length ≤ k by omega), drop_none (show a.steps.length ≤ k by omega)]
end Cp

