/- What functions of the furnace and of its reference compute (R12). Conditions: none. -/
import Derived.Test.YtioeikglibjefaaR11
set_option linter.unusedSimpArgs false
set_option linter.unusedVariables false
namespace Cp
open Go Go.Proofs
set_option maxRecDepth 10000

theorem sameInts_ok (a b : List Int) (ha : a.length ≤ 4611686018427387904) : PureC Try.prog 56 [.lst 1 (ints a), .lst 1 (ints b)] (.bool (decide (a = b))) := by
  refine PureC_of (fn := Try.f56) tabOK (by kernel_rfl) rfl (by kernel_rfl) (by simp [Try.f56]) (by simp [noids, noid, noidss, go_sem]) (by first | rfl | simp [noids, noid, noidss, go_sem]) ?_
  intro X hX0 hXs
  repeat' (first
    | ((with_reducible first | refine AW_rs tabOK { base := 0, own := [] } ?hsz ?_ | refine AW_rd tabOK mix { base := 0, own := [] } ?hsz (by decide +kernel) ?_); (case hsz => rw [hXs]; rfl); intro K hK; try simp (disch := omega) only [ go_sem, simprocAttr])
    | ((with_reducible refine AW_seq_k ?_); intro K hK)
    | ((with_reducible first | refine AW_region tabOK { base := 0, own := [] } ?hsz ?_ | refine AW_draw tabOK mix { base := 0, own := [] } ?hsz (by decide +kernel) ?_); (case hsz => rw [hXs]; rfl); try simp (disch := omega) only [ go_sem, simprocAttr])
    | ((with_reducible first | refine AW_skip ?_ | refine AW_ret ?_ | refine AW_exit ?_ | refine AW_label ?_); try simp (disch := omega) only [ go_sem, simprocAttr])
    | (with_reducible first | refine AW_scope ?_ | refine AW_blockS ?_ | refine AW_blockR ?_ | refine AW_blockC ?_)
    | ((with_reducible refine AW_condE ?_); refine ⟨_, (by first | rfl | (simp only [ go_sem, simprocAttr]; rfl)), ?_, ?_⟩ <;> intro hc <;> (try simp only [decide_eq_true_eq, decide_eq_false_iff_not, Bool.not_eq_true', Bool.not_eq_false', Bool.not_eq_eq_eq_not, Bool.not_true, Bool.not_false, reduceCtorEq, not_true_eq_false, not_false_eq_true, decide_true, decide_false] at hc) <;> (try (exfalso; omega)))
    | ((with_reducible first | refine grdS_split ?_ ?_ | refine lkG_split ?_ ?_) <;> intro hg <;> (try simp (disch := omega) only [hg,  go_sem, simprocAttr]) <;> (try simp only [decide_eq_true_eq, decide_eq_false_iff_not, Bool.not_eq_true', Bool.not_eq_false', Bool.not_eq_eq_eq_not, Bool.not_true, Bool.not_false, reduceCtorEq, not_true_eq_false, not_false_eq_true, decide_true, decide_false] at hg) <;> (try (exfalso; omega)))
    | ((with_reducible first | refine FnP_endE (Or.inl rfl) ?_ | refine FnP_endE (Or.inr rfl) ?_); refine ⟨_, (by simp only [Try.f56,  go_sem, simprocAttr]; rfl), ?_⟩; first | rfl | (try simp only [ go_sem, simprocAttr, Val.bool.injEq, Val.int.injEq, Val.tup.injEq, Val.agg.injEq, List.cons.injEq]))
    | with_reducible intro (ep : Nat → Nat)
    | with_reducible apply_assumption -exfalso -symm only [*])
  · have : a ≠ b := fun e => by subst e; omega
    simp [this]
  · have hab : a.length = b.length := by omega
    refine AW_block (AW_loop (fun n f H => ∃ k : Nat, n = a.length - k ∧ k ≤ a.length ∧ (f 0 = .lst 1 (ints a) ∧ f 1 = .lst 1 (ints b) ∧ f 5 = .int .i64 k ∧ H = none0) ∧ (decide (a = b) = decide (a.drop k = b.drop k))) a.length
      ⟨0, by simp, Nat.zero_le _, by (and_intros <;> first | rfl | (simp only [go_sem, simprocAttr]; done) | (simp only [go_sem, simprocAttr]; rfl)), by simp⟩ ?_)
    rintro n f H ⟨k, rfl, hk, ⟨h0, h1, h5, rfl⟩, hr⟩
    by_cases hlt : k < a.length
    · obtain ⟨x, hx⟩ : ∃ x, a[k]? = some x := ⟨_, List.getElem?_eq_getElem hlt⟩
      obtain ⟨y, hy⟩ : ∃ y, b[k]? = some y := ⟨_, List.getElem?_eq_getElem (by omega)⟩
      repeat' (first
        | ((with_reducible first | refine AW_rs tabOK { base := 0, own := [] } ?hsz ?_ | refine AW_rd tabOK mix { base := 0, own := [] } ?hsz (by decide +kernel) ?_); (case hsz => rw [hXs]; rfl); intro K hK; try simp (disch := omega) only [h0, h1, h5, hx, hy, go_sem, simprocAttr])
        | ((with_reducible refine AW_seq_k ?_); intro K hK)
        | ((with_reducible first | refine AW_region tabOK { base := 0, own := [] } ?hsz ?_ | refine AW_draw tabOK mix { base := 0, own := [] } ?hsz (by decide +kernel) ?_); (case hsz => rw [hXs]; rfl); try simp (disch := omega) only [h0, h1, h5, hx, hy, go_sem, simprocAttr])
        | ((with_reducible first | refine AW_skip ?_ | refine AW_ret ?_ | refine AW_exit ?_ | refine AW_label ?_); try simp (disch := omega) only [h0, h1, h5, hx, hy, go_sem, simprocAttr])
        | (with_reducible first | refine AW_scope ?_ | refine AW_blockS ?_ | refine AW_blockR ?_ | refine AW_blockC ?_)
        | ((with_reducible refine AW_condE ?_); refine ⟨_, (by first | rfl | (simp only [h0, h1, h5, hx, hy, go_sem, simprocAttr]; rfl)), ?_, ?_⟩ <;> intro hc <;> (try simp only [decide_eq_true_eq, decide_eq_false_iff_not, Bool.not_eq_true', Bool.not_eq_false', Bool.not_eq_eq_eq_not, Bool.not_true, Bool.not_false, reduceCtorEq, not_true_eq_false, not_false_eq_true, decide_true, decide_false] at hc) <;> (try (exfalso; omega)))
        | ((with_reducible first | refine grdS_split ?_ ?_ | refine lkG_split ?_ ?_) <;> intro hg <;> (try simp (disch := omega) only [hg, h0, h1, h5, hx, hy, go_sem, simprocAttr]) <;> (try simp only [decide_eq_true_eq, decide_eq_false_iff_not, Bool.not_eq_true', Bool.not_eq_false', Bool.not_eq_eq_eq_not, Bool.not_true, Bool.not_false, reduceCtorEq, not_true_eq_false, not_false_eq_true, decide_true, decide_false] at hg) <;> (try (exfalso; omega)))
        | ((with_reducible first | refine FnP_endE (Or.inl rfl) ?_ | refine FnP_endE (Or.inr rfl) ?_); refine ⟨_, (by simp only [Try.f56, h0, h1, h5, hx, hy, go_sem, simprocAttr]; rfl), ?_⟩; first | rfl | (try simp only [h0, h1, h5, hx, hy, go_sem, simprocAttr, Val.bool.injEq, Val.int.injEq, Val.tup.injEq, Val.agg.injEq, List.cons.injEq]))
        | with_reducible intro (ep : Nat → Nat)
        | with_reducible apply_assumption -exfalso -symm only [*])
      · rw [hr, drop_cons hx, drop_cons hy]; simp [hc]
      · refine ⟨_, ?_, k + 1, rfl, by omega, by (and_intros <;> first | rfl | (simp only [h0, h1, h5, go_sem, simprocAttr]; done) | (simp only [h0, h1, h5, go_sem, simprocAttr]; rfl)), ?_⟩
        · omega
        · rw [hr, drop_cons hx, drop_cons hy]; simp [hc]
    · repeat' (first
        | ((with_reducible first | refine AW_rs tabOK { base := 0, own := [] } ?hsz ?_ | refine AW_rd tabOK mix { base := 0, own := [] } ?hsz (by decide +kernel) ?_); (case hsz => rw [hXs]; rfl); intro K hK; try simp (disch := omega) only [h0, h1, h5, go_sem, simprocAttr])
        | ((with_reducible refine AW_seq_k ?_); intro K hK)
        | ((with_reducible first | refine AW_region tabOK { base := 0, own := [] } ?hsz ?_ | refine AW_draw tabOK mix { base := 0, own := [] } ?hsz (by decide +kernel) ?_); (case hsz => rw [hXs]; rfl); try simp (disch := omega) only [h0, h1, h5, go_sem, simprocAttr])
        | ((with_reducible first | refine AW_skip ?_ | refine AW_ret ?_ | refine AW_exit ?_ | refine AW_label ?_); try simp (disch := omega) only [h0, h1, h5, go_sem, simprocAttr])
        | (with_reducible first | refine AW_scope ?_ | refine AW_blockS ?_ | refine AW_blockR ?_ | refine AW_blockC ?_)
        | ((with_reducible refine AW_condE ?_); refine ⟨_, (by first | rfl | (simp only [h0, h1, h5, go_sem, simprocAttr]; rfl)), ?_, ?_⟩ <;> intro hc <;> (try simp only [decide_eq_true_eq, decide_eq_false_iff_not, Bool.not_eq_true', Bool.not_eq_false', Bool.not_eq_eq_eq_not, Bool.not_true, Bool.not_false, reduceCtorEq, not_true_eq_false, not_false_eq_true, decide_true, decide_false] at hc) <;> (try (exfalso; omega)))
        | ((with_reducible first | refine grdS_split ?_ ?_ | refine lkG_split ?_ ?_) <;> intro hg <;> (try simp (disch := omega) only [hg, h0, h1, h5, go_sem, simprocAttr]) <;> (try simp only [decide_eq_true_eq, decide_eq_false_iff_not, Bool.not_eq_true', Bool.not_eq_false', Bool.not_eq_eq_eq_not, Bool.not_true, Bool.not_false, reduceCtorEq, not_true_eq_false, not_false_eq_true, decide_true, decide_false] at hg) <;> (try (exfalso; omega)))
        | ((with_reducible first | refine FnP_endE (Or.inl rfl) ?_ | refine FnP_endE (Or.inr rfl) ?_); refine ⟨_, (by simp only [Try.f56, h0, h1, h5, go_sem, simprocAttr]; rfl), ?_⟩; first | rfl | (try simp only [h0, h1, h5, go_sem, simprocAttr, Val.bool.injEq, Val.int.injEq, Val.tup.injEq, Val.agg.injEq, List.cons.injEq]))
        | with_reducible intro (ep : Nat → Nat)
        | with_reducible apply_assumption -exfalso -symm only [*])
      rw [hr]; simp [List.drop_of_length_le (show b.length ≤ k by omega), List.drop_of_length_le (show a.length ≤ k by omega)]

theorem same_ok (a b : RunT) (ha : RunB a) : PureC Try.prog 22 [encRun a, encRun b] (.bool (decide (a = b))) := by
  have hb1 := ha.cpls
  have hb2 := ha.rows
  refine PureC_of (fn := Try.f22) tabOK (by kernel_rfl) rfl (by kernel_rfl) (by simp [Try.f22]) (by simp [noids, noid, noidss, go_sem, encRun, cRun]) (by first | rfl | simp [noids, noid, noidss, go_sem, encRun, cRun]) ?_
  intro X hX0 hXs
  repeat' (first
    | ((with_reducible first | refine AW_rs tabOK { base := 0, own := [] } ?hsz ?_ | refine AW_rd tabOK mix { base := 0, own := [] } ?hsz (by decide +kernel) ?_); (case hsz => rw [hXs]; rfl); intro K hK; try simp (disch := omega) only [encRun, cRun, go_sem, simprocAttr])
    | ((with_reducible refine AW_seq_k ?_); intro K hK)
    | ((with_reducible first | refine AW_region tabOK { base := 0, own := [] } ?hsz ?_ | refine AW_draw tabOK mix { base := 0, own := [] } ?hsz (by decide +kernel) ?_); (case hsz => rw [hXs]; rfl); try simp (disch := omega) only [encRun, cRun, go_sem, simprocAttr])
    | ((with_reducible first | refine AW_skip ?_ | refine AW_ret ?_ | refine AW_exit ?_ | refine AW_label ?_); try simp (disch := omega) only [encRun, cRun, go_sem, simprocAttr])
    | (with_reducible first | refine AW_scope ?_ | refine AW_blockS ?_ | refine AW_blockR ?_ | refine AW_blockC ?_)
    | ((with_reducible refine AW_condE ?_); refine ⟨_, (by first | rfl | (simp only [encRun, cRun, go_sem, simprocAttr]; rfl)), ?_, ?_⟩ <;> intro hc <;> (try simp only [decide_eq_true_eq, decide_eq_false_iff_not, Bool.not_eq_true', Bool.not_eq_false', Bool.not_eq_eq_eq_not, Bool.not_true, Bool.not_false, reduceCtorEq, not_true_eq_false, not_false_eq_true, decide_true, decide_false] at hc) <;> (try (exfalso; omega)))
    | ((with_reducible first | refine grdS_split ?_ ?_ | refine lkG_split ?_ ?_) <;> intro hg <;> (try simp (disch := omega) only [hg, encRun, cRun, go_sem, simprocAttr]) <;> (try simp only [decide_eq_true_eq, decide_eq_false_iff_not, Bool.not_eq_true', Bool.not_eq_false', Bool.not_eq_eq_eq_not, Bool.not_true, Bool.not_false, reduceCtorEq, not_true_eq_false, not_false_eq_true, decide_true, decide_false] at hg) <;> (try (exfalso; omega)))
    | ((first | refine pureK_intro (samePoints_ok a.curve b.curve ha.curve) ?_); try simp (disch := omega) only [encRun, cRun, go_sem, simprocAttr])
    | ((with_reducible first | refine FnP_endE (Or.inl rfl) ?_ | refine FnP_endE (Or.inr rfl) ?_); refine ⟨_, (by simp only [Try.f22, encRun, cRun, go_sem, simprocAttr]; rfl), ?_⟩; first | rfl | (try simp only [encRun, cRun, go_sem, simprocAttr, Val.bool.injEq, Val.int.injEq, Val.tup.injEq, Val.agg.injEq, List.cons.injEq]))
    | with_reducible intro (ep : Nat → Nat)
    | with_reducible apply_assumption -exfalso -symm only [*])
  iterate 5 (have : a ≠ b := fun e => by (subst e; simp_all)
             simp [this])
  have hab : a.cpls.length = b.cpls.length := by omega
  have hab2 : a.rows.length = b.rows.length := by omega
  have hd : decide (a = b) = (decide (a.cpls = b.cpls) && decide (a.rows = b.rows)) := by rw [← Bool.decide_and]; exact dec_congr (by rw [run_eq]; grind)
  refine AW_block (AW_loop (fun n f H => ∃ k : Nat, n = a.cpls.length - k ∧ k ≤ a.cpls.length ∧ (f 2 = .pim (cRun a) ∧ f 3 = .pim (cRun b) ∧ f 5 = .int .i64 k) ∧ (decide (a.cpls = b.cpls) = decide (a.cpls.drop k = b.cpls.drop k))) a.cpls.length
    ⟨0, by simp, Nat.zero_le _, by (and_intros <;> first | rfl | (simp only [cRun, go_sem, simprocAttr]; done) | (simp only [cRun, go_sem, simprocAttr]; rfl)), by simp⟩ ?_)
  rintro n f H ⟨k, rfl, hk, ⟨h2, h3, h5⟩, hr⟩
  by_cases hlt : k < a.cpls.length
  · obtain ⟨x, hx⟩ : ∃ x, a.cpls[k]? = some x := ⟨_, List.getElem?_eq_getElem hlt⟩
    obtain ⟨y, hy⟩ : ∃ y, b.cpls[k]? = some y := ⟨_, List.getElem?_eq_getElem (by omega)⟩
    repeat' (first
      | ((with_reducible first | refine AW_rs tabOK { base := 0, own := [] } ?hsz ?_ | refine AW_rd tabOK mix { base := 0, own := [] } ?hsz (by decide +kernel) ?_); (case hsz => rw [hXs]; rfl); intro K hK; try simp (disch := omega) only [h2, h3, h5, hx, hy, cRun, cCpl, go_sem, simprocAttr])
      | ((with_reducible refine AW_seq_k ?_); intro K hK)
      | ((with_reducible first | refine AW_region tabOK { base := 0, own := [] } ?hsz ?_ | refine AW_draw tabOK mix { base := 0, own := [] } ?hsz (by decide +kernel) ?_); (case hsz => rw [hXs]; rfl); try simp (disch := omega) only [h2, h3, h5, hx, hy, cRun, cCpl, go_sem, simprocAttr])
      | ((with_reducible first | refine AW_skip ?_ | refine AW_ret ?_ | refine AW_exit ?_ | refine AW_label ?_); try simp (disch := omega) only [h2, h3, h5, hx, hy, cRun, cCpl, go_sem, simprocAttr])
      | (with_reducible first | refine AW_scope ?_ | refine AW_blockS ?_ | refine AW_blockR ?_ | refine AW_blockC ?_)
      | ((with_reducible refine AW_condE ?_); refine ⟨_, (by first | rfl | (simp only [h2, h3, h5, hx, hy, cRun, cCpl, go_sem, simprocAttr]; rfl)), ?_, ?_⟩ <;> intro hc <;> (try simp only [decide_eq_true_eq, decide_eq_false_iff_not, Bool.not_eq_true', Bool.not_eq_false', Bool.not_eq_eq_eq_not, Bool.not_true, Bool.not_false, reduceCtorEq, not_true_eq_false, not_false_eq_true, decide_true, decide_false] at hc) <;> (try (exfalso; omega)))
      | ((with_reducible first | refine grdS_split ?_ ?_ | refine lkG_split ?_ ?_) <;> intro hg <;> (try simp (disch := omega) only [hg, h2, h3, h5, hx, hy, cRun, cCpl, go_sem, simprocAttr]) <;> (try simp only [decide_eq_true_eq, decide_eq_false_iff_not, Bool.not_eq_true', Bool.not_eq_false', Bool.not_eq_eq_eq_not, Bool.not_true, Bool.not_false, reduceCtorEq, not_true_eq_false, not_false_eq_true, decide_true, decide_false] at hg) <;> (try (exfalso; omega)))
      | ((with_reducible first | refine FnP_endE (Or.inl rfl) ?_ | refine FnP_endE (Or.inr rfl) ?_); refine ⟨_, (by simp only [Try.f22, h2, h3, h5, hx, hy, cRun, cCpl, go_sem, simprocAttr]; rfl), ?_⟩; first | rfl | (try simp only [h2, h3, h5, hx, hy, cRun, cCpl, go_sem, simprocAttr, Val.bool.injEq, Val.int.injEq, Val.tup.injEq, Val.agg.injEq, List.cons.injEq]))
      | with_reducible intro (ep : Nat → Nat)
      | with_reducible apply_assumption -exfalso -symm only [*])
    · have : decide (a.cpls = b.cpls) = false := by rw [hr, drop_cons hx, drop_cons hy]; exact (cons_ne fun e => by (rw [cpl_eq] at e; simp [e] at hc)).symm
      rw [hd, this]; rfl
    · refine ⟨a.cpls.length - (k + 1), by omega, k + 1, rfl, by omega, rfl, ?_⟩
      rw [hr, drop_cons hx, drop_cons hy]; exact cons_same (by rw [cpl_eq]; simp at hc; simp [hc])
  · have hcp : decide (a.cpls = b.cpls) = true := by rw [hr]; simp [drop_none (show b.cpls.length ≤ k by omega), drop_none (show a.cpls.length ≤ k by omega)]
    rw [hcp, Bool.true_and] at hd
    repeat' (first
      | ((with_reducible first | refine AW_rs tabOK { base := 0, own := [] } ?hsz ?_ | refine AW_rd tabOK mix { base := 0, own := [] } ?hsz (by decide +kernel) ?_); (case hsz => rw [hXs]; rfl); intro K hK; try simp (disch := omega) only [h2, h3, h5, cRun, go_sem, simprocAttr])
      | ((with_reducible refine AW_seq_k ?_); intro K hK)
      | ((with_reducible first | refine AW_region tabOK { base := 0, own := [] } ?hsz ?_ | refine AW_draw tabOK mix { base := 0, own := [] } ?hsz (by decide +kernel) ?_); (case hsz => rw [hXs]; rfl); try simp (disch := omega) only [h2, h3, h5, cRun, go_sem, simprocAttr])
      | ((with_reducible first | refine AW_skip ?_ | refine AW_ret ?_ | refine AW_exit ?_ | refine AW_label ?_); try simp (disch := omega) only [h2, h3, h5, cRun, go_sem, simprocAttr])
      | (with_reducible first | refine AW_scope ?_ | refine AW_blockS ?_ | refine AW_blockR ?_ | refine AW_blockC ?_)
      | ((with_reducible refine AW_condE ?_); refine ⟨_, (by first | rfl | (simp only [h2, h3, h5, cRun, go_sem, simprocAttr]; rfl)), ?_, ?_⟩ <;> intro hc <;> (try simp only [decide_eq_true_eq, decide_eq_false_iff_not, Bool.not_eq_true', Bool.not_eq_false', Bool.not_eq_eq_eq_not, Bool.not_true, Bool.not_false, reduceCtorEq, not_true_eq_false, not_false_eq_true, decide_true, decide_false] at hc) <;> (try (exfalso; omega)))
      | ((with_reducible first | refine grdS_split ?_ ?_ | refine lkG_split ?_ ?_) <;> intro hg <;> (try simp (disch := omega) only [hg, h2, h3, h5, cRun, go_sem, simprocAttr]) <;> (try simp only [decide_eq_true_eq, decide_eq_false_iff_not, Bool.not_eq_true', Bool.not_eq_false', Bool.not_eq_eq_eq_not, Bool.not_true, Bool.not_false, reduceCtorEq, not_true_eq_false, not_false_eq_true, decide_true, decide_false] at hg) <;> (try (exfalso; omega)))
      | ((with_reducible first | refine FnP_endE (Or.inl rfl) ?_ | refine FnP_endE (Or.inr rfl) ?_); refine ⟨_, (by simp only [Try.f22, h2, h3, h5, cRun, go_sem, simprocAttr]; rfl), ?_⟩; first | rfl | (try simp only [h2, h3, h5, cRun, go_sem, simprocAttr, Val.bool.injEq, Val.int.injEq, Val.tup.injEq, Val.agg.injEq, List.cons.injEq]))
      | with_reducible intro (ep : Nat → Nat)
      | with_reducible apply_assumption -exfalso -symm only [*])
    refine AW_block (AW_loop (fun n f H => ∃ k : Nat, n = a.rows.length - k ∧ k ≤ a.rows.length ∧ (f 2 = .pim (cRun a) ∧ f 3 = .pim (cRun b) ∧ f 6 = .int .i64 k) ∧ (decide (a.rows = b.rows) = decide (a.rows.drop k = b.rows.drop k))) a.rows.length
      ⟨0, by simp, Nat.zero_le _, by (and_intros <;> first | rfl | (simp only [cRun, h2, h3, go_sem, simprocAttr]; done) | (simp only [cRun, h2, h3, go_sem, simprocAttr]; rfl)), by simp⟩ ?_)
    rintro n f H ⟨k, rfl, hk, ⟨h2, h3, h6⟩, hr⟩
    by_cases hlt : k < a.rows.length
    · obtain ⟨x, hx⟩ : ∃ x, a.rows[k]? = some x := ⟨_, List.getElem?_eq_getElem hlt⟩
      obtain ⟨y, hy⟩ : ∃ y, b.rows[k]? = some y := ⟨_, List.getElem?_eq_getElem (by omega)⟩
      repeat' (first
        | ((with_reducible first | refine AW_rs tabOK { base := 0, own := [] } ?hsz ?_ | refine AW_rd tabOK mix { base := 0, own := [] } ?hsz (by decide +kernel) ?_); (case hsz => rw [hXs]; rfl); intro K hK; try simp (disch := omega) only [h2, h3, h6, hx, hy, cRun, cRow, go_sem, simprocAttr])
        | ((with_reducible refine AW_seq_k ?_); intro K hK)
        | ((with_reducible first | refine AW_region tabOK { base := 0, own := [] } ?hsz ?_ | refine AW_draw tabOK mix { base := 0, own := [] } ?hsz (by decide +kernel) ?_); (case hsz => rw [hXs]; rfl); try simp (disch := omega) only [h2, h3, h6, hx, hy, cRun, cRow, go_sem, simprocAttr])
        | ((with_reducible first | refine AW_skip ?_ | refine AW_ret ?_ | refine AW_exit ?_ | refine AW_label ?_); try simp (disch := omega) only [h2, h3, h6, hx, hy, cRun, cRow, go_sem, simprocAttr])
        | (with_reducible first | refine AW_scope ?_ | refine AW_blockS ?_ | refine AW_blockR ?_ | refine AW_blockC ?_)
        | ((with_reducible refine AW_condE ?_); refine ⟨_, (by first | rfl | (simp only [h2, h3, h6, hx, hy, cRun, cRow, go_sem, simprocAttr]; rfl)), ?_, ?_⟩ <;> intro hc <;> (try simp only [decide_eq_true_eq, decide_eq_false_iff_not, Bool.not_eq_true', Bool.not_eq_false', Bool.not_eq_eq_eq_not, Bool.not_true, Bool.not_false, reduceCtorEq, not_true_eq_false, not_false_eq_true, decide_true, decide_false] at hc) <;> (try (exfalso; omega)))
        | ((with_reducible first | refine grdS_split ?_ ?_ | refine lkG_split ?_ ?_) <;> intro hg <;> (try simp (disch := omega) only [hg, h2, h3, h6, hx, hy, cRun, cRow, go_sem, simprocAttr]) <;> (try simp only [decide_eq_true_eq, decide_eq_false_iff_not, Bool.not_eq_true', Bool.not_eq_false', Bool.not_eq_eq_eq_not, Bool.not_true, Bool.not_false, reduceCtorEq, not_true_eq_false, not_false_eq_true, decide_true, decide_false] at hg) <;> (try (exfalso; omega)))
        | ((first | refine pureK_intro (sameInts_ok x.deg y.deg (ha.degs x (List.mem_of_getElem? hx))) ?_); try simp (disch := omega) only [h2, h3, h6, hx, hy, cRun, cRow, go_sem, simprocAttr])
        | ((with_reducible first | refine FnP_endE (Or.inl rfl) ?_ | refine FnP_endE (Or.inr rfl) ?_); refine ⟨_, (by simp only [Try.f22, h2, h3, h6, hx, hy, cRun, cRow, go_sem, simprocAttr]; rfl), ?_⟩; first | rfl | (try simp only [h2, h3, h6, hx, hy, cRun, cRow, go_sem, simprocAttr, Val.bool.injEq, Val.int.injEq, Val.tup.injEq, Val.agg.injEq, List.cons.injEq]))
        | with_reducible intro (ep : Nat → Nat)
        | with_reducible apply_assumption -exfalso -symm only [*])
      · have : decide (a.rows = b.rows) = false := by rw [hr, drop_cons hx, drop_cons hy]; exact (cons_ne fun e => by (subst e; simp_all)).symm
        rw [hd, this]
      · have : decide (a.rows = b.rows) = false := by rw [hr, drop_cons hx, drop_cons hy]; exact (cons_ne fun e => by (subst e; simp_all)).symm
        rw [hd, this]
      · refine ⟨a.rows.length - (k + 1), by omega, k + 1, rfl, by omega, rfl, ?_⟩
        rw [hr, drop_cons hx, drop_cons hy]; exact cons_same (by rw [row_eq]; simp_all)
    · repeat' (first
        | ((with_reducible first | refine AW_rs tabOK { base := 0, own := [] } ?hsz ?_ | refine AW_rd tabOK mix { base := 0, own := [] } ?hsz (by decide +kernel) ?_); (case hsz => rw [hXs]; rfl); intro K hK; try simp (disch := omega) only [h2, h3, h6, cRun, go_sem, simprocAttr])
        | ((with_reducible refine AW_seq_k ?_); intro K hK)
        | ((with_reducible first | refine AW_region tabOK { base := 0, own := [] } ?hsz ?_ | refine AW_draw tabOK mix { base := 0, own := [] } ?hsz (by decide +kernel) ?_); (case hsz => rw [hXs]; rfl); try simp (disch := omega) only [h2, h3, h6, cRun, go_sem, simprocAttr])
        | ((with_reducible first | refine AW_skip ?_ | refine AW_ret ?_ | refine AW_exit ?_ | refine AW_label ?_); try simp (disch := omega) only [h2, h3, h6, cRun, go_sem, simprocAttr])
        | (with_reducible first | refine AW_scope ?_ | refine AW_blockS ?_ | refine AW_blockR ?_ | refine AW_blockC ?_)
        | ((with_reducible refine AW_condE ?_); refine ⟨_, (by first | rfl | (simp only [h2, h3, h6, cRun, go_sem, simprocAttr]; rfl)), ?_, ?_⟩ <;> intro hc <;> (try simp only [decide_eq_true_eq, decide_eq_false_iff_not, Bool.not_eq_true', Bool.not_eq_false', Bool.not_eq_eq_eq_not, Bool.not_true, Bool.not_false, reduceCtorEq, not_true_eq_false, not_false_eq_true, decide_true, decide_false] at hc) <;> (try (exfalso; omega)))
        | ((with_reducible first | refine grdS_split ?_ ?_ | refine lkG_split ?_ ?_) <;> intro hg <;> (try simp (disch := omega) only [hg, h2, h3, h6, cRun, go_sem, simprocAttr]) <;> (try simp only [decide_eq_true_eq, decide_eq_false_iff_not, Bool.not_eq_true', Bool.not_eq_false', Bool.not_eq_eq_eq_not, Bool.not_true, Bool.not_false, reduceCtorEq, not_true_eq_false, not_false_eq_true, decide_true, decide_false] at hg) <;> (try (exfalso; omega)))
        | ((with_reducible first | refine FnP_endE (Or.inl rfl) ?_ | refine FnP_endE (Or.inr rfl) ?_); refine ⟨_, (by simp only [Try.f22, h2, h3, h6, cRun, go_sem, simprocAttr]; rfl), ?_⟩; first | rfl | (try simp only [h2, h3, h6, cRun, go_sem, simprocAttr, Val.bool.injEq, Val.int.injEq, Val.tup.injEq, Val.agg.injEq, List.cons.injEq]))
        | with_reducible intro (ep : Nat → Nat)
        | with_reducible apply_assumption -exfalso -symm only [*])
      rw [hd, hr]; simp [drop_none (show b.rows.length ≤ k by omega), drop_none (show a.rows.length ≤ k by omega)]

theorem twinRules_ok (u : RulesT) (hu : u.steps.length ≤ 1073741824) : PureC Try.prog 24 [encRules u] (encRules u) := by
  refine PureC_of (fn := Try.f24) tabOK (by kernel_rfl) rfl (by kernel_rfl) (by simp [Try.f24]) (by simp [noids, noid, noidss, go_sem, encRules, cRules]) (by first | rfl | simp [noids, noid, noidss, go_sem, encRules, cRules]) ?_
  intro X hX0 hXs
  repeat' (first
    | ((with_reducible first | refine AW_rs tabOK { base := 0, own := [1] } ?hsz ?_ | refine AW_rd tabOK mix { base := 0, own := [1] } ?hsz (by decide +kernel) ?_ | refine AW_rdS tabOK mix { base := 0, own := [1] } [2] ?hsz (by decide +kernel) ?_); (case hsz => rw [hXs]; rfl); intro K hK; try simp (disch := omega) only [encRules, cRules, hu, go_sem, simprocAttr])
    | ((with_reducible refine AW_seq_k ?_); intro K hK)
    | ((with_reducible first | refine AW_region tabOK { base := 0, own := [1] } ?hsz ?_ | refine AW_draw tabOK mix { base := 0, own := [1] } ?hsz (by decide +kernel) ?_ | refine AW_drawS tabOK mix { base := 0, own := [1] } [2] ?hsz (by decide +kernel) ?_); (case hsz => rw [hXs]; rfl); try simp (disch := omega) only [encRules, cRules, hu, go_sem, simprocAttr])
    | ((with_reducible first | refine AW_skip ?_ | refine AW_ret ?_ | refine AW_exit ?_ | refine AW_label ?_); try simp (disch := omega) only [encRules, cRules, hu, go_sem, simprocAttr])
    | (with_reducible first | refine AW_scope ?_ | refine AW_blockS ?_ | refine AW_blockR ?_ | refine AW_blockC ?_)
    | ((with_reducible refine AW_condE ?_); refine ⟨_, (by first | rfl | (simp only [encRules, cRules, hu, go_sem, simprocAttr]; rfl)), ?_, ?_⟩ <;> intro hc <;> (try simp only [decide_eq_true_eq, decide_eq_false_iff_not, Bool.not_eq_true', Bool.not_eq_false', Bool.not_eq_eq_eq_not, Bool.not_true, Bool.not_false, reduceCtorEq, not_true_eq_false, not_false_eq_true, decide_true, decide_false] at hc) <;> (try (exfalso; omega)))
    | ((with_reducible first | refine grdS_split ?_ ?_ | refine lkG_split ?_ ?_) <;> intro hg <;> (try simp (disch := omega) only [hg, encRules, cRules, hu, go_sem, simprocAttr]) <;> (try simp only [decide_eq_true_eq, decide_eq_false_iff_not, Bool.not_eq_true', Bool.not_eq_false', Bool.not_eq_eq_eq_not, Bool.not_true, Bool.not_false, reduceCtorEq, not_true_eq_false, not_false_eq_true, decide_true, decide_false] at hg) <;> (try (exfalso; omega)))
    | ((with_reducible first | refine FnP_endE (Or.inl rfl) ?_ | refine FnP_endE (Or.inr rfl) ?_); refine ⟨_, (by simp only [Try.f24, encRules, cRules, hu, go_sem, simprocAttr]; rfl), ?_⟩; first | rfl | (try simp only [encRules, cRules, hu, go_sem, simprocAttr, Val.bool.injEq, Val.int.injEq, Val.tup.injEq, Val.agg.injEq, List.cons.injEq]))
    | with_reducible intro (ep : Nat → Nat)
    | with_reducible apply_assumption -exfalso -symm only [*])

theorem twin_ok (r : RunT) (hr : RunSm r) : PureC Try.prog 15 [encRun r] (encRun r) := by
  have hb := hr.b
  have hb1 : r.curve.length ≤ 1073741824 := by have := hr.curve; omega
  have hb2 : r.cpls.length ≤ 1073741824 := by have := hr.cpls; omega
  have hb3 : r.rows.length ≤ 1073741824 := by have := hr.rows; omega
  refine PureC_of (fn := Try.f15) tabOK (by kernel_rfl) rfl (by kernel_rfl) (by simp [Try.f15]) (by simp [noids, noid, noidss, go_sem, encRun, cRun]) (by first | rfl | simp [noids, noid, noidss, go_sem, encRun, cRun]) ?_
  intro X hX0 hXs
  by_cases hne : r.rows.length = 0
  · have hnil : r.rows = [] := List.eq_nil_of_length_eq_zero hne
    repeat' (first
      | ((with_reducible first | refine AW_rs tabOK { base := 0, own := [1] } ?hsz ?_ | refine AW_rd tabOK mix { base := 0, own := [1] } ?hsz (by decide +kernel) ?_ | refine AW_rdS tabOK mix { base := 0, own := [1] } [2] ?hsz (by decide +kernel) ?_); (case hsz => rw [hXs]; rfl); intro K hK; try simp (disch := omega) only [encRun, cRun, hb1, hb2, hnil, go_sem, simprocAttr])
      | ((with_reducible refine AW_seq_k ?_); intro K hK)
      | ((with_reducible first | refine AW_region tabOK { base := 0, own := [1] } ?hsz ?_ | refine AW_draw tabOK mix { base := 0, own := [1] } ?hsz (by decide +kernel) ?_ | refine AW_drawS tabOK mix { base := 0, own := [1] } [2] ?hsz (by decide +kernel) ?_); (case hsz => rw [hXs]; rfl); try simp (disch := omega) only [encRun, cRun, hb1, hb2, hnil, go_sem, simprocAttr])
      | ((with_reducible first | refine AW_skip ?_ | refine AW_ret ?_ | refine AW_exit ?_ | refine AW_label ?_); try simp (disch := omega) only [encRun, cRun, hb1, hb2, hnil, go_sem, simprocAttr])
      | (with_reducible first | refine AW_scope ?_ | refine AW_blockS ?_ | refine AW_blockR ?_ | refine AW_blockC ?_)
      | ((with_reducible refine AW_condE ?_); refine ⟨_, (by first | rfl | (simp only [encRun, cRun, hb1, hb2, hnil, go_sem, simprocAttr]; rfl)), ?_, ?_⟩ <;> intro hc <;> (try simp only [decide_eq_true_eq, decide_eq_false_iff_not, Bool.not_eq_true', Bool.not_eq_false', Bool.not_eq_eq_eq_not, Bool.not_true, Bool.not_false, reduceCtorEq, not_true_eq_false, not_false_eq_true, decide_true, decide_false] at hc) <;> (try (exfalso; omega)))
      | ((with_reducible first | refine grdS_split ?_ ?_ | refine lkG_split ?_ ?_) <;> intro hg <;> (try simp (disch := omega) only [hg, encRun, cRun, hb1, hb2, hnil, go_sem, simprocAttr]) <;> (try simp only [decide_eq_true_eq, decide_eq_false_iff_not, Bool.not_eq_true', Bool.not_eq_false', Bool.not_eq_eq_eq_not, Bool.not_true, Bool.not_false, reduceCtorEq, not_true_eq_false, not_false_eq_true, decide_true, decide_false] at hg) <;> (try (exfalso; omega)))
      | ((with_reducible first | refine FnP_endE (Or.inl rfl) ?_ | refine FnP_endE (Or.inr rfl) ?_); refine ⟨_, (by simp only [Try.f15, encRun, cRun, hb1, hb2, hnil, go_sem, simprocAttr]; rfl), ?_⟩; first | rfl | (try simp only [encRun, cRun, hb1, hb2, hnil, go_sem, simprocAttr, Val.bool.injEq, Val.int.injEq, Val.tup.injEq, Val.agg.injEq, List.cons.injEq]))
      | with_reducible intro (ep : Nat → Nat)
      | with_reducible apply_assumption -exfalso -symm only [*])
    refine AW_block (AW_loop (fun n f H => (f 3 = .int .i64 0) ∧ ∃ e1 e2 x, f 1 = .ptr 1 e1 6 0 0 ∧ H 1 = some (e1, .arr 6 [[.int .i64 r.id, .lst 2 (r.curve.map cPt), .lst 6 (r.cpls.map cCpl), .lst 2 [], .int .i64 r.gauge.lo, .int .i64 r.gauge.hi]]) ∧ f 2 = .ptr 2 e2 6 0 0 ∧ H 2 = some (e2, .arr 6 [x]) ∧ x.length = 6) 0
      ⟨by (first | rfl | (simp only [go_sem, simprocAttr]; done) | (simp only [go_sem, simprocAttr]; rfl)), _, _, _, by (first | rfl | (simp only [go_sem, simprocAttr]; done) | (simp only [go_sem, simprocAttr]; rfl)), by (first | rfl | (simp only [go_sem, simprocAttr]; done) | (simp only [go_sem, simprocAttr]; rfl)), by (first | rfl | (simp only [go_sem, simprocAttr]; done) | (simp only [go_sem, simprocAttr]; rfl)), by (first | rfl | (simp only [go_sem, simprocAttr]; done) | (simp only [go_sem, simprocAttr]; rfl)), rfl⟩ ?_)
    rintro n f H ⟨h3, e1, e2, x, h1, hH1, h2, hH2, hx⟩
    match x, hx with
    | [x0, x1, x2, x3, x4, x5], _ =>
    repeat' (first
      | ((with_reducible first | refine AW_rs tabOK { base := 0, own := [1] } ?hsz ?_ | refine AW_rd tabOK mix { base := 0, own := [1] } ?hsz (by decide +kernel) ?_ | refine AW_rdS tabOK mix { base := 0, own := [1] } [2] ?hsz (by decide +kernel) ?_); (case hsz => rw [hXs]; rfl); intro K hK; try simp (disch := omega) only [h1, h2, h3, hH1, hH2, hnil, encRun, cRun, go_sem, simprocAttr])
      | ((with_reducible refine AW_seq_k ?_); intro K hK)
      | ((with_reducible first | refine AW_region tabOK { base := 0, own := [1] } ?hsz ?_ | refine AW_draw tabOK mix { base := 0, own := [1] } ?hsz (by decide +kernel) ?_ | refine AW_drawS tabOK mix { base := 0, own := [1] } [2] ?hsz (by decide +kernel) ?_); (case hsz => rw [hXs]; rfl); try simp (disch := omega) only [h1, h2, h3, hH1, hH2, hnil, encRun, cRun, go_sem, simprocAttr])
      | ((with_reducible first | refine AW_skip ?_ | refine AW_ret ?_ | refine AW_exit ?_ | refine AW_label ?_); try simp (disch := omega) only [h1, h2, h3, hH1, hH2, hnil, encRun, cRun, go_sem, simprocAttr])
      | (with_reducible first | refine AW_scope ?_ | refine AW_blockS ?_ | refine AW_blockR ?_ | refine AW_blockC ?_)
      | ((with_reducible refine AW_condE ?_); refine ⟨_, (by first | rfl | (simp only [h1, h2, h3, hH1, hH2, hnil, encRun, cRun, go_sem, simprocAttr]; rfl)), ?_, ?_⟩ <;> intro hc <;> (try simp only [decide_eq_true_eq, decide_eq_false_iff_not, Bool.not_eq_true', Bool.not_eq_false', Bool.not_eq_eq_eq_not, Bool.not_true, Bool.not_false, reduceCtorEq, not_true_eq_false, not_false_eq_true, decide_true, decide_false] at hc) <;> (try (exfalso; omega)))
      | ((with_reducible first | refine grdS_split ?_ ?_ | refine lkG_split ?_ ?_) <;> intro hg <;> (try simp (disch := omega) only [hg, h1, h2, h3, hH1, hH2, hnil, encRun, cRun, go_sem, simprocAttr]) <;> (try simp only [decide_eq_true_eq, decide_eq_false_iff_not, Bool.not_eq_true', Bool.not_eq_false', Bool.not_eq_eq_eq_not, Bool.not_true, Bool.not_false, reduceCtorEq, not_true_eq_false, not_false_eq_true, decide_true, decide_false] at hg) <;> (try (exfalso; omega)))
      | ((with_reducible first | refine FnP_endE (Or.inl rfl) ?_ | refine FnP_endE (Or.inr rfl) ?_); refine ⟨_, (by simp only [Try.f15, h1, h2, h3, hH1, hH2, hnil, encRun, cRun, go_sem, simprocAttr]; rfl), ?_⟩; first | rfl | (try simp only [h1, h2, h3, hH1, hH2, hnil, encRun, cRun, go_sem, simprocAttr, Val.bool.injEq, Val.int.injEq, Val.tup.injEq, Val.agg.injEq, List.cons.injEq]))
      | with_reducible intro (ep : Nat → Nat)
      | with_reducible apply_assumption -exfalso -symm only [*])
  · have hpos : 0 < r.rows.length := by omega
    repeat' (first
      | ((with_reducible first | refine AW_rs tabOK { base := 0, own := [1, 17] } ?hsz ?_ | refine AW_rd tabOK mix { base := 0, own := [1, 17] } ?hsz (by decide +kernel) ?_ | refine AW_rdS tabOK mix { base := 0, own := [1, 17] } [2] ?hsz (by decide +kernel) ?_); (case hsz => rw [hXs]; rfl); intro K hK; try simp (disch := omega) only [encRun, cRun, hb1, hb2, hb3, hne, go_sem, simprocAttr])
      | ((with_reducible refine AW_seq_k ?_); intro K hK)
      | ((with_reducible first | refine AW_region tabOK { base := 0, own := [1, 17] } ?hsz ?_ | refine AW_draw tabOK mix { base := 0, own := [1, 17] } ?hsz (by decide +kernel) ?_ | refine AW_drawS tabOK mix { base := 0, own := [1, 17] } [2] ?hsz (by decide +kernel) ?_); (case hsz => rw [hXs]; rfl); try simp (disch := omega) only [encRun, cRun, hb1, hb2, hb3, hne, go_sem, simprocAttr])
      | ((with_reducible first | refine AW_skip ?_ | refine AW_ret ?_ | refine AW_exit ?_ | refine AW_label ?_); try simp (disch := omega) only [encRun, cRun, hb1, hb2, hb3, hne, go_sem, simprocAttr])
      | (with_reducible first | refine AW_scope ?_ | refine AW_blockS ?_ | refine AW_blockR ?_ | refine AW_blockC ?_)
      | ((with_reducible refine AW_condE ?_); refine ⟨_, (by first | rfl | (simp only [encRun, cRun, hb1, hb2, hb3, hne, go_sem, simprocAttr]; rfl)), ?_, ?_⟩ <;> intro hc <;> (try simp only [decide_eq_true_eq, decide_eq_false_iff_not, Bool.not_eq_true', Bool.not_eq_false', Bool.not_eq_eq_eq_not, Bool.not_true, Bool.not_false, reduceCtorEq, not_true_eq_false, not_false_eq_true, decide_true, decide_false] at hc) <;> (try (exfalso; omega)))
      | ((with_reducible first | refine grdS_split ?_ ?_ | refine lkG_split ?_ ?_) <;> intro hg <;> (try simp (disch := omega) only [hg, encRun, cRun, hb1, hb2, hb3, hne, go_sem, simprocAttr]) <;> (try simp only [decide_eq_true_eq, decide_eq_false_iff_not, Bool.not_eq_true', Bool.not_eq_false', Bool.not_eq_eq_eq_not, Bool.not_true, Bool.not_false, reduceCtorEq, not_true_eq_false, not_false_eq_true, decide_true, decide_false] at hg) <;> (try (exfalso; omega)))
      | ((with_reducible first | refine FnP_endE (Or.inl rfl) ?_ | refine FnP_endE (Or.inr rfl) ?_); refine ⟨_, (by simp only [Try.f15, encRun, cRun, hb1, hb2, hb3, hne, go_sem, simprocAttr]; rfl), ?_⟩; first | rfl | (try simp only [encRun, cRun, hb1, hb2, hb3, hne, go_sem, simprocAttr, Val.bool.injEq, Val.int.injEq, Val.tup.injEq, Val.agg.injEq, List.cons.injEq]))
      | with_reducible intro (ep : Nat → Nat)
      | with_reducible apply_assumption -exfalso -symm only [*])
    refine AW_block (AW_loop (fun n f H => ∃ k : Nat, n = r.rows.length - k ∧ k ≤ r.rows.length ∧ (f 3 = .int .i64 k) ∧ ∃ e1 e2 e17 x, f 1 = .ptr 1 e1 6 0 0 ∧ H 1 = some (e1, .arr 6 [[.int .i64 r.id, .lst 2 (r.curve.map cPt), .lst 6 (r.cpls.map cCpl), .gr 17 e17 r.rows.length, .int .i64 r.gauge.lo, .int .i64 r.gauge.hi]]) ∧ f 2 = .ptr 2 e2 6 0 0 ∧ H 2 = some (e2, .arr 6 [x]) ∧ x.length = 6 ∧ H 17 = some (e17, .arr 2 (r.rows.map cRow))) r.rows.length
      ⟨0, by simp, Nat.zero_le _, by (first | rfl | (simp only [go_sem, simprocAttr]; done) | (simp only [go_sem, simprocAttr]; rfl)), _, _, _, _, by (first | rfl | (simp only [go_sem, simprocAttr]; done) | (simp only [go_sem, simprocAttr]; rfl)), by (first | rfl | (simp only [go_sem, simprocAttr]; done) | (simp only [go_sem, simprocAttr]; rfl)), by (first | rfl | (simp only [go_sem, simprocAttr]; done) | (simp only [go_sem, simprocAttr]; rfl)), by (first | rfl | (simp only [go_sem, simprocAttr]; done) | (simp only [go_sem, simprocAttr]; rfl)), rfl, by (first | rfl | (simp only [go_sem, simprocAttr]; done) | (simp only [go_sem, simprocAttr]; rfl))⟩ ?_)
    rintro n f H ⟨k, rfl, hk, h3, e1, e2, e17, x, h1, hH1, h2, hH2, hx, hH17⟩
    match x, hx with
    | [x0, x1, x2, x3, x4, x5], _ =>
    by_cases hlt : k < r.rows.length
    · obtain ⟨y, hy⟩ : ∃ y, r.rows[k]? = some y := ⟨_, List.getElem?_eq_getElem hlt⟩
      have hyd : y.deg.length ≤ 1073741824 := by have := hr.degs y (List.mem_of_getElem? hy); omega
      have hset := map_set_self (g := cRow) hy
      simp only [cRow] at hset
      repeat' (first
        | ((with_reducible first | refine AW_rs tabOK { base := 0, own := [1, 17] } ?hsz ?_ | refine AW_rd tabOK mix { base := 0, own := [1, 17] } ?hsz (by decide +kernel) ?_ | refine AW_rdS tabOK mix { base := 0, own := [1, 17] } [2] ?hsz (by decide +kernel) ?_); (case hsz => rw [hXs]; rfl); intro K hK; try simp (disch := omega) only [h1, h2, h3, hH1, hH2, hH17, hy, hyd, hlt, cRow, go_sem, simprocAttr])
        | ((with_reducible refine AW_seq_k ?_); intro K hK)
        | ((with_reducible first | refine AW_region tabOK { base := 0, own := [1, 17] } ?hsz ?_ | refine AW_draw tabOK mix { base := 0, own := [1, 17] } ?hsz (by decide +kernel) ?_ | refine AW_drawS tabOK mix { base := 0, own := [1, 17] } [2] ?hsz (by decide +kernel) ?_); (case hsz => rw [hXs]; rfl); try simp (disch := omega) only [h1, h2, h3, hH1, hH2, hH17, hy, hyd, hlt, cRow, go_sem, simprocAttr])
        | ((with_reducible first | refine AW_skip ?_ | refine AW_ret ?_ | refine AW_exit ?_ | refine AW_label ?_); try simp (disch := omega) only [h1, h2, h3, hH1, hH2, hH17, hy, hyd, hlt, cRow, go_sem, simprocAttr])
        | (with_reducible first | refine AW_scope ?_ | refine AW_blockS ?_ | refine AW_blockR ?_ | refine AW_blockC ?_)
        | ((with_reducible refine AW_condE ?_); refine ⟨_, (by first | rfl | (simp only [h1, h2, h3, hH1, hH2, hH17, hy, hyd, hlt, cRow, go_sem, simprocAttr]; rfl)), ?_, ?_⟩ <;> intro hc <;> (try simp only [decide_eq_true_eq, decide_eq_false_iff_not, Bool.not_eq_true', Bool.not_eq_false', Bool.not_eq_eq_eq_not, Bool.not_true, Bool.not_false, reduceCtorEq, not_true_eq_false, not_false_eq_true, decide_true, decide_false] at hc) <;> (try (exfalso; omega)))
        | ((with_reducible first | refine grdS_split ?_ ?_ | refine lkG_split ?_ ?_) <;> intro hg <;> (try simp (disch := omega) only [hg, h1, h2, h3, hH1, hH2, hH17, hy, hyd, hlt, cRow, go_sem, simprocAttr]) <;> (try simp only [decide_eq_true_eq, decide_eq_false_iff_not, Bool.not_eq_true', Bool.not_eq_false', Bool.not_eq_eq_eq_not, Bool.not_true, Bool.not_false, reduceCtorEq, not_true_eq_false, not_false_eq_true, decide_true, decide_false] at hg) <;> (try (exfalso; omega)))
        | ((with_reducible first | refine FnP_endE (Or.inl rfl) ?_ | refine FnP_endE (Or.inr rfl) ?_); refine ⟨_, (by simp only [Try.f15, h1, h2, h3, hH1, hH2, hH17, hy, hyd, hlt, cRow, go_sem, simprocAttr]; rfl), ?_⟩; first | rfl | (try simp only [h1, h2, h3, hH1, hH2, hH17, hy, hyd, hlt, cRow, go_sem, simprocAttr, Val.bool.injEq, Val.int.injEq, Val.tup.injEq, Val.agg.injEq, List.cons.injEq]))
        | with_reducible intro (ep : Nat → Nat)
        | with_reducible apply_assumption -exfalso -symm only [*])
      exact ⟨r.rows.length - (k + 1), by omega, k + 1, rfl, by omega, rfl, _, _, _, _, rfl, rfl, rfl, rfl, rfl, by rw [hset]⟩
    · repeat' (first
        | ((with_reducible first | refine AW_rs tabOK { base := 0, own := [1, 17] } ?hsz ?_ | refine AW_rd tabOK mix { base := 0, own := [1, 17] } ?hsz (by decide +kernel) ?_ | refine AW_rdS tabOK mix { base := 0, own := [1, 17] } [2] ?hsz (by decide +kernel) ?_); (case hsz => rw [hXs]; rfl); intro K hK; try simp (disch := omega) only [h1, h2, h3, hH1, hH2, hH17, go_sem, simprocAttr])
        | ((with_reducible refine AW_seq_k ?_); intro K hK)
        | ((with_reducible first | refine AW_region tabOK { base := 0, own := [1, 17] } ?hsz ?_ | refine AW_draw tabOK mix { base := 0, own := [1, 17] } ?hsz (by decide +kernel) ?_ | refine AW_drawS tabOK mix { base := 0, own := [1, 17] } [2] ?hsz (by decide +kernel) ?_); (case hsz => rw [hXs]; rfl); try simp (disch := omega) only [h1, h2, h3, hH1, hH2, hH17, go_sem, simprocAttr])
        | ((with_reducible first | refine AW_skip ?_ | refine AW_ret ?_ | refine AW_exit ?_ | refine AW_label ?_); try simp (disch := omega) only [h1, h2, h3, hH1, hH2, hH17, go_sem, simprocAttr])
        | (with_reducible first | refine AW_scope ?_ | refine AW_blockS ?_ | refine AW_blockR ?_ | refine AW_blockC ?_)
        | ((with_reducible refine AW_condE ?_); refine ⟨_, (by first | rfl | (simp only [h1, h2, h3, hH1, hH2, hH17, go_sem, simprocAttr]; rfl)), ?_, ?_⟩ <;> intro hc <;> (try simp only [decide_eq_true_eq, decide_eq_false_iff_not, Bool.not_eq_true', Bool.not_eq_false', Bool.not_eq_eq_eq_not, Bool.not_true, Bool.not_false, reduceCtorEq, not_true_eq_false, not_false_eq_true, decide_true, decide_false] at hc) <;> (try (exfalso; omega)))
        | ((with_reducible first | refine grdS_split ?_ ?_ | refine lkG_split ?_ ?_) <;> intro hg <;> (try simp (disch := omega) only [hg, h1, h2, h3, hH1, hH2, hH17, go_sem, simprocAttr]) <;> (try simp only [decide_eq_true_eq, decide_eq_false_iff_not, Bool.not_eq_true', Bool.not_eq_false', Bool.not_eq_eq_eq_not, Bool.not_true, Bool.not_false, reduceCtorEq, not_true_eq_false, not_false_eq_true, decide_true, decide_false] at hg) <;> (try (exfalso; omega)))
        | with_reducible intro (ep : Nat → Nat)
        | with_reducible apply_assumption -exfalso -symm only [*])
      refine FnP_frz 17 (Or.inl rfl) (by simp only [go_sem, simprocAttr, hH17]; rfl) ⟨_, (by simp only [Try.f15, go_sem, simprocAttr, h1, h2, hH1, hH2]; rfl), ?_⟩
      simp only [go_sem, simprocAttr, encRun, cRun]
end Cp

