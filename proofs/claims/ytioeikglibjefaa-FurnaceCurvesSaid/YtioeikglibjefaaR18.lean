/- What functions of the furnace and of its reference compute (R18). Conditions: none. -/
import Derived.Test.YtioeikglibjefaaR17
import Derived.Test.YtioeikglibjefaaFits
set_option linter.unusedSimpArgs false
set_option linter.unusedVariables false
namespace Cp
open Go Go.Proofs
set_option maxRecDepth 10000

theorem curves_law (l : List Pt) (r : RunT) (u : RulesT) (m : Int) : PureC Try.prog 3 [.lst 2 (l.map cPt), encRun r, encRules u, .int .i64 m] (.bool true) := by
  by_cases hg : greatS r u = true
  · refine PureC_of (fn := Try.f3) tabOK (by kernel_rfl) rfl (by kernel_rfl) (by simp [Try.f3]) (by simp [noids, noid, noidss, go_sem, encRun, cRun, encRules, cRules]) (by first | rfl | simp [noids, noid, noidss, go_sem, encRun, cRun, encRules, cRules]) ?_
    intro X hX0 hXs
    repeat' (first
      | ((with_reducible first | refine AW_rs tabOK { base := 0, own := [9, 15, 17] } ?hsz ?_ | refine AW_rd tabOK mix { base := 0, own := [9, 15, 17] } ?hsz (by decide +kernel) ?_ | refine AW_rdS tabOK mix { base := 0, own := [9, 15, 17] } [9, 15, 17] ?hsz (by decide +kernel) ?_); (case hsz => rw [hXs]; rfl); intro K hK; try simp (disch := omega) only [encRun, cRun, encRules, cRules, hg, go_sem, simprocAttr])
      | ((with_reducible refine AW_seq_k ?_); intro K hK)
      | ((with_reducible first | refine AW_region tabOK { base := 0, own := [9, 15, 17] } ?hsz ?_ | refine AW_draw tabOK mix { base := 0, own := [9, 15, 17] } ?hsz (by decide +kernel) ?_ | refine AW_drawS tabOK mix { base := 0, own := [9, 15, 17] } [9, 15, 17] ?hsz (by decide +kernel) ?_); (case hsz => rw [hXs]; rfl); try simp (disch := omega) only [encRun, cRun, encRules, cRules, hg, go_sem, simprocAttr])
      | ((with_reducible first | refine AW_skip ?_ | refine AW_ret ?_ | refine AW_exit ?_ | refine AW_label ?_); try simp (disch := omega) only [encRun, cRun, encRules, cRules, hg, go_sem, simprocAttr])
      | (with_reducible first | refine AW_scope ?_ | refine AW_blockS ?_ | refine AW_blockR ?_ | refine AW_blockC ?_)
      | ((with_reducible refine AW_condE ?_); refine ⟨_, (by first | rfl | (simp only [encRun, cRun, encRules, cRules, hg, go_sem, simprocAttr]; rfl)), ?_, ?_⟩ <;> intro hc <;> (try simp only [decide_eq_true_eq, decide_eq_false_iff_not, Bool.not_eq_true', Bool.not_eq_false', Bool.not_eq_eq_eq_not, Bool.not_true, Bool.not_false, reduceCtorEq, not_true_eq_false, not_false_eq_true, decide_true, decide_false] at hc) <;> (try (exfalso; omega)))
      | ((with_reducible first | refine grdS_split ?_ ?_ | refine lkG_split ?_ ?_) <;> intro hg <;> (try simp (disch := omega) only [hg, encRun, cRun, encRules, cRules, hg, go_sem, simprocAttr]) <;> (try simp only [decide_eq_true_eq, decide_eq_false_iff_not, Bool.not_eq_true', Bool.not_eq_false', Bool.not_eq_eq_eq_not, Bool.not_true, Bool.not_false, reduceCtorEq, not_true_eq_false, not_false_eq_true, decide_true, decide_false] at hg) <;> (try (exfalso; omega)))
      | ((first | refine pureK_intro (great_ok r u) ?_); try simp (disch := omega) only [encRun, cRun, encRules, cRules, hg, go_sem, simprocAttr])
      | ((with_reducible first | refine FnP_endE (Or.inl rfl) ?_ | refine FnP_endE (Or.inr rfl) ?_); refine ⟨_, (by simp only [Try.f3, encRun, cRun, encRules, cRules, hg, go_sem, simprocAttr]; rfl), ?_⟩; first | rfl | (try simp only [encRun, cRun, encRules, cRules, hg, go_sem, simprocAttr, Val.bool.injEq, Val.int.injEq, Val.tup.injEq, Val.agg.injEq, List.cons.injEq]))
      | with_reducible intro (ep : Nat → Nat)
      | with_reducible apply_assumption -exfalso -symm only [*])
  · simp only [Bool.not_eq_true] at hg
    obtain ⟨hsm, hst⟩ := great_sm hg
    by_cases h30 : 30 < (l.length : Int)
    · refine PureC_of (fn := Try.f3) tabOK (by kernel_rfl) rfl (by kernel_rfl) (by simp [Try.f3]) (by simp [noids, noid, noidss, go_sem, encRun, cRun, encRules, cRules]) (by first | rfl | simp [noids, noid, noidss, go_sem, encRun, cRun, encRules, cRules]) ?_
      intro X hX0 hXs
      repeat' (first
        | ((with_reducible first | refine AW_rs tabOK { base := 0, own := [9, 15, 17] } ?hsz ?_ | refine AW_rd tabOK mix { base := 0, own := [9, 15, 17] } ?hsz (by decide +kernel) ?_ | refine AW_rdS tabOK mix { base := 0, own := [9, 15, 17] } [9, 15, 17] ?hsz (by decide +kernel) ?_); (case hsz => rw [hXs]; rfl); intro K hK; try simp (disch := omega) only [encRun, cRun, encRules, cRules, hg, h30, go_sem, simprocAttr])
        | ((with_reducible refine AW_seq_k ?_); intro K hK)
        | ((with_reducible first | refine AW_region tabOK { base := 0, own := [9, 15, 17] } ?hsz ?_ | refine AW_draw tabOK mix { base := 0, own := [9, 15, 17] } ?hsz (by decide +kernel) ?_ | refine AW_drawS tabOK mix { base := 0, own := [9, 15, 17] } [9, 15, 17] ?hsz (by decide +kernel) ?_); (case hsz => rw [hXs]; rfl); try simp (disch := omega) only [encRun, cRun, encRules, cRules, hg, h30, go_sem, simprocAttr])
        | ((with_reducible first | refine AW_skip ?_ | refine AW_ret ?_ | refine AW_exit ?_ | refine AW_label ?_); try simp (disch := omega) only [encRun, cRun, encRules, cRules, hg, h30, go_sem, simprocAttr])
        | (with_reducible first | refine AW_scope ?_ | refine AW_blockS ?_ | refine AW_blockR ?_ | refine AW_blockC ?_)
        | ((with_reducible refine AW_condE ?_); refine ⟨_, (by first | rfl | (simp only [encRun, cRun, encRules, cRules, hg, h30, go_sem, simprocAttr]; rfl)), ?_, ?_⟩ <;> intro hc <;> (try simp only [decide_eq_true_eq, decide_eq_false_iff_not, Bool.not_eq_true', Bool.not_eq_false', Bool.not_eq_eq_eq_not, Bool.not_true, Bool.not_false, reduceCtorEq, not_true_eq_false, not_false_eq_true, decide_true, decide_false] at hc) <;> (try (exfalso; omega)))
        | ((with_reducible first | refine grdS_split ?_ ?_ | refine lkG_split ?_ ?_) <;> intro hg <;> (try simp (disch := omega) only [hg, encRun, cRun, encRules, cRules, hg, h30, go_sem, simprocAttr]) <;> (try simp only [decide_eq_true_eq, decide_eq_false_iff_not, Bool.not_eq_true', Bool.not_eq_false', Bool.not_eq_eq_eq_not, Bool.not_true, Bool.not_false, reduceCtorEq, not_true_eq_false, not_false_eq_true, decide_true, decide_false] at hg) <;> (try (exfalso; omega)))
        | ((first | refine pureK_intro (great_ok r u) ?_); try simp (disch := omega) only [encRun, cRun, encRules, cRules, hg, h30, go_sem, simprocAttr])
        | ((with_reducible first | refine FnP_endE (Or.inl rfl) ?_ | refine FnP_endE (Or.inr rfl) ?_); refine ⟨_, (by simp only [Try.f3, encRun, cRun, encRules, cRules, hg, h30, go_sem, simprocAttr]; rfl), ?_⟩; first | rfl | (try simp only [encRun, cRun, encRules, cRules, hg, h30, go_sem, simprocAttr, Val.bool.injEq, Val.int.injEq, Val.tup.injEq, Val.agg.injEq, List.cons.injEq]))
        | with_reducible intro (ep : Nat → Nat)
        | with_reducible apply_assumption -exfalso -symm only [*])
    · obtain ⟨a, e, hA⟩ : ∃ a e, (if curveOK l then (if 0 ≤ m ∧ m ≤ lastM l then .tup [.int .i64 (degAt l m), .int .i64 0] else .tup [.int .i64 0, .int .i64 2]) else .tup [.int .i64 0, .int .i64 10]) = (.tup [.int .i64 a, .int .i64 e] : Val) := by
        split
        · split
          · exact ⟨_, _, rfl⟩
          · exact ⟨_, _, rfl⟩
        · exact ⟨_, _, rfl⟩
      obtain ⟨s, e', hM⟩ : ∃ s e', meanV r m = .tup [encSpan s, .int .i64 e'] := by
        unfold meanV
        split
        · split
          · exact ⟨_, _, rfl⟩
          · exact ⟨_, _, rfl⟩
        · exact ⟨_, _, rfl⟩
      have hll : l.length ≤ 1073741824 := by omega
      have hat := at_ok l (by omega) m
      have hrat := rat_ok l (by omega) m
      have hme := mean_ok r hsm.b m
      have hrme := rMean_ok r hsm.b m
      rw [hA] at hat hrat
      rw [hM] at hme hrme
      refine PureC_of (fn := Try.f3) tabOK (by kernel_rfl) rfl (by kernel_rfl) (by simp [Try.f3]) (by simp [noids, noid, noidss, go_sem, encRun, cRun, encRules, cRules]) (by first | rfl | simp [noids, noid, noidss, go_sem, encRun, cRun, encRules, cRules]) ?_
      intro X hX0 hXs
      repeat' (first
        | ((with_reducible first | refine AW_rs tabOK { base := 0, own := [9, 15, 17] } ?hsz ?_ | refine AW_rd tabOK mix { base := 0, own := [9, 15, 17] } ?hsz (by decide +kernel) ?_ | refine AW_rdS tabOK mix { base := 0, own := [9, 15, 17] } [9, 15, 17] ?hsz (by decide +kernel) ?_); (case hsz => rw [hXs]; rfl); intro K hK; try simp (disch := omega) only [encRun, cRun, encRules, cRules, encSpan, hg, h30, hll, go_sem, simprocAttr])
        | ((with_reducible refine AW_seq_k ?_); intro K hK)
        | ((with_reducible first | refine AW_region tabOK { base := 0, own := [9, 15, 17] } ?hsz ?_ | refine AW_draw tabOK mix { base := 0, own := [9, 15, 17] } ?hsz (by decide +kernel) ?_ | refine AW_drawS tabOK mix { base := 0, own := [9, 15, 17] } [9, 15, 17] ?hsz (by decide +kernel) ?_); (case hsz => rw [hXs]; rfl); try simp (disch := omega) only [encRun, cRun, encRules, cRules, encSpan, hg, h30, hll, go_sem, simprocAttr])
        | ((with_reducible first | refine AW_skip ?_ | refine AW_ret ?_ | refine AW_exit ?_ | refine AW_label ?_); try simp (disch := omega) only [encRun, cRun, encRules, cRules, encSpan, hg, h30, hll, go_sem, simprocAttr])
        | (with_reducible first | refine AW_scope ?_ | refine AW_blockS ?_ | refine AW_blockR ?_ | refine AW_blockC ?_)
        | ((with_reducible refine AW_condE ?_); refine ⟨_, (by first | rfl | (simp only [encRun, cRun, encRules, cRules, encSpan, hg, h30, hll, go_sem, simprocAttr]; rfl)), ?_, ?_⟩ <;> intro hc <;> (try simp only [decide_eq_true_eq, decide_eq_false_iff_not, Bool.not_eq_true', Bool.not_eq_false', Bool.not_eq_eq_eq_not, Bool.not_true, Bool.not_false, reduceCtorEq, not_true_eq_false, not_false_eq_true, decide_true, decide_false] at hc) <;> (try (exfalso; omega)))
        | ((with_reducible first | refine grdS_split ?_ ?_ | refine lkG_split ?_ ?_) <;> intro hg <;> (try simp (disch := omega) only [hg, encRun, cRun, encRules, cRules, encSpan, hg, h30, hll, go_sem, simprocAttr]) <;> (try simp only [decide_eq_true_eq, decide_eq_false_iff_not, Bool.not_eq_true', Bool.not_eq_false', Bool.not_eq_eq_eq_not, Bool.not_true, Bool.not_false, reduceCtorEq, not_true_eq_false, not_false_eq_true, decide_true, decide_false] at hg) <;> (try (exfalso; omega)))
        | ((first | refine pureK_intro (great_ok r u) ?_ | refine pureK_intro (twin_ok r hsm) ?_ | refine pureK_intro (hat) ?_ | refine pureK_intro (hrat) ?_ | refine pureK_intro (hme) ?_ | refine pureK_intro (hrme) ?_ | refine pureK_intro (check_ok r u hsm.b ⟨by omega⟩) ?_ | refine pureK_intro (rcheck_ok r u hsm.b ⟨by omega⟩) ?_ | refine pureK_intro (same_ok r r hsm.b) ?_ | refine pureK_intro (samePoints_ok l l (by omega)) ?_); try simp (disch := omega) only [encRun, cRun, encRules, cRules, encSpan, hg, h30, hll, go_sem, simprocAttr])
        | ((with_reducible first | refine FnP_endE (Or.inl rfl) ?_ | refine FnP_endE (Or.inr rfl) ?_); refine ⟨_, (by simp only [Try.f3, encRun, cRun, encRules, cRules, encSpan, hg, h30, hll, go_sem, simprocAttr]; rfl), ?_⟩; first | rfl | (try simp only [encRun, cRun, encRules, cRules, encSpan, hg, h30, hll, go_sem, simprocAttr, Val.bool.injEq, Val.int.injEq, Val.tup.injEq, Val.agg.injEq, List.cons.injEq]))
        | with_reducible intro (ep : Nat → Nat)
        | with_reducible apply_assumption -exfalso -symm only [*])
      exact absurd hg (by decide)
end Cp

