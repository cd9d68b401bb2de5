/- What functions of the furnace and of its reference compute (R17). Conditions: none. -/
import Derived.Test.YtioeikglibjefaaR16
set_option linter.unusedSimpArgs false
set_option linter.unusedVariables false
namespace Cp
open Go Go.Proofs
set_option maxRecDepth 10000

theorem mean_ok (r : RunT) (hb : RunB r) (m : Int) : PureC Try.prog 18 [encRun r, .int .i64 m] (meanV r m) := by
  by_cases hr : runOK r = true
  · have hF := run_facts hr
    have hcl := hF.cpls
    have hrl := hF.rows
    by_cases hm : 1 ≤ m ∧ m ≤ r.rows.length
    · obtain ⟨k, rfl⟩ : ∃ k : Nat, m = k := ⟨m.toNat, by omega⟩
      have hwg := drop_cons (warm_get (r := r) (m := k) (by omega) (n := r.rows.length) (by omega) (by omega))
      have h61 : k < 61 := by omega
      by_cases hne : wk r k = []
      · rw [meanV, if_pos hr, if_neg (fun h => h.2.2 hne)]
        have hwg' : ((fireAt r r.rows.length).drop 128).drop (k * 1) = .bool false :: (fireAt r r.rows.length).drop (128 + k + 1) := by rw [List.drop_drop, Nat.mul_one, hwg, hne]; rfl
        refine PureC_of (fn := Try.f18) tabOK (by kernel_rfl) rfl (by kernel_rfl) (by simp [Try.f18]) (by simp [noids, noid, noidss, go_sem, encRun, cRun, encSpan]) (by first | rfl | simp [noids, noid, noidss, go_sem, encRun, cRun, encSpan]) ?_
        intro X hX0 hXs
        repeat' (first
          | (with_reducible refine AW_seq_k ?_; intro K hK)
          | ((first | ((with_reducible first | refine AW_region tabOK { base := 0, own := [4] } ?hsz ?_ | refine AW_draw tabOK mix { base := 0, own := [4] } ?hsz (by decide +kernel) ?_ | refine AW_drawS tabOK mix { base := 0, own := [4] } [4] ?hsz (by decide +kernel) ?_); (case hsz => rw [hXs]; rfl)) | (with_reducible first | refine AW_skip ?_ | refine AW_ret ?_ | refine AW_exit ?_ | refine AW_label ?_) | refine pureK_intro (ran_ok r hb) ?_ | refine pureK_intro (in_1 _ _ _) ?_ | refine pureK_intro (open_ok r hF) ?_); try simp (disch := omega) only [encRun, cRun, encSpan, hr, hm, h61, hwg',go_sem, simprocAttr])
          | (with_reducible first | refine AW_scope ?_ | refine AW_blockS ?_ | refine AW_blockR ?_ | refine AW_blockC ?_)
          | ((with_reducible refine AW_condE ?_); refine ⟨_, (by first | rfl | (simp only [encRun, cRun, encSpan, hr, hm, h61, hwg',go_sem, simprocAttr]; rfl)), ?_, ?_⟩ <;> intro hc <;> (try simp only [go_sem, simprocAttr] at hc) <;> (try (exfalso; omega)))
          | (with_reducible refine FnP_endE (by simp) ?_; refine ⟨_, (by simp only [Try.f18, encRun, cRun, encSpan, hr, hm, h61, hwg',go_sem, simprocAttr]; rfl), ?_⟩; first | rfl | (try simp only [encRun, cRun, encSpan, hr, hm, h61, hwg',go_sem, simprocAttr, Val.bool.injEq, Val.int.injEq, Val.tup.injEq, Val.agg.injEq, List.cons.injEq]))
          | with_reducible intro (ep : Nat → Nat)
          | with_reducible apply_assumption -exfalso -symm only [*])
      · rw [meanV, if_pos hr, if_pos ⟨hm.1, hm.2, hne⟩]
        have hn0 : 0 < (wk r k).length := List.length_pos_iff.2 hne
        obtain ⟨g1, g2⟩ := mean_get (r := r) (m := k) (by omega) hn0 (n := r.rows.length) (by omega) (by omega)
        have g1' := drop_cons g1
        rw [drop_cons g2] at g1'
        have hwg' : ((fireAt r r.rows.length).drop 128).drop (k * 1) = .bool true :: (fireAt r r.rows.length).drop (128 + k + 1) := by rw [List.drop_drop, Nat.mul_one, hwg, decide_eq_true hn0]
        have g1'' : ((fireAt r r.rows.length).drop 6).drop (k * 2) = .int .i64 (meanS r k).lo :: .int .i64 (meanS r k).hi :: (fireAt r r.rows.length).drop (6 + k * 2 + 1 + 1) := by rw [List.drop_drop]; exact g1'
        refine PureC_of (fn := Try.f18) tabOK (by kernel_rfl) rfl (by kernel_rfl) (by simp [Try.f18]) (by simp [noids, noid, noidss, go_sem, encRun, cRun, encSpan]) (by first | rfl | simp [noids, noid, noidss, go_sem, encRun, cRun, encSpan]) ?_
        intro X hX0 hXs
        repeat' (first
          | (with_reducible refine AW_seq_k ?_; intro K hK)
          | ((first | ((with_reducible first | refine AW_region tabOK { base := 0, own := [4] } ?hsz ?_ | refine AW_draw tabOK mix { base := 0, own := [4] } ?hsz (by decide +kernel) ?_ | refine AW_drawS tabOK mix { base := 0, own := [4] } [4] ?hsz (by decide +kernel) ?_); (case hsz => rw [hXs]; rfl)) | (with_reducible first | refine AW_skip ?_ | refine AW_ret ?_ | refine AW_exit ?_ | refine AW_label ?_) | refine pureK_intro (ran_ok r hb) ?_ | refine pureK_intro (in_1 _ _ _) ?_ | refine pureK_intro (open_ok r hF) ?_); try simp (disch := omega) only [encRun, cRun, encSpan, hr, hm, h61, hwg', g1'',go_sem, simprocAttr])
          | (with_reducible first | refine AW_scope ?_ | refine AW_blockS ?_ | refine AW_blockR ?_ | refine AW_blockC ?_)
          | ((with_reducible refine AW_condE ?_); refine ⟨_, (by first | rfl | (simp only [encRun, cRun, encSpan, hr, hm, h61, hwg', g1'',go_sem, simprocAttr]; rfl)), ?_, ?_⟩ <;> intro hc <;> (try simp only [go_sem, simprocAttr] at hc) <;> (try (exfalso; omega)))
          | (with_reducible refine FnP_endE (by simp) ?_; refine ⟨_, (by simp only [Try.f18, encRun, cRun, encSpan, hr, hm, h61, hwg', g1'',go_sem, simprocAttr]; rfl), ?_⟩; first | rfl | (try simp only [encRun, cRun, encSpan, hr, hm, h61, hwg', g1'',go_sem, simprocAttr, Val.bool.injEq, Val.int.injEq, Val.tup.injEq, Val.agg.injEq, List.cons.injEq]))
          | with_reducible intro (ep : Nat → Nat)
          | with_reducible apply_assumption -exfalso -symm only [*])
    · rw [meanV, if_pos hr, if_neg (fun h => hm ⟨h.1, h.2.1⟩)]
      refine PureC_of (fn := Try.f18) tabOK (by kernel_rfl) rfl (by kernel_rfl) (by simp [Try.f18]) (by simp [noids, noid, noidss, go_sem, encRun, cRun, encSpan]) (by first | rfl | simp [noids, noid, noidss, go_sem, encRun, cRun, encSpan]) ?_
      intro X hX0 hXs
      repeat' (first
        | (with_reducible refine AW_seq_k ?_; intro K hK)
        | ((first | ((with_reducible first | refine AW_region tabOK { base := 0, own := [4] } ?hsz ?_ | refine AW_draw tabOK mix { base := 0, own := [4] } ?hsz (by decide +kernel) ?_ | refine AW_drawS tabOK mix { base := 0, own := [4] } [4] ?hsz (by decide +kernel) ?_); (case hsz => rw [hXs]; rfl)) | (with_reducible first | refine AW_skip ?_ | refine AW_ret ?_ | refine AW_exit ?_ | refine AW_label ?_) | refine pureK_intro (ran_ok r hb) ?_ | refine pureK_intro (in_1 _ _ _) ?_ | refine pureK_intro (open_ok r hF) ?_); try simp (disch := omega) only [encRun, cRun, encSpan, hr,go_sem, simprocAttr])
        | (with_reducible first | refine AW_scope ?_ | refine AW_blockS ?_ | refine AW_blockR ?_ | refine AW_blockC ?_)
        | ((with_reducible refine AW_condE ?_); refine ⟨_, (by first | rfl | (simp only [encRun, cRun, encSpan, hr,go_sem, simprocAttr]; rfl)), ?_, ?_⟩ <;> intro hc <;> (try simp only [go_sem, simprocAttr] at hc) <;> (try (exfalso; omega)))
        | (with_reducible refine FnP_endE (by simp) ?_; refine ⟨_, (by simp only [Try.f18, encRun, cRun, encSpan, hr,go_sem, simprocAttr]; rfl), ?_⟩; first | rfl | (try simp only [encRun, cRun, encSpan, hr,go_sem, simprocAttr, Val.bool.injEq, Val.int.injEq, Val.tup.injEq, Val.agg.injEq, List.cons.injEq]))
        | with_reducible intro (ep : Nat → Nat)
        | with_reducible apply_assumption -exfalso -symm only [*])
  · simp only [Bool.not_eq_true] at hr
    rw [meanV, hr, if_neg (by simp)]
    refine PureC_of (fn := Try.f18) tabOK (by kernel_rfl) rfl (by kernel_rfl) (by simp [Try.f18]) (by simp [noids, noid, noidss, go_sem, encRun, cRun, encSpan]) (by first | rfl | simp [noids, noid, noidss, go_sem, encRun, cRun, encSpan]) ?_
    intro X hX0 hXs
    repeat' (first
      | (with_reducible refine AW_seq_k ?_; intro K hK)
      | ((first | ((with_reducible first | refine AW_region tabOK { base := 0, own := [4] } ?hsz ?_ | refine AW_draw tabOK mix { base := 0, own := [4] } ?hsz (by decide +kernel) ?_ | refine AW_drawS tabOK mix { base := 0, own := [4] } [4] ?hsz (by decide +kernel) ?_); (case hsz => rw [hXs]; rfl)) | (with_reducible first | refine AW_skip ?_ | refine AW_ret ?_ | refine AW_exit ?_ | refine AW_label ?_) | refine pureK_intro (ran_ok r hb) ?_); try simp (disch := omega) only [encRun, cRun, encSpan, hr,go_sem, simprocAttr])
      | (with_reducible first | refine AW_scope ?_ | refine AW_blockS ?_ | refine AW_blockR ?_ | refine AW_blockC ?_)
      | ((with_reducible refine AW_condE ?_); refine ⟨_, (by first | rfl | (simp only [encRun, cRun, encSpan, hr,go_sem, simprocAttr]; rfl)), ?_, ?_⟩ <;> intro hc <;> (try simp only [go_sem, simprocAttr] at hc) <;> (try (exfalso; omega)))
      | (with_reducible refine FnP_endE (by simp) ?_; refine ⟨_, (by simp only [Try.f18, encRun, cRun, encSpan, hr,go_sem, simprocAttr]; rfl), ?_⟩; first | rfl | (try simp only [encRun, cRun, encSpan, hr,go_sem, simprocAttr, Val.bool.injEq, Val.int.injEq, Val.tup.injEq, Val.agg.injEq, List.cons.injEq]))
      | with_reducible intro (ep : Nat → Nat)
      | with_reducible apply_assumption -exfalso -symm only [*])
end Cp

