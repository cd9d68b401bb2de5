/- What functions of the furnace and of its reference compute (R20). Conditions: none. -/
import Derived.Test.YtioeikglibjefaaR19
import Derived.Test.YtioeikglibjefaaW3
import Derived.Test.YtioeikglibjefaaAAlive
set_option linter.unusedSimpArgs false
set_option linter.unusedVariables false
namespace Cp
open Go Go.Proofs
set_option maxRecDepth 10000

def u1 : RulesT := ⟨[], 0, 1, ⟨0, 0⟩, 1⟩
theorem ready1 (r : RunT) : PureC Try.prog 34 [encRun r, .agg [.nils, .int .i64 0, .int .i64 1, .int .i64 0, .int .i64 0, .int .i64 1]] (.bool (!greatS r u1 && decide (checkE r u1 = 0))) :=
  (ready_ok r u1).nils2 (by simp [noids, noid, noidss, go_sem, encRun, cRun])

theorem means_law (r : RunT) (b : Int) (hb0 : 0 ≤ b) (hb1 : b ≤ 255) : PureC Try.prog 7 [encRun r, .int .u8 b] (.bool true) := by
  by_cases hr : (!greatS r u1 && decide (checkE r u1 = 0)) = true
  · have hr2 : greatS r u1 = false ∧ checkE r u1 = 0 := by simpa using hr
    obtain ⟨hsm, _⟩ := great_sm hr2.1
    have hrun : runOK r = true := by
      by_cases h : runOK r = true
      · exact h
      · have := hr2.2; rw [checkE, if_neg h] at this; omega
    have hF := run_facts hrun
    have hrl := hF.rows
    have hcl := hF.cpls
    have hn0 : ¬ (r.rows.length : Int) = 0 := by omega
    have ht0 : 0 ≤ b.tmod r.rows.length := Int.tmod_nonneg _ hb0
    have ht1 : b.tmod r.rows.length < r.rows.length := Int.tmod_lt_of_pos _ (by omega)
    obtain ⟨m, hm⟩ : ∃ m, 1 + b.tmod r.rows.length = m := ⟨_, rfl⟩
    have hm1 : 1 ≤ m ∧ m ≤ r.rows.length := by omega
    have hmv : ∃ s e, meanV r m = .tup [encSpan s, .int .i64 e] ∧ ((wk r m = [] ∧ e = 2 ∧ s = ⟨0, 0⟩) ∨ (wk r m ≠ [] ∧ e = 0 ∧ s = meanS r m)) := by
      unfold meanV
      rw [if_pos hrun]
      by_cases hne : wk r m = []
      · rw [if_neg (fun h => h.2.2 hne)]; exact ⟨_, _, rfl, .inl ⟨hne, rfl, rfl⟩⟩
      · rw [if_pos ⟨hm1.1, hm1.2, hne⟩]; exact ⟨_, _, rfl, .inr ⟨hne, rfl, rfl⟩⟩
    obtain ⟨sv, e, hmv, hse⟩ := hmv
    have hme := mean_ok r hsm.b m
    rw [hmv] at hme
    refine PureC_of (fn := Try.f7) tabOK (by kernel_rfl) rfl (by kernel_rfl) (by simp [Try.f7]) (by simp [noids, noid, noidss, go_sem, encRun, cRun]) (by first | rfl | simp [noids, noid, noidss, go_sem, encRun, cRun]) ?_
    intro X hX0 hXs
    repeat' (first
      | (with_reducible refine AW_seq_k ?_; intro K hK)
      | ((first | ((with_reducible first | refine AW_region tabOK { base := 0, own := [7, 13, 14] } ?hsz ?_ | refine AW_draw tabOK mix { base := 0, own := [7, 13, 14] } ?hsz (by decide +kernel) ?_ | refine AW_drawS tabOK mix { base := 0, own := [7, 13, 14] } [7, 13, 14] ?hsz (by decide +kernel) ?_); (case hsz => rw [hXs]; rfl)) | (with_reducible first | refine AW_skip ?_ | refine AW_ret ?_ | refine AW_exit ?_ | refine AW_label ?_) | refine pureK_intro (alive_run) ?_ | refine pureK_intro (ready1 r) ?_ | refine pureK_intro (hme) ?_); try simp (disch := omega) only [encRun, cRun, encSpan, hr, hn0, hm,go_sem, simprocAttr])
      | (with_reducible first | refine AW_scope ?_ | refine AW_blockS ?_ | refine AW_blockR ?_ | refine AW_blockC ?_)
      | ((with_reducible refine AW_condE ?_); refine ⟨_, (by first | rfl | (simp only [encRun, cRun, encSpan, hr, hn0, hm,go_sem, simprocAttr]; rfl)), ?_, ?_⟩ <;> intro hc <;> (try simp only [go_sem, simprocAttr] at hc) <;> (try (exfalso; omega)))
      | ((with_reducible first | refine grdS_split ?_ ?_ | refine lkG_split ?_ ?_) <;> intro hg <;> (try simp (disch := omega) only [hg, encRun, cRun, encSpan, hr, hn0, hm,go_sem, simprocAttr]) <;> (try simp only [go_sem, simprocAttr] at hg) <;> (try (exfalso; omega)))
      | (with_reducible refine FnP_endE (by simp) ?_; refine ⟨_, (by simp only [Try.f7, encRun, cRun, encSpan, hr, hn0, hm,go_sem, simprocAttr]; rfl), ?_⟩; first | rfl | (try simp only [encRun, cRun, encSpan, hr, hn0, hm,go_sem, simprocAttr, Val.bool.injEq, Val.int.injEq, Val.tup.injEq, Val.agg.injEq, List.cons.injEq, Bool.and_self]))
      | with_reducible intro (ep : Nat → Nat)
      | with_reducible apply_assumption -exfalso -symm only [*])
    refine AW_range tabOK r.cpls.length (fun k f H => (f 2 = .pim (cRun r) ∧ f 6 = .int .i64 m ∧ f 5 = .bool true ∧ f 8 = .int .i64 e ∧ f 37 = .lst 6 (r.cpls.map cCpl)) ∧ ∃ e7, f 7 = .ptr 7 e7 2 0 0 ∧ H 7 = some (e7, .arr 2 [[.int .i64 sv.lo, .int .i64 sv.hi]]) ∧
        ∃ x y z, f 9 = .int .i64 x ∧ f 10 = .int .i64 y ∧ f 11 = .int .i64 z ∧ x = sumLo r m (wkFrom m 0 (r.cpls.take k)) ∧ y = sumHi r m (wkFrom m 0 (r.cpls.take k)) ∧ z = (wkFrom m 0 (r.cpls.take k)).length)
      (by omega) (by rw [hXs]; decide) (by decide) (by (first | rfl | (simp only [go_sem, simprocAttr]; done) | (simp only [go_sem, simprocAttr]; rfl))) (by (first | rfl | (simp only [go_sem, simprocAttr]; done) | (simp only [go_sem, simprocAttr]; rfl))) ⟨by (and_intros <;> first | rfl | (simp only [cRun, go_sem, simprocAttr]; done) | (simp only [cRun, go_sem, simprocAttr]; rfl)), _, by (first | rfl | (simp only [go_sem, simprocAttr]; done) | (simp only [go_sem, simprocAttr]; rfl)), by (first | rfl | (simp only [go_sem, simprocAttr]; done) | (simp only [go_sem, simprocAttr]; rfl)), 0, 0, 0, by (first | rfl | (simp only [go_sem, simprocAttr]; done) | (simp only [go_sem, simprocAttr]; rfl)), by (first | rfl | (simp only [go_sem, simprocAttr]; done) | (simp only [go_sem, simprocAttr]; rfl)), by (first | rfl | (simp only [go_sem, simprocAttr]; done) | (simp only [go_sem, simprocAttr]; rfl)), by simp [wkFrom, sumLo], by simp [wkFrom, sumHi], by simp [wkFrom]⟩ ?_ ?_
    · rintro k f H hk h39 h38 ⟨⟨h2, h6, h5, h8, h37⟩, e7, h7, hH7, x, y, z, h9, h10, h11, hx, hy, hz⟩
      obtain ⟨c, hcc⟩ : ∃ c, r.cpls[k]? = some c := ⟨_, List.getElem?_eq_getElem hk⟩
      have hst : wkFrom m 0 (r.cpls.take (k + 1)) = wkFrom m 0 (r.cpls.take k) ++ (if works c m = true then [k] else []) := by
        have hl : (r.cpls.take k).length = k := by simp; omega
        rw [take_snoc' hcc, wkFrom_app, hl, Nat.zero_add]
        simp only [wkFrom]
      have hmem : ∀ i ∈ wkFrom m 0 (r.cpls.take k), i ∈ wk r m := fun i hi => by
        have : wk r m = wkFrom m 0 (r.cpls.take k) ++ wkFrom m (0 + (r.cpls.take k).length) (r.cpls.drop k) := by
          rw [← wkFrom_app, List.take_append_drop]; rfl
        rw [this]; exact List.mem_append_left _ hi
      have hsb := sum_bounds hF hm1.1 hm1.2 _ hmem
      have hwl := wkFrom_len m (r.cpls.take k) 0
      have hwl2 : (r.cpls.take k).length ≤ r.cpls.length := by simp; omega
      rw [← hx, ← hy] at hsb
      refine AW_keep [7] ?_
      by_cases hw : works c m = true
      · have htb := truth_bounds hF hcc hm1.1 hm1.2 hw
        rw [if_pos hw] at hst
        repeat' (first
          | (with_reducible refine AW_seq_k ?_; intro K hK)
          | ((first | ((with_reducible first | refine AW_region tabOK { base := 0, own := [7, 13, 14] } ?hsz ?_ | refine AW_draw tabOK mix { base := 0, own := [7, 13, 14] } ?hsz (by decide +kernel) ?_ | refine AW_drawS tabOK mix { base := 0, own := [7, 13, 14] } [7, 13, 14] ?hsz (by decide +kernel) ?_); (case hsz => rw [hXs]; rfl)) | (with_reducible first | refine AW_skip ?_ | refine AW_ret ?_ | refine AW_exit ?_ | refine AW_label ?_) | refine pureK_intro (works_ok c m) ?_ | refine pureK_intro (shown_ok r hF k c hcc m hm1 hw) ?_); try simp (disch := omega) only [h2, h5, h6, h7, h8, h9, h10, h11, h37, h38, h39, hH7, hcc, hw, cRun, cCpl, encSpan,go_sem, simprocAttr])
          | (with_reducible first | refine AW_scope ?_ | refine AW_blockS ?_ | refine AW_blockR ?_ | refine AW_blockC ?_)
          | ((with_reducible refine AW_condE ?_); refine ⟨_, (by first | rfl | (simp only [h2, h5, h6, h7, h8, h9, h10, h11, h37, h38, h39, hH7, hcc, hw, cRun, cCpl, encSpan,go_sem, simprocAttr]; rfl)), ?_, ?_⟩ <;> intro hc <;> (try simp only [go_sem, simprocAttr] at hc) <;> (try (exfalso; omega)))
          | ((with_reducible first | refine grdS_split ?_ ?_ | refine lkG_split ?_ ?_) <;> intro hg <;> (try simp (disch := omega) only [hg, h2, h5, h6, h7, h8, h9, h10, h11, h37, h38, h39, hH7, hcc, hw, cRun, cCpl, encSpan,go_sem, simprocAttr]) <;> (try simp only [go_sem, simprocAttr] at hg) <;> (try (exfalso; omega)))
          | (with_reducible refine FnP_endE (by simp) ?_; refine ⟨_, (by simp only [Try.f7, h2, h5, h6, h7, h8, h9, h10, h11, h37, h38, h39, hH7, hcc, hw, cRun, cCpl, encSpan,go_sem, simprocAttr]; rfl), ?_⟩; first | rfl | (try simp only [h2, h5, h6, h7, h8, h9, h10, h11, h37, h38, h39, hH7, hcc, hw, cRun, cCpl, encSpan,go_sem, simprocAttr, Val.bool.injEq, Val.int.injEq, Val.tup.injEq, Val.agg.injEq, List.cons.injEq, Bool.and_self]))
          | with_reducible intro (ep : Nat → Nat)
          | with_reducible apply_assumption -exfalso -symm only [*])
        exact ⟨_, rfl, rfl, _, _, _, rfl, rfl, rfl, by rw [hst, sumLo_append, ← hx]; simp [sumLo, hcc], by rw [hst, sumHi_append, ← hy]; simp [sumHi, hcc], by rw [hst, hz]; simp⟩
      · simp only [Bool.not_eq_true] at hw
        rw [if_neg (by simp [hw]), List.append_nil] at hst
        repeat' (first
          | (with_reducible refine AW_seq_k ?_; intro K hK)
          | ((first | ((with_reducible first | refine AW_region tabOK { base := 0, own := [7, 13, 14] } ?hsz ?_ | refine AW_draw tabOK mix { base := 0, own := [7, 13, 14] } ?hsz (by decide +kernel) ?_ | refine AW_drawS tabOK mix { base := 0, own := [7, 13, 14] } [7, 13, 14] ?hsz (by decide +kernel) ?_); (case hsz => rw [hXs]; rfl)) | (with_reducible first | refine AW_skip ?_ | refine AW_ret ?_ | refine AW_exit ?_ | refine AW_label ?_) | refine pureK_intro (works_ok c m) ?_); try simp (disch := omega) only [h2, h5, h6, h7, h8, h9, h10, h11, h37, h38, h39, hH7, hcc, hw, cRun, cCpl, encSpan,go_sem, simprocAttr])
          | (with_reducible first | refine AW_scope ?_ | refine AW_blockS ?_ | refine AW_blockR ?_ | refine AW_blockC ?_)
          | ((with_reducible refine AW_condE ?_); refine ⟨_, (by first | rfl | (simp only [h2, h5, h6, h7, h8, h9, h10, h11, h37, h38, h39, hH7, hcc, hw, cRun, cCpl, encSpan,go_sem, simprocAttr]; rfl)), ?_, ?_⟩ <;> intro hc <;> (try simp only [go_sem, simprocAttr] at hc) <;> (try (exfalso; omega)))
          | ((with_reducible first | refine grdS_split ?_ ?_ | refine lkG_split ?_ ?_) <;> intro hg <;> (try simp (disch := omega) only [hg, h2, h5, h6, h7, h8, h9, h10, h11, h37, h38, h39, hH7, hcc, hw, cRun, cCpl, encSpan,go_sem, simprocAttr]) <;> (try simp only [go_sem, simprocAttr] at hg) <;> (try (exfalso; omega)))
          | (with_reducible refine FnP_endE (by simp) ?_; refine ⟨_, (by simp only [Try.f7, h2, h5, h6, h7, h8, h9, h10, h11, h37, h38, h39, hH7, hcc, hw, cRun, cCpl, encSpan,go_sem, simprocAttr]; rfl), ?_⟩; first | rfl | (try simp only [h2, h5, h6, h7, h8, h9, h10, h11, h37, h38, h39, hH7, hcc, hw, cRun, cCpl, encSpan,go_sem, simprocAttr, Val.bool.injEq, Val.int.injEq, Val.tup.injEq, Val.agg.injEq, List.cons.injEq, Bool.and_self]))
          | with_reducible intro (ep : Nat → Nat)
          | with_reducible apply_assumption -exfalso -symm only [*])
        exact ⟨_, rfl, rfl, _, _, _, rfl, rfl, rfl, by rw [hst]; exact hx, by rw [hst]; exact hy, by rw [hst]; exact hz⟩
    · rintro f H h39 h38 ⟨⟨h2, h6, h5, h8, h37⟩, e7, h7, hH7, x, y, z, h9, h10, h11, hx, hy, hz⟩
      rw [List.take_of_length_le (Nat.le_refl _)] at hx hy hz
      have hx : x = sumLo r m (wk r m) := hx
      have hy : y = sumHi r m (wk r m) := hy
      have hz : z = (wk r m).length := hz
      have hwl := @wk_len r m
      have hsb := sum_bounds hF hm1.1 hm1.2 (wk r m) (fun j hj => hj)
      rw [← hx, ← hy] at hsb
      rcases hse with ⟨hw, rfl, rfl⟩ | ⟨hw, rfl, rfl⟩
      · have hz0 : z = 0 := by rw [hz, hw]; rfl
        subst hz0
        repeat' (first
          | (with_reducible refine AW_seq_k ?_; intro K hK)
          | ((first | ((with_reducible first | refine AW_region tabOK { base := 0, own := [7, 13, 14] } ?hsz ?_ | refine AW_draw tabOK mix { base := 0, own := [7, 13, 14] } ?hsz (by decide +kernel) ?_ | refine AW_drawS tabOK mix { base := 0, own := [7, 13, 14] } [7, 13, 14] ?hsz (by decide +kernel) ?_); (case hsz => rw [hXs]; rfl)) | (with_reducible first | refine AW_skip ?_ | refine AW_ret ?_ | refine AW_exit ?_ | refine AW_label ?_)); try simp (disch := omega) only [h2, h5, h6, h7, h8, h9, h10, h11, h37, h38, h39, hH7, cRun, encSpan,go_sem, simprocAttr])
          | (with_reducible first | refine AW_scope ?_ | refine AW_blockS ?_ | refine AW_blockR ?_ | refine AW_blockC ?_)
          | ((with_reducible refine AW_condE ?_); refine ⟨_, (by first | rfl | (simp only [h2, h5, h6, h7, h8, h9, h10, h11, h37, h38, h39, hH7, cRun, encSpan,go_sem, simprocAttr]; rfl)), ?_, ?_⟩ <;> intro hc <;> (try simp only [go_sem, simprocAttr] at hc) <;> (try (exfalso; omega)))
          | ((with_reducible first | refine grdS_split ?_ ?_ | refine lkG_split ?_ ?_) <;> intro hg <;> (try simp (disch := omega) only [hg, h2, h5, h6, h7, h8, h9, h10, h11, h37, h38, h39, hH7, cRun, encSpan,go_sem, simprocAttr]) <;> (try simp only [go_sem, simprocAttr] at hg) <;> (try (exfalso; omega)))
          | (with_reducible refine FnP_endE (by simp) ?_; refine ⟨_, (by simp only [Try.f7, h2, h5, h6, h7, h8, h9, h10, h11, h37, h38, h39, hH7, cRun, encSpan,go_sem, simprocAttr]; rfl), ?_⟩; first | rfl | (try simp only [h2, h5, h6, h7, h8, h9, h10, h11, h37, h38, h39, hH7, cRun, encSpan,go_sem, simprocAttr, Val.bool.injEq, Val.int.injEq, Val.tup.injEq, Val.agg.injEq, List.cons.injEq, Bool.and_self]))
          | with_reducible intro (ep : Nat → Nat)
          | with_reducible apply_assumption -exfalso -symm only [*])
      · have hn1 : 1 ≤ (wk r m).length := List.length_pos_iff.2 hw
        have hz0 : ¬ z = 0 := by omega
        have hmul : ∀ s : Int, s * (840 / ((wk r m).length : Int)) * ((wk r m).length : Int) = s * 840 := fun s => by
          obtain hq | hq | hq | hq | hq | hq | hq | hq : (wk r m).length = 1 ∨ (wk r m).length = 2 ∨ (wk r m).length = 3 ∨ (wk r m).length = 4 ∨ (wk r m).length = 5 ∨ (wk r m).length = 6 ∨ (wk r m).length = 7 ∨ (wk r m).length = 8 := by omega
          all_goals rw [hq]; omega
        have e1 := hmul x
        have e2 := hmul y
        have e3 : (meanS r m).lo = x * (840 / ((wk r m).length : Int)) := by rw [hx]; rfl
        have e4 : (meanS r m).hi = y * (840 / ((wk r m).length : Int)) := by rw [hy]; rfl
        rw [← hz] at e1 e2 e3 e4
        rw [← e3] at e1
        rw [← e4] at e2
        repeat' (first
          | (with_reducible refine AW_seq_k ?_; intro K hK)
          | ((first | ((with_reducible first | refine AW_region tabOK { base := 0, own := [7, 13, 14] } ?hsz ?_ | refine AW_draw tabOK mix { base := 0, own := [7, 13, 14] } ?hsz (by decide +kernel) ?_ | refine AW_drawS tabOK mix { base := 0, own := [7, 13, 14] } [7, 13, 14] ?hsz (by decide +kernel) ?_); (case hsz => rw [hXs]; rfl)) | (with_reducible first | refine AW_skip ?_ | refine AW_ret ?_ | refine AW_exit ?_ | refine AW_label ?_)); try simp (disch := omega) only [h2, h5, h6, h7, h8, h9, h10, h11, h37, h38, h39, hH7, hz0, e1, e2, cRun, encSpan,go_sem, simprocAttr])
          | (with_reducible first | refine AW_scope ?_ | refine AW_blockS ?_ | refine AW_blockR ?_ | refine AW_blockC ?_)
          | ((with_reducible refine AW_condE ?_); refine ⟨_, (by first | rfl | (simp only [h2, h5, h6, h7, h8, h9, h10, h11, h37, h38, h39, hH7, hz0, e1, e2, cRun, encSpan,go_sem, simprocAttr]; rfl)), ?_, ?_⟩ <;> intro hc <;> (try simp only [go_sem, simprocAttr] at hc) <;> (try (exfalso; omega)))
          | ((with_reducible first | refine grdS_split ?_ ?_ | refine lkG_split ?_ ?_) <;> intro hg <;> (try simp (disch := omega) only [hg, h2, h5, h6, h7, h8, h9, h10, h11, h37, h38, h39, hH7, hz0, e1, e2, cRun, encSpan,go_sem, simprocAttr]) <;> (try simp only [go_sem, simprocAttr] at hg) <;> (try (exfalso; omega)))
          | (with_reducible refine FnP_endE (by simp) ?_; refine ⟨_, (by simp only [Try.f7, h2, h5, h6, h7, h8, h9, h10, h11, h37, h38, h39, hH7, hz0, e1, e2, cRun, encSpan,go_sem, simprocAttr]; rfl), ?_⟩; first | rfl | (try simp only [h2, h5, h6, h7, h8, h9, h10, h11, h37, h38, h39, hH7, hz0, e1, e2, cRun, encSpan,go_sem, simprocAttr, Val.bool.injEq, Val.int.injEq, Val.tup.injEq, Val.agg.injEq, List.cons.injEq, Bool.and_self]))
          | with_reducible intro (ep : Nat → Nat)
          | with_reducible apply_assumption -exfalso -symm only [*])
  · simp only [Bool.not_eq_true] at hr
    refine PureC_of (fn := Try.f7) tabOK (by kernel_rfl) rfl (by kernel_rfl) (by simp [Try.f7]) (by simp [noids, noid, noidss, go_sem, encRun, cRun]) (by first | rfl | simp [noids, noid, noidss, go_sem, encRun, cRun]) ?_
    intro X hX0 hXs
    repeat' (first
      | (with_reducible refine AW_seq_k ?_; intro K hK)
      | ((first | ((with_reducible first | refine AW_region tabOK { base := 0, own := [7, 13, 14] } ?hsz ?_ | refine AW_draw tabOK mix { base := 0, own := [7, 13, 14] } ?hsz (by decide +kernel) ?_ | refine AW_drawS tabOK mix { base := 0, own := [7, 13, 14] } [7, 13, 14] ?hsz (by decide +kernel) ?_); (case hsz => rw [hXs]; rfl)) | (with_reducible first | refine AW_skip ?_ | refine AW_ret ?_ | refine AW_exit ?_ | refine AW_label ?_) | refine pureK_intro (alive_run) ?_ | refine pureK_intro (ready1 r) ?_); try simp (disch := omega) only [encRun, cRun, hr,go_sem, simprocAttr])
      | (with_reducible first | refine AW_scope ?_ | refine AW_blockS ?_ | refine AW_blockR ?_ | refine AW_blockC ?_)
      | ((with_reducible refine AW_condE ?_); refine ⟨_, (by first | rfl | (simp only [encRun, cRun, hr,go_sem, simprocAttr]; rfl)), ?_, ?_⟩ <;> intro hc <;> (try simp only [go_sem, simprocAttr] at hc) <;> (try (exfalso; omega)))
      | ((with_reducible first | refine grdS_split ?_ ?_ | refine lkG_split ?_ ?_) <;> intro hg <;> (try simp (disch := omega) only [hg, encRun, cRun, hr,go_sem, simprocAttr]) <;> (try simp only [go_sem, simprocAttr] at hg) <;> (try (exfalso; omega)))
      | (with_reducible refine FnP_endE (by simp) ?_; refine ⟨_, (by simp only [Try.f7, encRun, cRun, hr,go_sem, simprocAttr]; rfl), ?_⟩; first | rfl | (try simp only [encRun, cRun, hr,go_sem, simprocAttr, Val.bool.injEq, Val.int.injEq, Val.tup.injEq, Val.agg.injEq, List.cons.injEq, Bool.and_self]))
      | with_reducible intro (ep : Nat → Nat)
      | with_reducible apply_assumption -exfalso -symm only [*])
end Cp

