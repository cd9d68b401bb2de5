/- What functions of the furnace and of its reference compute (R10). Conditions: none. -/
import Derived.Test.YtioeikglibjefaaR9
set_option linter.unusedSimpArgs false
set_option linter.unusedVariables false
namespace Cp
open Go Go.Proofs
set_option maxRecDepth 10000

theorem quo840 {n : Nat} (h1 : 1 ≤ n) (h2 : n ≤ 8) : IntKind.i64.wrap ((840 : Int).tdiv (n : Int)) = 840 / (n : Int) ∧ 105 ≤ 840 / (n : Int) ∧ 840 / (n : Int) ≤ 840 := by
  have e : (840 : Int).tdiv (n : Int) = 840 / (n : Int) := Int.tdiv_eq_ediv_of_nonneg (by omega)
  obtain rfl | rfl | rfl | rfl | rfl | rfl | rfl | rfl : n = 1 ∨ n = 2 ∨ n = 3 ∨ n = 4 ∨ n = 5 ∨ n = 6 ∨ n = 7 ∨ n = 8 := by omega
  all_goals decide

theorem rmean_ok (r : RunT) (hF : RunF r) (m : Int) (hm : 1 ≤ m) (hm2 : m ≤ r.rows.length) (hne : wk r m ≠ []) : PureC Try.prog 53 [encRun r, .int .i64 m] (encSpan (meanS r m)) := by
  have hcl := hF.cpls
  have hn1 : 1 ≤ (wk r m).length := List.length_pos_iff.2 hne
  have hn2 : (wk r m).length ≤ r.cpls.length := wk_len
  have hnl : (natI (wk r m)).length = (wk r m).length := natI_length
  refine PureC_of (fn := Try.f53) tabOK (by kernel_rfl) rfl (by kernel_rfl) (by simp [Try.f53]) (by simp [noids, noid, noidss, go_sem, encRun, cRun]) (by first | rfl | simp [noids, noid, noidss, go_sem, encRun, cRun]) ?_
  intro X hX0 hXs
  repeat' (first
    | (with_reducible refine AW_seq_k ?_; intro K hK)
    | ((first | ((with_reducible first | refine AW_region tabOK { base := 0, own := [] } ?hsz ?_ | refine AW_draw tabOK mix { base := 0, own := [] } ?hsz (by decide +kernel) ?_ | refine AW_drawS tabOK mix { base := 0, own := [] } [4, 9] ?hsz (by decide +kernel) ?_); (case hsz => rw [hXs]; rfl)) | (with_reducible first | refine AW_skip ?_ | refine AW_ret ?_ | refine AW_exit ?_ | refine AW_label ?_) | refine pureK_intro (rworking_ok r m (by omega)) ?_); try simp (disch := omega) only [encRun, cRun,go_sem, simprocAttr])
    | (with_reducible first | refine AW_scope ?_ | refine AW_blockS ?_ | refine AW_blockR ?_ | refine AW_blockC ?_)
    | ((with_reducible refine AW_condE ?_); refine ⟨_, (by first | rfl | (simp only [encRun, cRun,go_sem, simprocAttr]; rfl)), ?_, ?_⟩ <;> intro hc <;> (try simp only [go_sem, simprocAttr] at hc) <;> (try (exfalso; omega)))
    | (with_reducible refine FnP_endE (by simp) ?_; refine ⟨_, (by simp only [Try.f53, encRun, cRun,go_sem, simprocAttr]; rfl), ?_⟩; first | rfl | (try simp only [encRun, cRun,go_sem, simprocAttr, Val.bool.injEq, Val.int.injEq, Val.tup.injEq, Val.agg.injEq, List.cons.injEq]))
    | with_reducible intro (ep : Nat → Nat)
    | with_reducible apply_assumption -exfalso -symm only [*])
  refine AW_block (AW_loop (fun n f H => ∃ k : Nat, n = (wk r m).length - k ∧ k ≤ (wk r m).length ∧ (f 2 = .pim (cRun r) ∧ f 1 = .int .i64 m ∧ f 5 = .lst 1 (ints (natI (wk r m))) ∧ f 8 = .int .i64 k) ∧ ∃ a b e4, f 6 = .int .i64 a ∧ f 7 = .int .i64 b ∧ f 4 = .ptr 4 e4 2 0 0 ∧ H 4 = some (e4, .arr 2 [[.int .i64 0, .int .i64 0]]) ∧
      a = sumLo r m ((wk r m).take k) ∧ b = sumHi r m ((wk r m).take k)) (wk r m).length
    ⟨0, by simp, Nat.zero_le _, by (and_intros <;> first | rfl | (simp only [cRun, go_sem, simprocAttr]; done) | (simp only [cRun, go_sem, simprocAttr]; rfl)), 0, 0, _, by (first | rfl | (simp only [go_sem, simprocAttr]; done) | (simp only [go_sem, simprocAttr]; rfl)), by (first | rfl | (simp only [go_sem, simprocAttr]; done) | (simp only [go_sem, simprocAttr]; rfl)), by (first | rfl | (simp only [go_sem, simprocAttr]; done) | (simp only [go_sem, simprocAttr]; rfl)), by (first | rfl | (simp only [go_sem, simprocAttr]; done) | (simp only [go_sem, simprocAttr]; rfl)), by simp [sumLo], by simp [sumHi]⟩ ?_)
  rintro n f H ⟨k, rfl, hk, ⟨h2, h1, h5, h8⟩, a, b, e4, h6, h7, h4, hH4, ha, hb⟩
  refine AW_keep [4] ?_
  by_cases hlt : k < (wk r m).length
  · obtain ⟨i, hi⟩ : ∃ i, (wk r m)[k]? = some i := ⟨_, List.getElem?_eq_getElem hlt⟩
    obtain ⟨c, hcc, hw⟩ := wk_mem.1 (List.mem_of_getElem? hi)
    have hil := (List.getElem?_eq_some_iff.1 hcc).1
    have hsb := sum_bounds hF hm hm2 ((wk r m).take k) (fun j hj => List.mem_of_mem_take hj)
    have htb := truth_bounds hF hcc hm hm2 hw
    have htl : ((wk r m).take k).length ≤ 8 := by rw [List.length_take]; omega
    rw [← ha, ← hb] at hsb
    repeat' (first
      | (with_reducible refine AW_seq_k ?_; intro K hK)
      | ((first | ((with_reducible first | refine AW_region tabOK { base := 0, own := [] } ?hsz ?_ | refine AW_draw tabOK mix { base := 0, own := [] } ?hsz (by decide +kernel) ?_ | refine AW_drawS tabOK mix { base := 0, own := [] } [4, 9] ?hsz (by decide +kernel) ?_); (case hsz => rw [hXs]; rfl)) | (with_reducible first | refine AW_skip ?_ | refine AW_ret ?_ | refine AW_exit ?_ | refine AW_label ?_) | refine pureK_intro (rtrue_ok r hF i m c hcc hm hm2 hw) ?_); try simp (disch := omega) only [h1, h2, h4, h5, h6, h7, h8, hH4, hi, cRun, encSpan,go_sem, simprocAttr])
      | (with_reducible first | refine AW_scope ?_ | refine AW_blockS ?_ | refine AW_blockR ?_ | refine AW_blockC ?_)
      | ((with_reducible refine AW_condE ?_); refine ⟨_, (by first | rfl | (simp only [h1, h2, h4, h5, h6, h7, h8, hH4, hi, cRun, encSpan,go_sem, simprocAttr]; rfl)), ?_, ?_⟩ <;> intro hc <;> (try simp only [go_sem, simprocAttr] at hc) <;> (try (exfalso; omega)))
      | (with_reducible refine FnP_endE (by simp) ?_; refine ⟨_, (by simp only [Try.f53, h1, h2, h4, h5, h6, h7, h8, hH4, hi, cRun, encSpan,go_sem, simprocAttr]; rfl), ?_⟩; first | rfl | (try simp only [h1, h2, h4, h5, h6, h7, h8, hH4, hi, cRun, encSpan,go_sem, simprocAttr, Val.bool.injEq, Val.int.injEq, Val.tup.injEq, Val.agg.injEq, List.cons.injEq]))
      | with_reducible intro (ep : Nat → Nat)
      | with_reducible apply_assumption -exfalso -symm only [*])
    refine ⟨(wk r m).length - (k + 1), by omega, k + 1, rfl, by omega, rfl, _, _, _, rfl, rfl, rfl, rfl, ?_, ?_⟩
    · rw [take_snoc hi, sumLo_append, ← ha]; simp [sumLo, hcc]
    · rw [take_snoc hi, sumHi_append, ← hb]; simp [sumHi, hcc]
  · have hsb := sum_bounds hF hm hm2 (wk r m) (fun j hj => hj)
    rw [List.take_of_length_le (by omega)] at ha hb
    rw [← ha, ← hb] at hsb
    obtain ⟨q1, q2, q3⟩ := quo840 hn1 (by omega)
    have hne0 : ¬ ((wk r m).length : Int) = 0 := by omega
    have b1 := mul_bnd (A := 400) (B := 16400) (C := 840) (q := 840 / ((wk r m).length : Int)) (show -400 ≤ a by omega) (by omega) (by omega) (by omega) (by omega) (by omega)
    have b2 := mul_bnd (A := 400) (B := 16400) (C := 840) (q := 840 / ((wk r m).length : Int)) (show -400 ≤ b by omega) (by omega) (by omega) (by omega) (by omega) (by omega)
    repeat' (first
      | (with_reducible refine AW_seq_k ?_; intro K hK)
      | ((first | ((with_reducible first | refine AW_region tabOK { base := 0, own := [] } ?hsz ?_ | refine AW_draw tabOK mix { base := 0, own := [] } ?hsz (by decide +kernel) ?_ | refine AW_drawS tabOK mix { base := 0, own := [] } [4, 9] ?hsz (by decide +kernel) ?_); (case hsz => rw [hXs]; rfl)) | (with_reducible first | refine AW_skip ?_ | refine AW_ret ?_ | refine AW_exit ?_ | refine AW_label ?_)); try simp (disch := omega) only [h1, h2, h4, h5, h6, h7, h8, hH4, hne0, q1, cRun, encSpan, meanS,go_sem, simprocAttr])
      | (with_reducible first | refine AW_scope ?_ | refine AW_blockS ?_ | refine AW_blockR ?_ | refine AW_blockC ?_)
      | ((with_reducible refine AW_condE ?_); refine ⟨_, (by first | rfl | (simp only [h1, h2, h4, h5, h6, h7, h8, hH4, hne0, q1, cRun, encSpan, meanS,go_sem, simprocAttr]; rfl)), ?_, ?_⟩ <;> intro hc <;> (try simp only [go_sem, simprocAttr] at hc) <;> (try (exfalso; omega)))
      | (with_reducible refine FnP_endE (by simp) ?_; refine ⟨_, (by simp only [Try.f53, h1, h2, h4, h5, h6, h7, h8, hH4, hne0, q1, cRun, encSpan, meanS,go_sem, simprocAttr]; rfl), ?_⟩; first | rfl | (try simp only [h1, h2, h4, h5, h6, h7, h8, hH4, hne0, q1, cRun, encSpan, meanS,go_sem, simprocAttr, Val.bool.injEq, Val.int.injEq, Val.tup.injEq, Val.agg.injEq, List.cons.injEq]))
      | with_reducible intro (ep : Nat → Nat)
      | with_reducible apply_assumption -exfalso -symm only [*])
    exact ⟨by rw [ha], by rw [hb]⟩

/-- The mean of a minute, or the error. -/
def meanV (r : RunT) (m : Int) : Val :=
  if runOK r = true then (if 1 ≤ m ∧ m ≤ r.rows.length ∧ wk r m ≠ [] then .tup [encSpan (meanS r m), .int .i64 0] else .tup [encSpan ⟨0, 0⟩, .int .i64 2]) else .tup [encSpan ⟨0, 0⟩, .int .i64 11]

theorem rMean_ok (r : RunT) (hb : RunB r) (m : Int) : PureC Try.prog 19 [encRun r, .int .i64 m] (meanV r m) := by
  by_cases hr : runOK r = true
  · have hF := run_facts hr
    have hcl := hF.cpls
    have hnl : (natI (wk r m)).length = (wk r m).length := natI_length
    by_cases hm : 1 ≤ m ∧ m ≤ r.rows.length
    · by_cases hne : wk r m = []
      · rw [meanV, if_pos hr, if_neg (fun h => h.2.2 hne)]
        have hn0 : (wk r m).length = 0 := by rw [hne]; rfl
        refine PureC_of (fn := Try.f19) tabOK (by kernel_rfl) rfl (by kernel_rfl) (by simp [Try.f19]) (by simp [noids, noid, noidss, go_sem, encRun, cRun, encSpan]) (by first | rfl | simp [noids, noid, noidss, go_sem, encRun, cRun, encSpan]) ?_
        intro X hX0 hXs
        repeat' (first
          | (with_reducible refine AW_seq_k ?_; intro K hK)
          | ((first | ((with_reducible first | refine AW_region tabOK { base := 0, own := [] } ?hsz ?_ | refine AW_draw tabOK mix { base := 0, own := [] } ?hsz (by decide +kernel) ?_ | refine AW_drawS tabOK mix { base := 0, own := [] } [4] ?hsz (by decide +kernel) ?_); (case hsz => rw [hXs]; rfl)) | (with_reducible first | refine AW_skip ?_ | refine AW_ret ?_ | refine AW_exit ?_ | refine AW_label ?_) | refine pureK_intro (rrun_ok r hb) ?_ | refine pureK_intro (rwithin_ok _ _ _) ?_ | refine pureK_intro (rworking_ok r m (by omega)) ?_); try simp (disch := omega) only [encRun, cRun, encSpan, hr, hn0,go_sem, simprocAttr])
          | (with_reducible first | refine AW_scope ?_ | refine AW_blockS ?_ | refine AW_blockR ?_ | refine AW_blockC ?_)
          | ((with_reducible refine AW_condE ?_); refine ⟨_, (by first | rfl | (simp only [encRun, cRun, encSpan, hr, hn0,go_sem, simprocAttr]; rfl)), ?_, ?_⟩ <;> intro hc <;> (try simp only [go_sem, simprocAttr] at hc) <;> (try (exfalso; omega)))
          | ((with_reducible first | refine grdS_split ?_ ?_ | refine lkG_split ?_ ?_) <;> intro hg <;> (try simp (disch := omega) only [hg, encRun, cRun, encSpan, hr, hn0,go_sem, simprocAttr]) <;> (try simp only [go_sem, simprocAttr] at hg) <;> (try (exfalso; omega)))
          | (with_reducible refine FnP_endE (by simp) ?_; refine ⟨_, (by simp only [Try.f19, encRun, cRun, encSpan, hr, hn0,go_sem, simprocAttr]; rfl), ?_⟩; first | rfl | (try simp only [encRun, cRun, encSpan, hr, hn0,go_sem, simprocAttr, Val.bool.injEq, Val.int.injEq, Val.tup.injEq, Val.agg.injEq, List.cons.injEq]))
          | with_reducible intro (ep : Nat → Nat)
          | with_reducible apply_assumption -exfalso -symm only [*])
      · rw [meanV, if_pos hr, if_pos ⟨hm.1, hm.2, hne⟩]
        have hn0 : ¬ ((wk r m).length : Int) = 0 := by have := List.length_pos_iff.2 hne; omega
        refine PureC_of (fn := Try.f19) tabOK (by kernel_rfl) rfl (by kernel_rfl) (by simp [Try.f19]) (by simp [noids, noid, noidss, go_sem, encRun, cRun, encSpan]) (by first | rfl | simp [noids, noid, noidss, go_sem, encRun, cRun, encSpan]) ?_
        intro X hX0 hXs
        repeat' (first
          | (with_reducible refine AW_seq_k ?_; intro K hK)
          | ((first | ((with_reducible first | refine AW_region tabOK { base := 0, own := [] } ?hsz ?_ | refine AW_draw tabOK mix { base := 0, own := [] } ?hsz (by decide +kernel) ?_ | refine AW_drawS tabOK mix { base := 0, own := [] } [4] ?hsz (by decide +kernel) ?_); (case hsz => rw [hXs]; rfl)) | (with_reducible first | refine AW_skip ?_ | refine AW_ret ?_ | refine AW_exit ?_ | refine AW_label ?_) | refine pureK_intro (rrun_ok r hb) ?_ | refine pureK_intro (rwithin_ok _ _ _) ?_ | refine pureK_intro (rworking_ok r m (by omega)) ?_ | refine pureK_intro (rmean_ok r hF m hm.1 hm.2 hne) ?_); try simp (disch := omega) only [encRun, cRun, encSpan, hr, hn0,go_sem, simprocAttr])
          | (with_reducible first | refine AW_scope ?_ | refine AW_blockS ?_ | refine AW_blockR ?_ | refine AW_blockC ?_)
          | ((with_reducible refine AW_condE ?_); refine ⟨_, (by first | rfl | (simp only [encRun, cRun, encSpan, hr, hn0,go_sem, simprocAttr]; rfl)), ?_, ?_⟩ <;> intro hc <;> (try simp only [go_sem, simprocAttr] at hc) <;> (try (exfalso; omega)))
          | ((with_reducible first | refine grdS_split ?_ ?_ | refine lkG_split ?_ ?_) <;> intro hg <;> (try simp (disch := omega) only [hg, encRun, cRun, encSpan, hr, hn0,go_sem, simprocAttr]) <;> (try simp only [go_sem, simprocAttr] at hg) <;> (try (exfalso; omega)))
          | (with_reducible refine FnP_endE (by simp) ?_; refine ⟨_, (by simp only [Try.f19, encRun, cRun, encSpan, hr, hn0,go_sem, simprocAttr]; rfl), ?_⟩; first | rfl | (try simp only [encRun, cRun, encSpan, hr, hn0,go_sem, simprocAttr, Val.bool.injEq, Val.int.injEq, Val.tup.injEq, Val.agg.injEq, List.cons.injEq]))
          | with_reducible intro (ep : Nat → Nat)
          | with_reducible apply_assumption -exfalso -symm only [*])
    · rw [meanV, if_pos hr, if_neg (fun h => hm ⟨h.1, h.2.1⟩)]
      refine PureC_of (fn := Try.f19) tabOK (by kernel_rfl) rfl (by kernel_rfl) (by simp [Try.f19]) (by simp [noids, noid, noidss, go_sem, encRun, cRun, encSpan]) (by first | rfl | simp [noids, noid, noidss, go_sem, encRun, cRun, encSpan]) ?_
      intro X hX0 hXs
      repeat' (first
        | (with_reducible refine AW_seq_k ?_; intro K hK)
        | ((first | ((with_reducible first | refine AW_region tabOK { base := 0, own := [] } ?hsz ?_ | refine AW_draw tabOK mix { base := 0, own := [] } ?hsz (by decide +kernel) ?_ | refine AW_drawS tabOK mix { base := 0, own := [] } [4] ?hsz (by decide +kernel) ?_); (case hsz => rw [hXs]; rfl)) | (with_reducible first | refine AW_skip ?_ | refine AW_ret ?_ | refine AW_exit ?_ | refine AW_label ?_) | refine pureK_intro (rrun_ok r hb) ?_ | refine pureK_intro (rwithin_ok _ _ _) ?_ | refine pureK_intro (rworking_ok r m (by omega)) ?_); try simp (disch := omega) only [encRun, cRun, encSpan, hr,go_sem, simprocAttr])
        | (with_reducible first | refine AW_scope ?_ | refine AW_blockS ?_ | refine AW_blockR ?_ | refine AW_blockC ?_)
        | ((with_reducible refine AW_condE ?_); refine ⟨_, (by first | rfl | (simp only [encRun, cRun, encSpan, hr,go_sem, simprocAttr]; rfl)), ?_, ?_⟩ <;> intro hc <;> (try simp only [go_sem, simprocAttr] at hc) <;> (try (exfalso; omega)))
        | ((with_reducible first | refine grdS_split ?_ ?_ | refine lkG_split ?_ ?_) <;> intro hg <;> (try simp (disch := omega) only [hg, encRun, cRun, encSpan, hr,go_sem, simprocAttr]) <;> (try simp only [go_sem, simprocAttr] at hg) <;> (try (exfalso; omega)))
        | (with_reducible refine FnP_endE (by simp) ?_; refine ⟨_, (by simp only [Try.f19, encRun, cRun, encSpan, hr,go_sem, simprocAttr]; rfl), ?_⟩; first | rfl | (try simp only [encRun, cRun, encSpan, hr,go_sem, simprocAttr, Val.bool.injEq, Val.int.injEq, Val.tup.injEq, Val.agg.injEq, List.cons.injEq]))
        | with_reducible intro (ep : Nat → Nat)
        | with_reducible apply_assumption -exfalso -symm only [*])
  · simp only [Bool.not_eq_true] at hr
    rw [meanV, hr, if_neg (by simp)]
    refine PureC_of (fn := Try.f19) tabOK (by kernel_rfl) rfl (by kernel_rfl) (by simp [Try.f19]) (by simp [noids, noid, noidss, go_sem, encRun, cRun, encSpan]) (by first | rfl | simp [noids, noid, noidss, go_sem, encRun, cRun, encSpan]) ?_
    intro X hX0 hXs
    repeat' (first
      | (with_reducible refine AW_seq_k ?_; intro K hK)
      | ((first | ((with_reducible first | refine AW_region tabOK { base := 0, own := [] } ?hsz ?_ | refine AW_draw tabOK mix { base := 0, own := [] } ?hsz (by decide +kernel) ?_ | refine AW_drawS tabOK mix { base := 0, own := [] } [4] ?hsz (by decide +kernel) ?_); (case hsz => rw [hXs]; rfl)) | (with_reducible first | refine AW_skip ?_ | refine AW_ret ?_ | refine AW_exit ?_ | refine AW_label ?_) | refine pureK_intro (rrun_ok r hb) ?_); try simp (disch := omega) only [encRun, cRun, encSpan, hr,go_sem, simprocAttr])
      | (with_reducible first | refine AW_scope ?_ | refine AW_blockS ?_ | refine AW_blockR ?_ | refine AW_blockC ?_)
      | ((with_reducible refine AW_condE ?_); refine ⟨_, (by first | rfl | (simp only [encRun, cRun, encSpan, hr,go_sem, simprocAttr]; rfl)), ?_, ?_⟩ <;> intro hc <;> (try simp only [go_sem, simprocAttr] at hc) <;> (try (exfalso; omega)))
      | ((with_reducible first | refine grdS_split ?_ ?_ | refine lkG_split ?_ ?_) <;> intro hg <;> (try simp (disch := omega) only [hg, encRun, cRun, encSpan, hr,go_sem, simprocAttr]) <;> (try simp only [go_sem, simprocAttr] at hg) <;> (try (exfalso; omega)))
      | (with_reducible refine FnP_endE (by simp) ?_; refine ⟨_, (by simp only [Try.f19, encRun, cRun, encSpan, hr,go_sem, simprocAttr]; rfl), ?_⟩; first | rfl | (try simp only [encRun, cRun, encSpan, hr,go_sem, simprocAttr, Val.bool.injEq, Val.int.injEq, Val.tup.injEq, Val.agg.injEq, List.cons.injEq]))
      | with_reducible intro (ep : Nat → Nat)
      | with_reducible apply_assumption -exfalso -symm only [*])
end Cp

