/- What functions of the furnace and of its reference compute (R9). Conditions: none. -/
import Derived.Test.YtioeikglibjefaaR8
import Derived.Test.YtioeikglibjefaaS4
set_option linter.unusedSimpArgs false
set_option linter.unusedVariables false
namespace Cp
open Go Go.Proofs
set_option maxRecDepth 10000

theorem works_ok (c : Cpl) (m : Int) : PureC Try.prog 40 [.agg (cCpl c), .int .i64 m] (.bool (works c m)) := by
  refine PureC_of (fn := Try.f40) tabOK (by kernel_rfl) rfl (by kernel_rfl) (by simp [Try.f40]) (by simp [noids, noid, noidss, go_sem, cCpl]) (by first | rfl | simp [noids, noid, noidss, go_sem, cCpl]) ?_
  intro X hX0 hXs
  repeat' (first
    | (with_reducible refine AW_seq_k ?_; intro K hK)
    | ((first | ((with_reducible first | refine AW_region tabOK { base := 0, own := [] } ?hsz ?_ | refine AW_draw tabOK mix { base := 0, own := [] } ?hsz (by decide +kernel) ?_); (case hsz => rw [hXs]; rfl)) | (with_reducible first | refine AW_skip ?_ | refine AW_ret ?_ | refine AW_exit ?_ | refine AW_label ?_)); try simp (disch := omega) only [cCpl,go_sem, simprocAttr])
    | (with_reducible first | refine AW_scope ?_ | refine AW_blockS ?_ | refine AW_blockR ?_ | refine AW_blockC ?_)
    | ((with_reducible refine AW_condE ?_); refine ⟨_, (by first | rfl | (simp only [cCpl,go_sem, simprocAttr]; rfl)), ?_, ?_⟩ <;> intro hc <;> (try simp only [go_sem, simprocAttr] at hc) <;> (try (exfalso; omega)))
    | ((with_reducible first | refine grdS_split ?_ ?_ | refine lkG_split ?_ ?_) <;> intro hg <;> (try simp (disch := omega) only [hg, cCpl,go_sem, simprocAttr]) <;> (try simp only [go_sem, simprocAttr] at hg) <;> (try (exfalso; omega)))
    | (with_reducible refine FnP_endE (by simp) ?_; refine ⟨_, (by simp only [Try.f40, cCpl,go_sem, simprocAttr]; rfl), ?_⟩; first | rfl | (try simp only [cCpl,go_sem, simprocAttr, Val.bool.injEq, Val.int.injEq, Val.tup.injEq, Val.agg.injEq, List.cons.injEq]))
    | with_reducible intro (ep : Nat → Nat)
    | with_reducible apply_assumption -exfalso -symm only [*])
  all_goals (rw [works, Bool.eq_iff_iff]; simp; omega)

theorem rworking_ok (r : RunT) (m : Int) (hc : r.cpls.length ≤ 1000000) : PureC Try.prog 52 [encRun r, .int .i64 m] (.lst 1 (ints (natI (wk r m)))) := by
  refine PureC_of (fn := Try.f52) tabOK (by kernel_rfl) rfl (by kernel_rfl) (by simp [Try.f52]) (by simp [noids, noid, noidss, go_sem, encRun, cRun]) (by first | rfl | simp [noids, noid, noidss, go_sem, encRun, cRun]) ?_
  intro X hX0 hXs
  repeat' (first
    | (with_reducible refine AW_seq_k ?_; intro K hK)
    | ((first | ((with_reducible first | refine AW_region (id := 6) tabOK { base := 0, own := [24] } ?hsz ?_ | refine AW_draw (id := 6) tabOK mix { base := 0, own := [24] } ?hsz (by decide +kernel) ?_ | refine AW_region tabOK { base := 0, own := [5, 24] } ?hsz ?_ | refine AW_draw tabOK mix { base := 0, own := [5, 24] } ?hsz (by decide +kernel) ?_); (case hsz => rw [hXs]; rfl)) | (with_reducible first | refine AW_skip ?_ | refine AW_ret ?_ | refine AW_exit ?_ | refine AW_label ?_)); try simp (disch := omega) only [encRun, cRun,go_sem, simprocAttr])
    | (with_reducible first | refine AW_scope ?_ | refine AW_blockS ?_ | refine AW_blockR ?_ | refine AW_blockC ?_)
    | ((with_reducible refine AW_condE ?_); refine ⟨_, (by first | rfl | (simp only [encRun, cRun,go_sem, simprocAttr]; rfl)), ?_, ?_⟩ <;> intro hc <;> (try simp only [go_sem, simprocAttr] at hc) <;> (try (exfalso; omega)))
    | (with_reducible refine FnP_endE (by simp) ?_; refine ⟨_, (by simp only [Try.f52, encRun, cRun,go_sem, simprocAttr]; rfl), ?_⟩; first | rfl | (try simp only [encRun, cRun,go_sem, simprocAttr, Val.bool.injEq, Val.int.injEq, Val.tup.injEq, Val.agg.injEq, List.cons.injEq]))
    | with_reducible intro (ep : Nat → Nat)
    | with_reducible apply_assumption -exfalso -symm only [*])
  refine AW_block (AW_loop (fun n f H => ∃ k : Nat, n = r.cpls.length - k ∧ k ≤ r.cpls.length ∧ (f 1 = .int .i64 m ∧ f 2 = .pim (cRun r) ∧ f 6 = .int .i64 k) ∧ ∃ e acc, f 5 = .gr 5 e acc.length ∧ H 5 = some (e, .arr 1 (ints (natI acc))) ∧ acc.length ≤ k ∧ wk r m = acc ++ wkFrom m k (r.cpls.drop k)) r.cpls.length
    ⟨0, by simp, Nat.zero_le _, by (and_intros <;> first | rfl | (simp only [cRun, go_sem, simprocAttr]; done) | (simp only [cRun, go_sem, simprocAttr]; rfl)), _, [], by simp only [go_sem, simprocAttr]; rfl, by simp only [go_sem, simprocAttr]; rfl, by simp, by simp [wk]⟩ ?_)
  rintro n f H ⟨k, rfl, hk, ⟨h1, h2, h6⟩, e, acc, h5, hH, hacc, hr⟩
  refine AW_keep [5] ?_
  by_cases hlt : k < r.cpls.length
  · obtain ⟨x, hx⟩ : ∃ x, r.cpls[k]? = some x := ⟨_, List.getElem?_eq_getElem hlt⟩
    rw [drop_cons hx, wkFrom] at hr
    have hn : (natI acc).length = acc.length := by simp [natI]
    have hle : acc.length + 1 ≤ 1073741824 := by omega
    repeat' (first
      | (with_reducible refine AW_seq_k ?_; intro K hK)
      | ((first | ((with_reducible first | refine AW_region (id := 6) tabOK { base := 0, own := [24] } ?hsz ?_ | refine AW_draw (id := 6) tabOK mix { base := 0, own := [24] } ?hsz (by decide +kernel) ?_ | refine AW_region tabOK { base := 0, own := [5, 24] } ?hsz ?_ | refine AW_draw tabOK mix { base := 0, own := [5, 24] } ?hsz (by decide +kernel) ?_); (case hsz => rw [hXs]; rfl)) | (with_reducible first | refine AW_skip ?_ | refine AW_ret ?_ | refine AW_exit ?_ | refine AW_label ?_) | refine pureK_intro (works_ok x _) ?_); try simp (disch := omega) only [h1, h2, h5, h6, hH, hx, hn, hle, cRun, cCpl,go_sem, simprocAttr])
      | (with_reducible first | refine AW_scope ?_ | refine AW_blockS ?_ | refine AW_blockR ?_ | refine AW_blockC ?_)
      | ((with_reducible refine AW_condE ?_); refine ⟨_, (by first | rfl | (simp only [h1, h2, h5, h6, hH, hx, hn, hle, cRun, cCpl,go_sem, simprocAttr]; rfl)), ?_, ?_⟩ <;> intro hc <;> (try simp only [go_sem, simprocAttr] at hc) <;> (try (exfalso; omega)))
      | (with_reducible refine FnP_endE (by simp) ?_; refine ⟨_, (by simp only [Try.f52, h1, h2, h5, h6, hH, hx, hn, hle, cRun, cCpl,go_sem, simprocAttr]; rfl), ?_⟩; first | rfl | (try simp only [h1, h2, h5, h6, hH, hx, hn, hle, cRun, cCpl,go_sem, simprocAttr, Val.bool.injEq, Val.int.injEq, Val.tup.injEq, Val.agg.injEq, List.cons.injEq]))
      | with_reducible intro (ep : Nat → Nat)
      | with_reducible apply_assumption -exfalso -symm only [*])
    · refine ⟨r.cpls.length - (k + 1), by omega, k + 1, rfl, by omega, rfl, _, acc ++ [k], by rw [List.length_append]; rfl, by rw [ints_snoc, natI_snoc], by simp; omega, ?_⟩
      rw [hr, if_pos hc]; simp
    · refine ⟨r.cpls.length - (k + 1), by omega, k + 1, rfl, by omega, rfl, _, acc, rfl, rfl, by omega, ?_⟩
      rw [hr, hc]; rfl
  · rw [drop_none (by omega), wkFrom, List.append_nil] at hr
    have hn : (natI acc).length = acc.length := by simp [natI]
    repeat' (first
      | (with_reducible refine AW_seq_k ?_; intro K hK)
      | ((first | ((with_reducible first | refine AW_region (id := 6) tabOK { base := 0, own := [24] } ?hsz ?_ | refine AW_draw (id := 6) tabOK mix { base := 0, own := [24] } ?hsz (by decide +kernel) ?_ | refine AW_region tabOK { base := 0, own := [5, 24] } ?hsz ?_ | refine AW_draw tabOK mix { base := 0, own := [5, 24] } ?hsz (by decide +kernel) ?_); (case hsz => rw [hXs]; rfl)) | (with_reducible first | refine AW_skip ?_ | refine AW_ret ?_ | refine AW_exit ?_ | refine AW_label ?_)); try simp (disch := omega) only [h1, h2, h5, h6, hH, cRun,go_sem, simprocAttr])
      | (with_reducible first | refine AW_scope ?_ | refine AW_blockS ?_ | refine AW_blockR ?_ | refine AW_blockC ?_)
      | ((with_reducible refine AW_condE ?_); refine ⟨_, (by first | rfl | (simp only [h1, h2, h5, h6, hH, cRun,go_sem, simprocAttr]; rfl)), ?_, ?_⟩ <;> intro hc <;> (try simp only [go_sem, simprocAttr] at hc) <;> (try (exfalso; omega)))
      | with_reducible intro (ep : Nat → Nat)
      | with_reducible apply_assumption -exfalso -symm only [*])
    refine FnP_frz 5 (Or.inl rfl) (by simp only [go_sem, simprocAttr, hH]; rfl) ⟨_, (by simp only [Try.f52, go_sem, simprocAttr, h5]; rfl), ?_⟩
    simp only [go_sem, simprocAttr, hn, hr]

theorem rtrue_ok (r : RunT) (hF : RunF r) (i : Nat) (m : Int) (c : Cpl) (hc : r.cpls[i]? = some c) (hm : 1 ≤ m) (hm2 : m ≤ r.rows.length) (hw : works c m = true) :
    PureC Try.prog 78 [encRun r, .int .i64 i, .int .i64 m] (encSpan (truth r c i m)) := by
  have hi : i < r.cpls.length := (List.getElem?_eq_some_iff.1 hc).1
  have hcf := hF.cpl i c hc
  have hrows := hF.rows
  have hcl := hF.cpls
  obtain ⟨l1, l2⟩ := lastRow_pos hF hc hm hw
  have hw' := works_iff.1 hw
  have hred : ∀ lag : Int, 0 ≤ lag → ∃ x d, r.rows[(min (m + lag) (lastRow r c) - 1).toNat]? = some x ∧ x.deg[i]? = some d ∧ readLag r c i m lag = d ∧ 0 ≤ d ∧ d ≤ 2000 := fun lag h => readAt_ok hF hi (by omega) (by omega)
  refine PureC_of (fn := Try.f78) tabOK (by kernel_rfl) rfl (by kernel_rfl) (by simp [Try.f78]) (by simp [noids, noid, noidss, go_sem, encRun, cRun]) (by first | rfl | simp [noids, noid, noidss, go_sem, encRun, cRun]) ?_
  intro X hX0 hXs
  repeat' (first
    | (with_reducible refine AW_seq_k ?_; intro K hK)
    | ((first | ((with_reducible first | refine AW_region tabOK { base := 0, own := [] } ?hsz ?_ | refine AW_draw tabOK mix { base := 0, own := [] } ?hsz (by decide +kernel) ?_ | refine AW_drawS tabOK mix { base := 0, own := [] } [6, 7, 8] ?hsz (by decide +kernel) ?_); (case hsz => rw [hXs]; rfl)) | (with_reducible first | refine AW_skip ?_ | refine AW_ret ?_ | refine AW_exit ?_ | refine AW_label ?_)); try simp (disch := omega) only [encRun, cRun, hc, cCpl,go_sem, simprocAttr])
    | (with_reducible first | refine AW_scope ?_ | refine AW_blockS ?_ | refine AW_blockR ?_ | refine AW_blockC ?_)
    | ((with_reducible refine AW_condE ?_); refine ⟨_, (by first | rfl | (simp only [encRun, cRun, hc, cCpl,go_sem, simprocAttr]; rfl)), ?_, ?_⟩ <;> intro hc <;> (try simp only [go_sem, simprocAttr] at hc) <;> (try (exfalso; omega)))
    | (with_reducible refine FnP_endE (by simp) ?_; refine ⟨_, (by simp only [Try.f78, encRun, cRun, hc, cCpl,go_sem, simprocAttr]; rfl), ?_⟩; first | rfl | (try simp only [encRun, cRun, hc, cCpl,go_sem, simprocAttr, Val.bool.injEq, Val.int.injEq, Val.tup.injEq, Val.agg.injEq, List.cons.injEq]))
    | with_reducible intro (ep : Nat → Nat)
    | with_reducible apply_assumption -exfalso -symm only [*])
  refine AW_block (AW_loop (fun n f H => ∃ k : Nat, n = (c.lag.hi - c.lag.lo + 1).toNat - k ∧ k ≤ (c.lag.hi - c.lag.lo + 1).toNat ∧ (f 1 = .int .i64 i ∧ f 2 = .int .i64 m ∧ f 3 = .pim (cRun r)) ∧ ∃ lag lo hi e6 e7 e8, lag = c.lag.lo + k ∧ f 9 = .int .i64 lag ∧ f 6 = .ptr 6 e6 2 0 0 ∧ H 6 = some (e6, .arr 2 [[.int .i64 0, .int .i64 0]]) ∧ f 7 = .ptr 7 e7 6 0 0 ∧ H 7 = some (e7, .arr 6 [cCpl c]) ∧ f 8 = .ptr 8 e8 2 0 0 ∧ H 8 = some (e8, .arr 2 [[.int .i64 lo, .int .i64 hi]]) ∧
      ((k = 0 ∧ lo = 9999 ∧ hi = -9999) ∨ ∃ j, k = j + 1 ∧ lo = extLo (readLag r c i m) c.lag.lo j - c.err.hi ∧ hi = extHi (readLag r c i m) c.lag.lo j - c.err.lo)) (c.lag.hi - c.lag.lo + 1).toNat
    ⟨0, by simp, Nat.zero_le _, by (and_intros <;> first | rfl | (simp only [cRun, go_sem, simprocAttr]; done) | (simp only [cRun, go_sem, simprocAttr]; rfl)), c.lag.lo, 9999, -9999, _, _, _, by simp, by (first | rfl | (simp only [go_sem, simprocAttr]; done) | (simp only [go_sem, simprocAttr]; rfl)), by (first | rfl | (simp only [go_sem, simprocAttr]; done) | (simp only [go_sem, simprocAttr]; rfl)), by (first | rfl | (simp only [go_sem, simprocAttr]; done) | (simp only [go_sem, simprocAttr]; rfl)), by (first | rfl | (simp only [go_sem, simprocAttr]; done) | (simp only [go_sem, simprocAttr]; rfl)), by (first | rfl | (simp only [cCpl, go_sem, simprocAttr]; done) | (simp only [cCpl, go_sem, simprocAttr]; rfl)), by (first | rfl | (simp only [go_sem, simprocAttr]; done) | (simp only [go_sem, simprocAttr]; rfl)), by (first | rfl | (simp only [go_sem, simprocAttr]; done) | (simp only [go_sem, simprocAttr]; rfl)), .inl ⟨rfl, rfl, rfl⟩⟩ ?_)
  rintro n f H ⟨k, rfl, hk, ⟨h1, h2, h3⟩, lag, lo, hi', e6, e7, e8, hlag, h9, h6, hH6, h7, hH7, h8, hH8, hr⟩
  by_cases hlt : lag ≤ c.lag.hi
  · obtain ⟨x, d, hx, hd, hrd, hd1, hd2⟩ := hred lag (by omega)
    have stepL : min lo (d - c.err.hi) = extLo (readLag r c i m) c.lag.lo k - c.err.hi ∧ max hi' (d - c.err.lo) = extHi (readLag r c i m) c.lag.lo k - c.err.lo := by
      rcases hr with ⟨rfl, rfl, rfl⟩ | ⟨j, rfl, rfl, rfl⟩
      · simp only [extLo, extHi]
        rw [show c.lag.lo = lag by omega, hrd]
        omega
      · simp only [extLo, extHi]
        rw [show c.lag.lo + ((j + 1 : Nat) : Int) = lag by omega, hrd]
        omega
    clear hr
    by_cases hb : 0 < c.brk
    · have hlr : lastRow r c = min (r.rows.length : Int) (c.brk - 1) := by rw [lastRow, if_pos hb]
      rw [hlr] at hx
      have e1 : min (min (m + lag) (r.rows.length : Int)) (c.brk - 1) = min (m + lag) (min (r.rows.length : Int) (c.brk - 1)) := by omega
      have hge : 0 ≤ min (m + lag) (min (r.rows.length : Int) (c.brk - 1)) - 1 := by omega
      repeat' (first
        | (with_reducible refine AW_seq_k ?_; intro K hK)
        | ((first | ((with_reducible first | refine AW_region tabOK { base := 0, own := [] } ?hsz ?_ | refine AW_draw tabOK mix { base := 0, own := [] } ?hsz (by decide +kernel) ?_ | refine AW_drawS tabOK mix { base := 0, own := [] } [6, 7, 8] ?hsz (by decide +kernel) ?_); (case hsz => rw [hXs]; rfl)) | (with_reducible first | refine AW_skip ?_ | refine AW_ret ?_ | refine AW_exit ?_ | refine AW_label ?_)); try simp (disch := omega) only [h1, h2, h3, h6, h7, h8, h9, hH6, hH7, hH8, e1, hge, hx, hd, cRun, cCpl, cRow,go_sem, simprocAttr])
        | (with_reducible first | refine AW_scope ?_ | refine AW_blockS ?_ | refine AW_blockR ?_ | refine AW_blockC ?_)
        | ((with_reducible refine AW_condE ?_); refine ⟨_, (by first | rfl | (simp only [h1, h2, h3, h6, h7, h8, h9, hH6, hH7, hH8, e1, hge, hx, hd, cRun, cCpl, cRow,go_sem, simprocAttr]; rfl)), ?_, ?_⟩ <;> intro hc <;> (try simp only [go_sem, simprocAttr] at hc) <;> (try (exfalso; omega)))
        | (with_reducible refine FnP_endE (by simp) ?_; refine ⟨_, (by simp only [Try.f78, h1, h2, h3, h6, h7, h8, h9, hH6, hH7, hH8, e1, hge, hx, hd, cRun, cCpl, cRow,go_sem, simprocAttr]; rfl), ?_⟩; first | rfl | (try simp only [h1, h2, h3, h6, h7, h8, h9, hH6, hH7, hH8, e1, hge, hx, hd, cRun, cCpl, cRow,go_sem, simprocAttr, Val.bool.injEq, Val.int.injEq, Val.tup.injEq, Val.agg.injEq, List.cons.injEq]))
        | with_reducible intro (ep : Nat → Nat)
        | with_reducible apply_assumption -exfalso -symm only [*])
      exact ⟨(c.lag.hi - c.lag.lo + 1).toNat - (k + 1), by omega, k + 1, rfl, by omega, _, _, _, _, _, _, by omega, rfl, rfl, rfl, rfl, rfl, rfl, rfl, .inr ⟨k, rfl, stepL.1, stepL.2⟩⟩
    · have hlr : lastRow r c = r.rows.length := by rw [lastRow, if_neg hb]
      rw [hlr] at hx
      have hge : 0 ≤ min (m + lag) (r.rows.length : Int) - 1 := by omega
      repeat' (first
        | (with_reducible refine AW_seq_k ?_; intro K hK)
        | ((first | ((with_reducible first | refine AW_region tabOK { base := 0, own := [] } ?hsz ?_ | refine AW_draw tabOK mix { base := 0, own := [] } ?hsz (by decide +kernel) ?_ | refine AW_drawS tabOK mix { base := 0, own := [] } [6, 7, 8] ?hsz (by decide +kernel) ?_); (case hsz => rw [hXs]; rfl)) | (with_reducible first | refine AW_skip ?_ | refine AW_ret ?_ | refine AW_exit ?_ | refine AW_label ?_)); try simp (disch := omega) only [h1, h2, h3, h6, h7, h8, h9, hH6, hH7, hH8, hge, hx, hd, cRun, cCpl, cRow,go_sem, simprocAttr])
        | (with_reducible first | refine AW_scope ?_ | refine AW_blockS ?_ | refine AW_blockR ?_ | refine AW_blockC ?_)
        | ((with_reducible refine AW_condE ?_); refine ⟨_, (by first | rfl | (simp only [h1, h2, h3, h6, h7, h8, h9, hH6, hH7, hH8, hge, hx, hd, cRun, cCpl, cRow,go_sem, simprocAttr]; rfl)), ?_, ?_⟩ <;> intro hc <;> (try simp only [go_sem, simprocAttr] at hc) <;> (try (exfalso; omega)))
        | (with_reducible refine FnP_endE (by simp) ?_; refine ⟨_, (by simp only [Try.f78, h1, h2, h3, h6, h7, h8, h9, hH6, hH7, hH8, hge, hx, hd, cRun, cCpl, cRow,go_sem, simprocAttr]; rfl), ?_⟩; first | rfl | (try simp only [h1, h2, h3, h6, h7, h8, h9, hH6, hH7, hH8, hge, hx, hd, cRun, cCpl, cRow,go_sem, simprocAttr, Val.bool.injEq, Val.int.injEq, Val.tup.injEq, Val.agg.injEq, List.cons.injEq]))
        | with_reducible intro (ep : Nat → Nat)
        | with_reducible apply_assumption -exfalso -symm only [*])
      exact ⟨(c.lag.hi - c.lag.lo + 1).toNat - (k + 1), by omega, k + 1, rfl, by omega, _, _, _, _, _, _, by omega, rfl, rfl, rfl, rfl, rfl, rfl, rfl, .inr ⟨k, rfl, stepL.1, stepL.2⟩⟩
  · repeat' (first
      | (with_reducible refine AW_seq_k ?_; intro K hK)
      | ((first | ((with_reducible first | refine AW_region tabOK { base := 0, own := [] } ?hsz ?_ | refine AW_draw tabOK mix { base := 0, own := [] } ?hsz (by decide +kernel) ?_ | refine AW_drawS tabOK mix { base := 0, own := [] } [6, 7, 8] ?hsz (by decide +kernel) ?_); (case hsz => rw [hXs]; rfl)) | (with_reducible first | refine AW_skip ?_ | refine AW_ret ?_ | refine AW_exit ?_ | refine AW_label ?_)); try simp (disch := omega) only [h1, h2, h3, h6, h7, h8, h9, hH6, hH7, hH8, cRun, cCpl, encSpan,go_sem, simprocAttr])
      | (with_reducible first | refine AW_scope ?_ | refine AW_blockS ?_ | refine AW_blockR ?_ | refine AW_blockC ?_)
      | ((with_reducible refine AW_condE ?_); refine ⟨_, (by first | rfl | (simp only [h1, h2, h3, h6, h7, h8, h9, hH6, hH7, hH8, cRun, cCpl, encSpan,go_sem, simprocAttr]; rfl)), ?_, ?_⟩ <;> intro hc <;> (try simp only [go_sem, simprocAttr] at hc) <;> (try (exfalso; omega)))
      | (with_reducible refine FnP_endE (by simp) ?_; refine ⟨_, (by simp only [Try.f78, h1, h2, h3, h6, h7, h8, h9, hH6, hH7, hH8, cRun, cCpl, encSpan,go_sem, simprocAttr]; rfl), ?_⟩; first | rfl | (try simp only [h1, h2, h3, h6, h7, h8, h9, hH6, hH7, hH8, cRun, cCpl, encSpan,go_sem, simprocAttr, Val.bool.injEq, Val.int.injEq, Val.tup.injEq, Val.agg.injEq, List.cons.injEq]))
      | with_reducible intro (ep : Nat → Nat)
      | with_reducible apply_assumption -exfalso -symm only [*])
    rcases hr with ⟨rfl, rfl, rfl⟩ | ⟨j, rfl, rfl, rfl⟩
    · omega
    · have : (c.lag.hi - c.lag.lo).toNat = j := by omega
      simp only [truth, this, and_self]
end Cp

