/- What functions of the furnace and of its reference compute (R7). Conditions: none. -/
import Derived.Test.YtioeikglibjefaaR6
set_option linter.unusedSimpArgs false
set_option linter.unusedVariables false
namespace Cp
open Go Go.Proofs
set_option maxRecDepth 10000

theorem rrun_ok (r : RunT) (hb : RunB r) : PureC Try.prog 51 [encRun r] (.bool (runOK r)) := by
  have hb1 := hb.cpls
  have hb2 := hb.rows
  refine PureC_of (fn := Try.f51) tabOK (by kernel_rfl) rfl (by kernel_rfl) (by simp [Try.f51]) (by simp [noids, noid, noidss, go_sem, encRun, cRun]) (by first | rfl | simp [noids, noid, noidss, go_sem, encRun, cRun]) ?_
  intro X hX0 hXs
  by_cases hcv : curveOK r.curve = true
  · have hF := curve_facts hcv
    have hlen := hF.len
    obtain ⟨z, hz⟩ : ∃ z, r.curve[r.curve.length - 1]? = some z := ⟨_, List.getElem?_eq_getElem (by omega)⟩
    have hzm := lastM_get hz
    have e1 : ((r.curve.length : Int) - 1) = ((r.curve.length - 1 : Nat) : Int) := by omega
    repeat' (first
      | (with_reducible refine AW_seq_k ?_; intro K hK)
      | ((first | ((with_reducible first | refine AW_region tabOK { base := 0, own := [] } ?hsz ?_ | refine AW_draw tabOK mix { base := 0, own := [] } ?hsz (by decide +kernel) ?_ | refine AW_drawS tabOK mix { base := 0, own := [] } [4] ?hsz (by decide +kernel) ?_); (case hsz => rw [hXs]; rfl)) | (with_reducible first | refine AW_skip ?_ | refine AW_ret ?_ | refine AW_exit ?_ | refine AW_label ?_) | refine pureK_intro (rwithin_ok _ _ _) ?_ | refine pureK_intro (rcurve_ok r.curve hb.curve) ?_ | refine pureK_intro (rspanned_ok r.gauge _ _) ?_); try simp (disch := omega) only [hcv, hz, e1, encRun, cRun, cPt,go_sem, simprocAttr])
      | (with_reducible first | refine AW_scope ?_ | refine AW_blockS ?_ | refine AW_blockR ?_ | refine AW_blockC ?_)
      | ((with_reducible refine AW_condE ?_); refine ⟨_, (by first | rfl | (simp only [hcv, hz, e1, encRun, cRun, cPt,go_sem, simprocAttr]; rfl)), ?_, ?_⟩ <;> intro hc <;> (try simp only [go_sem, simprocAttr] at hc) <;> (try (exfalso; omega)))
      | ((with_reducible first | refine grdS_split ?_ ?_ | refine lkG_split ?_ ?_) <;> intro hg <;> (try simp (disch := omega) only [hg, hcv, hz, e1, encRun, cRun, cPt,go_sem, simprocAttr]) <;> (try simp only [go_sem, simprocAttr] at hg) <;> (try (exfalso; omega)))
      | (with_reducible refine FnP_endE (by simp) ?_; refine ⟨_, (by simp only [Try.f51, hcv, hz, e1, encRun, cRun, cPt,go_sem, simprocAttr]; rfl), ?_⟩; first | rfl | (try simp only [hcv, hz, e1, encRun, cRun, cPt,go_sem, simprocAttr, Val.bool.injEq, Val.int.injEq, Val.tup.injEq, Val.agg.injEq, List.cons.injEq]))
      | with_reducible intro (ep : Nat → Nat)
      | with_reducible apply_assumption -exfalso -symm only [*])
    iterate 5 (rw [runOK_head]; simp only [headOK, decide_eq_false_iff_not]; omega)
    have hh : headOK r = true := by simp only [headOK, decide_eq_true_eq]; omega
    have hR := runOK_eq hcv hh
    refine AW_block (AW_loop (fun n f H => ∃ k : Nat, n = r.cpls.length - k ∧ k ≤ r.cpls.length ∧ (f 1 = .pim (cRun r) ∧ f 3 = .int .i64 k) ∧ ∃ last, (k = 0 → last = -1) ∧ (∀ j, k = j + 1 → ∃ a, r.cpls[j]? = some a ∧ a.id = last) ∧ -1 ≤ last ∧ last ≤ 9999 ∧ cplsFrom (-1) r.cpls = cplsFrom last (r.cpls.drop k)) r.cpls.length
      ⟨0, by simp, Nat.zero_le _, by (and_intros <;> first | rfl | (simp only [cRun, go_sem, simprocAttr]; done) | (simp only [cRun, go_sem, simprocAttr]; rfl)), -1, by simp, by simp, by simp, by simp, by simp⟩ ?_)
    rintro n f H ⟨k, rfl, hk, ⟨h1, h3⟩, last, hl0, hl1, hl2, hl3, hr⟩
    by_cases hlt : k < r.cpls.length
    · obtain ⟨x, hx⟩ : ∃ x, r.cpls[k]? = some x := ⟨_, List.getElem?_eq_getElem hlt⟩
      rw [drop_cons hx] at hr
      simp only [cplsFrom] at hr
      refine AW_keep [] ?_
      have bad : cplOK last x = false → false = runOK r := fun h => by rw [hR, hr, h]; simp
      have good : cplOK last x = true → ∃ m, m < r.cpls.length - k ∧ ∃ k', m = r.cpls.length - k' ∧ k' ≤ r.cpls.length ∧ Val.int .i64 ((k + 1 : Nat) : Int) = .int .i64 (k' : Int) ∧ ∃ last, (k' = 0 → last = -1) ∧ (∀ j, k' = j + 1 → ∃ a, r.cpls[j]? = some a ∧ a.id = last) ∧ -1 ≤ last ∧ last ≤ 9999 ∧ cplsFrom (-1) r.cpls = cplsFrom last (r.cpls.drop k') := fun h => by
        refine ⟨r.cpls.length - (k + 1), by omega, k + 1, rfl, by omega, rfl, x.id, by omega, (fun j hj => ⟨x, (by rw [show j = k by omega]; exact hx), rfl⟩), ?_⟩
        have h' := h
        simp only [cplOK, decide_eq_true_eq] at h
        refine ⟨by omega, by omega, ?_⟩
        rw [hr, h']; simp
      simp only [cplOK, decide_eq_false_iff_not, decide_eq_true_eq] at bad good
      rcases k with _ | j
      · obtain rfl := hl0 rfl
        repeat' (first
          | (with_reducible refine AW_seq_k ?_; intro K hK)
          | ((first | ((with_reducible first | refine AW_region tabOK { base := 0, own := [] } ?hsz ?_ | refine AW_draw tabOK mix { base := 0, own := [] } ?hsz (by decide +kernel) ?_ | refine AW_drawS tabOK mix { base := 0, own := [] } [4] ?hsz (by decide +kernel) ?_); (case hsz => rw [hXs]; rfl)) | (with_reducible first | refine AW_skip ?_ | refine AW_ret ?_ | refine AW_exit ?_ | refine AW_label ?_) | refine pureK_intro (rwithin_ok _ _ _) ?_ | refine pureK_intro (rspanned_ok x.err _ _) ?_ | refine pureK_intro (rspanned_ok x.lag _ _) ?_); try simp (disch := omega) only [h1, h3, hx, cRun, cCpl,go_sem, simprocAttr])
          | (with_reducible first | refine AW_scope ?_ | refine AW_blockS ?_ | refine AW_blockR ?_ | refine AW_blockC ?_)
          | ((with_reducible refine AW_condE ?_); refine ⟨_, (by first | rfl | (simp only [h1, h3, hx, cRun, cCpl,go_sem, simprocAttr]; rfl)), ?_, ?_⟩ <;> intro hc <;> (try simp only [go_sem, simprocAttr] at hc) <;> (try (exfalso; omega)))
          | ((with_reducible first | refine grdS_split ?_ ?_ | refine lkG_split ?_ ?_) <;> intro hg <;> (try simp (disch := omega) only [hg, h1, h3, hx, cRun, cCpl,go_sem, simprocAttr]) <;> (try simp only [go_sem, simprocAttr] at hg) <;> (try (exfalso; omega)))
          | (with_reducible refine FnP_endE (by simp) ?_; refine ⟨_, (by simp only [Try.f51, h1, h3, hx, cRun, cCpl,go_sem, simprocAttr]; rfl), ?_⟩; first | rfl | (try simp only [h1, h3, hx, cRun, cCpl,go_sem, simprocAttr, Val.bool.injEq, Val.int.injEq, Val.tup.injEq, Val.agg.injEq, List.cons.injEq]))
          | with_reducible intro (ep : Nat → Nat)
          | with_reducible apply_assumption -exfalso -symm only [*])
        all_goals omega
      · obtain ⟨a, haj, hal⟩ := hl1 j rfl
        repeat' (first
          | (with_reducible refine AW_seq_k ?_; intro K hK)
          | ((first | ((with_reducible first | refine AW_region tabOK { base := 0, own := [] } ?hsz ?_ | refine AW_draw tabOK mix { base := 0, own := [] } ?hsz (by decide +kernel) ?_ | refine AW_drawS tabOK mix { base := 0, own := [] } [4] ?hsz (by decide +kernel) ?_); (case hsz => rw [hXs]; rfl)) | (with_reducible first | refine AW_skip ?_ | refine AW_ret ?_ | refine AW_exit ?_ | refine AW_label ?_) | refine pureK_intro (rwithin_ok _ _ _) ?_ | refine pureK_intro (rspanned_ok x.err _ _) ?_ | refine pureK_intro (rspanned_ok x.lag _ _) ?_); try simp (disch := omega) only [h1, h3, hx, haj, cRun, cCpl,go_sem, simprocAttr])
          | (with_reducible first | refine AW_scope ?_ | refine AW_blockS ?_ | refine AW_blockR ?_ | refine AW_blockC ?_)
          | ((with_reducible refine AW_condE ?_); refine ⟨_, (by first | rfl | (simp only [h1, h3, hx, haj, cRun, cCpl,go_sem, simprocAttr]; rfl)), ?_, ?_⟩ <;> intro hc <;> (try simp only [go_sem, simprocAttr] at hc) <;> (try (exfalso; omega)))
          | ((with_reducible first | refine grdS_split ?_ ?_ | refine lkG_split ?_ ?_) <;> intro hg <;> (try simp (disch := omega) only [hg, h1, h3, hx, haj, cRun, cCpl,go_sem, simprocAttr]) <;> (try simp only [go_sem, simprocAttr] at hg) <;> (try (exfalso; omega)))
          | (with_reducible refine FnP_endE (by simp) ?_; refine ⟨_, (by simp only [Try.f51, h1, h3, hx, haj, cRun, cCpl,go_sem, simprocAttr]; rfl), ?_⟩; first | rfl | (try simp only [h1, h3, hx, haj, cRun, cCpl,go_sem, simprocAttr, Val.bool.injEq, Val.int.injEq, Val.tup.injEq, Val.agg.injEq, List.cons.injEq]))
          | with_reducible intro (ep : Nat → Nat)
          | with_reducible apply_assumption -exfalso -symm only [*])
        all_goals omega
    · have hcp : cplsFrom (-1) r.cpls = true := by rw [hr, drop_none (by omega)]; rfl
      simp only [hcp, Bool.true_and] at hR
      repeat' (first
        | (with_reducible refine AW_seq_k ?_; intro K hK)
        | ((first | ((with_reducible first | refine AW_region tabOK { base := 0, own := [] } ?hsz ?_ | refine AW_draw tabOK mix { base := 0, own := [] } ?hsz (by decide +kernel) ?_ | refine AW_drawS tabOK mix { base := 0, own := [] } [4] ?hsz (by decide +kernel) ?_); (case hsz => rw [hXs]; rfl)) | (with_reducible first | refine AW_skip ?_ | refine AW_ret ?_ | refine AW_exit ?_ | refine AW_label ?_)); try simp (disch := omega) only [h1, h3, cRun,go_sem, simprocAttr])
        | (with_reducible first | refine AW_scope ?_ | refine AW_blockS ?_ | refine AW_blockR ?_ | refine AW_blockC ?_)
        | ((with_reducible refine AW_condE ?_); refine ⟨_, (by first | rfl | (simp only [h1, h3, cRun,go_sem, simprocAttr]; rfl)), ?_, ?_⟩ <;> intro hc <;> (try simp only [go_sem, simprocAttr] at hc) <;> (try (exfalso; omega)))
        | ((with_reducible first | refine grdS_split ?_ ?_ | refine lkG_split ?_ ?_) <;> intro hg <;> (try simp (disch := omega) only [hg, h1, h3, cRun,go_sem, simprocAttr]) <;> (try simp only [go_sem, simprocAttr] at hg) <;> (try (exfalso; omega)))
        | (with_reducible refine FnP_endE (by simp) ?_; refine ⟨_, (by simp only [Try.f51, h1, h3, cRun,go_sem, simprocAttr]; rfl), ?_⟩; first | rfl | (try simp only [h1, h3, cRun,go_sem, simprocAttr, Val.bool.injEq, Val.int.injEq, Val.tup.injEq, Val.agg.injEq, List.cons.injEq]))
        | with_reducible intro (ep : Nat → Nat)
        | with_reducible apply_assumption -exfalso -symm only [*])
      refine AW_block (AW_loop (fun n f H => ∃ k : Nat, n = r.rows.length - k ∧ k ≤ r.rows.length ∧ (f 1 = .pim (cRun r) ∧ f 5 = .int .i64 k) ∧ r.rows.all (rowOK r.cpls.length) = (r.rows.drop k).all (rowOK r.cpls.length)) r.rows.length
        ⟨0, by simp, Nat.zero_le _, by (and_intros <;> first | rfl | (simp only [cRun, h1, go_sem, simprocAttr]; done) | (simp only [cRun, h1, go_sem, simprocAttr]; rfl)), by simp⟩ ?_)
      rintro n f H ⟨k, rfl, hk, ⟨h1, h5⟩, hr⟩
      by_cases hlt : k < r.rows.length
      · obtain ⟨x, hx⟩ : ∃ x, r.rows[k]? = some x := ⟨_, List.getElem?_eq_getElem hlt⟩
        rw [drop_cons hx] at hr
        simp only [List.all_cons] at hr
        have hxd := hb.degs x (List.mem_of_getElem? hx)
        repeat' (first
          | (with_reducible refine AW_seq_k ?_; intro K hK)
          | ((first | ((with_reducible first | refine AW_region tabOK { base := 0, own := [] } ?hsz ?_ | refine AW_draw tabOK mix { base := 0, own := [] } ?hsz (by decide +kernel) ?_ | refine AW_drawS tabOK mix { base := 0, own := [] } [4] ?hsz (by decide +kernel) ?_); (case hsz => rw [hXs]; rfl)) | (with_reducible first | refine AW_skip ?_ | refine AW_ret ?_ | refine AW_exit ?_ | refine AW_label ?_) | refine pureK_intro (rwithin_ok _ _ _) ?_); try simp (disch := omega) only [h1, h5, hx, cRun, cRow,go_sem, simprocAttr])
          | (with_reducible first | refine AW_scope ?_ | refine AW_blockS ?_ | refine AW_blockR ?_ | refine AW_blockC ?_)
          | ((with_reducible refine AW_condE ?_); refine ⟨_, (by first | rfl | (simp only [h1, h5, hx, cRun, cRow,go_sem, simprocAttr]; rfl)), ?_, ?_⟩ <;> intro hc <;> (try simp only [go_sem, simprocAttr] at hc) <;> (try (exfalso; omega)))
          | ((with_reducible first | refine grdS_split ?_ ?_ | refine lkG_split ?_ ?_) <;> intro hg <;> (try simp (disch := omega) only [hg, h1, h5, hx, cRun, cRow,go_sem, simprocAttr]) <;> (try simp only [go_sem, simprocAttr] at hg) <;> (try (exfalso; omega)))
          | (with_reducible refine FnP_endE (by simp) ?_; refine ⟨_, (by simp only [Try.f51, h1, h5, hx, cRun, cRow,go_sem, simprocAttr]; rfl), ?_⟩; first | rfl | (try simp only [h1, h5, hx, cRun, cRow,go_sem, simprocAttr, Val.bool.injEq, Val.int.injEq, Val.tup.injEq, Val.agg.injEq, List.cons.injEq]))
          | with_reducible intro (ep : Nat → Nat)
          | with_reducible apply_assumption -exfalso -symm only [*])
        · have : rowOK r.cpls.length x = false := by simp [rowOK]; intro h; omega
          rw [hR, hr, this]; simp
        · have : rowOK r.cpls.length x = false := by simp [rowOK]; intro h; omega
          rw [hR, hr, this]; simp
        have hdl : x.deg.length = r.cpls.length := by omega
        refine AW_block (AW_loop (fun n f H => ∃ i : Nat, n = x.deg.length - i ∧ i ≤ x.deg.length ∧ (f 1 = .pim (cRun r) ∧ f 5 = .int .i64 k ∧ f 6 = .int .i64 i) ∧ degsOK x.deg = degsOK (x.deg.drop i)) x.deg.length
          ⟨0, by simp, Nat.zero_le _, by (and_intros <;> first | rfl | (simp only [cRun, h1, h5, go_sem, simprocAttr]; done) | (simp only [cRun, h1, h5, go_sem, simprocAttr]; rfl)), by simp⟩ ?_)
        rintro n f H ⟨i, rfl, hi, ⟨h1, h5, h6⟩, hd⟩
        by_cases hlt2 : i < x.deg.length
        · obtain ⟨y, hy⟩ : ∃ y, x.deg[i]? = some y := ⟨_, List.getElem?_eq_getElem hlt2⟩
          rw [drop_cons hy] at hd
          have hd' : degsOK x.deg = (decide (0 ≤ y ∧ y ≤ 2000) && degsOK (x.deg.drop (i + 1))) := hd
          repeat' (first
            | (with_reducible refine AW_seq_k ?_; intro K hK)
            | ((first | ((with_reducible first | refine AW_region tabOK { base := 0, own := [] } ?hsz ?_ | refine AW_draw tabOK mix { base := 0, own := [] } ?hsz (by decide +kernel) ?_ | refine AW_drawS tabOK mix { base := 0, own := [] } [4] ?hsz (by decide +kernel) ?_); (case hsz => rw [hXs]; rfl)) | (with_reducible first | refine AW_skip ?_ | refine AW_ret ?_ | refine AW_exit ?_ | refine AW_label ?_) | refine pureK_intro (rwithin_ok _ _ _) ?_); try simp (disch := omega) only [h1, h5, h6, hx, hy, cRun, cRow,go_sem, simprocAttr])
            | (with_reducible first | refine AW_scope ?_ | refine AW_blockS ?_ | refine AW_blockR ?_ | refine AW_blockC ?_)
            | ((with_reducible refine AW_condE ?_); refine ⟨_, (by first | rfl | (simp only [h1, h5, h6, hx, hy, cRun, cRow,go_sem, simprocAttr]; rfl)), ?_, ?_⟩ <;> intro hc <;> (try simp only [go_sem, simprocAttr] at hc) <;> (try (exfalso; omega)))
            | ((with_reducible first | refine grdS_split ?_ ?_ | refine lkG_split ?_ ?_) <;> intro hg <;> (try simp (disch := omega) only [hg, h1, h5, h6, hx, hy, cRun, cRow,go_sem, simprocAttr]) <;> (try simp only [go_sem, simprocAttr] at hg) <;> (try (exfalso; omega)))
            | (with_reducible refine FnP_endE (by simp) ?_; refine ⟨_, (by simp only [Try.f51, h1, h5, h6, hx, hy, cRun, cRow,go_sem, simprocAttr]; rfl), ?_⟩; first | rfl | (try simp only [h1, h5, h6, hx, hy, cRun, cRow,go_sem, simprocAttr, Val.bool.injEq, Val.int.injEq, Val.tup.injEq, Val.agg.injEq, List.cons.injEq]))
            | with_reducible intro (ep : Nat → Nat)
            | with_reducible apply_assumption -exfalso -symm only [*])
          · have : rowOK r.cpls.length x = false := by rw [rowOK, hd', show decide (0 ≤ y ∧ y ≤ 2000) = false from decide_eq_false (by omega)]; simp
            rw [hR, hr, this]; simp
          · refine ⟨x.deg.length - (i + 1), by omega, i + 1, rfl, by omega, rfl, ?_⟩
            rw [hd', show decide (0 ≤ y ∧ y ≤ 2000) = true from decide_eq_true (by omega)]; simp
        · have hdo : degsOK x.deg = true := by rw [hd, drop_none (by omega)]; rfl
          have hro : rowOK r.cpls.length x = true := by rw [rowOK, hdo, decide_eq_true (by omega)]; rfl
          repeat' (first
            | (with_reducible refine AW_seq_k ?_; intro K hK)
            | ((first | ((with_reducible first | refine AW_region tabOK { base := 0, own := [] } ?hsz ?_ | refine AW_draw tabOK mix { base := 0, own := [] } ?hsz (by decide +kernel) ?_ | refine AW_drawS tabOK mix { base := 0, own := [] } [4] ?hsz (by decide +kernel) ?_); (case hsz => rw [hXs]; rfl)) | (with_reducible first | refine AW_skip ?_ | refine AW_ret ?_ | refine AW_exit ?_ | refine AW_label ?_) | refine pureK_intro (rwithin_ok _ _ _) ?_); try simp (disch := omega) only [h1, h5, h6, hx, cRun, cRow,go_sem, simprocAttr])
            | (with_reducible first | refine AW_scope ?_ | refine AW_blockS ?_ | refine AW_blockR ?_ | refine AW_blockC ?_)
            | ((with_reducible refine AW_condE ?_); refine ⟨_, (by first | rfl | (simp only [h1, h5, h6, hx, cRun, cRow,go_sem, simprocAttr]; rfl)), ?_, ?_⟩ <;> intro hc <;> (try simp only [go_sem, simprocAttr] at hc) <;> (try (exfalso; omega)))
            | ((with_reducible first | refine grdS_split ?_ ?_ | refine lkG_split ?_ ?_) <;> intro hg <;> (try simp (disch := omega) only [hg, h1, h5, h6, hx, cRun, cRow,go_sem, simprocAttr]) <;> (try simp only [go_sem, simprocAttr] at hg) <;> (try (exfalso; omega)))
            | (with_reducible refine FnP_endE (by simp) ?_; refine ⟨_, (by simp only [Try.f51, h1, h5, h6, hx, cRun, cRow,go_sem, simprocAttr]; rfl), ?_⟩; first | rfl | (try simp only [h1, h5, h6, hx, cRun, cRow,go_sem, simprocAttr, Val.bool.injEq, Val.int.injEq, Val.tup.injEq, Val.agg.injEq, List.cons.injEq]))
            | with_reducible intro (ep : Nat → Nat)
            | with_reducible apply_assumption -exfalso -symm only [*])
          refine ⟨r.rows.length - (k + 1), by omega, k + 1, rfl, by omega, rfl, ?_⟩
          rw [hr, hro]; simp
      · repeat' (first
          | (with_reducible refine AW_seq_k ?_; intro K hK)
          | ((first | ((with_reducible first | refine AW_region tabOK { base := 0, own := [] } ?hsz ?_ | refine AW_draw tabOK mix { base := 0, own := [] } ?hsz (by decide +kernel) ?_ | refine AW_drawS tabOK mix { base := 0, own := [] } [4] ?hsz (by decide +kernel) ?_); (case hsz => rw [hXs]; rfl)) | (with_reducible first | refine AW_skip ?_ | refine AW_ret ?_ | refine AW_exit ?_ | refine AW_label ?_)); try simp (disch := omega) only [h1, h5, cRun,go_sem, simprocAttr])
          | (with_reducible first | refine AW_scope ?_ | refine AW_blockS ?_ | refine AW_blockR ?_ | refine AW_blockC ?_)
          | ((with_reducible refine AW_condE ?_); refine ⟨_, (by first | rfl | (simp only [h1, h5, cRun,go_sem, simprocAttr]; rfl)), ?_, ?_⟩ <;> intro hc <;> (try simp only [go_sem, simprocAttr] at hc) <;> (try (exfalso; omega)))
          | ((with_reducible first | refine grdS_split ?_ ?_ | refine lkG_split ?_ ?_) <;> intro hg <;> (try simp (disch := omega) only [hg, h1, h5, cRun,go_sem, simprocAttr]) <;> (try simp only [go_sem, simprocAttr] at hg) <;> (try (exfalso; omega)))
          | (with_reducible refine FnP_endE (by simp) ?_; refine ⟨_, (by simp only [Try.f51, h1, h5, cRun,go_sem, simprocAttr]; rfl), ?_⟩; first | rfl | (try simp only [h1, h5, cRun,go_sem, simprocAttr, Val.bool.injEq, Val.int.injEq, Val.tup.injEq, Val.agg.injEq, List.cons.injEq]))
          | with_reducible intro (ep : Nat → Nat)
          | with_reducible apply_assumption -exfalso -symm only [*])
        rw [hR, hr, drop_none (by omega)]; rfl
  · simp only [Bool.not_eq_true] at hcv
    repeat' (first
      | (with_reducible refine AW_seq_k ?_; intro K hK)
      | ((first | ((with_reducible first | refine AW_region tabOK { base := 0, own := [] } ?hsz ?_ | refine AW_draw tabOK mix { base := 0, own := [] } ?hsz (by decide +kernel) ?_ | refine AW_drawS tabOK mix { base := 0, own := [] } [4] ?hsz (by decide +kernel) ?_); (case hsz => rw [hXs]; rfl)) | (with_reducible first | refine AW_skip ?_ | refine AW_ret ?_ | refine AW_exit ?_ | refine AW_label ?_) | refine pureK_intro (rwithin_ok _ _ _) ?_ | refine pureK_intro (rcurve_ok r.curve hb.curve) ?_ | refine pureK_intro (rspanned_ok r.gauge _ _) ?_); try simp (disch := omega) only [hcv, encRun, cRun,go_sem, simprocAttr])
      | (with_reducible first | refine AW_scope ?_ | refine AW_blockS ?_ | refine AW_blockR ?_ | refine AW_blockC ?_)
      | ((with_reducible refine AW_condE ?_); refine ⟨_, (by first | rfl | (simp only [hcv, encRun, cRun,go_sem, simprocAttr]; rfl)), ?_, ?_⟩ <;> intro hc <;> (try simp only [go_sem, simprocAttr] at hc) <;> (try (exfalso; omega)))
      | ((with_reducible first | refine grdS_split ?_ ?_ | refine lkG_split ?_ ?_) <;> intro hg <;> (try simp (disch := omega) only [hg, hcv, encRun, cRun,go_sem, simprocAttr]) <;> (try simp only [go_sem, simprocAttr] at hg) <;> (try (exfalso; omega)))
      | (with_reducible refine FnP_endE (by simp) ?_; refine ⟨_, (by simp only [Try.f51, hcv, encRun, cRun,go_sem, simprocAttr]; rfl), ?_⟩; first | rfl | (try simp only [hcv, encRun, cRun,go_sem, simprocAttr, Val.bool.injEq, Val.int.injEq, Val.tup.injEq, Val.agg.injEq, List.cons.injEq]))
      | with_reducible intro (ep : Nat → Nat)
      | with_reducible apply_assumption -exfalso -symm only [*])
    all_goals rw [runOK_curve hcv]
end Cp

