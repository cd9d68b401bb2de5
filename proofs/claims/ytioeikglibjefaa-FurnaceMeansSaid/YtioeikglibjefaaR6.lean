/- What functions of the furnace and of its reference compute (R6). Conditions: none. -/
import Derived.Test.YtioeikglibjefaaR5
import Derived.Test.YtioeikglibjefaaS3
set_option linter.unusedSimpArgs false
set_option linter.unusedVariables false
namespace Cp
open Go Go.Proofs
set_option maxRecDepth 10000

theorem ran_ok (r : RunT) (hb : RunB r) : PureC Try.prog 49 [encRun r] (.bool (runOK r)) := by
  refine PureC_of (fn := Try.f49) tabOK (by kernel_rfl) rfl (by kernel_rfl) (by simp [Try.f49]) (by simp [noids, noid, noidss, go_sem, encRun, cRun]) (by first | rfl | simp [noids, noid, noidss, go_sem, encRun, cRun]) ?_
  intro X hX0 hXs
  by_cases hcv : curveOK r.curve = true
  · have hF := curve_facts hcv
    have hlen := hF.len
    obtain ⟨z, hz⟩ : ∃ z, r.curve[r.curve.length - 1]? = some z := ⟨_, List.getElem?_eq_getElem (by have := hF.len; omega)⟩
    have hzm := lastM_get hz
    have e1 : ((r.curve.length : Int) - 1) = ((r.curve.length - 1 : Nat) : Int) := by have := hF.len; omega
    repeat' (first
      | (with_reducible refine AW_seq_k ?_; intro K hK)
      | ((first | ((with_reducible first | refine AW_region tabOK { base := 0, own := [] } ?hsz ?_ | refine AW_draw tabOK mix { base := 0, own := [] } ?hsz (by decide +kernel) ?_ | refine AW_drawS tabOK mix { base := 0, own := [] } [5, 8] ?hsz (by decide +kernel) ?_); (case hsz => rw [hXs]; rfl)) | (with_reducible first | refine AW_skip ?_ | refine AW_ret ?_ | refine AW_exit ?_ | refine AW_label ?_) | refine pureK_intro (in_1 _ _ _) ?_ | refine pureK_intro (curved_ok r.curve hb.curve) ?_ | refine pureK_intro (ordered_ok r.gauge _ _) ?_); try simp (disch := omega) only [hcv, hz, e1, encRun, cRun, cPt,go_sem, simprocAttr])
      | (with_reducible first | refine AW_scope ?_ | refine AW_blockS ?_ | refine AW_blockR ?_ | refine AW_blockC ?_)
      | ((with_reducible refine AW_condE ?_); refine ⟨_, (by first | rfl | (simp only [hcv, hz, e1, encRun, cRun, cPt,go_sem, simprocAttr]; rfl)), ?_, ?_⟩ <;> intro hc <;> (try simp only [go_sem, simprocAttr] at hc) <;> (try (exfalso; omega)))
      | ((with_reducible first | refine grdS_split ?_ ?_ | refine lkG_split ?_ ?_) <;> intro hg <;> (try simp (disch := omega) only [hg, hcv, hz, e1, encRun, cRun, cPt,go_sem, simprocAttr]) <;> (try simp only [go_sem, simprocAttr] at hg) <;> (try (exfalso; omega)))
      | (with_reducible refine FnP_endE (by simp) ?_; refine ⟨_, (by simp only [Try.f49, hcv, hz, e1, encRun, cRun, cPt,go_sem, simprocAttr]; rfl), ?_⟩; first | rfl | (try simp only [hcv, hz, e1, encRun, cRun, cPt,go_sem, simprocAttr, Val.bool.injEq, Val.int.injEq, Val.tup.injEq, Val.agg.injEq, List.cons.injEq]))
      | with_reducible intro (ep : Nat → Nat)
      | with_reducible apply_assumption -exfalso -symm only [*])
    iterate 4 (rw [runOK_head]; simp only [headOK, decide_eq_false_iff_not]; omega)
    have hh : headOK r = true := by simp only [headOK, decide_eq_true_eq]; omega
    have hR := runOK_eq hcv hh
    refine AW_range tabOK r.cpls.length (fun k f H => f 1 = .pim (cRun r) ∧ f 53 = .lst 6 (r.cpls.map cCpl) ∧ ∃ last, f 3 = .int .i64 last ∧ -1 ≤ last ∧ last ≤ 9999 ∧ cplsFrom (-1) r.cpls = cplsFrom last (r.cpls.drop k)) hb.cpls (by rw [hXs]; decide) (by decide) (by simp only [go_sem, simprocAttr]) (by simp only [go_sem, simprocAttr])
      ⟨by simp only [go_sem, simprocAttr, cRun], by simp only [go_sem, simprocAttr], -1, by simp only [go_sem, simprocAttr], by omega, by omega, by simp⟩ ?_ ?_
    · rintro k f H hk h55 h54 ⟨h1, h53, last, h3, hl1, hl2, hr⟩
      obtain ⟨x, hx⟩ : ∃ x, r.cpls[k]? = some x := ⟨_, List.getElem?_eq_getElem hk⟩
      rw [drop_cons hx] at hr
      simp only [cplsFrom] at hr
      refine AW_keep [] ?_
      repeat' (first
        | (with_reducible refine AW_seq_k ?_; intro K hK)
        | ((first | ((with_reducible first | refine AW_region tabOK { base := 0, own := [] } ?hsz ?_ | refine AW_draw tabOK mix { base := 0, own := [] } ?hsz (by decide +kernel) ?_ | refine AW_drawS tabOK mix { base := 0, own := [] } [5, 8] ?hsz (by decide +kernel) ?_); (case hsz => rw [hXs]; rfl)) | (with_reducible first | refine AW_skip ?_ | refine AW_ret ?_ | refine AW_exit ?_ | refine AW_label ?_) | refine pureK_intro (in_1 _ _ _) ?_ | refine pureK_intro (ordered_ok x.err _ _) ?_ | refine pureK_intro (ordered_ok x.lag _ _) ?_); try simp (disch := omega) only [h1, h3, h53, h54, h55, hx, cRun, cCpl,go_sem, simprocAttr])
        | (with_reducible first | refine AW_scope ?_ | refine AW_blockS ?_ | refine AW_blockR ?_ | refine AW_blockC ?_)
        | ((with_reducible refine AW_condE ?_); refine ⟨_, (by first | rfl | (simp only [h1, h3, h53, h54, h55, hx, cRun, cCpl,go_sem, simprocAttr]; rfl)), ?_, ?_⟩ <;> intro hc <;> (try simp only [go_sem, simprocAttr] at hc) <;> (try (exfalso; omega)))
        | ((with_reducible first | refine grdS_split ?_ ?_ | refine lkG_split ?_ ?_) <;> intro hg <;> (try simp (disch := omega) only [hg, h1, h3, h53, h54, h55, hx, cRun, cCpl,go_sem, simprocAttr]) <;> (try simp only [go_sem, simprocAttr] at hg) <;> (try (exfalso; omega)))
        | (with_reducible refine FnP_endE (by simp) ?_; refine ⟨_, (by simp only [Try.f49, h1, h3, h53, h54, h55, hx, cRun, cCpl,go_sem, simprocAttr]; rfl), ?_⟩; first | rfl | (try simp only [h1, h3, h53, h54, h55, hx, cRun, cCpl,go_sem, simprocAttr, Val.bool.injEq, Val.int.injEq, Val.tup.injEq, Val.agg.injEq, List.cons.injEq]))
        | with_reducible intro (ep : Nat → Nat)
        | with_reducible apply_assumption -exfalso -symm only [*])
      iterate 4 (have : cplOK last x = false := by (simp only [cplOK, decide_eq_false_iff_not]; omega)
                 rw [hR, hr, this]; simp)
      have : cplOK last x = true := by simp only [cplOK, decide_eq_true_eq]; omega
      refine ⟨x.id, rfl, by omega, by omega, ?_⟩
      rw [hr, this]; simp
    · rintro f H h55 h54 ⟨h1, h53, last, h3, hl1, hl2, hr⟩
      have hcp : cplsFrom (-1) r.cpls = true := by rw [hr, drop_none (Nat.le_refl _)]; rfl
      simp only [hcp, Bool.true_and] at hR
      repeat' (first
        | (with_reducible refine AW_seq_k ?_; intro K hK)
        | ((first | ((with_reducible first | refine AW_region tabOK { base := 0, own := [] } ?hsz ?_ | refine AW_draw tabOK mix { base := 0, own := [] } ?hsz (by decide +kernel) ?_ | refine AW_drawS tabOK mix { base := 0, own := [] } [5, 8] ?hsz (by decide +kernel) ?_); (case hsz => rw [hXs]; rfl)) | (with_reducible first | refine AW_skip ?_ | refine AW_ret ?_ | refine AW_exit ?_ | refine AW_label ?_)); try simp (disch := omega) only [h1, cRun,go_sem, simprocAttr])
        | (with_reducible first | refine AW_scope ?_ | refine AW_blockS ?_ | refine AW_blockR ?_ | refine AW_blockC ?_)
        | ((with_reducible refine AW_condE ?_); refine ⟨_, (by first | rfl | (simp only [h1, cRun,go_sem, simprocAttr]; rfl)), ?_, ?_⟩ <;> intro hc <;> (try simp only [go_sem, simprocAttr] at hc) <;> (try (exfalso; omega)))
        | ((with_reducible first | refine grdS_split ?_ ?_ | refine lkG_split ?_ ?_) <;> intro hg <;> (try simp (disch := omega) only [hg, h1, cRun,go_sem, simprocAttr]) <;> (try simp only [go_sem, simprocAttr] at hg) <;> (try (exfalso; omega)))
        | (with_reducible refine FnP_endE (by simp) ?_; refine ⟨_, (by simp only [Try.f49, h1, cRun,go_sem, simprocAttr]; rfl), ?_⟩; first | rfl | (try simp only [h1, cRun,go_sem, simprocAttr, Val.bool.injEq, Val.int.injEq, Val.tup.injEq, Val.agg.injEq, List.cons.injEq]))
        | with_reducible intro (ep : Nat → Nat)
        | with_reducible apply_assumption -exfalso -symm only [*])
      refine AW_range tabOK r.rows.length (fun k f H => f 1 = .pim (cRun r) ∧ f 89 = .lst 2 (r.rows.map cRow) ∧ f 6 = .bool true ∧ r.rows.all (rowOK r.cpls.length) = (r.rows.drop k).all (rowOK r.cpls.length)) hb.rows (by rw [hXs]; decide) (by decide) (by simp only [go_sem, simprocAttr]) (by simp only [go_sem, simprocAttr])
        ⟨by simp only [go_sem, simprocAttr, h1], by simp only [go_sem, simprocAttr], by simp only [go_sem, simprocAttr], by simp⟩ ?_ ?_
      · rintro k f H hk h91 h90 ⟨h1, h89, h6, hr⟩
        obtain ⟨x, hx⟩ : ∃ x, r.rows[k]? = some x := ⟨_, List.getElem?_eq_getElem hk⟩
        rw [drop_cons hx] at hr
        simp only [List.all_cons] at hr
        refine AW_keep [] ?_
        repeat' (first
          | (with_reducible refine AW_seq_k ?_; intro K hK)
          | ((first | ((with_reducible first | refine AW_region tabOK { base := 0, own := [] } ?hsz ?_ | refine AW_draw tabOK mix { base := 0, own := [] } ?hsz (by decide +kernel) ?_ | refine AW_drawS tabOK mix { base := 0, own := [] } [5, 8] ?hsz (by decide +kernel) ?_); (case hsz => rw [hXs]; rfl)) | (with_reducible first | refine AW_skip ?_ | refine AW_ret ?_ | refine AW_exit ?_ | refine AW_label ?_) | refine pureK_intro (in_1 _ _ _) ?_ | refine pureK_intro (in_ok x.deg (hb.degs x (List.mem_of_getElem? hx)) _ _) ?_); try simp (disch := omega) only [h1, h89, h6, h90, h91, hx, cRun, cRow,go_sem, simprocAttr])
          | (with_reducible first | refine AW_scope ?_ | refine AW_blockS ?_ | refine AW_blockR ?_ | refine AW_blockC ?_)
          | ((with_reducible refine AW_condE ?_); refine ⟨_, (by first | rfl | (simp only [h1, h89, h6, h90, h91, hx, cRun, cRow,go_sem, simprocAttr]; rfl)), ?_, ?_⟩ <;> intro hc <;> (try simp only [go_sem, simprocAttr] at hc) <;> (try (exfalso; omega)))
          | ((with_reducible first | refine grdS_split ?_ ?_ | refine lkG_split ?_ ?_) <;> intro hg <;> (try simp (disch := omega) only [hg, h1, h89, h6, h90, h91, hx, cRun, cRow,go_sem, simprocAttr]) <;> (try simp only [go_sem, simprocAttr] at hg) <;> (try (exfalso; omega)))
          | (with_reducible refine FnP_endE (by simp) ?_; refine ⟨_, (by simp only [Try.f49, h1, h89, h6, h90, h91, hx, cRun, cRow,go_sem, simprocAttr]; rfl), ?_⟩; first | rfl | (try simp only [h1, h89, h6, h90, h91, hx, cRun, cRow,go_sem, simprocAttr, Val.bool.injEq, Val.int.injEq, Val.tup.injEq, Val.agg.injEq, List.cons.injEq]))
          | with_reducible intro (ep : Nat → Nat)
          | with_reducible apply_assumption -exfalso -symm only [*])
        · have : rowOK r.cpls.length x = false := by simp [rowOK]; intro h; omega
          rw [hR, hr, this]; simp
        · have : rowOK r.cpls.length x = false := by simp [rowOK]; intro h; omega
          rw [hR, hr, this]; simp
        · have : rowOK r.cpls.length x = false := by simp only [rowOK, degsOK, hc, Bool.and_false]
          rw [hR, hr, this]; simp
        · have : rowOK r.cpls.length x = true := by simp only [rowOK, degsOK, hc, Bool.and_true, decide_eq_true_eq]; omega
          rw [hr, this]; simp
      · rintro f H h91 h90 ⟨h1, h89, h6, hr⟩
        repeat' (first
          | (with_reducible refine AW_seq_k ?_; intro K hK)
          | ((first | ((with_reducible first | refine AW_region tabOK { base := 0, own := [] } ?hsz ?_ | refine AW_draw tabOK mix { base := 0, own := [] } ?hsz (by decide +kernel) ?_ | refine AW_drawS tabOK mix { base := 0, own := [] } [5, 8] ?hsz (by decide +kernel) ?_); (case hsz => rw [hXs]; rfl)) | (with_reducible first | refine AW_skip ?_ | refine AW_ret ?_ | refine AW_exit ?_ | refine AW_label ?_)); try simp (disch := omega) only [h6,go_sem, simprocAttr])
          | (with_reducible first | refine AW_scope ?_ | refine AW_blockS ?_ | refine AW_blockR ?_ | refine AW_blockC ?_)
          | ((with_reducible refine AW_condE ?_); refine ⟨_, (by first | rfl | (simp only [h6,go_sem, simprocAttr]; rfl)), ?_, ?_⟩ <;> intro hc <;> (try simp only [go_sem, simprocAttr] at hc) <;> (try (exfalso; omega)))
          | ((with_reducible first | refine grdS_split ?_ ?_ | refine lkG_split ?_ ?_) <;> intro hg <;> (try simp (disch := omega) only [hg, h6,go_sem, simprocAttr]) <;> (try simp only [go_sem, simprocAttr] at hg) <;> (try (exfalso; omega)))
          | (with_reducible refine FnP_endE (by simp) ?_; refine ⟨_, (by simp only [Try.f49, h6,go_sem, simprocAttr]; rfl), ?_⟩; first | rfl | (try simp only [h6,go_sem, simprocAttr, Val.bool.injEq, Val.int.injEq, Val.tup.injEq, Val.agg.injEq, List.cons.injEq]))
          | with_reducible intro (ep : Nat → Nat)
          | with_reducible apply_assumption -exfalso -symm only [*])
        rw [hR, hr, drop_none (Nat.le_refl _)]; rfl
  · simp only [Bool.not_eq_true] at hcv
    repeat' (first
      | (with_reducible refine AW_seq_k ?_; intro K hK)
      | ((first | ((with_reducible first | refine AW_region tabOK { base := 0, own := [] } ?hsz ?_ | refine AW_draw tabOK mix { base := 0, own := [] } ?hsz (by decide +kernel) ?_ | refine AW_drawS tabOK mix { base := 0, own := [] } [5, 8] ?hsz (by decide +kernel) ?_); (case hsz => rw [hXs]; rfl)) | (with_reducible first | refine AW_skip ?_ | refine AW_ret ?_ | refine AW_exit ?_ | refine AW_label ?_) | refine pureK_intro (in_1 _ _ _) ?_ | refine pureK_intro (curved_ok r.curve hb.curve) ?_ | refine pureK_intro (ordered_ok r.gauge _ _) ?_); try simp (disch := omega) only [hcv, encRun, cRun,go_sem, simprocAttr])
      | (with_reducible first | refine AW_scope ?_ | refine AW_blockS ?_ | refine AW_blockR ?_ | refine AW_blockC ?_)
      | ((with_reducible refine AW_condE ?_); refine ⟨_, (by first | rfl | (simp only [hcv, encRun, cRun,go_sem, simprocAttr]; rfl)), ?_, ?_⟩ <;> intro hc <;> (try simp only [go_sem, simprocAttr] at hc) <;> (try (exfalso; omega)))
      | ((with_reducible first | refine grdS_split ?_ ?_ | refine lkG_split ?_ ?_) <;> intro hg <;> (try simp (disch := omega) only [hg, hcv, encRun, cRun,go_sem, simprocAttr]) <;> (try simp only [go_sem, simprocAttr] at hg) <;> (try (exfalso; omega)))
      | (with_reducible refine FnP_endE (by simp) ?_; refine ⟨_, (by simp only [Try.f49, hcv, encRun, cRun,go_sem, simprocAttr]; rfl), ?_⟩; first | rfl | (try simp only [hcv, encRun, cRun,go_sem, simprocAttr, Val.bool.injEq, Val.int.injEq, Val.tup.injEq, Val.agg.injEq, List.cons.injEq]))
      | with_reducible intro (ep : Nat → Nat)
      | with_reducible apply_assumption -exfalso -symm only [*])
    all_goals rw [runOK_curve hcv]
end Cp

