/- What functions of the furnace and of its reference compute (R15). Conditions: none. -/
import Derived.Test.YtioeikglibjefaaR14
import Derived.Test.YtioeikglibjefaaS6
set_option linter.unusedSimpArgs false
set_option linter.unusedVariables false
namespace Cp
open Go Go.Proofs
set_option maxRecDepth 10000

@[go_sem] theorem xfind_tl {i : Int} {l : List (Int × Val)} : xfind tab 3 (.int .i64 i) (imap .i64 l) 0 = some (findI i l 0) := xfind_imap tab_3 _ _

/-- A pointer to cells, one's own or no one's. -/
def Ptw (H : Hp) (fp : Val) (cs : List Val) : Prop := fp = .pim cs ∨ ∃ k e n, fp = .ptr k e n 0 0 ∧ H k = some (e, .arr n [cs]) ∧ k < 2000


theorem working_ok (r : RunT) (hF : RunF r) (rest : List Val) (H0 : Hp) (fp : Val) (hp : Ptw H0 fp (cRun r ++ rest)) (m : Int) :
    ACall Try.prog 73 [fp, .int .i64 m] H0 (fun v H' => ∃ e ver, v = .map 2009 e ∧ H' 2009 = some (e, .map ver (imap .i64 (tl (wk r m)))) ∧ ∀ k, k < 2000 → H' k = H0 k) := by
  refine ACall_of (fn := Try.f73) tabOK (by kernel_rfl) rfl (by kernel_rfl) (by simp [Try.f73]) ?_
  intro X hX0 hXs
  have hcl := hF.cpls
  refine AW_lose 2008 fun H1 g8 hs1 => ?_
  refine AW_lose 2009 fun H2 g9 hs2 => ?_
  have g8' : H2 2008 = none := by rw [hs2 _ (by decide), g8]
  have hlow : ∀ j, j < 2000 → H2 j = H0 j := fun j hj => by rw [hs2 _ (by omega), hs1 _ (by omega)]
  clear g8 hs1 hs2
  have hp' := hp
  rcases hp' with hfp | ⟨k, e, n, hfp, hk, hk2⟩
  · repeat' (first
      | ((fail_if_success (with_reducible refine AW_at (id := 3) ?_)); with_reducible refine AW_seq_k ?_; intro K hK)
      | ((first | ((with_reducible first | refine AW_region tabOK { base := 2000, own := [8, 9] } ?hsz ?_ | refine AW_draw tabOK mix { base := 2000, own := [8, 9] } ?hsz (by decide +kernel) ?_ | refine AW_drawS tabOK mix { base := 2000, own := [8, 9] } [8] ?hsz (by decide +kernel) ?_); (case hsz => rw [hXs]; rfl)) | (with_reducible first | refine AW_skip ?_ | refine AW_ret ?_ | refine AW_exit ?_ | refine AW_label ?_)); try simp (disch := omega) only [hfp, cRun, g9, g8',go_sem, simprocAttr])
      | (with_reducible first | refine AW_scope ?_ | refine AW_blockS ?_ | refine AW_blockR ?_ | refine AW_blockC ?_)
      | ((with_reducible refine AW_condE ?_); refine ⟨_, (by first | rfl | (simp only [hfp, cRun, g9, g8',go_sem, simprocAttr]; rfl)), ?_, ?_⟩ <;> intro hc <;> (try simp only [go_sem, simprocAttr] at hc) <;> (try (exfalso; omega)))
      | ((with_reducible first | refine grdS_split ?_ ?_ | refine lkG_split ?_ ?_) <;> intro hg <;> (try simp (disch := omega) only [hg, hfp, cRun, g9, g8',go_sem, simprocAttr]) <;> (try simp only [go_sem, simprocAttr] at hg) <;> (try (exfalso; omega)))
      | (with_reducible refine FnP_endE (by simp) ?_; refine ⟨_, (by simp only [Try.f73, hfp, cRun, g9, g8',go_sem, simprocAttr]; rfl), ?_⟩; first | rfl | (try simp only [hfp, cRun, g9, g8',go_sem, simprocAttr, Val.bool.injEq, Val.int.injEq, Val.tup.injEq, Val.agg.injEq, List.cons.injEq]))
      | with_reducible intro (ep : Nat → Nat)
      | with_reducible apply_assumption -exfalso -symm only [*])
    refine AW_range tabOK r.cpls.length (fun k f H => f 0 = fp ∧ f 1 = .int .i64 m ∧ (∀ j, j < 2000 → H j = H0 j) ∧ H 2008 = none ∧ ∃ e, f 5 = .map 2009 e ∧ ∃ ver, H 2009 = some (e, .map ver (imap .i64 (tl (List.range k))))) (by omega) (by rw [hXs]; decide) (by decide) (by (first | rfl | (simp only [go_sem, simprocAttr]; done) | (simp only [go_sem, simprocAttr]; rfl))) (by (first | rfl | (simp only [cRun, go_sem, simprocAttr]; done) | (simp only [cRun, go_sem, simprocAttr]; rfl)))
      ⟨by (first | rfl | (simp only [hfp, go_sem, simprocAttr]; done) | (simp only [hfp, go_sem, simprocAttr]; rfl)), by (first | rfl | (simp only [go_sem, simprocAttr]; done) | (simp only [go_sem, simprocAttr]; rfl)), fun j hj => by simp only [go_sem, simprocAttr]; rw [if_neg (by omega)]; exact hlow j hj, by (first | rfl | (simp only [g8', go_sem, simprocAttr]; done) | (simp only [g8', go_sem, simprocAttr]; rfl)), _, by (first | rfl | (simp only [go_sem, simprocAttr]; done) | (simp only [go_sem, simprocAttr]; rfl)), _, by (first | rfl | (simp only [go_sem, simprocAttr]; done) | (simp only [go_sem, simprocAttr]; rfl))⟩ ?_ ?_
    · rintro k f H hk h16 h15 ⟨h0, h1, hlow, g8, e, h5, ver, hH9⟩
      have hnew : findI (k : Int) (tl (List.range k)) 0 = none := find_new (by simp)
      repeat' (first
        | (with_reducible refine AW_seq_k ?_; intro K hK)
        | ((first | ((with_reducible first | refine AW_region tabOK { base := 2000, own := [8, 9] } ?hsz ?_ | refine AW_draw tabOK mix { base := 2000, own := [8, 9] } ?hsz (by decide +kernel) ?_ | refine AW_drawS tabOK mix { base := 2000, own := [8, 9] } [8] ?hsz (by decide +kernel) ?_); (case hsz => rw [hXs]; rfl)) | (with_reducible first | refine AW_skip ?_ | refine AW_ret ?_ | refine AW_exit ?_ | refine AW_label ?_)); try simp (disch := omega) only [h0, h1, h5, h15, h16, hH9, g8, hnew,go_sem, simprocAttr])
        | (with_reducible first | refine AW_scope ?_ | refine AW_blockS ?_ | refine AW_blockR ?_ | refine AW_blockC ?_)
        | ((with_reducible refine AW_condE ?_); refine ⟨_, (by first | rfl | (simp only [h0, h1, h5, h15, h16, hH9, g8, hnew,go_sem, simprocAttr]; rfl)), ?_, ?_⟩ <;> intro hc <;> (try simp only [go_sem, simprocAttr] at hc) <;> (try (exfalso; omega)))
        | ((with_reducible first | refine grdS_split ?_ ?_ | refine lkG_split ?_ ?_) <;> intro hg <;> (try simp (disch := omega) only [hg, h0, h1, h5, h15, h16, hH9, g8, hnew,go_sem, simprocAttr]) <;> (try simp only [go_sem, simprocAttr] at hg) <;> (try (exfalso; omega)))
        | (with_reducible refine FnP_endE (by simp) ?_; refine ⟨_, (by simp only [Try.f73, h0, h1, h5, h15, h16, hH9, g8, hnew,go_sem, simprocAttr]; rfl), ?_⟩; first | rfl | (try simp only [h0, h1, h5, h15, h16, hH9, g8, hnew,go_sem, simprocAttr, Val.bool.injEq, Val.int.injEq, Val.tup.injEq, Val.agg.injEq, List.cons.injEq]))
        | with_reducible intro (ep : Nat → Nat)
        | with_reducible apply_assumption -exfalso -symm only [*])
      exact ⟨fun j hj => by rw [if_neg (by omega)]; exact hlow j hj, e, rfl, _, by rw [imap_snoc, tl_snoc]⟩
    · rintro f H h16 h15 ⟨h0, h1, hlow, g8, e, h5, ver, hH9⟩
      rcases hp with hfp | ⟨k, e0, n, hfp, hk, hk2⟩
      · have hkk : True := trivial
        repeat' (first
          | ((fail_if_success (with_reducible refine AW_at (id := 8) ?_)); with_reducible refine AW_seq_k ?_; intro K hK)
          | ((first | ((with_reducible first | refine AW_region tabOK { base := 2000, own := [8, 9] } ?hsz ?_ | refine AW_draw tabOK mix { base := 2000, own := [8, 9] } ?hsz (by decide +kernel) ?_ | refine AW_drawS tabOK mix { base := 2000, own := [8, 9] } [8] ?hsz (by decide +kernel) ?_); (case hsz => rw [hXs]; rfl)) | (with_reducible first | refine AW_skip ?_ | refine AW_ret ?_ | refine AW_exit ?_ | refine AW_label ?_)); try simp (disch := omega) only [h0, h1, h5, hH9, g8, hfp, cRun,go_sem, simprocAttr])
          | (with_reducible first | refine AW_scope ?_ | refine AW_blockS ?_ | refine AW_blockR ?_ | refine AW_blockC ?_)
          | ((with_reducible refine AW_condE ?_); refine ⟨_, (by first | rfl | (simp only [h0, h1, h5, hH9, g8, hfp, cRun,go_sem, simprocAttr]; rfl)), ?_, ?_⟩ <;> intro hc <;> (try simp only [go_sem, simprocAttr] at hc) <;> (try (exfalso; omega)))
          | ((with_reducible first | refine grdS_split ?_ ?_ | refine lkG_split ?_ ?_) <;> intro hg <;> (try simp (disch := omega) only [hg, h0, h1, h5, hH9, g8, hfp, cRun,go_sem, simprocAttr]) <;> (try simp only [go_sem, simprocAttr] at hg) <;> (try (exfalso; omega)))
          | (with_reducible refine FnP_endE (by simp) ?_; refine ⟨_, (by simp only [Try.f73, h0, h1, h5, hH9, g8, hfp, cRun,go_sem, simprocAttr]; rfl), ?_⟩; first | rfl | (try simp only [h0, h1, h5, hH9, g8, hfp, cRun,go_sem, simprocAttr, Val.bool.injEq, Val.int.injEq, Val.tup.injEq, Val.agg.injEq, List.cons.injEq]))
          | with_reducible intro (ep : Nat → Nat)
          | with_reducible apply_assumption -exfalso -symm only [*])
        refine AW_range tabOK r.cpls.length (fun k f H => f 1 = .int .i64 m ∧ f 26 = .lst 6 (r.cpls.map cCpl) ∧ (∀ j, j < 2000 → H j = H0 j) ∧ ∃ e, f 5 = .map 2009 e ∧ ∃ ver, H 2009 = some (e, .map ver (imap .i64 (tl (wkTo r m k))))) (by omega) (by rw [hXs]; decide) (by decide) (by (first | rfl | (simp only [go_sem, simprocAttr]; done) | (simp only [go_sem, simprocAttr]; rfl))) (by (first | rfl | (simp only [cRun, go_sem, simprocAttr]; done) | (simp only [cRun, go_sem, simprocAttr]; rfl)))
          ⟨by (first | rfl | (simp only [h1, go_sem, simprocAttr]; done) | (simp only [h1, go_sem, simprocAttr]; rfl)), by (first | rfl | (simp only [hfp, hkk, cRun, go_sem, simprocAttr]; done) | (simp only [hfp, hkk, cRun, go_sem, simprocAttr]; rfl)), hlow, _, by (first | rfl | (simp only [h5, go_sem, simprocAttr]; done) | (simp only [h5, go_sem, simprocAttr]; rfl)), _, by simp only [wkTo_zero]; (first | rfl | (simp only [hH9, go_sem, simprocAttr]; done) | (simp only [hH9, go_sem, simprocAttr]; rfl))⟩ ?_ ?_
        · rintro k f H hk h28 h27 ⟨h1, h26, hlow, e, h5, ver, hH9⟩
          obtain ⟨x, hx⟩ : ∃ x, r.cpls[k]? = some x := ⟨_, List.getElem?_eq_getElem hk⟩
          refine AW_lose 2008 fun H1 g8 hs1 => ?_
          have hlow' : ∀ j, j < 2000 → H1 j = H0 j := fun j hj => by rw [hs1 _ (by omega), hlow _ hj]
          have hH9' : H1 2009 = some (e, .map ver (imap .i64 (tl (wkTo r m k)))) := by rw [hs1 _ (by decide), hH9]
          clear hs1 hlow hH9
          have hbk := (hF.cpl k x hx).2.2.2.1
          have hsp := wkTo_split (r := r) (m := m) hk
          have hw1 := @wkTo_stay r m k x hx
          have hw2 := @wkTo_gone r m k x hx
          have hnot := @wkTo_not r m k
          have hf := find_mid (l' := List.range' (k + 1) (r.cpls.length - (k + 1))) hnot
          rw [← hsp] at hf
          have he := @eraseI_mid k (wkFrom m 0 (r.cpls.take k)) (List.range' (k + 1) (r.cpls.length - (k + 1)))
          rw [← hsp] at he
          repeat' (first
            | (with_reducible refine AW_seq_k ?_; intro K hK)
            | ((first | ((with_reducible first | refine AW_region tabOK { base := 2000, own := [8, 9] } ?hsz ?_ | refine AW_draw tabOK mix { base := 2000, own := [8, 9] } ?hsz (by decide +kernel) ?_ | refine AW_drawS tabOK mix { base := 2000, own := [8, 9] } [8] ?hsz (by decide +kernel) ?_); (case hsz => rw [hXs]; rfl)) | (with_reducible first | refine AW_skip ?_ | refine AW_ret ?_ | refine AW_exit ?_ | refine AW_label ?_)); try simp (disch := omega) only [h1, h5, h26, h27, h28, hH9', g8, hx, hf, he, imap_erase, cCpl,go_sem, simprocAttr])
            | (with_reducible first | refine AW_scope ?_ | refine AW_blockS ?_ | refine AW_blockR ?_ | refine AW_blockC ?_)
            | ((with_reducible refine AW_condE ?_); refine ⟨_, (by first | rfl | (simp only [h1, h5, h26, h27, h28, hH9', g8, hx, hf, he, imap_erase, cCpl,go_sem, simprocAttr]; rfl)), ?_, ?_⟩ <;> intro hc <;> (try simp only [go_sem, simprocAttr] at hc) <;> (try (exfalso; omega)))
            | ((with_reducible first | refine grdS_split ?_ ?_ | refine lkG_split ?_ ?_) <;> intro hg <;> (try simp (disch := omega) only [hg, h1, h5, h26, h27, h28, hH9', g8, hx, hf, he, imap_erase, cCpl,go_sem, simprocAttr]) <;> (try simp only [go_sem, simprocAttr] at hg) <;> (try (exfalso; omega)))
            | (with_reducible refine FnP_endE (by simp) ?_; refine ⟨_, (by simp only [Try.f73, h1, h5, h26, h27, h28, hH9', g8, hx, hf, he, imap_erase, cCpl,go_sem, simprocAttr]; rfl), ?_⟩; first | rfl | (try simp only [h1, h5, h26, h27, h28, hH9', g8, hx, hf, he, imap_erase, cCpl,go_sem, simprocAttr, Val.bool.injEq, Val.int.injEq, Val.tup.injEq, Val.agg.injEq, List.cons.injEq]))
            | with_reducible intro (ep : Nat → Nat)
            | with_reducible apply_assumption -exfalso -symm only [*])
          · exact ⟨fun j hj => by (repeat rw [if_neg (by omega)]); exact hlow' j hj, e, rfl, _, by rw [hw2 (by simp only [works, decide_eq_false_iff_not]; omega)]⟩
          · exact ⟨fun j hj => by (repeat rw [if_neg (by omega)]); exact hlow' j hj, e, rfl, _, by rw [hw1 (by simp only [works, decide_eq_true_eq]; omega)]⟩
          · exact ⟨fun j hj => by (repeat rw [if_neg (by omega)]); exact hlow' j hj, e, rfl, _, by rw [hw1 (by simp only [works, decide_eq_true_eq]; omega)]⟩
        · rintro f H h28 h27 ⟨h1, h26, hlow, e, h5, ver, hH9⟩
          rw [wkTo_end] at hH9
          repeat' (first
            | (with_reducible refine AW_seq_k ?_; intro K hK)
            | ((first | ((with_reducible first | refine AW_region tabOK { base := 2000, own := [8, 9] } ?hsz ?_ | refine AW_draw tabOK mix { base := 2000, own := [8, 9] } ?hsz (by decide +kernel) ?_ | refine AW_drawS tabOK mix { base := 2000, own := [8, 9] } [8] ?hsz (by decide +kernel) ?_); (case hsz => rw [hXs]; rfl)) | (with_reducible first | refine AW_skip ?_ | refine AW_ret ?_ | refine AW_exit ?_ | refine AW_label ?_)); try simp (disch := omega) only [h1, h5, h26, h27, h28, hH9,go_sem, simprocAttr])
            | (with_reducible first | refine AW_scope ?_ | refine AW_blockS ?_ | refine AW_blockR ?_ | refine AW_blockC ?_)
            | ((with_reducible refine AW_condE ?_); refine ⟨_, (by first | rfl | (simp only [h1, h5, h26, h27, h28, hH9,go_sem, simprocAttr]; rfl)), ?_, ?_⟩ <;> intro hc <;> (try simp only [go_sem, simprocAttr] at hc) <;> (try (exfalso; omega)))
            | ((with_reducible first | refine grdS_split ?_ ?_ | refine lkG_split ?_ ?_) <;> intro hg <;> (try simp (disch := omega) only [hg, h1, h5, h26, h27, h28, hH9,go_sem, simprocAttr]) <;> (try simp only [go_sem, simprocAttr] at hg) <;> (try (exfalso; omega)))
            | with_reducible intro (ep : Nat → Nat)
            | with_reducible apply_assumption -exfalso -symm only [*])
          exact ⟨H, .map 2009 e, .refl H, (by (first | rfl | (simp only [Try.f73, go_sem, simprocAttr]; done) | (simp only [Try.f73, go_sem, simprocAttr]; rfl))), e, ver, by simp only [go_sem, simprocAttr], hH9, hlow⟩
      · have hkk : H k = some (e0, .arr n [cRun r ++ rest]) := by rw [hlow k hk2, hk]
        have k8 : ¬ k = 2008 := by omega
        have k9 : ¬ k = 2009 := by omega
        repeat' (first
          | ((fail_if_success (with_reducible refine AW_at (id := 8) ?_)); with_reducible refine AW_seq_k ?_; intro K hK)
          | ((first | ((with_reducible first | refine AW_region tabOK { base := 2000, own := [8, 9] } ?hsz ?_ | refine AW_draw tabOK mix { base := 2000, own := [8, 9] } ?hsz (by decide +kernel) ?_ | refine AW_drawS tabOK mix { base := 2000, own := [8, 9] } [8] ?hsz (by decide +kernel) ?_); (case hsz => rw [hXs]; rfl)) | (with_reducible first | refine AW_skip ?_ | refine AW_ret ?_ | refine AW_exit ?_ | refine AW_label ?_)); try simp (disch := omega) only [h0, h1, h5, hH9, g8, hfp, hkk, k8, k9, cRun,go_sem, simprocAttr])
          | (with_reducible first | refine AW_scope ?_ | refine AW_blockS ?_ | refine AW_blockR ?_ | refine AW_blockC ?_)
          | ((with_reducible refine AW_condE ?_); refine ⟨_, (by first | rfl | (simp only [h0, h1, h5, hH9, g8, hfp, hkk, k8, k9, cRun,go_sem, simprocAttr]; rfl)), ?_, ?_⟩ <;> intro hc <;> (try simp only [go_sem, simprocAttr] at hc) <;> (try (exfalso; omega)))
          | ((with_reducible first | refine grdS_split ?_ ?_ | refine lkG_split ?_ ?_) <;> intro hg <;> (try simp (disch := omega) only [hg, h0, h1, h5, hH9, g8, hfp, hkk, k8, k9, cRun,go_sem, simprocAttr]) <;> (try simp only [go_sem, simprocAttr] at hg) <;> (try (exfalso; omega)))
          | (with_reducible refine FnP_endE (by simp) ?_; refine ⟨_, (by simp only [Try.f73, h0, h1, h5, hH9, g8, hfp, hkk, k8, k9, cRun,go_sem, simprocAttr]; rfl), ?_⟩; first | rfl | (try simp only [h0, h1, h5, hH9, g8, hfp, hkk, k8, k9, cRun,go_sem, simprocAttr, Val.bool.injEq, Val.int.injEq, Val.tup.injEq, Val.agg.injEq, List.cons.injEq]))
          | with_reducible intro (ep : Nat → Nat)
          | with_reducible apply_assumption -exfalso -symm only [*])
        refine AW_range tabOK r.cpls.length (fun k f H => f 1 = .int .i64 m ∧ f 26 = .lst 6 (r.cpls.map cCpl) ∧ (∀ j, j < 2000 → H j = H0 j) ∧ ∃ e, f 5 = .map 2009 e ∧ ∃ ver, H 2009 = some (e, .map ver (imap .i64 (tl (wkTo r m k))))) (by omega) (by rw [hXs]; decide) (by decide) (by (first | rfl | (simp only [go_sem, simprocAttr]; done) | (simp only [go_sem, simprocAttr]; rfl))) (by (first | rfl | (simp only [cRun, go_sem, simprocAttr]; done) | (simp only [cRun, go_sem, simprocAttr]; rfl)))
          ⟨by (first | rfl | (simp only [h1, go_sem, simprocAttr]; done) | (simp only [h1, go_sem, simprocAttr]; rfl)), by (first | rfl | (simp only [hfp, hkk, cRun, go_sem, simprocAttr]; done) | (simp only [hfp, hkk, cRun, go_sem, simprocAttr]; rfl)), hlow, _, by (first | rfl | (simp only [h5, go_sem, simprocAttr]; done) | (simp only [h5, go_sem, simprocAttr]; rfl)), _, by simp only [wkTo_zero]; (first | rfl | (simp only [hH9, go_sem, simprocAttr]; done) | (simp only [hH9, go_sem, simprocAttr]; rfl))⟩ ?_ ?_
        · rintro k f H hk h28 h27 ⟨h1, h26, hlow, e, h5, ver, hH9⟩
          obtain ⟨x, hx⟩ : ∃ x, r.cpls[k]? = some x := ⟨_, List.getElem?_eq_getElem hk⟩
          refine AW_lose 2008 fun H1 g8 hs1 => ?_
          have hlow' : ∀ j, j < 2000 → H1 j = H0 j := fun j hj => by rw [hs1 _ (by omega), hlow _ hj]
          have hH9' : H1 2009 = some (e, .map ver (imap .i64 (tl (wkTo r m k)))) := by rw [hs1 _ (by decide), hH9]
          clear hs1 hlow hH9
          have hbk := (hF.cpl k x hx).2.2.2.1
          have hsp := wkTo_split (r := r) (m := m) hk
          have hw1 := @wkTo_stay r m k x hx
          have hw2 := @wkTo_gone r m k x hx
          have hnot := @wkTo_not r m k
          have hf := find_mid (l' := List.range' (k + 1) (r.cpls.length - (k + 1))) hnot
          rw [← hsp] at hf
          have he := @eraseI_mid k (wkFrom m 0 (r.cpls.take k)) (List.range' (k + 1) (r.cpls.length - (k + 1)))
          rw [← hsp] at he
          repeat' (first
            | (with_reducible refine AW_seq_k ?_; intro K hK)
            | ((first | ((with_reducible first | refine AW_region tabOK { base := 2000, own := [8, 9] } ?hsz ?_ | refine AW_draw tabOK mix { base := 2000, own := [8, 9] } ?hsz (by decide +kernel) ?_ | refine AW_drawS tabOK mix { base := 2000, own := [8, 9] } [8] ?hsz (by decide +kernel) ?_); (case hsz => rw [hXs]; rfl)) | (with_reducible first | refine AW_skip ?_ | refine AW_ret ?_ | refine AW_exit ?_ | refine AW_label ?_)); try simp (disch := omega) only [h1, h5, h26, h27, h28, hH9', g8, hx, hf, he, imap_erase, cCpl,go_sem, simprocAttr])
            | (with_reducible first | refine AW_scope ?_ | refine AW_blockS ?_ | refine AW_blockR ?_ | refine AW_blockC ?_)
            | ((with_reducible refine AW_condE ?_); refine ⟨_, (by first | rfl | (simp only [h1, h5, h26, h27, h28, hH9', g8, hx, hf, he, imap_erase, cCpl,go_sem, simprocAttr]; rfl)), ?_, ?_⟩ <;> intro hc <;> (try simp only [go_sem, simprocAttr] at hc) <;> (try (exfalso; omega)))
            | ((with_reducible first | refine grdS_split ?_ ?_ | refine lkG_split ?_ ?_) <;> intro hg <;> (try simp (disch := omega) only [hg, h1, h5, h26, h27, h28, hH9', g8, hx, hf, he, imap_erase, cCpl,go_sem, simprocAttr]) <;> (try simp only [go_sem, simprocAttr] at hg) <;> (try (exfalso; omega)))
            | (with_reducible refine FnP_endE (by simp) ?_; refine ⟨_, (by simp only [Try.f73, h1, h5, h26, h27, h28, hH9', g8, hx, hf, he, imap_erase, cCpl,go_sem, simprocAttr]; rfl), ?_⟩; first | rfl | (try simp only [h1, h5, h26, h27, h28, hH9', g8, hx, hf, he, imap_erase, cCpl,go_sem, simprocAttr, Val.bool.injEq, Val.int.injEq, Val.tup.injEq, Val.agg.injEq, List.cons.injEq]))
            | with_reducible intro (ep : Nat → Nat)
            | with_reducible apply_assumption -exfalso -symm only [*])
          · exact ⟨fun j hj => by (repeat rw [if_neg (by omega)]); exact hlow' j hj, e, rfl, _, by rw [hw2 (by simp only [works, decide_eq_false_iff_not]; omega)]⟩
          · exact ⟨fun j hj => by (repeat rw [if_neg (by omega)]); exact hlow' j hj, e, rfl, _, by rw [hw1 (by simp only [works, decide_eq_true_eq]; omega)]⟩
          · exact ⟨fun j hj => by (repeat rw [if_neg (by omega)]); exact hlow' j hj, e, rfl, _, by rw [hw1 (by simp only [works, decide_eq_true_eq]; omega)]⟩
        · rintro f H h28 h27 ⟨h1, h26, hlow, e, h5, ver, hH9⟩
          rw [wkTo_end] at hH9
          repeat' (first
            | (with_reducible refine AW_seq_k ?_; intro K hK)
            | ((first | ((with_reducible first | refine AW_region tabOK { base := 2000, own := [8, 9] } ?hsz ?_ | refine AW_draw tabOK mix { base := 2000, own := [8, 9] } ?hsz (by decide +kernel) ?_ | refine AW_drawS tabOK mix { base := 2000, own := [8, 9] } [8] ?hsz (by decide +kernel) ?_); (case hsz => rw [hXs]; rfl)) | (with_reducible first | refine AW_skip ?_ | refine AW_ret ?_ | refine AW_exit ?_ | refine AW_label ?_)); try simp (disch := omega) only [h1, h5, h26, h27, h28, hH9,go_sem, simprocAttr])
            | (with_reducible first | refine AW_scope ?_ | refine AW_blockS ?_ | refine AW_blockR ?_ | refine AW_blockC ?_)
            | ((with_reducible refine AW_condE ?_); refine ⟨_, (by first | rfl | (simp only [h1, h5, h26, h27, h28, hH9,go_sem, simprocAttr]; rfl)), ?_, ?_⟩ <;> intro hc <;> (try simp only [go_sem, simprocAttr] at hc) <;> (try (exfalso; omega)))
            | ((with_reducible first | refine grdS_split ?_ ?_ | refine lkG_split ?_ ?_) <;> intro hg <;> (try simp (disch := omega) only [hg, h1, h5, h26, h27, h28, hH9,go_sem, simprocAttr]) <;> (try simp only [go_sem, simprocAttr] at hg) <;> (try (exfalso; omega)))
            | with_reducible intro (ep : Nat → Nat)
            | with_reducible apply_assumption -exfalso -symm only [*])
          exact ⟨H, .map 2009 e, .refl H, (by (first | rfl | (simp only [Try.f73, go_sem, simprocAttr]; done) | (simp only [Try.f73, go_sem, simprocAttr]; rfl))), e, ver, by simp only [go_sem, simprocAttr], hH9, hlow⟩
  · have hk' : H2 k = some (e, .arr n [cRun r ++ rest]) := by rw [hlow k hk2, hk]
    have k8 : ¬ k = 2008 := by omega
    have k9 : ¬ k = 2009 := by omega
    repeat' (first
      | ((fail_if_success (with_reducible refine AW_at (id := 3) ?_)); with_reducible refine AW_seq_k ?_; intro K hK)
      | ((first | ((with_reducible first | refine AW_region tabOK { base := 2000, own := [8, 9] } ?hsz ?_ | refine AW_draw tabOK mix { base := 2000, own := [8, 9] } ?hsz (by decide +kernel) ?_ | refine AW_drawS tabOK mix { base := 2000, own := [8, 9] } [8] ?hsz (by decide +kernel) ?_); (case hsz => rw [hXs]; rfl)) | (with_reducible first | refine AW_skip ?_ | refine AW_ret ?_ | refine AW_exit ?_ | refine AW_label ?_)); try simp (disch := omega) only [hfp, cRun, hk', k8, k9, g9, g8',go_sem, simprocAttr])
      | (with_reducible first | refine AW_scope ?_ | refine AW_blockS ?_ | refine AW_blockR ?_ | refine AW_blockC ?_)
      | ((with_reducible refine AW_condE ?_); refine ⟨_, (by first | rfl | (simp only [hfp, cRun, hk', k8, k9, g9, g8',go_sem, simprocAttr]; rfl)), ?_, ?_⟩ <;> intro hc <;> (try simp only [go_sem, simprocAttr] at hc) <;> (try (exfalso; omega)))
      | ((with_reducible first | refine grdS_split ?_ ?_ | refine lkG_split ?_ ?_) <;> intro hg <;> (try simp (disch := omega) only [hg, hfp, cRun, hk', k8, k9, g9, g8',go_sem, simprocAttr]) <;> (try simp only [go_sem, simprocAttr] at hg) <;> (try (exfalso; omega)))
      | (with_reducible refine FnP_endE (by simp) ?_; refine ⟨_, (by simp only [Try.f73, hfp, cRun, hk', k8, k9, g9, g8',go_sem, simprocAttr]; rfl), ?_⟩; first | rfl | (try simp only [hfp, cRun, hk', k8, k9, g9, g8',go_sem, simprocAttr, Val.bool.injEq, Val.int.injEq, Val.tup.injEq, Val.agg.injEq, List.cons.injEq]))
      | with_reducible intro (ep : Nat → Nat)
      | with_reducible apply_assumption -exfalso -symm only [*])
    refine AW_range tabOK r.cpls.length (fun k f H => f 0 = fp ∧ f 1 = .int .i64 m ∧ (∀ j, j < 2000 → H j = H0 j) ∧ H 2008 = none ∧ ∃ e, f 5 = .map 2009 e ∧ ∃ ver, H 2009 = some (e, .map ver (imap .i64 (tl (List.range k))))) (by omega) (by rw [hXs]; decide) (by decide) (by (first | rfl | (simp only [go_sem, simprocAttr]; done) | (simp only [go_sem, simprocAttr]; rfl))) (by (first | rfl | (simp only [cRun, go_sem, simprocAttr]; done) | (simp only [cRun, go_sem, simprocAttr]; rfl)))
      ⟨by (first | rfl | (simp only [hfp, go_sem, simprocAttr]; done) | (simp only [hfp, go_sem, simprocAttr]; rfl)), by (first | rfl | (simp only [go_sem, simprocAttr]; done) | (simp only [go_sem, simprocAttr]; rfl)), fun j hj => by simp only [go_sem, simprocAttr]; rw [if_neg (by omega)]; exact hlow j hj, by (first | rfl | (simp only [g8', go_sem, simprocAttr]; done) | (simp only [g8', go_sem, simprocAttr]; rfl)), _, by (first | rfl | (simp only [go_sem, simprocAttr]; done) | (simp only [go_sem, simprocAttr]; rfl)), _, by (first | rfl | (simp only [go_sem, simprocAttr]; done) | (simp only [go_sem, simprocAttr]; rfl))⟩ ?_ ?_
    · rintro k f H hk h16 h15 ⟨h0, h1, hlow, g8, e, h5, ver, hH9⟩
      have hnew : findI (k : Int) (tl (List.range k)) 0 = none := find_new (by simp)
      repeat' (first
        | (with_reducible refine AW_seq_k ?_; intro K hK)
        | ((first | ((with_reducible first | refine AW_region tabOK { base := 2000, own := [8, 9] } ?hsz ?_ | refine AW_draw tabOK mix { base := 2000, own := [8, 9] } ?hsz (by decide +kernel) ?_ | refine AW_drawS tabOK mix { base := 2000, own := [8, 9] } [8] ?hsz (by decide +kernel) ?_); (case hsz => rw [hXs]; rfl)) | (with_reducible first | refine AW_skip ?_ | refine AW_ret ?_ | refine AW_exit ?_ | refine AW_label ?_)); try simp (disch := omega) only [h0, h1, h5, h15, h16, hH9, g8, hnew,go_sem, simprocAttr])
        | (with_reducible first | refine AW_scope ?_ | refine AW_blockS ?_ | refine AW_blockR ?_ | refine AW_blockC ?_)
        | ((with_reducible refine AW_condE ?_); refine ⟨_, (by first | rfl | (simp only [h0, h1, h5, h15, h16, hH9, g8, hnew,go_sem, simprocAttr]; rfl)), ?_, ?_⟩ <;> intro hc <;> (try simp only [go_sem, simprocAttr] at hc) <;> (try (exfalso; omega)))
        | ((with_reducible first | refine grdS_split ?_ ?_ | refine lkG_split ?_ ?_) <;> intro hg <;> (try simp (disch := omega) only [hg, h0, h1, h5, h15, h16, hH9, g8, hnew,go_sem, simprocAttr]) <;> (try simp only [go_sem, simprocAttr] at hg) <;> (try (exfalso; omega)))
        | (with_reducible refine FnP_endE (by simp) ?_; refine ⟨_, (by simp only [Try.f73, h0, h1, h5, h15, h16, hH9, g8, hnew,go_sem, simprocAttr]; rfl), ?_⟩; first | rfl | (try simp only [h0, h1, h5, h15, h16, hH9, g8, hnew,go_sem, simprocAttr, Val.bool.injEq, Val.int.injEq, Val.tup.injEq, Val.agg.injEq, List.cons.injEq]))
        | with_reducible intro (ep : Nat → Nat)
        | with_reducible apply_assumption -exfalso -symm only [*])
      exact ⟨fun j hj => by rw [if_neg (by omega)]; exact hlow j hj, e, rfl, _, by rw [imap_snoc, tl_snoc]⟩
    · rintro f H h16 h15 ⟨h0, h1, hlow, g8, e, h5, ver, hH9⟩
      rcases hp with hfp | ⟨k, e0, n, hfp, hk, hk2⟩
      · have hkk : True := trivial
        repeat' (first
          | ((fail_if_success (with_reducible refine AW_at (id := 8) ?_)); with_reducible refine AW_seq_k ?_; intro K hK)
          | ((first | ((with_reducible first | refine AW_region tabOK { base := 2000, own := [8, 9] } ?hsz ?_ | refine AW_draw tabOK mix { base := 2000, own := [8, 9] } ?hsz (by decide +kernel) ?_ | refine AW_drawS tabOK mix { base := 2000, own := [8, 9] } [8] ?hsz (by decide +kernel) ?_); (case hsz => rw [hXs]; rfl)) | (with_reducible first | refine AW_skip ?_ | refine AW_ret ?_ | refine AW_exit ?_ | refine AW_label ?_)); try simp (disch := omega) only [h0, h1, h5, hH9, g8, hfp, cRun,go_sem, simprocAttr])
          | (with_reducible first | refine AW_scope ?_ | refine AW_blockS ?_ | refine AW_blockR ?_ | refine AW_blockC ?_)
          | ((with_reducible refine AW_condE ?_); refine ⟨_, (by first | rfl | (simp only [h0, h1, h5, hH9, g8, hfp, cRun,go_sem, simprocAttr]; rfl)), ?_, ?_⟩ <;> intro hc <;> (try simp only [go_sem, simprocAttr] at hc) <;> (try (exfalso; omega)))
          | ((with_reducible first | refine grdS_split ?_ ?_ | refine lkG_split ?_ ?_) <;> intro hg <;> (try simp (disch := omega) only [hg, h0, h1, h5, hH9, g8, hfp, cRun,go_sem, simprocAttr]) <;> (try simp only [go_sem, simprocAttr] at hg) <;> (try (exfalso; omega)))
          | (with_reducible refine FnP_endE (by simp) ?_; refine ⟨_, (by simp only [Try.f73, h0, h1, h5, hH9, g8, hfp, cRun,go_sem, simprocAttr]; rfl), ?_⟩; first | rfl | (try simp only [h0, h1, h5, hH9, g8, hfp, cRun,go_sem, simprocAttr, Val.bool.injEq, Val.int.injEq, Val.tup.injEq, Val.agg.injEq, List.cons.injEq]))
          | with_reducible intro (ep : Nat → Nat)
          | with_reducible apply_assumption -exfalso -symm only [*])
        refine AW_range tabOK r.cpls.length (fun k f H => f 1 = .int .i64 m ∧ f 26 = .lst 6 (r.cpls.map cCpl) ∧ (∀ j, j < 2000 → H j = H0 j) ∧ ∃ e, f 5 = .map 2009 e ∧ ∃ ver, H 2009 = some (e, .map ver (imap .i64 (tl (wkTo r m k))))) (by omega) (by rw [hXs]; decide) (by decide) (by (first | rfl | (simp only [go_sem, simprocAttr]; done) | (simp only [go_sem, simprocAttr]; rfl))) (by (first | rfl | (simp only [cRun, go_sem, simprocAttr]; done) | (simp only [cRun, go_sem, simprocAttr]; rfl)))
          ⟨by (first | rfl | (simp only [h1, go_sem, simprocAttr]; done) | (simp only [h1, go_sem, simprocAttr]; rfl)), by (first | rfl | (simp only [hfp, hkk, cRun, go_sem, simprocAttr]; done) | (simp only [hfp, hkk, cRun, go_sem, simprocAttr]; rfl)), hlow, _, by (first | rfl | (simp only [h5, go_sem, simprocAttr]; done) | (simp only [h5, go_sem, simprocAttr]; rfl)), _, by simp only [wkTo_zero]; (first | rfl | (simp only [hH9, go_sem, simprocAttr]; done) | (simp only [hH9, go_sem, simprocAttr]; rfl))⟩ ?_ ?_
        · rintro k f H hk h28 h27 ⟨h1, h26, hlow, e, h5, ver, hH9⟩
          obtain ⟨x, hx⟩ : ∃ x, r.cpls[k]? = some x := ⟨_, List.getElem?_eq_getElem hk⟩
          refine AW_lose 2008 fun H1 g8 hs1 => ?_
          have hlow' : ∀ j, j < 2000 → H1 j = H0 j := fun j hj => by rw [hs1 _ (by omega), hlow _ hj]
          have hH9' : H1 2009 = some (e, .map ver (imap .i64 (tl (wkTo r m k)))) := by rw [hs1 _ (by decide), hH9]
          clear hs1 hlow hH9
          have hbk := (hF.cpl k x hx).2.2.2.1
          have hsp := wkTo_split (r := r) (m := m) hk
          have hw1 := @wkTo_stay r m k x hx
          have hw2 := @wkTo_gone r m k x hx
          have hnot := @wkTo_not r m k
          have hf := find_mid (l' := List.range' (k + 1) (r.cpls.length - (k + 1))) hnot
          rw [← hsp] at hf
          have he := @eraseI_mid k (wkFrom m 0 (r.cpls.take k)) (List.range' (k + 1) (r.cpls.length - (k + 1)))
          rw [← hsp] at he
          repeat' (first
            | (with_reducible refine AW_seq_k ?_; intro K hK)
            | ((first | ((with_reducible first | refine AW_region tabOK { base := 2000, own := [8, 9] } ?hsz ?_ | refine AW_draw tabOK mix { base := 2000, own := [8, 9] } ?hsz (by decide +kernel) ?_ | refine AW_drawS tabOK mix { base := 2000, own := [8, 9] } [8] ?hsz (by decide +kernel) ?_); (case hsz => rw [hXs]; rfl)) | (with_reducible first | refine AW_skip ?_ | refine AW_ret ?_ | refine AW_exit ?_ | refine AW_label ?_)); try simp (disch := omega) only [h1, h5, h26, h27, h28, hH9', g8, hx, hf, he, imap_erase, cCpl,go_sem, simprocAttr])
            | (with_reducible first | refine AW_scope ?_ | refine AW_blockS ?_ | refine AW_blockR ?_ | refine AW_blockC ?_)
            | ((with_reducible refine AW_condE ?_); refine ⟨_, (by first | rfl | (simp only [h1, h5, h26, h27, h28, hH9', g8, hx, hf, he, imap_erase, cCpl,go_sem, simprocAttr]; rfl)), ?_, ?_⟩ <;> intro hc <;> (try simp only [go_sem, simprocAttr] at hc) <;> (try (exfalso; omega)))
            | ((with_reducible first | refine grdS_split ?_ ?_ | refine lkG_split ?_ ?_) <;> intro hg <;> (try simp (disch := omega) only [hg, h1, h5, h26, h27, h28, hH9', g8, hx, hf, he, imap_erase, cCpl,go_sem, simprocAttr]) <;> (try simp only [go_sem, simprocAttr] at hg) <;> (try (exfalso; omega)))
            | (with_reducible refine FnP_endE (by simp) ?_; refine ⟨_, (by simp only [Try.f73, h1, h5, h26, h27, h28, hH9', g8, hx, hf, he, imap_erase, cCpl,go_sem, simprocAttr]; rfl), ?_⟩; first | rfl | (try simp only [h1, h5, h26, h27, h28, hH9', g8, hx, hf, he, imap_erase, cCpl,go_sem, simprocAttr, Val.bool.injEq, Val.int.injEq, Val.tup.injEq, Val.agg.injEq, List.cons.injEq]))
            | with_reducible intro (ep : Nat → Nat)
            | with_reducible apply_assumption -exfalso -symm only [*])
          · exact ⟨fun j hj => by (repeat rw [if_neg (by omega)]); exact hlow' j hj, e, rfl, _, by rw [hw2 (by simp only [works, decide_eq_false_iff_not]; omega)]⟩
          · exact ⟨fun j hj => by (repeat rw [if_neg (by omega)]); exact hlow' j hj, e, rfl, _, by rw [hw1 (by simp only [works, decide_eq_true_eq]; omega)]⟩
          · exact ⟨fun j hj => by (repeat rw [if_neg (by omega)]); exact hlow' j hj, e, rfl, _, by rw [hw1 (by simp only [works, decide_eq_true_eq]; omega)]⟩
        · rintro f H h28 h27 ⟨h1, h26, hlow, e, h5, ver, hH9⟩
          rw [wkTo_end] at hH9
          repeat' (first
            | (with_reducible refine AW_seq_k ?_; intro K hK)
            | ((first | ((with_reducible first | refine AW_region tabOK { base := 2000, own := [8, 9] } ?hsz ?_ | refine AW_draw tabOK mix { base := 2000, own := [8, 9] } ?hsz (by decide +kernel) ?_ | refine AW_drawS tabOK mix { base := 2000, own := [8, 9] } [8] ?hsz (by decide +kernel) ?_); (case hsz => rw [hXs]; rfl)) | (with_reducible first | refine AW_skip ?_ | refine AW_ret ?_ | refine AW_exit ?_ | refine AW_label ?_)); try simp (disch := omega) only [h1, h5, h26, h27, h28, hH9,go_sem, simprocAttr])
            | (with_reducible first | refine AW_scope ?_ | refine AW_blockS ?_ | refine AW_blockR ?_ | refine AW_blockC ?_)
            | ((with_reducible refine AW_condE ?_); refine ⟨_, (by first | rfl | (simp only [h1, h5, h26, h27, h28, hH9,go_sem, simprocAttr]; rfl)), ?_, ?_⟩ <;> intro hc <;> (try simp only [go_sem, simprocAttr] at hc) <;> (try (exfalso; omega)))
            | ((with_reducible first | refine grdS_split ?_ ?_ | refine lkG_split ?_ ?_) <;> intro hg <;> (try simp (disch := omega) only [hg, h1, h5, h26, h27, h28, hH9,go_sem, simprocAttr]) <;> (try simp only [go_sem, simprocAttr] at hg) <;> (try (exfalso; omega)))
            | with_reducible intro (ep : Nat → Nat)
            | with_reducible apply_assumption -exfalso -symm only [*])
          exact ⟨H, .map 2009 e, .refl H, (by (first | rfl | (simp only [Try.f73, go_sem, simprocAttr]; done) | (simp only [Try.f73, go_sem, simprocAttr]; rfl))), e, ver, by simp only [go_sem, simprocAttr], hH9, hlow⟩
      · have hkk : H k = some (e0, .arr n [cRun r ++ rest]) := by rw [hlow k hk2, hk]
        have k8 : ¬ k = 2008 := by omega
        have k9 : ¬ k = 2009 := by omega
        repeat' (first
          | ((fail_if_success (with_reducible refine AW_at (id := 8) ?_)); with_reducible refine AW_seq_k ?_; intro K hK)
          | ((first | ((with_reducible first | refine AW_region tabOK { base := 2000, own := [8, 9] } ?hsz ?_ | refine AW_draw tabOK mix { base := 2000, own := [8, 9] } ?hsz (by decide +kernel) ?_ | refine AW_drawS tabOK mix { base := 2000, own := [8, 9] } [8] ?hsz (by decide +kernel) ?_); (case hsz => rw [hXs]; rfl)) | (with_reducible first | refine AW_skip ?_ | refine AW_ret ?_ | refine AW_exit ?_ | refine AW_label ?_)); try simp (disch := omega) only [h0, h1, h5, hH9, g8, hfp, hkk, k8, k9, cRun,go_sem, simprocAttr])
          | (with_reducible first | refine AW_scope ?_ | refine AW_blockS ?_ | refine AW_blockR ?_ | refine AW_blockC ?_)
          | ((with_reducible refine AW_condE ?_); refine ⟨_, (by first | rfl | (simp only [h0, h1, h5, hH9, g8, hfp, hkk, k8, k9, cRun,go_sem, simprocAttr]; rfl)), ?_, ?_⟩ <;> intro hc <;> (try simp only [go_sem, simprocAttr] at hc) <;> (try (exfalso; omega)))
          | ((with_reducible first | refine grdS_split ?_ ?_ | refine lkG_split ?_ ?_) <;> intro hg <;> (try simp (disch := omega) only [hg, h0, h1, h5, hH9, g8, hfp, hkk, k8, k9, cRun,go_sem, simprocAttr]) <;> (try simp only [go_sem, simprocAttr] at hg) <;> (try (exfalso; omega)))
          | (with_reducible refine FnP_endE (by simp) ?_; refine ⟨_, (by simp only [Try.f73, h0, h1, h5, hH9, g8, hfp, hkk, k8, k9, cRun,go_sem, simprocAttr]; rfl), ?_⟩; first | rfl | (try simp only [h0, h1, h5, hH9, g8, hfp, hkk, k8, k9, cRun,go_sem, simprocAttr, Val.bool.injEq, Val.int.injEq, Val.tup.injEq, Val.agg.injEq, List.cons.injEq]))
          | with_reducible intro (ep : Nat → Nat)
          | with_reducible apply_assumption -exfalso -symm only [*])
        refine AW_range tabOK r.cpls.length (fun k f H => f 1 = .int .i64 m ∧ f 26 = .lst 6 (r.cpls.map cCpl) ∧ (∀ j, j < 2000 → H j = H0 j) ∧ ∃ e, f 5 = .map 2009 e ∧ ∃ ver, H 2009 = some (e, .map ver (imap .i64 (tl (wkTo r m k))))) (by omega) (by rw [hXs]; decide) (by decide) (by (first | rfl | (simp only [go_sem, simprocAttr]; done) | (simp only [go_sem, simprocAttr]; rfl))) (by (first | rfl | (simp only [cRun, go_sem, simprocAttr]; done) | (simp only [cRun, go_sem, simprocAttr]; rfl)))
          ⟨by (first | rfl | (simp only [h1, go_sem, simprocAttr]; done) | (simp only [h1, go_sem, simprocAttr]; rfl)), by (first | rfl | (simp only [hfp, hkk, cRun, go_sem, simprocAttr]; done) | (simp only [hfp, hkk, cRun, go_sem, simprocAttr]; rfl)), hlow, _, by (first | rfl | (simp only [h5, go_sem, simprocAttr]; done) | (simp only [h5, go_sem, simprocAttr]; rfl)), _, by simp only [wkTo_zero]; (first | rfl | (simp only [hH9, go_sem, simprocAttr]; done) | (simp only [hH9, go_sem, simprocAttr]; rfl))⟩ ?_ ?_
        · rintro k f H hk h28 h27 ⟨h1, h26, hlow, e, h5, ver, hH9⟩
          obtain ⟨x, hx⟩ : ∃ x, r.cpls[k]? = some x := ⟨_, List.getElem?_eq_getElem hk⟩
          refine AW_lose 2008 fun H1 g8 hs1 => ?_
          have hlow' : ∀ j, j < 2000 → H1 j = H0 j := fun j hj => by rw [hs1 _ (by omega), hlow _ hj]
          have hH9' : H1 2009 = some (e, .map ver (imap .i64 (tl (wkTo r m k)))) := by rw [hs1 _ (by decide), hH9]
          clear hs1 hlow hH9
          have hbk := (hF.cpl k x hx).2.2.2.1
          have hsp := wkTo_split (r := r) (m := m) hk
          have hw1 := @wkTo_stay r m k x hx
          have hw2 := @wkTo_gone r m k x hx
          have hnot := @wkTo_not r m k
          have hf := find_mid (l' := List.range' (k + 1) (r.cpls.length - (k + 1))) hnot
          rw [← hsp] at hf
          have he := @eraseI_mid k (wkFrom m 0 (r.cpls.take k)) (List.range' (k + 1) (r.cpls.length - (k + 1)))
          rw [← hsp] at he
          repeat' (first
            | (with_reducible refine AW_seq_k ?_; intro K hK)
            | ((first | ((with_reducible first | refine AW_region tabOK { base := 2000, own := [8, 9] } ?hsz ?_ | refine AW_draw tabOK mix { base := 2000, own := [8, 9] } ?hsz (by decide +kernel) ?_ | refine AW_drawS tabOK mix { base := 2000, own := [8, 9] } [8] ?hsz (by decide +kernel) ?_); (case hsz => rw [hXs]; rfl)) | (with_reducible first | refine AW_skip ?_ | refine AW_ret ?_ | refine AW_exit ?_ | refine AW_label ?_)); try simp (disch := omega) only [h1, h5, h26, h27, h28, hH9', g8, hx, hf, he, imap_erase, cCpl,go_sem, simprocAttr])
            | (with_reducible first | refine AW_scope ?_ | refine AW_blockS ?_ | refine AW_blockR ?_ | refine AW_blockC ?_)
            | ((with_reducible refine AW_condE ?_); refine ⟨_, (by first | rfl | (simp only [h1, h5, h26, h27, h28, hH9', g8, hx, hf, he, imap_erase, cCpl,go_sem, simprocAttr]; rfl)), ?_, ?_⟩ <;> intro hc <;> (try simp only [go_sem, simprocAttr] at hc) <;> (try (exfalso; omega)))
            | ((with_reducible first | refine grdS_split ?_ ?_ | refine lkG_split ?_ ?_) <;> intro hg <;> (try simp (disch := omega) only [hg, h1, h5, h26, h27, h28, hH9', g8, hx, hf, he, imap_erase, cCpl,go_sem, simprocAttr]) <;> (try simp only [go_sem, simprocAttr] at hg) <;> (try (exfalso; omega)))
            | (with_reducible refine FnP_endE (by simp) ?_; refine ⟨_, (by simp only [Try.f73, h1, h5, h26, h27, h28, hH9', g8, hx, hf, he, imap_erase, cCpl,go_sem, simprocAttr]; rfl), ?_⟩; first | rfl | (try simp only [h1, h5, h26, h27, h28, hH9', g8, hx, hf, he, imap_erase, cCpl,go_sem, simprocAttr, Val.bool.injEq, Val.int.injEq, Val.tup.injEq, Val.agg.injEq, List.cons.injEq]))
            | with_reducible intro (ep : Nat → Nat)
            | with_reducible apply_assumption -exfalso -symm only [*])
          · exact ⟨fun j hj => by (repeat rw [if_neg (by omega)]); exact hlow' j hj, e, rfl, _, by rw [hw2 (by simp only [works, decide_eq_false_iff_not]; omega)]⟩
          · exact ⟨fun j hj => by (repeat rw [if_neg (by omega)]); exact hlow' j hj, e, rfl, _, by rw [hw1 (by simp only [works, decide_eq_true_eq]; omega)]⟩
          · exact ⟨fun j hj => by (repeat rw [if_neg (by omega)]); exact hlow' j hj, e, rfl, _, by rw [hw1 (by simp only [works, decide_eq_true_eq]; omega)]⟩
        · rintro f H h28 h27 ⟨h1, h26, hlow, e, h5, ver, hH9⟩
          rw [wkTo_end] at hH9
          repeat' (first
            | (with_reducible refine AW_seq_k ?_; intro K hK)
            | ((first | ((with_reducible first | refine AW_region tabOK { base := 2000, own := [8, 9] } ?hsz ?_ | refine AW_draw tabOK mix { base := 2000, own := [8, 9] } ?hsz (by decide +kernel) ?_ | refine AW_drawS tabOK mix { base := 2000, own := [8, 9] } [8] ?hsz (by decide +kernel) ?_); (case hsz => rw [hXs]; rfl)) | (with_reducible first | refine AW_skip ?_ | refine AW_ret ?_ | refine AW_exit ?_ | refine AW_label ?_)); try simp (disch := omega) only [h1, h5, h26, h27, h28, hH9,go_sem, simprocAttr])
            | (with_reducible first | refine AW_scope ?_ | refine AW_blockS ?_ | refine AW_blockR ?_ | refine AW_blockC ?_)
            | ((with_reducible refine AW_condE ?_); refine ⟨_, (by first | rfl | (simp only [h1, h5, h26, h27, h28, hH9,go_sem, simprocAttr]; rfl)), ?_, ?_⟩ <;> intro hc <;> (try simp only [go_sem, simprocAttr] at hc) <;> (try (exfalso; omega)))
            | ((with_reducible first | refine grdS_split ?_ ?_ | refine lkG_split ?_ ?_) <;> intro hg <;> (try simp (disch := omega) only [hg, h1, h5, h26, h27, h28, hH9,go_sem, simprocAttr]) <;> (try simp only [go_sem, simprocAttr] at hg) <;> (try (exfalso; omega)))
            | with_reducible intro (ep : Nat → Nat)
            | with_reducible apply_assumption -exfalso -symm only [*])
          exact ⟨H, .map 2009 e, .refl H, (by (first | rfl | (simp only [Try.f73, go_sem, simprocAttr]; done) | (simp only [Try.f73, go_sem, simprocAttr]; rfl))), e, ver, by simp only [go_sem, simprocAttr], hH9, hlow⟩
end Cp

