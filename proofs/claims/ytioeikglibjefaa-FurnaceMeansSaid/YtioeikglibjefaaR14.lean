/- What functions of the furnace and of its reference compute (R14). Conditions: none. -/
import Derived.Test.YtioeikglibjefaaR13
set_option linter.unusedSimpArgs false
set_option linter.unusedVariables false
namespace Cp
open Go Go.Proofs
set_option maxRecDepth 10000

theorem Pts.upd {H : Hp} {fp : Val} {cs : List Val} {k : Nat} {p : Option (Nat × AObj)} (h : Pts H fp cs) (hk : ∀ e n, ¬ frz1 (H k) = some (e, .fro n [cs])) : Pts (Cp.upd H k p) fp cs := by
  rcases h with h | ⟨k', e', n', h, hk2⟩
  · exact .inl h
  · refine .inr ⟨k', e', n', h, ?_⟩
    by_cases hkk : k' = k
    · subst hkk; exact (hk _ _ hk2).elim
    · unfold frzH at hk2 ⊢; rw [upd_ne _ _ hkk]; exact hk2
/-- Room for what a call lays. -/
def Room (H : Hp) (b n : Nat) : Prop := ∀ d, d < n → H (b + d) = none

theorem Pts.keep {H : Hp} {fp : Val} {cs : List Val} (h : Pts H fp cs) : fp = .pim cs ∨ ∃ k e n, fp = .ptr k e n 0 0 ∧ frz1 (H k) = some (e, .fro n [cs]) := h

theorem truth_look (r : RunT) (hF : RunF r) (rest : List Val) (H : Hp) (fp : Val) (hp : Pts H fp (cRun r ++ rest)) (hroom : Room H 1000 100) (i : Nat) (c : Cpl) (hci : r.cpls[i]? = some c) (m : Int) (hm : 1 ≤ m ∧ m ≤ r.rows.length) (hw : works c m = true) :
    LookC Try.prog 75 [fp, .int .i64 i, .int .i64 m] H (encSpan (truth r c i m)) := by
  have hrows := hF.rows
  have hcl := hF.cpls
  have hi : i < r.cpls.length := (List.getElem?_eq_some_iff.1 hci).1
  have hcf := hF.cpl i c hci
  obtain ⟨l1, l2⟩ := lastRow_pos hF hci hm.1 hw
  have r6 : frz1 (H 1006) = none := by rw [hroom 6 (by omega)]; rfl
  have r7 : frz1 (H 1007) = none := by rw [hroom 7 (by omega)]; rfl
  have r8 : frz1 (H 1008) = none := by rw [hroom 8 (by omega)]; rfl
  have r10 : frz1 (H 1010) = none := by rw [hroom 10 (by omega)]; rfl
  have hge : (0 : Int) ≤ i := by omega
  refine LookC_of (fn := Try.f75) tabOK (by kernel_rfl) rfl (by kernel_rfl) (by simp [Try.f75]) rfl ?_
  intro X hX0 hXs
  rcases hp with hfp | ⟨k, e, n, hfp, hk⟩
  · repeat' (first
      | ((fail_if_success (with_reducible refine AW_at (id := 3) ?_)); with_reducible refine AW_seq_k ?_; intro K hK)
      | ((first | ((with_reducible first | refine AW_regL tabOK { base := 1000, own := [] } [] [39, 44, 61, 67] ?hsz ?_ | refine AW_drawL tabOK mix { base := 1000, own := [] } [] [39, 44, 61, 67] ?hsz (by decide +kernel) ?_ | refine AW_drawL tabOK mix { base := 1000, own := [] } [6, 7, 8, 10] [39, 44, 61, 67] ?hsz (by decide +kernel) ?_); (case hsz => rw [hXs]; rfl)) | (with_reducible first | refine AW_skip ?_ | refine AW_ret ?_ | refine AW_exit ?_ | refine AW_label ?_)); try simp (disch := omega) only [hfp, r6, r7, r8, r10, hci, cRun, cCpl,go_sem, simprocAttr])
      | (with_reducible first | refine AW_scope ?_ | refine AW_blockS ?_ | refine AW_blockR ?_ | refine AW_blockC ?_)
      | ((with_reducible refine AW_condE ?_); refine ⟨_, (by first | rfl | (simp only [hfp, r6, r7, r8, r10, hci, cRun, cCpl,go_sem, simprocAttr]; rfl)), ?_, ?_⟩ <;> intro hc <;> (try simp only [go_sem, simprocAttr] at hc) <;> (try (exfalso; omega)))
      | (with_reducible refine FnP_endE (by simp) ?_; refine ⟨_, (by simp only [Try.f75, hfp, r6, r7, r8, r10, hci, cRun, cCpl,go_sem, simprocAttr]; rfl), ?_⟩; first | rfl | (try simp only [hfp, r6, r7, r8, r10, hci, cRun, cCpl,go_sem, simprocAttr, Val.bool.injEq, Val.int.injEq, Val.tup.injEq, Val.agg.injEq, List.cons.injEq]))
      | with_reducible intro (ep : Nat → Nat)
      | with_reducible apply_assumption -exfalso -symm only [*])
    have hcut : ∀ f H, (f 3 = .pim [fp] ∧ f 4 = .pim [.int .i64 i] ∧ f 5 = .pim [.int .i64 m] ∧ H 1010 = none ∧ Pts H fp (cRun r ++ rest) ∧ ∃ e6 e7 e8, f 6 = .ptr 1006 e6 2 0 0 ∧ H 1006 = some (e6, .arr 2 [[.int .i64 0, .int .i64 0]]) ∧ f 7 = .ptr 1007 e7 6 0 0 ∧ H 1007 = some (e7, .arr 6 [cCpl c]) ∧ f 8 = .ptr 1008 e8 1 0 0 ∧ H 1008 = some (e8, .arr 1 [[.int .i64 (lastRow r c)]])) → K f H := by
      rintro f H ⟨h3, h4, h5, hH10, hP, e6, e7, e8, h6, hH6, h7, hH7, h8, hH8⟩
      refine hK f H ?_
      refine AW_freeze 1008 hH8 ?_
      have hP' : Pts (upd H 1008 (some (e8, .fro 1 [[.int .i64 (lastRow r c)]]))) fp (cRun r ++ rest) := by
        rcases hP with h | ⟨k', e', n', h, hk2⟩
        · exact .inl h
        · refine .inr ⟨k', e', n', h, ?_⟩
          by_cases hk8 : k' = 1008
          · subst hk8; unfold frzH at hk2; rw [hH8] at hk2; simp only [frz1, Option.some.injEq, Prod.mk.injEq, AObj.fro.injEq] at hk2; unfold frzH; rw [upd_same]; simp only [frz1, Option.some.injEq, Prod.mk.injEq, AObj.fro.injEq]; exact hk2
          · unfold frzH at hk2 ⊢; rw [upd_ne _ _ hk8]; exact hk2
      refine AW_retell8 (v := .pim [.int .i64 (lastRow r c)]) 8 2 (by simp only [go_sem, simprocAttr, h8]) ?_
      have hP'' : ∀ e x, Pts (upd (upd (upd H 1008 (some (e8, .fro 1 [[.int .i64 (lastRow r c)]]))) 1010 (some (e, .arr 2 [[.int .i64 0, .int .i64 0]]))) 1010 (some (e, .arr 2 [x]))) fp (cRun r ++ rest) := fun e x => by
        rcases hP' with h | ⟨k', e', n', h, hk2⟩
        · exact .inl h
        · refine .inr ⟨k', e', n', h, ?_⟩
          by_cases hk8 : k' = 1010
          · subst hk8; unfold frzH at hk2; rw [upd_ne _ _ (by decide), hH10] at hk2; cases hk2
          · unfold frzH at hk2 ⊢; rw [upd_ne _ _ hk8, upd_ne _ _ hk8]; exact hk2
      repeat' (first
        | (with_reducible refine AW_seq_k ?_; intro K hK)
        | ((first | ((with_reducible first | refine AW_regL tabOK { base := 1000, own := [] } [] [39, 44, 61, 67] ?hsz ?_ | refine AW_drawL tabOK mix { base := 1000, own := [] } [] [39, 44, 61, 67] ?hsz (by decide +kernel) ?_ | refine AW_drawL tabOK mix { base := 1000, own := [] } [6, 7, 8, 10] [39, 44, 61, 67] ?hsz (by decide +kernel) ?_); (case hsz => rw [hXs]; rfl)) | (with_reducible first | refine AW_skip ?_ | refine AW_ret ?_ | refine AW_exit ?_ | refine AW_label ?_) | refine pureK_intro (reads_look r hF rest _ _ hP' i hi m _ _ ⟨l1, l2⟩ hm (by omega)) ?_ | refine lookK_intro (reads_look r hF rest _ _ hP' i hi m _ _ ⟨l1, l2⟩ hm (by omega)) ?_); try simp (disch := omega) only [h3, h4, h5, h6, hH6, h7, hH7, hH10, cCpl,go_sem, simprocAttr])
        | (with_reducible first | refine AW_scope ?_ | refine AW_blockS ?_ | refine AW_blockR ?_ | refine AW_blockC ?_)
        | ((with_reducible refine AW_condE ?_); refine ⟨_, (by first | rfl | (simp only [h3, h4, h5, h6, hH6, h7, hH7, hH10, cCpl,go_sem, simprocAttr]; rfl)), ?_, ?_⟩ <;> intro hc <;> (try simp only [go_sem, simprocAttr] at hc) <;> (try (exfalso; omega)))
        | (with_reducible refine FnP_endE (by simp) ?_; refine ⟨_, (by simp only [Try.f75, h3, h4, h5, h6, hH6, h7, hH7, hH10, cCpl,go_sem, simprocAttr]; rfl), ?_⟩; first | rfl | (try simp only [h3, h4, h5, h6, hH6, h7, hH7, hH10, cCpl,go_sem, simprocAttr, Val.bool.injEq, Val.int.injEq, Val.tup.injEq, Val.agg.injEq, List.cons.injEq]))
        | with_reducible intro (ep : Nat → Nat)
        | with_reducible apply_assumption -exfalso -symm only [*])
      refine AW_block (AW_loop (fun n f H => ∃ k : Nat, n = (c.lag.hi - c.lag.lo).toNat - k ∧ k ≤ (c.lag.hi - c.lag.lo).toNat ∧ (f 9 = .fn 91 [.pim [fp], .pim [.int .i64 m], .pim [.int .i64 (lastRow r c)], .pim [.int .i64 i]]) ∧ Pts H fp (cRun r ++ rest) ∧ ∃ lag lo hi e6 e7 e10, lag = c.lag.lo + 1 + k ∧ f 11 = .int .i64 lag ∧ f 6 = .ptr 1006 e6 2 0 0 ∧ H 1006 = some (e6, .arr 2 [[.int .i64 0, .int .i64 0]]) ∧ f 7 = .ptr 1007 e7 6 0 0 ∧ H 1007 = some (e7, .arr 6 [cCpl c]) ∧ f 10 = .ptr 1010 e10 2 0 0 ∧ H 1010 = some (e10, .arr 2 [[.int .i64 lo, .int .i64 hi]]) ∧
          lo = extLo (readLag r c i m) c.lag.lo k ∧ hi = extHi (readLag r c i m) c.lag.lo k) (c.lag.hi - c.lag.lo).toNat
        ⟨0, by simp, Nat.zero_le _, by (first | rfl | (simp only [h3, h4, h5, go_sem, simprocAttr]; done) | (simp only [h3, h4, h5, go_sem, simprocAttr]; rfl)), hP'' _ _, c.lag.lo + 1, readLag r c i m c.lag.lo, readLag r c i m c.lag.lo, _, _, _, by simp, by (first | rfl | (simp only [go_sem, simprocAttr]; done) | (simp only [go_sem, simprocAttr]; rfl)), by (first | rfl | (simp only [h6, go_sem, simprocAttr]; done) | (simp only [h6, go_sem, simprocAttr]; rfl)), by (first | rfl | (simp only [hH6, go_sem, simprocAttr]; done) | (simp only [hH6, go_sem, simprocAttr]; rfl)), by (first | rfl | (simp only [h7, go_sem, simprocAttr]; done) | (simp only [h7, go_sem, simprocAttr]; rfl)), by (first | rfl | (simp only [hH7, cCpl, go_sem, simprocAttr]; done) | (simp only [hH7, cCpl, go_sem, simprocAttr]; rfl)), by (first | rfl | (simp only [go_sem, simprocAttr]; done) | (simp only [go_sem, simprocAttr]; rfl)), by (first | rfl | (simp only [go_sem, simprocAttr]; done) | (simp only [go_sem, simprocAttr]; rfl)), rfl, rfl⟩ ?_)
      rintro n f H ⟨k, rfl, hk, h9, hP, lag, lo, hi', e6, e7, e10, hlag, h11, h6, hH6, h7, hH7, h10, hH10, hlo, hhi⟩
      have hbd := ext_bounds (g := readLag r c i m) (lo := c.lag.lo) (a := 0) (b := 2000) k (fun j hj => by
        obtain ⟨x, d, _, _, q1, q2, q3⟩ := readAt_ok hF hi (row := min (m + (c.lag.lo + j)) (lastRow r c)) (by omega) (by omega)
        unfold readLag
        rw [q1]; exact ⟨q2, q3⟩)
      rw [← hlo, ← hhi] at hbd
      by_cases hlt : lag ≤ c.lag.hi
      · have stepL : min lo (readLag r c i m lag) = extLo (readLag r c i m) c.lag.lo (k + 1) ∧ max hi' (readLag r c i m lag) = extHi (readLag r c i m) c.lag.lo (k + 1) := by
          simp only [extLo, extHi]
          rw [show c.lag.lo + ((k + 1 : Nat) : Int) = lag by omega, ← hlo, ← hhi]
          exact ⟨rfl, rfl⟩
        repeat' (first
          | (with_reducible refine AW_seq_k ?_; intro K hK)
          | ((first | ((with_reducible first | refine AW_regL tabOK { base := 1000, own := [] } [] [39, 44, 61, 67] ?hsz ?_ | refine AW_drawL tabOK mix { base := 1000, own := [] } [] [39, 44, 61, 67] ?hsz (by decide +kernel) ?_ | refine AW_drawL tabOK mix { base := 1000, own := [] } [6, 7, 8, 10] [39, 44, 61, 67] ?hsz (by decide +kernel) ?_); (case hsz => rw [hXs]; rfl)) | (with_reducible first | refine AW_skip ?_ | refine AW_ret ?_ | refine AW_exit ?_ | refine AW_label ?_) | refine pureK_intro (reads_look r hF rest _ _ hP i hi m _ _ ⟨l1, l2⟩ hm (by omega)) ?_ | refine lookK_intro (reads_look r hF rest _ _ hP i hi m _ _ ⟨l1, l2⟩ hm (by omega)) ?_); try simp (disch := omega) only [h6, h7, h9, h10, h11, hH6, hH7, hH10, cCpl,go_sem, simprocAttr])
          | (with_reducible first | refine AW_scope ?_ | refine AW_blockS ?_ | refine AW_blockR ?_ | refine AW_blockC ?_)
          | ((with_reducible refine AW_condE ?_); refine ⟨_, (by first | rfl | (simp only [h6, h7, h9, h10, h11, hH6, hH7, hH10, cCpl,go_sem, simprocAttr]; rfl)), ?_, ?_⟩ <;> intro hc <;> (try simp only [go_sem, simprocAttr] at hc) <;> (try (exfalso; omega)))
          | (with_reducible refine FnP_endE (by simp) ?_; refine ⟨_, (by simp only [Try.f75, h6, h7, h9, h10, h11, hH6, hH7, hH10, cCpl,go_sem, simprocAttr]; rfl), ?_⟩; first | rfl | (try simp only [h6, h7, h9, h10, h11, hH6, hH7, hH10, cCpl,go_sem, simprocAttr, Val.bool.injEq, Val.int.injEq, Val.tup.injEq, Val.agg.injEq, List.cons.injEq]))
          | with_reducible intro (ep : Nat → Nat)
          | with_reducible apply_assumption -exfalso -symm only [*])
        exact ⟨(c.lag.hi - c.lag.lo).toNat - (k + 1), by omega, k + 1, rfl, by omega, hP.upd (fun e n h => by rw [hH10] at h; simp [frz1, cRun] at h), _, _, _, _, _, _, by omega, rfl, rfl, rfl, rfl, rfl, rfl, rfl, stepL.1, stepL.2⟩
      · have hkk : (c.lag.hi - c.lag.lo).toNat = k := by omega
        repeat' (first
          | (with_reducible refine AW_seq_k ?_; intro K hK)
          | ((first | ((with_reducible first | refine AW_regL tabOK { base := 1000, own := [] } [] [39, 44, 61, 67] ?hsz ?_ | refine AW_drawL tabOK mix { base := 1000, own := [] } [] [39, 44, 61, 67] ?hsz (by decide +kernel) ?_ | refine AW_drawL tabOK mix { base := 1000, own := [] } [6, 7, 8, 10] [39, 44, 61, 67] ?hsz (by decide +kernel) ?_); (case hsz => rw [hXs]; rfl)) | (with_reducible first | refine AW_skip ?_ | refine AW_ret ?_ | refine AW_exit ?_ | refine AW_label ?_) | refine pureK_intro (plus_ok ⟨lo, hi'⟩ ⟨0 - c.err.hi, 0 - c.err.lo⟩ (by simp only; omega)) ?_ | refine lookK_intro (plus_ok ⟨lo, hi'⟩ ⟨0 - c.err.hi, 0 - c.err.lo⟩ (by simp only; omega)) ?_); try simp (disch := omega) only [h6, h7, h9, h10, h11, hH6, hH7, hH10, cCpl, encSpan,go_sem, simprocAttr])
          | (with_reducible first | refine AW_scope ?_ | refine AW_blockS ?_ | refine AW_blockR ?_ | refine AW_blockC ?_)
          | ((with_reducible refine AW_condE ?_); refine ⟨_, (by first | rfl | (simp only [h6, h7, h9, h10, h11, hH6, hH7, hH10, cCpl, encSpan,go_sem, simprocAttr]; rfl)), ?_, ?_⟩ <;> intro hc <;> (try simp only [go_sem, simprocAttr] at hc) <;> (try (exfalso; omega)))
          | (with_reducible refine FnP_endE (by simp) ?_; refine ⟨_, (by simp only [Try.f75, h6, h7, h9, h10, h11, hH6, hH7, hH10, cCpl, encSpan,go_sem, simprocAttr]; rfl), ?_⟩; first | rfl | (try simp only [h6, h7, h9, h10, h11, hH6, hH7, hH10, cCpl, encSpan,go_sem, simprocAttr, Val.bool.injEq, Val.int.injEq, Val.tup.injEq, Val.agg.injEq, List.cons.injEq]))
          | with_reducible intro (ep : Nat → Nat)
          | with_reducible apply_assumption -exfalso -symm only [*])
        simp only [truth, hkk]
        rw [← hlo, ← hhi]
        constructor <;> omega
    clear hK
    by_cases hb : 0 < c.brk
    · have hlr : lastRow r c = min (r.rows.length : Int) (c.brk - 1) := by rw [lastRow, if_pos hb]
      repeat' (first
        | (with_reducible refine AW_seq_k ?_; intro K hK)
        | ((first | ((with_reducible first | refine AW_regL tabOK { base := 1000, own := [] } [] [39, 44, 61, 67] ?hsz ?_ | refine AW_drawL tabOK mix { base := 1000, own := [] } [] [39, 44, 61, 67] ?hsz (by decide +kernel) ?_ | refine AW_drawL tabOK mix { base := 1000, own := [] } [6, 7, 8, 10] [39, 44, 61, 67] ?hsz (by decide +kernel) ?_); (case hsz => rw [hXs]; rfl)) | (with_reducible first | refine AW_skip ?_ | refine AW_ret ?_ | refine AW_exit ?_ | refine AW_label ?_)); try simp (disch := omega) only [hfp, r6, r7, r8, r10, hci, cRun, cCpl,go_sem, simprocAttr])
        | (with_reducible first | refine AW_scope ?_ | refine AW_blockS ?_ | refine AW_blockR ?_ | refine AW_blockC ?_)
        | ((with_reducible refine AW_condE ?_); refine ⟨_, (by first | rfl | (simp only [hfp, r6, r7, r8, r10, hci, cRun, cCpl,go_sem, simprocAttr]; rfl)), ?_, ?_⟩ <;> intro hc <;> (try simp only [go_sem, simprocAttr] at hc) <;> (try (exfalso; omega)))
        | (with_reducible refine FnP_endE (by simp) ?_; refine ⟨_, (by simp only [Try.f75, hfp, r6, r7, r8, r10, hci, cRun, cCpl,go_sem, simprocAttr]; rfl), ?_⟩; first | rfl | (try simp only [hfp, r6, r7, r8, r10, hci, cRun, cCpl,go_sem, simprocAttr, Val.bool.injEq, Val.int.injEq, Val.tup.injEq, Val.agg.injEq, List.cons.injEq]))
        | with_reducible intro (ep : Nat → Nat)
        | with_reducible apply_assumption -exfalso -symm only [*])
      exact ⟨by (first | rfl | (simp only [hfp, go_sem, simprocAttr]; done) | (simp only [hfp, go_sem, simprocAttr]; rfl)), by (first | rfl | (simp only [go_sem, simprocAttr]; done) | (simp only [go_sem, simprocAttr]; rfl)), by (first | rfl | (simp only [go_sem, simprocAttr]; done) | (simp only [go_sem, simprocAttr]; rfl)), by (first | rfl | (simp only [r10, go_sem, simprocAttr]; done) | (simp only [r10, go_sem, simprocAttr]; rfl)), .inl hfp, _, _, _, by (first | rfl | (simp only [go_sem, simprocAttr]; done) | (simp only [go_sem, simprocAttr]; rfl)), by (first | rfl | (simp only [go_sem, simprocAttr]; done) | (simp only [go_sem, simprocAttr]; rfl)), by (first | rfl | (simp only [go_sem, simprocAttr]; done) | (simp only [go_sem, simprocAttr]; rfl)), by (first | rfl | (simp only [cCpl, go_sem, simprocAttr]; done) | (simp only [cCpl, go_sem, simprocAttr]; rfl)), by (first | rfl | (simp only [go_sem, simprocAttr]; done) | (simp only [go_sem, simprocAttr]; rfl)), by (first | rfl | (simp only [hlr, go_sem, simprocAttr]; done) | (simp only [hlr, go_sem, simprocAttr]; rfl))⟩
    · have hlr : lastRow r c = r.rows.length := by rw [lastRow, if_neg hb]
      repeat' (first
        | (with_reducible refine AW_seq_k ?_; intro K hK)
        | ((first | ((with_reducible first | refine AW_regL tabOK { base := 1000, own := [] } [] [39, 44, 61, 67] ?hsz ?_ | refine AW_drawL tabOK mix { base := 1000, own := [] } [] [39, 44, 61, 67] ?hsz (by decide +kernel) ?_ | refine AW_drawL tabOK mix { base := 1000, own := [] } [6, 7, 8, 10] [39, 44, 61, 67] ?hsz (by decide +kernel) ?_); (case hsz => rw [hXs]; rfl)) | (with_reducible first | refine AW_skip ?_ | refine AW_ret ?_ | refine AW_exit ?_ | refine AW_label ?_)); try simp (disch := omega) only [hfp, r6, r7, r8, r10, hci, cRun, cCpl,go_sem, simprocAttr])
        | (with_reducible first | refine AW_scope ?_ | refine AW_blockS ?_ | refine AW_blockR ?_ | refine AW_blockC ?_)
        | ((with_reducible refine AW_condE ?_); refine ⟨_, (by first | rfl | (simp only [hfp, r6, r7, r8, r10, hci, cRun, cCpl,go_sem, simprocAttr]; rfl)), ?_, ?_⟩ <;> intro hc <;> (try simp only [go_sem, simprocAttr] at hc) <;> (try (exfalso; omega)))
        | (with_reducible refine FnP_endE (by simp) ?_; refine ⟨_, (by simp only [Try.f75, hfp, r6, r7, r8, r10, hci, cRun, cCpl,go_sem, simprocAttr]; rfl), ?_⟩; first | rfl | (try simp only [hfp, r6, r7, r8, r10, hci, cRun, cCpl,go_sem, simprocAttr, Val.bool.injEq, Val.int.injEq, Val.tup.injEq, Val.agg.injEq, List.cons.injEq]))
        | with_reducible intro (ep : Nat → Nat)
        | with_reducible apply_assumption -exfalso -symm only [*])
      exact ⟨by (first | rfl | (simp only [hfp, go_sem, simprocAttr]; done) | (simp only [hfp, go_sem, simprocAttr]; rfl)), by (first | rfl | (simp only [go_sem, simprocAttr]; done) | (simp only [go_sem, simprocAttr]; rfl)), by (first | rfl | (simp only [go_sem, simprocAttr]; done) | (simp only [go_sem, simprocAttr]; rfl)), by (first | rfl | (simp only [r10, go_sem, simprocAttr]; done) | (simp only [r10, go_sem, simprocAttr]; rfl)), .inl hfp, _, _, _, by (first | rfl | (simp only [go_sem, simprocAttr]; done) | (simp only [go_sem, simprocAttr]; rfl)), by (first | rfl | (simp only [go_sem, simprocAttr]; done) | (simp only [go_sem, simprocAttr]; rfl)), by (first | rfl | (simp only [go_sem, simprocAttr]; done) | (simp only [go_sem, simprocAttr]; rfl)), by (first | rfl | (simp only [cCpl, go_sem, simprocAttr]; done) | (simp only [cCpl, go_sem, simprocAttr]; rfl)), by (first | rfl | (simp only [go_sem, simprocAttr]; done) | (simp only [go_sem, simprocAttr]; rfl)), by (first | rfl | (simp only [hlr, go_sem, simprocAttr]; done) | (simp only [hlr, go_sem, simprocAttr]; rfl))⟩
  · have hk' : frz1 (H k) = some (e, .fro n [cRun r ++ rest]) := hk
    have k6 : ¬ k = 1006 := fun e1 => by subst e1; rw [r6] at hk'; cases hk'
    have k7 : ¬ k = 1007 := fun e1 => by subst e1; rw [r7] at hk'; cases hk'
    have k8 : ¬ k = 1008 := fun e1 => by subst e1; rw [r8] at hk'; cases hk'
    have k10 : ¬ k = 1010 := fun e1 => by subst e1; rw [r10] at hk'; cases hk'
    repeat' (first
      | ((fail_if_success (with_reducible refine AW_at (id := 3) ?_)); with_reducible refine AW_seq_k ?_; intro K hK)
      | ((first | ((with_reducible first | refine AW_regL tabOK { base := 1000, own := [] } [] [39, 44, 61, 67] ?hsz ?_ | refine AW_drawL tabOK mix { base := 1000, own := [] } [] [39, 44, 61, 67] ?hsz (by decide +kernel) ?_ | refine AW_drawL tabOK mix { base := 1000, own := [] } [6, 7, 8, 10] [39, 44, 61, 67] ?hsz (by decide +kernel) ?_); (case hsz => rw [hXs]; rfl)) | (with_reducible first | refine AW_skip ?_ | refine AW_ret ?_ | refine AW_exit ?_ | refine AW_label ?_)); try simp (disch := omega) only [hfp, r6, r7, r8, r10, hk', k6, k7, k8, k10, hci, cRun, cCpl,go_sem, simprocAttr])
      | (with_reducible first | refine AW_scope ?_ | refine AW_blockS ?_ | refine AW_blockR ?_ | refine AW_blockC ?_)
      | ((with_reducible refine AW_condE ?_); refine ⟨_, (by first | rfl | (simp only [hfp, r6, r7, r8, r10, hk', k6, k7, k8, k10, hci, cRun, cCpl,go_sem, simprocAttr]; rfl)), ?_, ?_⟩ <;> intro hc <;> (try simp only [go_sem, simprocAttr] at hc) <;> (try (exfalso; omega)))
      | (with_reducible refine FnP_endE (by simp) ?_; refine ⟨_, (by simp only [Try.f75, hfp, r6, r7, r8, r10, hk', k6, k7, k8, k10, hci, cRun, cCpl,go_sem, simprocAttr]; rfl), ?_⟩; first | rfl | (try simp only [hfp, r6, r7, r8, r10, hk', k6, k7, k8, k10, hci, cRun, cCpl,go_sem, simprocAttr, Val.bool.injEq, Val.int.injEq, Val.tup.injEq, Val.agg.injEq, List.cons.injEq]))
      | with_reducible intro (ep : Nat → Nat)
      | with_reducible apply_assumption -exfalso -symm only [*])
    have hcut : ∀ f H, (f 3 = .pim [fp] ∧ f 4 = .pim [.int .i64 i] ∧ f 5 = .pim [.int .i64 m] ∧ H 1010 = none ∧ Pts H fp (cRun r ++ rest) ∧ ∃ e6 e7 e8, f 6 = .ptr 1006 e6 2 0 0 ∧ H 1006 = some (e6, .arr 2 [[.int .i64 0, .int .i64 0]]) ∧ f 7 = .ptr 1007 e7 6 0 0 ∧ H 1007 = some (e7, .arr 6 [cCpl c]) ∧ f 8 = .ptr 1008 e8 1 0 0 ∧ H 1008 = some (e8, .arr 1 [[.int .i64 (lastRow r c)]])) → K f H := by
      rintro f H ⟨h3, h4, h5, hH10, hP, e6, e7, e8, h6, hH6, h7, hH7, h8, hH8⟩
      refine hK f H ?_
      refine AW_freeze 1008 hH8 ?_
      have hP' : Pts (upd H 1008 (some (e8, .fro 1 [[.int .i64 (lastRow r c)]]))) fp (cRun r ++ rest) := by
        rcases hP with h | ⟨k', e', n', h, hk2⟩
        · exact .inl h
        · refine .inr ⟨k', e', n', h, ?_⟩
          by_cases hk8 : k' = 1008
          · subst hk8; unfold frzH at hk2; rw [hH8] at hk2; simp only [frz1, Option.some.injEq, Prod.mk.injEq, AObj.fro.injEq] at hk2; unfold frzH; rw [upd_same]; simp only [frz1, Option.some.injEq, Prod.mk.injEq, AObj.fro.injEq]; exact hk2
          · unfold frzH at hk2 ⊢; rw [upd_ne _ _ hk8]; exact hk2
      refine AW_retell8 (v := .pim [.int .i64 (lastRow r c)]) 8 2 (by simp only [go_sem, simprocAttr, h8]) ?_
      have hP'' : ∀ e x, Pts (upd (upd (upd H 1008 (some (e8, .fro 1 [[.int .i64 (lastRow r c)]]))) 1010 (some (e, .arr 2 [[.int .i64 0, .int .i64 0]]))) 1010 (some (e, .arr 2 [x]))) fp (cRun r ++ rest) := fun e x => by
        rcases hP' with h | ⟨k', e', n', h, hk2⟩
        · exact .inl h
        · refine .inr ⟨k', e', n', h, ?_⟩
          by_cases hk8 : k' = 1010
          · subst hk8; unfold frzH at hk2; rw [upd_ne _ _ (by decide), hH10] at hk2; cases hk2
          · unfold frzH at hk2 ⊢; rw [upd_ne _ _ hk8, upd_ne _ _ hk8]; exact hk2
      repeat' (first
        | (with_reducible refine AW_seq_k ?_; intro K hK)
        | ((first | ((with_reducible first | refine AW_regL tabOK { base := 1000, own := [] } [] [39, 44, 61, 67] ?hsz ?_ | refine AW_drawL tabOK mix { base := 1000, own := [] } [] [39, 44, 61, 67] ?hsz (by decide +kernel) ?_ | refine AW_drawL tabOK mix { base := 1000, own := [] } [6, 7, 8, 10] [39, 44, 61, 67] ?hsz (by decide +kernel) ?_); (case hsz => rw [hXs]; rfl)) | (with_reducible first | refine AW_skip ?_ | refine AW_ret ?_ | refine AW_exit ?_ | refine AW_label ?_) | refine pureK_intro (reads_look r hF rest _ _ hP' i hi m _ _ ⟨l1, l2⟩ hm (by omega)) ?_ | refine lookK_intro (reads_look r hF rest _ _ hP' i hi m _ _ ⟨l1, l2⟩ hm (by omega)) ?_); try simp (disch := omega) only [h3, h4, h5, h6, hH6, h7, hH7, hH10, cCpl,go_sem, simprocAttr])
        | (with_reducible first | refine AW_scope ?_ | refine AW_blockS ?_ | refine AW_blockR ?_ | refine AW_blockC ?_)
        | ((with_reducible refine AW_condE ?_); refine ⟨_, (by first | rfl | (simp only [h3, h4, h5, h6, hH6, h7, hH7, hH10, cCpl,go_sem, simprocAttr]; rfl)), ?_, ?_⟩ <;> intro hc <;> (try simp only [go_sem, simprocAttr] at hc) <;> (try (exfalso; omega)))
        | (with_reducible refine FnP_endE (by simp) ?_; refine ⟨_, (by simp only [Try.f75, h3, h4, h5, h6, hH6, h7, hH7, hH10, cCpl,go_sem, simprocAttr]; rfl), ?_⟩; first | rfl | (try simp only [h3, h4, h5, h6, hH6, h7, hH7, hH10, cCpl,go_sem, simprocAttr, Val.bool.injEq, Val.int.injEq, Val.tup.injEq, Val.agg.injEq, List.cons.injEq]))
        | with_reducible intro (ep : Nat → Nat)
        | with_reducible apply_assumption -exfalso -symm only [*])
      refine AW_block (AW_loop (fun n f H => ∃ k : Nat, n = (c.lag.hi - c.lag.lo).toNat - k ∧ k ≤ (c.lag.hi - c.lag.lo).toNat ∧ (f 9 = .fn 91 [.pim [fp], .pim [.int .i64 m], .pim [.int .i64 (lastRow r c)], .pim [.int .i64 i]]) ∧ Pts H fp (cRun r ++ rest) ∧ ∃ lag lo hi e6 e7 e10, lag = c.lag.lo + 1 + k ∧ f 11 = .int .i64 lag ∧ f 6 = .ptr 1006 e6 2 0 0 ∧ H 1006 = some (e6, .arr 2 [[.int .i64 0, .int .i64 0]]) ∧ f 7 = .ptr 1007 e7 6 0 0 ∧ H 1007 = some (e7, .arr 6 [cCpl c]) ∧ f 10 = .ptr 1010 e10 2 0 0 ∧ H 1010 = some (e10, .arr 2 [[.int .i64 lo, .int .i64 hi]]) ∧
          lo = extLo (readLag r c i m) c.lag.lo k ∧ hi = extHi (readLag r c i m) c.lag.lo k) (c.lag.hi - c.lag.lo).toNat
        ⟨0, by simp, Nat.zero_le _, by (first | rfl | (simp only [h3, h4, h5, go_sem, simprocAttr]; done) | (simp only [h3, h4, h5, go_sem, simprocAttr]; rfl)), hP'' _ _, c.lag.lo + 1, readLag r c i m c.lag.lo, readLag r c i m c.lag.lo, _, _, _, by simp, by (first | rfl | (simp only [go_sem, simprocAttr]; done) | (simp only [go_sem, simprocAttr]; rfl)), by (first | rfl | (simp only [h6, go_sem, simprocAttr]; done) | (simp only [h6, go_sem, simprocAttr]; rfl)), by (first | rfl | (simp only [hH6, go_sem, simprocAttr]; done) | (simp only [hH6, go_sem, simprocAttr]; rfl)), by (first | rfl | (simp only [h7, go_sem, simprocAttr]; done) | (simp only [h7, go_sem, simprocAttr]; rfl)), by (first | rfl | (simp only [hH7, cCpl, go_sem, simprocAttr]; done) | (simp only [hH7, cCpl, go_sem, simprocAttr]; rfl)), by (first | rfl | (simp only [go_sem, simprocAttr]; done) | (simp only [go_sem, simprocAttr]; rfl)), by (first | rfl | (simp only [go_sem, simprocAttr]; done) | (simp only [go_sem, simprocAttr]; rfl)), rfl, rfl⟩ ?_)
      rintro n f H ⟨k, rfl, hk, h9, hP, lag, lo, hi', e6, e7, e10, hlag, h11, h6, hH6, h7, hH7, h10, hH10, hlo, hhi⟩
      have hbd := ext_bounds (g := readLag r c i m) (lo := c.lag.lo) (a := 0) (b := 2000) k (fun j hj => by
        obtain ⟨x, d, _, _, q1, q2, q3⟩ := readAt_ok hF hi (row := min (m + (c.lag.lo + j)) (lastRow r c)) (by omega) (by omega)
        unfold readLag
        rw [q1]; exact ⟨q2, q3⟩)
      rw [← hlo, ← hhi] at hbd
      by_cases hlt : lag ≤ c.lag.hi
      · have stepL : min lo (readLag r c i m lag) = extLo (readLag r c i m) c.lag.lo (k + 1) ∧ max hi' (readLag r c i m lag) = extHi (readLag r c i m) c.lag.lo (k + 1) := by
          simp only [extLo, extHi]
          rw [show c.lag.lo + ((k + 1 : Nat) : Int) = lag by omega, ← hlo, ← hhi]
          exact ⟨rfl, rfl⟩
        repeat' (first
          | (with_reducible refine AW_seq_k ?_; intro K hK)
          | ((first | ((with_reducible first | refine AW_regL tabOK { base := 1000, own := [] } [] [39, 44, 61, 67] ?hsz ?_ | refine AW_drawL tabOK mix { base := 1000, own := [] } [] [39, 44, 61, 67] ?hsz (by decide +kernel) ?_ | refine AW_drawL tabOK mix { base := 1000, own := [] } [6, 7, 8, 10] [39, 44, 61, 67] ?hsz (by decide +kernel) ?_); (case hsz => rw [hXs]; rfl)) | (with_reducible first | refine AW_skip ?_ | refine AW_ret ?_ | refine AW_exit ?_ | refine AW_label ?_) | refine pureK_intro (reads_look r hF rest _ _ hP i hi m _ _ ⟨l1, l2⟩ hm (by omega)) ?_ | refine lookK_intro (reads_look r hF rest _ _ hP i hi m _ _ ⟨l1, l2⟩ hm (by omega)) ?_); try simp (disch := omega) only [h6, h7, h9, h10, h11, hH6, hH7, hH10, cCpl,go_sem, simprocAttr])
          | (with_reducible first | refine AW_scope ?_ | refine AW_blockS ?_ | refine AW_blockR ?_ | refine AW_blockC ?_)
          | ((with_reducible refine AW_condE ?_); refine ⟨_, (by first | rfl | (simp only [h6, h7, h9, h10, h11, hH6, hH7, hH10, cCpl,go_sem, simprocAttr]; rfl)), ?_, ?_⟩ <;> intro hc <;> (try simp only [go_sem, simprocAttr] at hc) <;> (try (exfalso; omega)))
          | (with_reducible refine FnP_endE (by simp) ?_; refine ⟨_, (by simp only [Try.f75, h6, h7, h9, h10, h11, hH6, hH7, hH10, cCpl,go_sem, simprocAttr]; rfl), ?_⟩; first | rfl | (try simp only [h6, h7, h9, h10, h11, hH6, hH7, hH10, cCpl,go_sem, simprocAttr, Val.bool.injEq, Val.int.injEq, Val.tup.injEq, Val.agg.injEq, List.cons.injEq]))
          | with_reducible intro (ep : Nat → Nat)
          | with_reducible apply_assumption -exfalso -symm only [*])
        exact ⟨(c.lag.hi - c.lag.lo).toNat - (k + 1), by omega, k + 1, rfl, by omega, hP.upd (fun e n h => by rw [hH10] at h; simp [frz1, cRun] at h), _, _, _, _, _, _, by omega, rfl, rfl, rfl, rfl, rfl, rfl, rfl, stepL.1, stepL.2⟩
      · have hkk : (c.lag.hi - c.lag.lo).toNat = k := by omega
        repeat' (first
          | (with_reducible refine AW_seq_k ?_; intro K hK)
          | ((first | ((with_reducible first | refine AW_regL tabOK { base := 1000, own := [] } [] [39, 44, 61, 67] ?hsz ?_ | refine AW_drawL tabOK mix { base := 1000, own := [] } [] [39, 44, 61, 67] ?hsz (by decide +kernel) ?_ | refine AW_drawL tabOK mix { base := 1000, own := [] } [6, 7, 8, 10] [39, 44, 61, 67] ?hsz (by decide +kernel) ?_); (case hsz => rw [hXs]; rfl)) | (with_reducible first | refine AW_skip ?_ | refine AW_ret ?_ | refine AW_exit ?_ | refine AW_label ?_) | refine pureK_intro (plus_ok ⟨lo, hi'⟩ ⟨0 - c.err.hi, 0 - c.err.lo⟩ (by simp only; omega)) ?_ | refine lookK_intro (plus_ok ⟨lo, hi'⟩ ⟨0 - c.err.hi, 0 - c.err.lo⟩ (by simp only; omega)) ?_); try simp (disch := omega) only [h6, h7, h9, h10, h11, hH6, hH7, hH10, cCpl, encSpan,go_sem, simprocAttr])
          | (with_reducible first | refine AW_scope ?_ | refine AW_blockS ?_ | refine AW_blockR ?_ | refine AW_blockC ?_)
          | ((with_reducible refine AW_condE ?_); refine ⟨_, (by first | rfl | (simp only [h6, h7, h9, h10, h11, hH6, hH7, hH10, cCpl, encSpan,go_sem, simprocAttr]; rfl)), ?_, ?_⟩ <;> intro hc <;> (try simp only [go_sem, simprocAttr] at hc) <;> (try (exfalso; omega)))
          | (with_reducible refine FnP_endE (by simp) ?_; refine ⟨_, (by simp only [Try.f75, h6, h7, h9, h10, h11, hH6, hH7, hH10, cCpl, encSpan,go_sem, simprocAttr]; rfl), ?_⟩; first | rfl | (try simp only [h6, h7, h9, h10, h11, hH6, hH7, hH10, cCpl, encSpan,go_sem, simprocAttr, Val.bool.injEq, Val.int.injEq, Val.tup.injEq, Val.agg.injEq, List.cons.injEq]))
          | with_reducible intro (ep : Nat → Nat)
          | with_reducible apply_assumption -exfalso -symm only [*])
        simp only [truth, hkk]
        rw [← hlo, ← hhi]
        constructor <;> omega
    clear hK
    have hpk : ∀ H' : Hp, H' k = some (e, .fro n [cRun r ++ rest]) → Pts H' (.ptr k e n 0 0) (cRun r ++ rest) := fun H' h => .inr ⟨k, e, n, rfl, by simp only [frzH, h, frz1]⟩
    by_cases hb : 0 < c.brk
    · have hlr : lastRow r c = min (r.rows.length : Int) (c.brk - 1) := by rw [lastRow, if_pos hb]
      repeat' (first
        | (with_reducible refine AW_seq_k ?_; intro K hK)
        | ((first | ((with_reducible first | refine AW_regL tabOK { base := 1000, own := [] } [] [39, 44, 61, 67] ?hsz ?_ | refine AW_drawL tabOK mix { base := 1000, own := [] } [] [39, 44, 61, 67] ?hsz (by decide +kernel) ?_ | refine AW_drawL tabOK mix { base := 1000, own := [] } [6, 7, 8, 10] [39, 44, 61, 67] ?hsz (by decide +kernel) ?_); (case hsz => rw [hXs]; rfl)) | (with_reducible first | refine AW_skip ?_ | refine AW_ret ?_ | refine AW_exit ?_ | refine AW_label ?_)); try simp (disch := omega) only [hfp, r6, r7, r8, r10, hk', k6, k7, k8, k10, hci, cRun, cCpl,go_sem, simprocAttr])
        | (with_reducible first | refine AW_scope ?_ | refine AW_blockS ?_ | refine AW_blockR ?_ | refine AW_blockC ?_)
        | ((with_reducible refine AW_condE ?_); refine ⟨_, (by first | rfl | (simp only [hfp, r6, r7, r8, r10, hk', k6, k7, k8, k10, hci, cRun, cCpl,go_sem, simprocAttr]; rfl)), ?_, ?_⟩ <;> intro hc <;> (try simp only [go_sem, simprocAttr] at hc) <;> (try (exfalso; omega)))
        | (with_reducible refine FnP_endE (by simp) ?_; refine ⟨_, (by simp only [Try.f75, hfp, r6, r7, r8, r10, hk', k6, k7, k8, k10, hci, cRun, cCpl,go_sem, simprocAttr]; rfl), ?_⟩; first | rfl | (try simp only [hfp, r6, r7, r8, r10, hk', k6, k7, k8, k10, hci, cRun, cCpl,go_sem, simprocAttr, Val.bool.injEq, Val.int.injEq, Val.tup.injEq, Val.agg.injEq, List.cons.injEq]))
        | with_reducible intro (ep : Nat → Nat)
        | with_reducible apply_assumption -exfalso -symm only [*])
      exact ⟨by (first | rfl | (simp only [hfp, go_sem, simprocAttr]; done) | (simp only [hfp, go_sem, simprocAttr]; rfl)), by (first | rfl | (simp only [go_sem, simprocAttr]; done) | (simp only [go_sem, simprocAttr]; rfl)), by (first | rfl | (simp only [go_sem, simprocAttr]; done) | (simp only [go_sem, simprocAttr]; rfl)), by (first | rfl | (simp only [r10, go_sem, simprocAttr]; done) | (simp only [r10, go_sem, simprocAttr]; rfl)), by rw [hfp]; exact hpk _ (by simp only [go_sem, simprocAttr, hk', k6, k7, k8, cRun]), _, _, _, by (first | rfl | (simp only [go_sem, simprocAttr]; done) | (simp only [go_sem, simprocAttr]; rfl)), by (first | rfl | (simp only [go_sem, simprocAttr]; done) | (simp only [go_sem, simprocAttr]; rfl)), by (first | rfl | (simp only [go_sem, simprocAttr]; done) | (simp only [go_sem, simprocAttr]; rfl)), by (first | rfl | (simp only [cCpl, go_sem, simprocAttr]; done) | (simp only [cCpl, go_sem, simprocAttr]; rfl)), by (first | rfl | (simp only [go_sem, simprocAttr]; done) | (simp only [go_sem, simprocAttr]; rfl)), by (first | rfl | (simp only [hlr, go_sem, simprocAttr]; done) | (simp only [hlr, go_sem, simprocAttr]; rfl))⟩
    · have hlr : lastRow r c = r.rows.length := by rw [lastRow, if_neg hb]
      repeat' (first
        | (with_reducible refine AW_seq_k ?_; intro K hK)
        | ((first | ((with_reducible first | refine AW_regL tabOK { base := 1000, own := [] } [] [39, 44, 61, 67] ?hsz ?_ | refine AW_drawL tabOK mix { base := 1000, own := [] } [] [39, 44, 61, 67] ?hsz (by decide +kernel) ?_ | refine AW_drawL tabOK mix { base := 1000, own := [] } [6, 7, 8, 10] [39, 44, 61, 67] ?hsz (by decide +kernel) ?_); (case hsz => rw [hXs]; rfl)) | (with_reducible first | refine AW_skip ?_ | refine AW_ret ?_ | refine AW_exit ?_ | refine AW_label ?_)); try simp (disch := omega) only [hfp, r6, r7, r8, r10, hk', k6, k7, k8, k10, hci, cRun, cCpl,go_sem, simprocAttr])
        | (with_reducible first | refine AW_scope ?_ | refine AW_blockS ?_ | refine AW_blockR ?_ | refine AW_blockC ?_)
        | ((with_reducible refine AW_condE ?_); refine ⟨_, (by first | rfl | (simp only [hfp, r6, r7, r8, r10, hk', k6, k7, k8, k10, hci, cRun, cCpl,go_sem, simprocAttr]; rfl)), ?_, ?_⟩ <;> intro hc <;> (try simp only [go_sem, simprocAttr] at hc) <;> (try (exfalso; omega)))
        | (with_reducible refine FnP_endE (by simp) ?_; refine ⟨_, (by simp only [Try.f75, hfp, r6, r7, r8, r10, hk', k6, k7, k8, k10, hci, cRun, cCpl,go_sem, simprocAttr]; rfl), ?_⟩; first | rfl | (try simp only [hfp, r6, r7, r8, r10, hk', k6, k7, k8, k10, hci, cRun, cCpl,go_sem, simprocAttr, Val.bool.injEq, Val.int.injEq, Val.tup.injEq, Val.agg.injEq, List.cons.injEq]))
        | with_reducible intro (ep : Nat → Nat)
        | with_reducible apply_assumption -exfalso -symm only [*])
      exact ⟨by (first | rfl | (simp only [hfp, go_sem, simprocAttr]; done) | (simp only [hfp, go_sem, simprocAttr]; rfl)), by (first | rfl | (simp only [go_sem, simprocAttr]; done) | (simp only [go_sem, simprocAttr]; rfl)), by (first | rfl | (simp only [go_sem, simprocAttr]; done) | (simp only [go_sem, simprocAttr]; rfl)), by (first | rfl | (simp only [r10, go_sem, simprocAttr]; done) | (simp only [r10, go_sem, simprocAttr]; rfl)), by rw [hfp]; exact hpk _ (by simp only [go_sem, simprocAttr, hk', k6, k7, k8, cRun]), _, _, _, by (first | rfl | (simp only [go_sem, simprocAttr]; done) | (simp only [go_sem, simprocAttr]; rfl)), by (first | rfl | (simp only [go_sem, simprocAttr]; done) | (simp only [go_sem, simprocAttr]; rfl)), by (first | rfl | (simp only [go_sem, simprocAttr]; done) | (simp only [go_sem, simprocAttr]; rfl)), by (first | rfl | (simp only [cCpl, go_sem, simprocAttr]; done) | (simp only [cCpl, go_sem, simprocAttr]; rfl)), by (first | rfl | (simp only [go_sem, simprocAttr]; done) | (simp only [go_sem, simprocAttr]; rfl)), by (first | rfl | (simp only [hlr, go_sem, simprocAttr]; done) | (simp only [hlr, go_sem, simprocAttr]; rfl))⟩
end Cp

