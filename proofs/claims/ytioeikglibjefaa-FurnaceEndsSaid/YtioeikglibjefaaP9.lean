/- Rules, facts and contracts that the statement's proof leans on. Conditions: none. -/
import Derived.Test.YtioeikglibjefaaP8
set_option linter.unusedVariables false
set_option linter.unusedSimpArgs false
set_option linter.unusedSectionVars false
namespace Cp
open Go Go.Proofs
set_option maxRecDepth 10000
theorem Pts.upd {H : Hp} {fp : Val} {cs : List Val} {k : Nat} {p : Option (Nat × AObj)} (h : Pts H fp cs) (hk : ∀ e n, ¬ frz1 (H k) = some (e, .fro n [cs])) : Pts (Cp.upd H k p) fp cs := by
 rcases h with h | ⟨k', e', n', h, hk2⟩
 ·exact .inl h
 ·refine .inr ⟨k', e', n', h, ?_⟩
  by_cases hkk : k' = k
  ·subst hkk; exact (hk _ _ hk2).elim
  ·unfold frzH at hk2 ⊢; rw [upd_ne _ _ hkk]; exact hk2
def Room (H : Hp) (b n : Nat) : Prop := ∀ d, d < n → H (b + d) = none
theorem Pts.keep {H : Hp} {fp : Val} {cs : List Val} (h : Pts H fp cs) : fp = .pim cs ∨ ∃ k e n, fp = .ptr k e n 0 0 ∧ frz1 (H k) = some (e, .fro n [cs]) := h
theorem truth_look (r : RunT) (hF : RunF r) (rest : List Val) (H : Hp) (fp : Val) (hp : Pts H fp (cRun r ++ rest)) (hroom : Room H 1000 100) (i : Nat) (c : Cpl) (hci : r.cpls[i]? = some c) (m : Int) (hm : 1 ≤ m ∧ m ≤ r.rows.length) (hw : works c m = true) :
  LookC Try.prog 75 [fp, .int .i64 i, .int .i64 m] H (encSpan (truth r c i m)) := by
 have hrows := hF.rows
 have hcl := hF.cpls
 have hi : i < r.cpls.length := (List.getElem?_eq_some_iff.1 hci).1
 have hcf := hF.cpl i c hci
 obtain ⟨l1, l2⟩ := lastRow_pos hF hci hm.1 hw
 have r6 : frz1 (H 1006) = none := by rw [hroom 6 (by omega)]; rfl
 have r7 : frz1 (H 1007) = none := by rw [hroom 7 (by omega)]; rfl
 have r8 : frz1 (H 1008) = none := by rw [hroom 8 (by omega)]; rfl
 have r10 : frz1 (H 1010) = none := by rw [hroom 10 (by omega)]; rfl
 have hge : (0 : Int) ≤ i := by omega
 refine LookC_of (fn := Try.f75) tabOK (by kernel_rfl) rfl (by kernel_rfl) (by simp [Try.f75]) rfl ?_
 intro X hX0 hXs
 rcases hp with hfp | ⟨k, e, n, hfp, hk⟩
 ·repeat' (first | ((fail_if_success (with_reducible refine AW_at (id := 3) ?_)); with_reducible refine sk ?_; intro K hK) | ((with_reducible first | refine rgL [] [39, 44, 61, 67] (md := { base := 1000, own := [] }) (h := ?_) | refine rgL [6, 7, 8, 10] [39, 44, 61, 67] (md := { base := 1000, own := [] }) (h := ?_) | refine nx ?_); try simp (disch := omega) only [hfp, r6, r7, r8, r10, hci, cRun, cCpl,go_sem, simprocAttr]) | (with_reducible refine bk ?_) | ((with_reducible refine' cE ?hv ?_ ?_); (case hv => first | rfl | (simp only [hfp, r6, r7, r8, r10, hci, cRun, cCpl,go_sem, simprocAttr]; rfl)); all_goals (intro hc; (try simp only [go_sem, simprocAttr] at hc); try (exfalso; omega))) | with_reducible intro (ep : Nat → Nat) | with_reducible apply_assumption -exfalso -symm only [*])
  have hcut : ∀ f H, (f 3 = .pim [fp] ∧ f 4 = .pim [.int .i64 i] ∧ f 5 = .pim [.int .i64 m] ∧ H 1010 = none ∧ Pts H fp (cRun r ++ rest) ∧ ∃ e6 e7 e8, f 6 = .ptr 1006 e6 2 0 0 ∧ H 1006 = some (e6, .arr 2 [[.int .i64 0, .int .i64 0]]) ∧ f 7 = .ptr 1007 e7 6 0 0 ∧ H 1007 = some (e7, .arr 6 [cCpl c]) ∧ f 8 = .ptr 1008 e8 1 0 0 ∧ H 1008 = some (e8, .arr 1 [[.int .i64 (lastRow r c)]])) → K f H := by
   rintro f H ⟨h3, h4, h5, hH10, hP, e6, e7, e8, h6, hH6, h7, hH7, h8, hH8⟩
   refine hK f H ?_
   refine AW_freeze 1008 hH8 ?_
   have hP' : Pts (upd H 1008 (some (e8, .fro 1 [[.int .i64 (lastRow r c)]]))) fp (cRun r ++ rest) := by
    rcases hP with h | ⟨k', e', n', h, hk2⟩
    ·exact .inl h
    ·refine .inr ⟨k', e', n', h, ?_⟩
     by_cases hk8 : k' = 1008
     ·subst hk8; unfold frzH at hk2; rw [hH8] at hk2; simp only [frz1, Option.some.injEq, Prod.mk.injEq, AObj.fro.injEq] at hk2; unfold frzH; rw [upd_same]; simp only [frz1, Option.some.injEq, Prod.mk.injEq, AObj.fro.injEq]; exact hk2
     ·unfold frzH at hk2 ⊢; rw [upd_ne _ _ hk8]; exact hk2
   refine AW_retell8 (v := .pim [.int .i64 (lastRow r c)]) 8 2 (by simp only [go_sem, simprocAttr, h8]) ?_
   have hP'' : ∀ e x, Pts (upd (upd (upd H 1008 (some (e8, .fro 1 [[.int .i64 (lastRow r c)]]))) 1010 (some (e, .arr 2 [[.int .i64 0, .int .i64 0]]))) 1010 (some (e, .arr 2 [x]))) fp (cRun r ++ rest) := fun e x => by
    rcases hP' with h | ⟨k', e', n', h, hk2⟩
    ·exact .inl h
    ·refine .inr ⟨k', e', n', h, ?_⟩
     by_cases hk8 : k' = 1010
     ·subst hk8; unfold frzH at hk2; rw [upd_ne _ _ (by decide), hH10] at hk2; cases hk2
     ·unfold frzH at hk2 ⊢; rw [upd_ne _ _ hk8, upd_ne _ _ hk8]; exact hk2
   repeat' (first | (with_reducible refine sk ?_; intro K hK) | ((first | (with_reducible first | refine rgL [] [39, 44, 61, 67] (md := { base := 1000, own := [] }) (h := ?_) | refine rgL [6, 7, 8, 10] [39, 44, 61, 67] (md := { base := 1000, own := [] }) (h := ?_) | refine nx ?_) | refine pK (reads_look r hF rest _ _ hP' i hi m _ _ ⟨l1, l2⟩ hm (by omega)) ?_ | refine lK (reads_look r hF rest _ _ hP' i hi m _ _ ⟨l1, l2⟩ hm (by omega)) ?_); try simp (disch := omega) only [h3, h4, h5, h6, hH6, h7, hH7, hH10, cCpl,go_sem, simprocAttr]) | (with_reducible refine bk ?_) | ((with_reducible refine' cE ?hv ?_ ?_); (case hv => first | rfl | (simp only [h3, h4, h5, h6, hH6, h7, hH7, hH10, cCpl,go_sem, simprocAttr]; rfl)); all_goals (intro hc; (try simp only [go_sem, simprocAttr] at hc); try (exfalso; omega))) | with_reducible intro (ep : Nat → Nat) | with_reducible apply_assumption -exfalso -symm only [*])
   refine AW_block (AW_loop (fun n f H => ∃ k : Nat, n = (c.lag.hi - c.lag.lo).toNat - k ∧ k ≤ (c.lag.hi - c.lag.lo).toNat ∧ (f 9 = .fn 91 [.pim [fp], .pim [.int .i64 m], .pim [.int .i64 (lastRow r c)], .pim [.int .i64 i]]) ∧ Pts H fp (cRun r ++ rest) ∧ ∃ lag lo hi e6 e7 e10, lag = c.lag.lo + 1 + k ∧ f 11 = .int .i64 lag ∧ f 6 = .ptr 1006 e6 2 0 0 ∧ H 1006 = some (e6, .arr 2 [[.int .i64 0, .int .i64 0]]) ∧ f 7 = .ptr 1007 e7 6 0 0 ∧ H 1007 = some (e7, .arr 6 [cCpl c]) ∧ f 10 = .ptr 1010 e10 2 0 0 ∧ H 1010 = some (e10, .arr 2 [[.int .i64 lo, .int .i64 hi]]) ∧
     lo = extLo (readLag r c i m) c.lag.lo k ∧ hi = extHi (readLag r c i m) c.lag.lo k) (c.lag.hi - c.lag.lo).toNat
    ⟨0, by simp, Nat.zero_le _, by (first | rfl | (simp only [h3, h4, h5, go_sem, simprocAttr]; done) | (simp only [h3, h4, h5, go_sem, simprocAttr]; rfl)), hP'' _ _, c.lag.lo + 1, readLag r c i m c.lag.lo, readLag r c i m c.lag.lo, _, _, _, by simp, by (first | rfl | (simp only [go_sem, simprocAttr]; done) | (simp only [go_sem, simprocAttr]; rfl)), by (first | rfl | (simp only [h6, go_sem, simprocAttr]; done) | (simp only [h6, go_sem, simprocAttr]; rfl)), by (first | rfl | (simp only [hH6, go_sem, simprocAttr]; done) | (simp only [hH6, go_sem, simprocAttr]; rfl)), by (first | rfl | (simp only [h7, go_sem, simprocAttr]; done) | (simp only [h7, go_sem, simprocAttr]; rfl)), by (first | rfl | (simp only [hH7, cCpl, go_sem, simprocAttr]; done) | (simp only [hH7, cCpl, go_sem, simprocAttr]; rfl)), by (first | rfl | (simp only [go_sem, simprocAttr]; done) | (simp only [go_sem, simprocAttr]; rfl)), by (first | rfl | (simp only [go_sem, simprocAttr]; done) | (simp only [go_sem, simprocAttr]; rfl)), rfl, rfl⟩ ?_)
   rintro n f H ⟨k, rfl, hk, h9, hP, lag, lo, hi', e6, e7, e10, hlag, h11, h6, hH6, h7, hH7, h10, hH10, hlo, hhi⟩
   have hbd := ext_bounds (g := readLag r c i m) (lo := c.lag.lo) (a := 0) (b := 2000) k (fun j hj => by
    obtain ⟨x, d, _, _, q1, q2, q3⟩ := readAt_ok hF hi (row := min (m + (c.lag.lo + j)) (lastRow r c)) (by omega) (by omega)
    unfold readLag
    rw [q1]; exact ⟨q2, q3⟩)
   rw [← hlo, ← hhi] at hbd
   by_cases hlt : lag ≤ c.lag.hi
   ·have stepL : min lo (readLag r c i m lag) = extLo (readLag r c i m) c.lag.lo (k + 1) ∧ max hi' (readLag r c i m lag) = extHi (readLag r c i m) c.lag.lo (k + 1) := by
     simp only [extLo, extHi]
     rw [show c.lag.lo + ((k + 1 : Nat) : Int) = lag by omega, ← hlo, ← hhi]
     exact ⟨rfl, rfl⟩
    repeat' (first | (with_reducible refine sk ?_; intro K hK) | ((first | (with_reducible first | refine rgL [] [39, 44, 61, 67] (md := { base := 1000, own := [] }) (h := ?_) | refine rgL [6, 7, 8, 10] [39, 44, 61, 67] (md := { base := 1000, own := [] }) (h := ?_) | refine nx ?_) | refine pK (reads_look r hF rest _ _ hP i hi m _ _ ⟨l1, l2⟩ hm (by omega)) ?_ | refine lK (reads_look r hF rest _ _ hP i hi m _ _ ⟨l1, l2⟩ hm (by omega)) ?_); try simp (disch := omega) only [h6, h7, h9, h10, h11, hH6, hH7, hH10, cCpl,go_sem, simprocAttr]) | (with_reducible refine bk ?_) | ((with_reducible refine' cE ?hv ?_ ?_); (case hv => first | rfl | (simp only [h6, h7, h9, h10, h11, hH6, hH7, hH10, cCpl,go_sem, simprocAttr]; rfl)); all_goals (intro hc; (try simp only [go_sem, simprocAttr] at hc); try (exfalso; omega))) | with_reducible intro (ep : Nat → Nat) | with_reducible apply_assumption -exfalso -symm only [*])
    exact ⟨(c.lag.hi - c.lag.lo).toNat - (k + 1), by omega, k + 1, rfl, by omega, hP.upd (fun e n h => by rw [hH10] at h; simp [frz1, cRun] at h), _, _, _, _, _, _, by omega, rfl, rfl, rfl, rfl, rfl, rfl, rfl, stepL.1, stepL.2⟩
   ·have hkk : (c.lag.hi - c.lag.lo).toNat = k := by omega
    repeat' (first | (with_reducible refine sk ?_; intro K hK) | ((first | (with_reducible first | refine rgL [] [39, 44, 61, 67] (md := { base := 1000, own := [] }) (h := ?_) | refine rgL [6, 7, 8, 10] [39, 44, 61, 67] (md := { base := 1000, own := [] }) (h := ?_) | refine nx ?_) | refine pK (plus_ok ⟨lo, hi'⟩ ⟨0 - c.err.hi, 0 - c.err.lo⟩ (by simp only; omega)) ?_ | refine lK (plus_ok ⟨lo, hi'⟩ ⟨0 - c.err.hi, 0 - c.err.lo⟩ (by simp only; omega)) ?_); try simp (disch := omega) only [h6, h7, h9, h10, h11, hH6, hH7, hH10, cCpl, encSpan,go_sem, simprocAttr]) | (with_reducible refine bk ?_) | ((with_reducible refine' cE ?hv ?_ ?_); (case hv => first | rfl | (simp only [h6, h7, h9, h10, h11, hH6, hH7, hH10, cCpl, encSpan,go_sem, simprocAttr]; rfl)); all_goals (intro hc; (try simp only [go_sem, simprocAttr] at hc); try (exfalso; omega))) | ((with_reducible refine fe ?_); refine ⟨_, (by simp only [Try.f75, h6, h7, h9, h10, h11, hH6, hH7, hH10, cCpl, encSpan,go_sem, simprocAttr]; rfl), ?_⟩; first | rfl | (try simp only [h6, h7, h9, h10, h11, hH6, hH7, hH10, cCpl, encSpan,go_sem, simprocAttr, seval])) | with_reducible intro (ep : Nat → Nat) | with_reducible apply_assumption -exfalso -symm only [*])
    simp only [truth, hkk]
    rw [← hlo, ← hhi]
    constructor <;> omega
  clear hK
  by_cases hb : 0 < c.brk
  ·have hlr : lastRow r c = min (r.rows.length : Int) (c.brk - 1) := by rw [lastRow, if_pos hb]
   repeat' (first | (with_reducible refine sk ?_; intro K hK) | ((with_reducible first | refine rgL [] [39, 44, 61, 67] (md := { base := 1000, own := [] }) (h := ?_) | refine rgL [6, 7, 8, 10] [39, 44, 61, 67] (md := { base := 1000, own := [] }) (h := ?_) | refine nx ?_); try simp (disch := omega) only [hfp, r6, r7, r8, r10, hci, cRun, cCpl,go_sem, simprocAttr]) | (with_reducible refine bk ?_) | ((with_reducible refine' cE ?hv ?_ ?_); (case hv => first | rfl | (simp only [hfp, r6, r7, r8, r10, hci, cRun, cCpl,go_sem, simprocAttr]; rfl)); all_goals (intro hc; (try simp only [go_sem, simprocAttr] at hc); try (exfalso; omega))) | with_reducible intro (ep : Nat → Nat) | with_reducible apply_assumption -exfalso -symm only [*])
   exact ⟨by (first | rfl | (simp only [hfp, go_sem, simprocAttr]; done) | (simp only [hfp, go_sem, simprocAttr]; rfl)), by (first | rfl | (simp only [go_sem, simprocAttr]; done) | (simp only [go_sem, simprocAttr]; rfl)), by (first | rfl | (simp only [go_sem, simprocAttr]; done) | (simp only [go_sem, simprocAttr]; rfl)), by (first | rfl | (simp only [r10, go_sem, simprocAttr]; done) | (simp only [r10, go_sem, simprocAttr]; rfl)), .inl hfp, _, _, _, by (first | rfl | (simp only [go_sem, simprocAttr]; done) | (simp only [go_sem, simprocAttr]; rfl)), by (first | rfl | (simp only [go_sem, simprocAttr]; done) | (simp only [go_sem, simprocAttr]; rfl)), by (first | rfl | (simp only [go_sem, simprocAttr]; done) | (simp only [go_sem, simprocAttr]; rfl)), by (first | rfl | (simp only [cCpl, go_sem, simprocAttr]; done) | (simp only [cCpl, go_sem, simprocAttr]; rfl)), by (first | rfl | (simp only [go_sem, simprocAttr]; done) | (simp only [go_sem, simprocAttr]; rfl)), by (first | rfl | (simp only [hlr, go_sem, simprocAttr]; done) | (simp only [hlr, go_sem, simprocAttr]; rfl))⟩
  ·have hlr : lastRow r c = r.rows.length := by rw [lastRow, if_neg hb]
   repeat' (first | (with_reducible refine sk ?_; intro K hK) | ((with_reducible first | refine rgL [] [39, 44, 61, 67] (md := { base := 1000, own := [] }) (h := ?_) | refine rgL [6, 7, 8, 10] [39, 44, 61, 67] (md := { base := 1000, own := [] }) (h := ?_) | refine nx ?_); try simp (disch := omega) only [hfp, r6, r7, r8, r10, hci, cRun, cCpl,go_sem, simprocAttr]) | (with_reducible refine bk ?_) | ((with_reducible refine' cE ?hv ?_ ?_); (case hv => first | rfl | (simp only [hfp, r6, r7, r8, r10, hci, cRun, cCpl,go_sem, simprocAttr]; rfl)); all_goals (intro hc; (try simp only [go_sem, simprocAttr] at hc); try (exfalso; omega))) | with_reducible intro (ep : Nat → Nat) | with_reducible apply_assumption -exfalso -symm only [*])
   exact ⟨by (first | rfl | (simp only [hfp, go_sem, simprocAttr]; done) | (simp only [hfp, go_sem, simprocAttr]; rfl)), by (first | rfl | (simp only [go_sem, simprocAttr]; done) | (simp only [go_sem, simprocAttr]; rfl)), by (first | rfl | (simp only [go_sem, simprocAttr]; done) | (simp only [go_sem, simprocAttr]; rfl)), by (first | rfl | (simp only [r10, go_sem, simprocAttr]; done) | (simp only [r10, go_sem, simprocAttr]; rfl)), .inl hfp, _, _, _, by (first | rfl | (simp only [go_sem, simprocAttr]; done) | (simp only [go_sem, simprocAttr]; rfl)), by (first | rfl | (simp only [go_sem, simprocAttr]; done) | (simp only [go_sem, simprocAttr]; rfl)), by (first | rfl | (simp only [go_sem, simprocAttr]; done) | (simp only [go_sem, simprocAttr]; rfl)), by (first | rfl | (simp only [cCpl, go_sem, simprocAttr]; done) | (simp only [cCpl, go_sem, simprocAttr]; rfl)), by (first | rfl | (simp only [go_sem, simprocAttr]; done) | (simp only [go_sem, simprocAttr]; rfl)), by (first | rfl | (simp only [hlr, go_sem, simprocAttr]; done) | (simp only [hlr, go_sem, simprocAttr]; rfl))⟩
 ·have hk' : frz1 (H k) = some (e, .fro n [cRun r ++ rest]) := hk
  have k6 : ¬ k = 1006 := fun e1 => by subst e1; rw [r6] at hk'; cases hk'
  have k7 : ¬ k = 1007 := fun e1 => by subst e1; rw [r7] at hk'; cases hk'
  have k8 : ¬ k = 1008 := fun e1 => by subst e1; rw [r8] at hk'; cases hk'
  have k10 : ¬ k = 1010 := fun e1 => by subst e1; rw [r10] at hk'; cases hk'
  repeat' (first | ((fail_if_success (with_reducible refine AW_at (id := 3) ?_)); with_reducible refine sk ?_; intro K hK) | ((with_reducible first | refine rgL [] [39, 44, 61, 67] (md := { base := 1000, own := [] }) (h := ?_) | refine rgL [6, 7, 8, 10] [39, 44, 61, 67] (md := { base := 1000, own := [] }) (h := ?_) | refine nx ?_); try simp (disch := omega) only [hfp, r6, r7, r8, r10, hk', k6, k7, k8, k10, hci, cRun, cCpl,go_sem, simprocAttr]) | (with_reducible refine bk ?_) | ((with_reducible refine' cE ?hv ?_ ?_); (case hv => first | rfl | (simp only [hfp, r6, r7, r8, r10, hk', k6, k7, k8, k10, hci, cRun, cCpl,go_sem, simprocAttr]; rfl)); all_goals (intro hc; (try simp only [go_sem, simprocAttr] at hc); try (exfalso; omega))) | with_reducible intro (ep : Nat → Nat) | with_reducible apply_assumption -exfalso -symm only [*])
  have hcut : ∀ f H, (f 3 = .pim [fp] ∧ f 4 = .pim [.int .i64 i] ∧ f 5 = .pim [.int .i64 m] ∧ H 1010 = none ∧ Pts H fp (cRun r ++ rest) ∧ ∃ e6 e7 e8, f 6 = .ptr 1006 e6 2 0 0 ∧ H 1006 = some (e6, .arr 2 [[.int .i64 0, .int .i64 0]]) ∧ f 7 = .ptr 1007 e7 6 0 0 ∧ H 1007 = some (e7, .arr 6 [cCpl c]) ∧ f 8 = .ptr 1008 e8 1 0 0 ∧ H 1008 = some (e8, .arr 1 [[.int .i64 (lastRow r c)]])) → K f H := by
   rintro f H ⟨h3, h4, h5, hH10, hP, e6, e7, e8, h6, hH6, h7, hH7, h8, hH8⟩
   refine hK f H ?_
   refine AW_freeze 1008 hH8 ?_
   have hP' : Pts (upd H 1008 (some (e8, .fro 1 [[.int .i64 (lastRow r c)]]))) fp (cRun r ++ rest) := by
    rcases hP with h | ⟨k', e', n', h, hk2⟩
    ·exact .inl h
    ·refine .inr ⟨k', e', n', h, ?_⟩
     by_cases hk8 : k' = 1008
     ·subst hk8; unfold frzH at hk2; rw [hH8] at hk2; simp only [frz1, Option.some.injEq, Prod.mk.injEq, AObj.fro.injEq] at hk2; unfold frzH; rw [upd_same]; simp only [frz1, Option.some.injEq, Prod.mk.injEq, AObj.fro.injEq]; exact hk2
     ·unfold frzH at hk2 ⊢; rw [upd_ne _ _ hk8]; exact hk2
   refine AW_retell8 (v := .pim [.int .i64 (lastRow r c)]) 8 2 (by simp only [go_sem, simprocAttr, h8]) ?_
   have hP'' : ∀ e x, Pts (upd (upd (upd H 1008 (some (e8, .fro 1 [[.int .i64 (lastRow r c)]]))) 1010 (some (e, .arr 2 [[.int .i64 0, .int .i64 0]]))) 1010 (some (e, .arr 2 [x]))) fp (cRun r ++ rest) := fun e x => by
    rcases hP' with h | ⟨k', e', n', h, hk2⟩
    ·exact .inl h
    ·refine .inr ⟨k', e', n', h, ?_⟩
     by_cases hk8 : k' = 1010
     ·subst hk8; unfold frzH at hk2; rw [upd_ne _ _ (by decide), hH10] at hk2; cases hk2
     ·unfold frzH at hk2 ⊢; rw [upd_ne _ _ hk8, upd_ne _ _ hk8]; exact hk2
   repeat' (first | (with_reducible refine sk ?_; intro K hK) | ((first | (with_reducible first | refine rgL [] [39, 44, 61, 67] (md := { base := 1000, own := [] }) (h := ?_) | refine rgL [6, 7, 8, 10] [39, 44, 61, 67] (md := { base := 1000, own := [] }) (h := ?_) | refine nx ?_) | refine pK (reads_look r hF rest _ _ hP' i hi m _ _ ⟨l1, l2⟩ hm (by omega)) ?_ | refine lK (reads_look r hF rest _ _ hP' i hi m _ _ ⟨l1, l2⟩ hm (by omega)) ?_); try simp (disch := omega) only [h3, h4, h5, h6, hH6, h7, hH7, hH10, cCpl,go_sem, simprocAttr]) | (with_reducible refine bk ?_) | ((with_reducible refine' cE ?hv ?_ ?_); (case hv => first | rfl | (simp only [h3, h4, h5, h6, hH6, h7, hH7, hH10, cCpl,go_sem, simprocAttr]; rfl)); all_goals (intro hc; (try simp only [go_sem, simprocAttr] at hc); try (exfalso; omega))) | with_reducible intro (ep : Nat → Nat) | with_reducible apply_assumption -exfalso -symm only [*])
   refine AW_block (AW_loop (fun n f H => ∃ k : Nat, n = (c.lag.hi - c.lag.lo).toNat - k ∧ k ≤ (c.lag.hi - c.lag.lo).toNat ∧ (f 9 = .fn 91 [.pim [fp], .pim [.int .i64 m], .pim [.int .i64 (lastRow r c)], .pim [.int .i64 i]]) ∧ Pts H fp (cRun r ++ rest) ∧ ∃ lag lo hi e6 e7 e10, lag = c.lag.lo + 1 + k ∧ f 11 = .int .i64 lag ∧ f 6 = .ptr 1006 e6 2 0 0 ∧ H 1006 = some (e6, .arr 2 [[.int .i64 0, .int .i64 0]]) ∧ f 7 = .ptr 1007 e7 6 0 0 ∧ H 1007 = some (e7, .arr 6 [cCpl c]) ∧ f 10 = .ptr 1010 e10 2 0 0 ∧ H 1010 = some (e10, .arr 2 [[.int .i64 lo, .int .i64 hi]]) ∧
     lo = extLo (readLag r c i m) c.lag.lo k ∧ hi = extHi (readLag r c i m) c.lag.lo k) (c.lag.hi - c.lag.lo).toNat
    ⟨0, by simp, Nat.zero_le _, by (first | rfl | (simp only [h3, h4, h5, go_sem, simprocAttr]; done) | (simp only [h3, h4, h5, go_sem, simprocAttr]; rfl)), hP'' _ _, c.lag.lo + 1, readLag r c i m c.lag.lo, readLag r c i m c.lag.lo, _, _, _, by simp, by (first | rfl | (simp only [go_sem, simprocAttr]; done) | (simp only [go_sem, simprocAttr]; rfl)), by (first | rfl | (simp only [h6, go_sem, simprocAttr]; done) | (simp only [h6, go_sem, simprocAttr]; rfl)), by (first | rfl | (simp only [hH6, go_sem, simprocAttr]; done) | (simp only [hH6, go_sem, simprocAttr]; rfl)), by (first | rfl | (simp only [h7, go_sem, simprocAttr]; done) | (simp only [h7, go_sem, simprocAttr]; rfl)), by (first | rfl | (simp only [hH7, cCpl, go_sem, simprocAttr]; done) | (simp only [hH7, cCpl, go_sem, simprocAttr]; rfl)), by (first | rfl | (simp only [go_sem, simprocAttr]; done) | (simp only [go_sem, simprocAttr]; rfl)), by (first | rfl | (simp only [go_sem, simprocAttr]; done) | (simp only [go_sem, simprocAttr]; rfl)), rfl, rfl⟩ ?_)
   rintro n f H ⟨k, rfl, hk, h9, hP, lag, lo, hi', e6, e7, e10, hlag, h11, h6, hH6, h7, hH7, h10, hH10, hlo, hhi⟩
   have hbd := ext_bounds (g := readLag r c i m) (lo := c.lag.lo) (a := 0) (b := 2000) k (fun j hj => by
    obtain ⟨x, d, _, _, q1, q2, q3⟩ := readAt_ok hF hi (row := min (m + (c.lag.lo + j)) (lastRow r c)) (by omega) (by omega)
    unfold readLag
    rw [q1]; exact ⟨q2, q3⟩)
   rw [← hlo, ← hhi] at hbd
   by_cases hlt : lag ≤ c.lag.hi
   ·have stepL : min lo (readLag r c i m lag) = extLo (readLag r c i m) c.lag.lo (k + 1) ∧ max hi' (readLag r c i m lag) = extHi (readLag r c i m) c.lag.lo (k + 1) := by
     simp only [extLo, extHi]
     rw [show c.lag.lo + ((k + 1 : Nat) : Int) = lag by omega, ← hlo, ← hhi]
     exact ⟨rfl, rfl⟩
    repeat' (first | (with_reducible refine sk ?_; intro K hK) | ((first | (with_reducible first | refine rgL [] [39, 44, 61, 67] (md := { base := 1000, own := [] }) (h := ?_) | refine rgL [6, 7, 8, 10] [39, 44, 61, 67] (md := { base := 1000, own := [] }) (h := ?_) | refine nx ?_) | refine pK (reads_look r hF rest _ _ hP i hi m _ _ ⟨l1, l2⟩ hm (by omega)) ?_ | refine lK (reads_look r hF rest _ _ hP i hi m _ _ ⟨l1, l2⟩ hm (by omega)) ?_); try simp (disch := omega) only [h6, h7, h9, h10, h11, hH6, hH7, hH10, cCpl,go_sem, simprocAttr]) | (with_reducible refine bk ?_) | ((with_reducible refine' cE ?hv ?_ ?_); (case hv => first | rfl | (simp only [h6, h7, h9, h10, h11, hH6, hH7, hH10, cCpl,go_sem, simprocAttr]; rfl)); all_goals (intro hc; (try simp only [go_sem, simprocAttr] at hc); try (exfalso; omega))) | with_reducible intro (ep : Nat → Nat) | with_reducible apply_assumption -exfalso -symm only [*])
    exact ⟨(c.lag.hi - c.lag.lo).toNat - (k + 1), by omega, k + 1, rfl, by omega, hP.upd (fun e n h => by rw [hH10] at h; simp [frz1, cRun] at h), _, _, _, _, _, _, by omega, rfl, rfl, rfl, rfl, rfl, rfl, rfl, stepL.1, stepL.2⟩
   ·have hkk : (c.lag.hi - c.lag.lo).toNat = k := by omega
    repeat' (first | (with_reducible refine sk ?_; intro K hK) | ((first | (with_reducible first | refine rgL [] [39, 44, 61, 67] (md := { base := 1000, own := [] }) (h := ?_) | refine rgL [6, 7, 8, 10] [39, 44, 61, 67] (md := { base := 1000, own := [] }) (h := ?_) | refine nx ?_) | refine pK (plus_ok ⟨lo, hi'⟩ ⟨0 - c.err.hi, 0 - c.err.lo⟩ (by simp only; omega)) ?_ | refine lK (plus_ok ⟨lo, hi'⟩ ⟨0 - c.err.hi, 0 - c.err.lo⟩ (by simp only; omega)) ?_); try simp (disch := omega) only [h6, h7, h9, h10, h11, hH6, hH7, hH10, cCpl, encSpan,go_sem, simprocAttr]) | (with_reducible refine bk ?_) | ((with_reducible refine' cE ?hv ?_ ?_); (case hv => first | rfl | (simp only [h6, h7, h9, h10, h11, hH6, hH7, hH10, cCpl, encSpan,go_sem, simprocAttr]; rfl)); all_goals (intro hc; (try simp only [go_sem, simprocAttr] at hc); try (exfalso; omega))) | ((with_reducible refine fe ?_); refine ⟨_, (by simp only [Try.f75, h6, h7, h9, h10, h11, hH6, hH7, hH10, cCpl, encSpan,go_sem, simprocAttr]; rfl), ?_⟩; first | rfl | (try simp only [h6, h7, h9, h10, h11, hH6, hH7, hH10, cCpl, encSpan,go_sem, simprocAttr, seval])) | with_reducible intro (ep : Nat → Nat) | with_reducible apply_assumption -exfalso -symm only [*])
    simp only [truth, hkk]
    rw [← hlo, ← hhi]
    constructor <;> omega
  clear hK
  have hpk : ∀ H' : Hp, H' k = some (e, .fro n [cRun r ++ rest]) → Pts H' (.ptr k e n 0 0) (cRun r ++ rest) := fun H' h => .inr ⟨k, e, n, rfl, by simp only [frzH, h, frz1]⟩
  by_cases hb : 0 < c.brk
  ·have hlr : lastRow r c = min (r.rows.length : Int) (c.brk - 1) := by rw [lastRow, if_pos hb]
   repeat' (first | (with_reducible refine sk ?_; intro K hK) | ((with_reducible first | refine rgL [] [39, 44, 61, 67] (md := { base := 1000, own := [] }) (h := ?_) | refine rgL [6, 7, 8, 10] [39, 44, 61, 67] (md := { base := 1000, own := [] }) (h := ?_) | refine nx ?_); try simp (disch := omega) only [hfp, r6, r7, r8, r10, hk', k6, k7, k8, k10, hci, cRun, cCpl,go_sem, simprocAttr]) | (with_reducible refine bk ?_) | ((with_reducible refine' cE ?hv ?_ ?_); (case hv => first | rfl | (simp only [hfp, r6, r7, r8, r10, hk', k6, k7, k8, k10, hci, cRun, cCpl,go_sem, simprocAttr]; rfl)); all_goals (intro hc; (try simp only [go_sem, simprocAttr] at hc); try (exfalso; omega))) | with_reducible intro (ep : Nat → Nat) | with_reducible apply_assumption -exfalso -symm only [*])
   exact ⟨by (first | rfl | (simp only [hfp, go_sem, simprocAttr]; done) | (simp only [hfp, go_sem, simprocAttr]; rfl)), by (first | rfl | (simp only [go_sem, simprocAttr]; done) | (simp only [go_sem, simprocAttr]; rfl)), by (first | rfl | (simp only [go_sem, simprocAttr]; done) | (simp only [go_sem, simprocAttr]; rfl)), by (first | rfl | (simp only [r10, go_sem, simprocAttr]; done) | (simp only [r10, go_sem, simprocAttr]; rfl)), by rw [hfp]; exact hpk _ (by simp only [go_sem, simprocAttr, hk', k6, k7, k8, cRun]), _, _, _, by (first | rfl | (simp only [go_sem, simprocAttr]; done) | (simp only [go_sem, simprocAttr]; rfl)), by (first | rfl | (simp only [go_sem, simprocAttr]; done) | (simp only [go_sem, simprocAttr]; rfl)), by (first | rfl | (simp only [go_sem, simprocAttr]; done) | (simp only [go_sem, simprocAttr]; rfl)), by (first | rfl | (simp only [cCpl, go_sem, simprocAttr]; done) | (simp only [cCpl, go_sem, simprocAttr]; rfl)), by (first | rfl | (simp only [go_sem, simprocAttr]; done) | (simp only [go_sem, simprocAttr]; rfl)), by (first | rfl | (simp only [hlr, go_sem, simprocAttr]; done) | (simp only [hlr, go_sem, simprocAttr]; rfl))⟩
  ·have hlr : lastRow r c = r.rows.length := by rw [lastRow, if_neg hb]
   repeat' (first | (with_reducible refine sk ?_; intro K hK) | ((with_reducible first | refine rgL [] [39, 44, 61, 67] (md := { base := 1000, own := [] }) (h := ?_) | refine rgL [6, 7, 8, 10] [39, 44, 61, 67] (md := { base := 1000, own := [] }) (h := ?_) | refine nx ?_); try simp (disch := omega) only [hfp, r6, r7, r8, r10, hk', k6, k7, k8, k10, hci, cRun, cCpl,go_sem, simprocAttr]) | (with_reducible refine bk ?_) | ((with_reducible refine' cE ?hv ?_ ?_); (case hv => first | rfl | (simp only [hfp, r6, r7, r8, r10, hk', k6, k7, k8, k10, hci, cRun, cCpl,go_sem, simprocAttr]; rfl)); all_goals (intro hc; (try simp only [go_sem, simprocAttr] at hc); try (exfalso; omega))) | with_reducible intro (ep : Nat → Nat) | with_reducible apply_assumption -exfalso -symm only [*])
   exact ⟨by (first | rfl | (simp only [hfp, go_sem, simprocAttr]; done) | (simp only [hfp, go_sem, simprocAttr]; rfl)), by (first | rfl | (simp only [go_sem, simprocAttr]; done) | (simp only [go_sem, simprocAttr]; rfl)), by (first | rfl | (simp only [go_sem, simprocAttr]; done) | (simp only [go_sem, simprocAttr]; rfl)), by (first | rfl | (simp only [r10, go_sem, simprocAttr]; done) | (simp only [r10, go_sem, simprocAttr]; rfl)), by rw [hfp]; exact hpk _ (by simp only [go_sem, simprocAttr, hk', k6, k7, k8, cRun]), _, _, _, by (first | rfl | (simp only [go_sem, simprocAttr]; done) | (simp only [go_sem, simprocAttr]; rfl)), by (first | rfl | (simp only [go_sem, simprocAttr]; done) | (simp only [go_sem, simprocAttr]; rfl)), by (first | rfl | (simp only [go_sem, simprocAttr]; done) | (simp only [go_sem, simprocAttr]; rfl)), by (first | rfl | (simp only [cCpl, go_sem, simprocAttr]; done) | (simp only [cCpl, go_sem, simprocAttr]; rfl)), by (first | rfl | (simp only [go_sem, simprocAttr]; done) | (simp only [go_sem, simprocAttr]; rfl)), by (first | rfl | (simp only [hlr, go_sem, simprocAttr]; done) | (simp only [hlr, go_sem, simprocAttr]; rfl))⟩
end Cp
namespace Cp
open Go
section
variable {P : Program} {T : Tab} {md : Me} {os : List Oper} {K : Fr → Hp → Prop} {f : Fr} {H : Hp} {d : Option Tmp} {ty : TypeId} {pos : String} {af : Array Edge} {g : Option (Nat × Bool)} {ss lk : List Nat}
 {t u s b : Nat} {z : Val} {p : Bool}
@[go_sem] theorem xgo_makeMap {t : TypeId} {r : Option Operand} : xgo P T md { dst := d, op := .makeMap t r, type := ty, pos := pos, after := af, guard := g } K f H =
  ∀ ep : Nat → Nat, two K d f H (freeK H (k1 md d) (xmakeMap T (k1 md d) (ep (k1 md d)) t (r.map (ev f)))) := by
 simp only [xgo, xop]; rfl
def mmT (k e : Nat) : Option TI → Option (Val × Up)
 | some { kind := .map _ _, .. } => some (.map k e, some (k, some (e, .map e [])))
 | _ => none
@[go_sem] theorem mmT_map {k e kt vt : Nat} : mmT k e (some { kind := .map kt vt, sz := s, bytes := b, zero := z, plain := p }) = some (.map k e, some (k, some (e, .map e []))) := rfl
@[go_sem] theorem xmakeMap_none {k e : Nat} {t : TypeId} : xmakeMap T k e t none = mmT k e (T t) := by
 unfold xmakeMap mmT
 cases T t with
 | none => rfl
 | some ti => obtain ⟨kind, _, _, _, _⟩ := ti; cases kind <;> rfl
@[go_sem] theorem xmakeMap_int {k e : Nat} {t : TypeId} {ik : IntKind} {n : Int} : xmakeMap T k e t (some (.int ik n)) = mmT k e (T t) := by
 unfold xmakeMap mmT
 cases T t with
 | none => rfl
 | some ti => obtain ⟨kind, _, _, _, _⟩ := ti; cases kind <;> rfl
@[go_sem] theorem xgo_mapUpdate {t : TypeId} {m key x : Operand} : xgo P T md { dst := d, op := .mapUpdate t m key x, type := ty, pos := pos, after := af, guard := g } K f H =
  ∀ ep : Nat → Nat, two K d f H ((xmapUpdate T H ep t (ev f m) (ev f key) (ev f x)).map (.any, ·)) := by
 simp only [xgo, xop]
 refine forall_congr fun ep => ?_
 cases xmapUpdate T H ep t (ev f m) (ev f key) (ev f x) <;> rfl
@[go_sem] theorem xgo_insert {t : TypeId} {m key x : Operand} : xgo P T md { dst := d, op := .insert t m key x, type := ty, pos := pos, after := af, guard := g } K f H =
  ∀ ep : Nat → Nat, two K d f H ((xmapUpdate T H ep t (ev f m) (ev f key) (ev f x)).map (.any, ·)) := by
 simp only [xgo, xop]
 refine forall_congr fun ep => ?_
 cases xmapUpdate T H ep t (ev f m) (ev f key) (ev f x) <;> rfl
def muF (ep : Nat → Nat) (k em : Nat) (key v : Val) (es : List (Val × Val)) : Option (Option (Nat × Val)) → Option Up
 | none => none
 | some none => some (some (k, some (em, .map (ep k) (es ++ [(key, v)]))))
 | some (some (i, _)) => some (some (k, some (em, .map (ep k) (es.set i (key, v)))))
@[go_sem] theorem muF_new {ep : Nat → Nat} {k em : Nat} {key v : Val} {es : List (Val × Val)} : muF ep k em key v es (some none) = some (some (k, some (em, .map (ep k) (es ++ [(key, v)])))) := rfl
@[go_sem] theorem muF_old {ep : Nat → Nat} {k em i : Nat} {key v x : Val} {es : List (Val × Val)} : muF ep k em key v es (some (some (i, x))) = some (some (k, some (em, .map (ep k) (es.set i (key, v))))) := rfl
def muH (T : Tab) (ep : Nat → Nat) (k em kt : Nat) (key v : Val) (ki : TI) : Option (Nat × AObj) → Option Up
 | some (em', .map _ es) => if em = em' ∧ xck T 8 ki key = true then muF ep k em key v es (xfind T kt key es 0) else none
 | _ => none
@[go_sem] theorem muH_map {ep : Nat → Nat} {k em em' kt ver : Nat} {key v : Val} {ki : TI} {es : List (Val × Val)} : muH T ep k em kt key v ki (some (em', .map ver es)) = if em = em' ∧ xck T 8 ki key = true then muF ep k em key v es (xfind T kt key es 0) else none := rfl
def muK (T : Tab) (H : Hp) (ep : Nat → Nat) (k em kt : Nat) (key v : Val) : Option TI → Option Up
 | some ki => muH T ep k em kt key v ki (H k)
 | none => none
@[go_sem] theorem muK_some {ep : Nat → Nat} {k em kt : Nat} {key v : Val} {ki : TI} : muK T H ep k em kt key v (some ki) = muH T ep k em kt key v ki (H k) := rfl
def muT (T : Tab) (H : Hp) (ep : Nat → Nat) (k em : Nat) (key v : Val) : Option TI → Option Up
 | some { kind := .map kt _, .. } => muK T H ep k em kt key v (T kt)
 | _ => none
@[go_sem] theorem muT_map {ep : Nat → Nat} {k em kt vt : Nat} {key v : Val} : muT T H ep k em key v (some { kind := .map kt vt, sz := s, bytes := b, zero := z, plain := p }) = muK T H ep k em kt key v (T kt) := rfl
@[go_sem] theorem xmapUpdate_eq {ep : Nat → Nat} {t : TypeId} {k em : Nat} {key v : Val} : xmapUpdate T H ep t (.map k em) key v = muT T H ep k em key v (T t) := by
 unfold xmapUpdate muT
 cases T t with
 | none => rfl
 | some ti =>
  obtain ⟨kind, _, _, _, _⟩ := ti
  cases kind <;> try rfl
  rename_i kt vt
  simp only [muK]
  cases T kt with
  | none => rfl
  | some ki =>
   simp only
   cases H k with
   | none => rfl
   | some p =>
    obtain ⟨e, o⟩ := p
    cases o <;> try rfl
@[go_sem] theorem xck_int {n : Nat} {k : IntKind} {v : Val} : xck T (n + 1) { kind := .int k, sz := s, bytes := b, zero := z, plain := p } v = true := rfl
@[go_sem] theorem xck_str {n : Nat} {v : Val} : xck T (n + 1) { kind := .str, sz := s, bytes := b, zero := z, plain := p } v = true := rfl
@[go_sem] theorem xck_bool {n : Nat} {v : Val} : xck T (n + 1) { kind := .bool, sz := s, bytes := b, zero := z, plain := p } v = true := rfl
@[go_sem] theorem xgo_delete {m key : Operand} {t u : TypeId} : xgo P T md { dst := d, op := .call { callee := .builtin .delete, args := #[m, key], argTypes := #[t, u] }, type := ty, pos := pos, after := af, guard := g } K f H =
  ∀ ep : Nat → Nat, two K d f H ((xdelete T H ep t (ev f m) (ev f key)).map (.tup [], ·)) := by
 simp only [xgo, xop, xblt, List.map_cons, List.map_nil]
 refine forall_congr fun ep => ?_
 cases xdelete T H ep t (ev f m) (ev f key) <;> rfl
@[go_sem] theorem map_up0 {u : Up} : (some u).map (fun u => ((.tup [], u) : Val × Up)) = some (.tup [], u) := rfl
def dlF (ep : Nat → Nat) (k em : Nat) (es : List (Val × Val)) : Option (Option (Nat × Val)) → Option Up
 | none => none
 | some none => some (some (k, some (em, .map (ep k) es)))
 | some (some (i, _)) => some (some (k, some (em, .map (ep k) (es.eraseIdx i))))
@[go_sem] theorem dlF_no {ep : Nat → Nat} {k em : Nat} {es : List (Val × Val)} : dlF ep k em es (some none) = some (some (k, some (em, .map (ep k) es))) := rfl
@[go_sem] theorem dlF_yes {ep : Nat → Nat} {k em i : Nat} {x : Val} {es : List (Val × Val)} : dlF ep k em es (some (some (i, x))) = some (some (k, some (em, .map (ep k) (es.eraseIdx i)))) := rfl
def dlH (T : Tab) (ep : Nat → Nat) (k em kt : Nat) (key : Val) (ki : TI) : Option (Nat × AObj) → Option Up
 | some (em', .map _ es) => if em = em' ∧ xck T 8 ki key = true then dlF ep k em es (xfind T kt key es 0) else none
 | _ => none
@[go_sem] theorem dlH_map {ep : Nat → Nat} {k em em' kt ver : Nat} {key : Val} {ki : TI} {es : List (Val × Val)} : dlH T ep k em kt key ki (some (em', .map ver es)) = if em = em' ∧ xck T 8 ki key = true then dlF ep k em es (xfind T kt key es 0) else none := rfl
def dlK (T : Tab) (H : Hp) (ep : Nat → Nat) (k em kt : Nat) (key : Val) : Option TI → Option Up
 | some ki => dlH T ep k em kt key ki (H k)
 | none => none
@[go_sem] theorem dlK_some {ep : Nat → Nat} {k em kt : Nat} {key : Val} {ki : TI} : dlK T H ep k em kt key (some ki) = dlH T ep k em kt key ki (H k) := rfl
def dlT (T : Tab) (H : Hp) (ep : Nat → Nat) (k em : Nat) (key : Val) : Option TI → Option Up
 | some { kind := .map kt _, .. } => dlK T H ep k em kt key (T kt)
 | _ => none
@[go_sem] theorem dlT_map {ep : Nat → Nat} {k em kt vt : Nat} {key : Val} : dlT T H ep k em key (some { kind := .map kt vt, sz := s, bytes := b, zero := z, plain := p }) = dlK T H ep k em kt key (T kt) := rfl
@[go_sem] theorem xdelete_eq {ep : Nat → Nat} {t : TypeId} {k em : Nat} {key : Val} : xdelete T H ep t (.map k em) key = dlT T H ep k em key (T t) := by
 unfold xdelete dlT
 cases T t with
 | none => rfl
 | some ti =>
  obtain ⟨kind, _, _, _, _⟩ := ti
  cases kind <;> try rfl
  rename_i kt vt
  simp only [dlK]
  cases T kt with
  | none => rfl
  | some ki =>
   simp only
   cases H k with
   | none => rfl
   | some p =>
    obtain ⟨e, o⟩ := p
    cases o <;> try rfl
@[go_sem] theorem side_range {t : TypeId} {m : Operand} : sideO ss md { dst := d, op := .range t m, type := ty, pos := pos, after := af, guard := g } f = True := rfl
@[go_sem] theorem side_mapUpdate {t : TypeId} {m k x : Operand} : sideO ss md { dst := d, op := .mapUpdate t m k x, type := ty, pos := pos, after := af, guard := g } f = True := rfl
@[go_sem] theorem side_insert {t : TypeId} {m k x : Operand} : sideO ss md { dst := d, op := .insert t m k x, type := ty, pos := pos, after := af, guard := g } f = True := rfl
def lnM (e : Nat) : Option (Nat × AObj) → Option Val
 | some (e', .map _ es) => if e = e' then some (.int .i64 es.length) else none
 | some (e', .frm _ es) => if e = e' then some (.int .i64 es.length) else none
 | _ => none
@[go_sem] theorem lnM_map {e e' ver : Nat} {es : List (Val × Val)} : lnM e (some (e', .map ver es)) = if e = e' then some (.int .i64 es.length) else none := rfl
@[go_sem] theorem lnM_frm {e e' ver : Nat} {es : List (Val × Val)} : lnM e (some (e', .frm ver es)) = if e = e' then some (.int .i64 es.length) else none := rfl
@[go_sem] theorem lnT_map {k e kt vt : Nat} : lnT H (.map k e) (some { kind := .map kt vt, sz := s, bytes := b, zero := z, plain := p }) = lnM e (H k) := by
 simp only [lnT, lnM]
 cases H k with
 | none => rfl
 | some q => obtain ⟨e', o⟩ := q; cases o <;> rfl
@[go_sem] theorem lnT_nilm {kt vt : Nat} : lnT H .nilm (some { kind := .map kt vt, sz := s, bytes := b, zero := z, plain := p }) = some (.int .i64 0) := rfl
@[go_sem] theorem xgo_range {t : TypeId} {m : Operand} : xgo P T md { dst := d, op := .range t m, type := ty, pos := pos, after := af, guard := g } K f H =
  ∀ ep : Nat → Nat, two K d f H (freeK H (k1 md d) (xrange T H (k1 md d) (ep (k1 md d)) t (ev f m))) := by
 simp only [xgo, xop]; rfl
def rgH (k e km em : Nat) : Option (Nat × AObj) → Option (Val × Up)
 | some (em', .map ver es) => if em = em' ∧ km ≠ k then some (.itr k e, some (k, some (e, .itr km em ver (List.range es.length) none))) else none
 | _ => none
@[go_sem] theorem rgH_map {k e km em em' ver : Nat} {es : List (Val × Val)} : rgH k e km em (some (em', .map ver es)) = if em = em' ∧ km ≠ k then some (.itr k e, some (k, some (e, .itr km em ver (List.range es.length) none))) else none := rfl
def rgT (H : Hp) (k e km em : Nat) : Option TI → Option (Val × Up)
 | some { kind := .map _ _, .. } => rgH k e km em (H km)
 | _ => none
@[go_sem] theorem rgT_map {k e km em kt vt : Nat} : rgT H k e km em (some { kind := .map kt vt, sz := s, bytes := b, zero := z, plain := p }) = rgH k e km em (H km) := rfl
@[go_sem] theorem xrange_eq {k e km em : Nat} {t : TypeId} : xrange T H k e t (.map km em) = rgT H k e km em (T t) := by
 unfold xrange rgT
 cases T t with
 | none => rfl
 | some ti =>
  obtain ⟨kind, _, _, _, _⟩ := ti
  cases kind <;> try rfl
def rgN (k e : Nat) : Option TI → Option (Val × Up)
 | some { kind := .map _ _, .. } => some (.itr k e, some (k, some (e, .nit)))
 | _ => none
@[go_sem] theorem rgN_map {k e kt vt : Nat} : rgN k e (some { kind := .map kt vt, sz := s, bytes := b, zero := z, plain := p }) = some (.itr k e, some (k, some (e, .nit))) := rfl
@[go_sem] theorem xrange_nil {k e : Nat} {t : TypeId} : xrange T H k e t .nilm = rgN k e (T t) := by
 unfold xrange rgN
 cases T t with
 | none => rfl
 | some ti => obtain ⟨kind, _, _, _, _⟩ := ti; cases kind <;> rfl
@[go_sem] theorem stpN_next {x : Operand} : stpN P T md os ss lk { dst := d, op := .next x false, type := ty, pos := pos, after := af, guard := none } K f H = nextV K d f H (ev f x) := rfl
@[go_sem] theorem stpN_entry {x : Operand} : stpN P T md os ss lk { dst := d, op := .entry x, type := ty, pos := pos, after := af, guard := none } K f H = entryV K d f H (ev f x) := rfl
@[go_sem] theorem stpN_extract {x : Operand} {n : Nat} : stpN P T md os ss lk { dst := d, op := .extract x n, type := ty, pos := pos, after := af, guard := g } K f H = stpL P T md os ss lk { dst := d, op := .extract x n, type := ty, pos := pos, after := af, guard := g } K f H := by
 cases g <;> rfl
@[go_sem] theorem stpN_assign {x : Operand} : stpN P T md os ss lk { dst := d, op := .assign x, type := ty, pos := pos, after := af, guard := g } K f H = stpL P T md os ss lk { dst := d, op := .assign x, type := ty, pos := pos, after := af, guard := g } K f H := by
 cases g <;> rfl
@[go_sem] theorem stpN_move {x : Operand} : stpN P T md os ss lk { dst := d, op := .move x, type := ty, pos := pos, after := af, guard := g } K f H = stpL P T md os ss lk { dst := d, op := .move x, type := ty, pos := pos, after := af, guard := g } K f H := by
 cases g <;> rfl
@[go_sem] theorem stpN_alloc {t : TypeId} : stpN P T md os ss lk { dst := d, op := .alloc t, type := ty, pos := pos, after := af, guard := g } K f H = stpL P T md os ss lk { dst := d, op := .alloc t, type := ty, pos := pos, after := af, guard := g } K f H := by
 cases g <;> rfl
@[go_sem] theorem stpN_store {t : TypeId} {x y : Operand} : stpN P T md os ss lk { dst := d, op := .store t x y, type := ty, pos := pos, after := af, guard := g } K f H = stpL P T md os ss lk { dst := d, op := .store t x y, type := ty, pos := pos, after := af, guard := g } K f H := by
 cases g <;> rfl
@[go_sem] theorem nextV_itr {k e : Nat} : nextV K d f H (.itr k e) = nextK K d f H k e (H k) := rfl
@[go_sem] theorem nextK_nit {k e e' : Nat} : nextK K d f H k e (some (e', .nit)) = (e = e' ∧ K (put f d (.tup [.bool false])) H) := rfl
@[go_sem] theorem nextK_itr {k e e' km em ver : Nat} {left : List Nat} {cur : Option Nat} : nextK K d f H k e (some (e', .itr km em ver left cur)) = nextM K d f H k e e' km em ver left (H km) := rfl
@[go_sem] theorem nextM_map {k e e' km em em' ver ver' : Nat} {left : List Nat} {es : List (Val × Val)} : nextM K d f H k e e' km em ver left (some (em', .map ver' es)) = ((e = e' ∧ em = em' ∧ ver = ver') ∧ (left = [] → K (put f d (.tup [.bool false])) H) ∧
      ∀ i ∈ left, ∀ a v, es[i]? = some (a, v) → K (put f d (.tup [.bool true, a, v])) (upd H k (some (e, .itr km em ver (left.erase i) (some i))))) := rfl
@[go_sem] theorem entryV_itr {k e : Nat} : entryV K d f H (.itr k e) = entryK K d f H e (H k) := rfl
@[go_sem] theorem entryK_itr {e e' km em ver i : Nat} {left : List Nat} : entryK K d f H e (some (e', .itr km em ver left (some i))) = entryM K d f H e e' em ver i (H km) := rfl
@[go_sem] theorem entryM_map {e e' em em' ver ver' i : Nat} {es : List (Val × Val)} : entryM K d f H e e' em ver i (some (em', .map ver' es)) = ((e = e' ∧ em = em' ∧ ver = ver') ∧ ∃ a v, es[i]? = some (a, v) ∧ K (put f d (.tup [a, v])) H) := rfl
end
def imap (k : IntKind) (l : List (Int × Val)) : List (Val × Val) := l.map fun p => (.int k p.1, p.2)
def findI (n : Int) : List (Int × Val) → Nat → Option (Nat × Val)
 | [], _ => none
 | (a, v) :: l, i => if n = a then some (i, v) else findI n l (i + 1)
@[go_sem] theorem imap_len {k : IntKind} {l : List (Int × Val)} : (imap k l).length = l.length := by simp [imap]
@[go_sem] theorem imap_get {k : IntKind} {l : List (Int × Val)} {i : Nat} : (imap k l)[i]? = (l[i]?).map fun p => (.int k p.1, p.2) := by simp [imap]
theorem imap_snoc {k : IntKind} {l : List (Int × Val)} {n : Int} {v : Val} : imap k l ++ [(.int k n, v)] = imap k (l ++ [(n, v)]) := by simp [imap]
theorem imap_erase {k : IntKind} : ∀ {l : List (Int × Val)} {i : Nat}, (imap k l).eraseIdx i = imap k (l.eraseIdx i)
 | [], i => by cases i <;> rfl
 | p :: l, 0 => rfl
 | p :: l, i + 1 => by
  have ih := @imap_erase k l i
  unfold imap at ih ⊢
  simp only [List.map_cons, List.eraseIdx_cons_succ, ih]
theorem xfind_imap {T : Tab} {kt : TypeId} {k : IntKind} {s b : Nat} {z : Val} {p : Bool} (h : T kt = some { kind := .int k, sz := s, bytes := b, zero := z, plain := p }) {n : Int} : ∀ (l : List (Int × Val)) (i : Nat), xfind T kt (.int k n) (imap k l) i = some (findI n l i)
 | [], i => rfl
 | (a, v) :: l, i => by
  have ih := xfind_imap h (n := n) l (i + 1)
  have e : xeq T kt (.int k n) (.int k a) = some (decide (n = a)) := by
   unfold xeq; rw [h]; simp [xeqK, xeqS]
  show xfind T kt (.int k n) ((.int k a, v) :: imap k l) i = _
  simp only [xfind, e, findI]
  by_cases hn : n = a
  ·subst hn
   simp [keq]
  ·simp only [decide_eq_false hn, if_neg hn]
   exact ih
theorem findI_none {n : Int} : ∀ {l : List (Int × Val)} {i : Nat}, (∀ p ∈ l, p.1 ≠ n) → findI n l i = none
 | [], i, h => rfl
 | (a, v) :: l, i, h => by
  simp only [findI]
  rw [if_neg (fun e => h (a, v) (by simp) e.symm)]
  exact findI_none fun p hp => h p (by simp [hp])
end Cp
namespace Cp
open Go
section
variable {P : Program} {T : Tab} {H : Hp} {X : Cx} {ro : Option Nat} {Q : Exit → Fr → Hp → Prop} {f : Fr}
theorem AW_lose {c : Code} (k : Nat) (h : ∀ H' : Hp, H' k = none → (∀ j, ¬ j = k → H' j = H j) → AW P ro X c Q f H') : AW P ro X c Q f H :=
 AW_drop (fun j => if j = k then none else H j) (fun j => by
  by_cases hj : j = k
  ·exact .inl (by simp [hj])
  ·exact .inr (by simp [hj])) (h _ (by simp) fun j hj => by simp [hj])
@[go_sem] theorem fzd_map {n k e : Nat} : fzd H n (.map k e) = .map k e := by cases n <;> rfl
end
theorem findI_mid {n : Int} {v : Val} : ∀ {A B : List (Int × Val)} {s : Nat}, (∀ p ∈ A, p.1 ≠ n) → findI n (A ++ (n, v) :: B) s = some (s + A.length, v)
 | [], B, s, h => by simp [findI]
 | (a, w) :: A, B, s, h => by
  simp only [List.cons_append, findI]
  rw [if_neg (fun e => h (a, w) (by simp) e.symm), findI_mid fun p hp => h p (by simp [hp])]
  simp only [List.length_cons]
  congr 2; omega
theorem erase_mid {α : Type} : ∀ {A B : List α} {x : α}, (A ++ x :: B).eraseIdx A.length = A ++ B
 | [], B, x => rfl
 | a :: A, B, x => by simp only [List.cons_append, List.length_cons, List.eraseIdx_cons_succ, erase_mid]
end Cp
namespace Cp
open Go
def tl (l : List Nat) : List (Int × Val) := l.map fun (i : Nat) => ((i : Int), Val.bool true)
theorem tl_snoc {l : List Nat} {i : Nat} : tl l ++ [((i : Int), .bool true)] = tl (l ++ [i]) := by simp [tl]
theorem tl_app {l l' : List Nat} : tl (l ++ l') = tl l ++ tl l' := by simp [tl]
@[go_sem] theorem tl_len {l : List Nat} : (tl l).length = l.length := by simp [tl]
theorem tl_get {l : List Nat} {i : Nat} : (tl l)[i]? = (l[i]?).map fun (i : Nat) => ((i : Int), Val.bool true) := by simp [tl]
theorem tl_not {l : List Nat} {i : Nat} (h : i ∉ l) : ∀ p ∈ tl l, p.1 ≠ (i : Int) := by
 intro p hp e
 simp only [tl, List.mem_map] at hp
 obtain ⟨j, hj, rfl⟩ := hp
 simp only at e
 obtain rfl : j = i := by omega
 exact h hj
theorem find_new {k : Nat} {l : List Nat} (h : k ∉ l) : findI (k : Int) (tl l) 0 = none := findI_none (tl_not h)
theorem find_mid {k : Nat} {l l' : List Nat} (h : k ∉ l) : findI (k : Int) (tl (l ++ k :: l')) 0 = some (l.length, .bool true) := by
 have : tl (l ++ k :: l') = tl l ++ ((k : Int), .bool true) :: tl l' := by simp [tl]
 rw [this, findI_mid (tl_not h), tl_len, Nat.zero_add]
theorem eraseI_mid {k : Nat} {l l' : List Nat} : (tl (l ++ k :: l')).eraseIdx l.length = tl (l ++ l') := by
 have e : tl (l ++ k :: l') = tl l ++ ((k : Int), .bool true) :: tl l' := by simp [tl]
 have := erase_mid (A := tl l) (x := ((k : Int), Val.bool true)) (B := tl l')
 rw [tl_len] at this
 rw [e, this, tl_app]
theorem wkFrom_app (m : Int) : ∀ (l : List Cpl) (k : Nat) (l' : List Cpl), wkFrom m k (l ++ l') = wkFrom m k l ++ wkFrom m (k + l.length) l'
 | [], k, l' => by simp [wkFrom]
 | c :: l, k, l' => by
  have ih := wkFrom_app m l (k + 1) l'
  have e : k + 1 + l.length = k + (c :: l).length := by simp only [List.length_cons]; omega
  rw [e] at ih
  simp only [List.cons_append, wkFrom, ih]
  split <;> rfl
theorem take_snoc' {α : Type} {l : List α} {k : Nat} {x : α} (h : l[k]? = some x) : l.take (k + 1) = l.take k ++ [x] := by
 obtain ⟨hk, rfl⟩ := List.getElem?_eq_some_iff.1 h
 simp [List.take_add_one]
def wkTo (r : RunT) (m : Int) (k : Nat) : List Nat := wkFrom m 0 (r.cpls.take k) ++ List.range' k (r.cpls.length - k)
theorem wkTo_zero {r : RunT} {m : Int} : wkTo r m 0 = List.range r.cpls.length := by simp [wkTo, wkFrom, List.range_eq_range']
theorem wkTo_end {r : RunT} {m : Int} : wkTo r m r.cpls.length = wk r m := by simp [wkTo, wk]
theorem wkTo_split {r : RunT} {m : Int} {k : Nat} (h : k < r.cpls.length) : wkTo r m k = wkFrom m 0 (r.cpls.take k) ++ k :: List.range' (k + 1) (r.cpls.length - (k + 1)) := by
 unfold wkTo
 rw [show r.cpls.length - k = (r.cpls.length - (k + 1)) + 1 by omega, List.range'_succ]
theorem wkTo_not {r : RunT} {m : Int} {k : Nat} : k ∉ wkFrom m 0 (r.cpls.take k) := by
 intro h
 obtain ⟨j, c, h1, h2, _⟩ := (wkFrom_mem _ _ _ _).1 h
 have := (List.getElem?_eq_some_iff.1 h2).1
 simp at this
 omega
theorem wkTo_stay {r : RunT} {m : Int} {k : Nat} {c : Cpl} (h : r.cpls[k]? = some c) (hw : works c m = true) : wkTo r m (k + 1) = wkTo r m k := by
 have hk := (List.getElem?_eq_some_iff.1 h).1
 rw [wkTo_split hk]
 unfold wkTo
 rw [take_snoc' h, wkFrom_app, List.append_assoc]
 have : (r.cpls.take k).length = k := by simp; omega
 simp [wkFrom, hw, this]
theorem wkTo_gone {r : RunT} {m : Int} {k : Nat} {c : Cpl} (h : r.cpls[k]? = some c) (hw : works c m = false) : wkTo r m (k + 1) = wkFrom m 0 (r.cpls.take k) ++ List.range' (k + 1) (r.cpls.length - (k + 1)) := by
 unfold wkTo
 rw [take_snoc' h, wkFrom_app]
 have : (r.cpls.take k).length = k := by have hk := (List.getElem?_eq_some_iff.1 h).1; simp; omega
 simp [wkFrom, hw]
end Cp
namespace Cp
open Go Go.Proofs
set_option maxRecDepth 10000
@[go_sem] theorem xfind_tl {i : Int} {l : List (Int × Val)} : xfind tab 3 (.int .i64 i) (imap .i64 l) 0 = some (findI i l 0) := xfind_imap tab_3 _ _
def Ptw (H : Hp) (fp : Val) (cs : List Val) : Prop := fp = .pim cs ∨ ∃ k e n, fp = .ptr k e n 0 0 ∧ H k = some (e, .arr n [cs]) ∧ k < 2000
theorem working_ok (r : RunT) (hF : RunF r) (rest : List Val) (H0 : Hp) (fp : Val) (hp : Ptw H0 fp (cRun r ++ rest)) (m : Int) :
  ACall Try.prog 73 [fp, .int .i64 m] H0 (fun v H' => ∃ e ver, v = .map 2009 e ∧ H' 2009 = some (e, .map ver (imap .i64 (tl (wk r m)))) ∧ ∀ k, k < 2000 → H' k = H0 k) := by
 refine ACall_of (fn := Try.f73) tabOK (by kernel_rfl) rfl (by kernel_rfl) (by simp [Try.f73]) ?_
 intro X hX0 hXs
 have hcl := hF.cpls
 refine AW_lose 2008 fun H1 g8 hs1 => ?_
 refine AW_lose 2009 fun H2 g9 hs2 => ?_
 have g8' : H2 2008 = none := by rw [hs2 _ (by decide), g8]
 have hlow : ∀ j, j < 2000 → H2 j = H0 j := fun j hj => by rw [hs2 _ (by omega), hs1 _ (by omega)]
 clear g8 hs1 hs2
 have hp' := hp
 rcases hp' with hfp | ⟨k, e, n, hfp, hk, hk2⟩
 ·repeat' (first | ((fail_if_success (with_reducible refine AW_at (id := 3) ?_)); with_reducible refine sk ?_; intro K hK) | ((with_reducible first | refine rg (md := { base := 2000, own := [8, 9] }) (h := ?_) | refine rgS [8] (md := { base := 2000, own := [8, 9] }) (h := ?_) | refine nx ?_); try simp (disch := omega) only [hfp, cRun, g9, g8',go_sem, simprocAttr]) | (with_reducible refine bk ?_) | ((with_reducible refine' cE ?hv ?_ ?_); (case hv => first | rfl | (simp only [hfp, cRun, g9, g8',go_sem, simprocAttr]; rfl)); all_goals (intro hc; (try simp only [go_sem, simprocAttr] at hc); try (exfalso; omega))) | ((with_reducible first | refine grdS_split ?_ ?_ | refine lkG_split ?_ ?_) <;> intro hg <;> (try simp (disch := omega) only [hg, hfp, cRun, g9, g8',go_sem, simprocAttr]) <;> (try simp only [go_sem, simprocAttr] at hg) <;> (try (exfalso; omega))) | with_reducible intro (ep : Nat → Nat) | with_reducible apply_assumption -exfalso -symm only [*])
  refine AW_range tabOK r.cpls.length (fun k f H => f 0 = fp ∧ f 1 = .int .i64 m ∧ (∀ j, j < 2000 → H j = H0 j) ∧ H 2008 = none ∧ ∃ e, f 5 = .map 2009 e ∧ ∃ ver, H 2009 = some (e, .map ver (imap .i64 (tl (List.range k))))) (by omega) (by rw [hXs]; decide) (by decide) (by (first | rfl | (simp only [go_sem, simprocAttr]; done) | (simp only [go_sem, simprocAttr]; rfl))) (by (first | rfl | (simp only [cRun, go_sem, simprocAttr]; done) | (simp only [cRun, go_sem, simprocAttr]; rfl)))
   ⟨by (first | rfl | (simp only [hfp, go_sem, simprocAttr]; done) | (simp only [hfp, go_sem, simprocAttr]; rfl)), by (first | rfl | (simp only [go_sem, simprocAttr]; done) | (simp only [go_sem, simprocAttr]; rfl)), fun j hj => by simp only [go_sem, simprocAttr]; rw [if_neg (by omega)]; exact hlow j hj, by (first | rfl | (simp only [g8', go_sem, simprocAttr]; done) | (simp only [g8', go_sem, simprocAttr]; rfl)), _, by (first | rfl | (simp only [go_sem, simprocAttr]; done) | (simp only [go_sem, simprocAttr]; rfl)), _, by (first | rfl | (simp only [go_sem, simprocAttr]; done) | (simp only [go_sem, simprocAttr]; rfl))⟩ ?_ ?_
  ·rintro k f H hk h16 h15 ⟨h0, h1, hlow, g8, e, h5, ver, hH9⟩
   have hnew : findI (k : Int) (tl (List.range k)) 0 = none := find_new (by simp)
   repeat' (first | (with_reducible refine sk ?_; intro K hK) | ((with_reducible first | refine rg (md := { base := 2000, own := [8, 9] }) (h := ?_) | refine rgS [8] (md := { base := 2000, own := [8, 9] }) (h := ?_) | refine nx ?_); try simp (disch := omega) only [h0, h1, h5, h15, h16, hH9, g8, hnew,go_sem, simprocAttr]) | (with_reducible refine bk ?_) | ((with_reducible refine' cE ?hv ?_ ?_); (case hv => first | rfl | (simp only [h0, h1, h5, h15, h16, hH9, g8, hnew,go_sem, simprocAttr]; rfl)); all_goals (intro hc; (try simp only [go_sem, simprocAttr] at hc); try (exfalso; omega))) | ((with_reducible first | refine grdS_split ?_ ?_ | refine lkG_split ?_ ?_) <;> intro hg <;> (try simp (disch := omega) only [hg, h0, h1, h5, h15, h16, hH9, g8, hnew,go_sem, simprocAttr]) <;> (try simp only [go_sem, simprocAttr] at hg) <;> (try (exfalso; omega))) | with_reducible intro (ep : Nat → Nat) | with_reducible apply_assumption -exfalso -symm only [*])
   exact ⟨fun j hj => by rw [if_neg (by omega)]; exact hlow j hj, e, rfl, _, by rw [imap_snoc, tl_snoc]⟩
  ·rintro f H h16 h15 ⟨h0, h1, hlow, g8, e, h5, ver, hH9⟩
   rcases hp with hfp | ⟨k, e0, n, hfp, hk, hk2⟩
   ·have hkk : True := trivial
    repeat' (first | ((fail_if_success (with_reducible refine AW_at (id := 8) ?_)); with_reducible refine sk ?_; intro K hK) | ((with_reducible first | refine rg (md := { base := 2000, own := [8, 9] }) (h := ?_) | refine rgS [8] (md := { base := 2000, own := [8, 9] }) (h := ?_) | refine nx ?_); try simp (disch := omega) only [h0, h1, h5, hH9, g8, hfp, cRun,go_sem, simprocAttr]) | (with_reducible refine bk ?_) | ((with_reducible refine' cE ?hv ?_ ?_); (case hv => first | rfl | (simp only [h0, h1, h5, hH9, g8, hfp, cRun,go_sem, simprocAttr]; rfl)); all_goals (intro hc; (try simp only [go_sem, simprocAttr] at hc); try (exfalso; omega))) | ((with_reducible first | refine grdS_split ?_ ?_ | refine lkG_split ?_ ?_) <;> intro hg <;> (try simp (disch := omega) only [hg, h0, h1, h5, hH9, g8, hfp, cRun,go_sem, simprocAttr]) <;> (try simp only [go_sem, simprocAttr] at hg) <;> (try (exfalso; omega))) | with_reducible intro (ep : Nat → Nat) | with_reducible apply_assumption -exfalso -symm only [*])
    refine AW_range tabOK r.cpls.length (fun k f H => f 1 = .int .i64 m ∧ f 26 = .lst 6 (r.cpls.map cCpl) ∧ (∀ j, j < 2000 → H j = H0 j) ∧ ∃ e, f 5 = .map 2009 e ∧ ∃ ver, H 2009 = some (e, .map ver (imap .i64 (tl (wkTo r m k))))) (by omega) (by rw [hXs]; decide) (by decide) (by (first | rfl | (simp only [go_sem, simprocAttr]; done) | (simp only [go_sem, simprocAttr]; rfl))) (by (first | rfl | (simp only [cRun, go_sem, simprocAttr]; done) | (simp only [cRun, go_sem, simprocAttr]; rfl)))
     ⟨by (first | rfl | (simp only [h1, go_sem, simprocAttr]; done) | (simp only [h1, go_sem, simprocAttr]; rfl)), by (first | rfl | (simp only [hfp, hkk, cRun, go_sem, simprocAttr]; done) | (simp only [hfp, hkk, cRun, go_sem, simprocAttr]; rfl)), hlow, _, by (first | rfl | (simp only [h5, go_sem, simprocAttr]; done) | (simp only [h5, go_sem, simprocAttr]; rfl)), _, by simp only [wkTo_zero]; (first | rfl | (simp only [hH9, go_sem, simprocAttr]; done) | (simp only [hH9, go_sem, simprocAttr]; rfl))⟩ ?_ ?_
    ·rintro k f H hk h28 h27 ⟨h1, h26, hlow, e, h5, ver, hH9⟩
     obtain ⟨x, hx⟩ : ∃ x, r.cpls[k]? = some x := ⟨_, List.getElem?_eq_getElem hk⟩
     refine AW_lose 2008 fun H1 g8 hs1 => ?_
     have hlow' : ∀ j, j < 2000 → H1 j = H0 j := fun j hj => by rw [hs1 _ (by omega), hlow _ hj]
     have hH9' : H1 2009 = some (e, .map ver (imap .i64 (tl (wkTo r m k)))) := by rw [hs1 _ (by decide), hH9]
     clear hs1 hlow hH9
     have hbk := (hF.cpl k x hx).2.2.2.1
     have hsp := wkTo_split (r := r) (m := m) hk
     have hw1 := @wkTo_stay r m k x hx
     have hw2 := @wkTo_gone r m k x hx
     have hnot := @wkTo_not r m k
     have hf := find_mid (l' := List.range' (k + 1) (r.cpls.length - (k + 1))) hnot
     rw [← hsp] at hf
     have he := @eraseI_mid k (wkFrom m 0 (r.cpls.take k)) (List.range' (k + 1) (r.cpls.length - (k + 1)))
     rw [← hsp] at he
     repeat' (first | (with_reducible refine sk ?_; intro K hK) | ((with_reducible first | refine rg (md := { base := 2000, own := [8, 9] }) (h := ?_) | refine rgS [8] (md := { base := 2000, own := [8, 9] }) (h := ?_) | refine nx ?_); try simp (disch := omega) only [h1, h5, h26, h27, h28, hH9', g8, hx, hf, he, imap_erase, cCpl,go_sem, simprocAttr]) | (with_reducible refine bk ?_) | ((with_reducible refine' cE ?hv ?_ ?_); (case hv => first | rfl | (simp only [h1, h5, h26, h27, h28, hH9', g8, hx, hf, he, imap_erase, cCpl,go_sem, simprocAttr]; rfl)); all_goals (intro hc; (try simp only [go_sem, simprocAttr] at hc); try (exfalso; omega))) | ((with_reducible first | refine grdS_split ?_ ?_ | refine lkG_split ?_ ?_) <;> intro hg <;> (try simp (disch := omega) only [hg, h1, h5, h26, h27, h28, hH9', g8, hx, hf, he, imap_erase, cCpl,go_sem, simprocAttr]) <;> (try simp only [go_sem, simprocAttr] at hg) <;> (try (exfalso; omega))) | with_reducible intro (ep : Nat → Nat) | with_reducible apply_assumption -exfalso -symm only [*])
     ·exact ⟨fun j hj => by (repeat rw [if_neg (by omega)]); exact hlow' j hj, e, rfl, _, by rw [hw2 (by simp only [works, decide_eq_false_iff_not]; omega)]⟩
     ·exact ⟨fun j hj => by (repeat rw [if_neg (by omega)]); exact hlow' j hj, e, rfl, _, by rw [hw1 (by simp only [works, decide_eq_true_eq]; omega)]⟩
     ·exact ⟨fun j hj => by (repeat rw [if_neg (by omega)]); exact hlow' j hj, e, rfl, _, by rw [hw1 (by simp only [works, decide_eq_true_eq]; omega)]⟩
    ·rintro f H h28 h27 ⟨h1, h26, hlow, e, h5, ver, hH9⟩
     rw [wkTo_end] at hH9
     repeat' (first | (with_reducible refine sk ?_; intro K hK) | ((with_reducible first | refine rg (md := { base := 2000, own := [8, 9] }) (h := ?_) | refine rgS [8] (md := { base := 2000, own := [8, 9] }) (h := ?_) | refine nx ?_); try simp (disch := omega) only [h1, h5, h26, h27, h28, hH9,go_sem, simprocAttr]) | (with_reducible refine bk ?_) | ((with_reducible refine' cE ?hv ?_ ?_); (case hv => first | rfl | (simp only [h1, h5, h26, h27, h28, hH9,go_sem, simprocAttr]; rfl)); all_goals (intro hc; (try simp only [go_sem, simprocAttr] at hc); try (exfalso; omega))) | ((with_reducible first | refine grdS_split ?_ ?_ | refine lkG_split ?_ ?_) <;> intro hg <;> (try simp (disch := omega) only [hg, h1, h5, h26, h27, h28, hH9,go_sem, simprocAttr]) <;> (try simp only [go_sem, simprocAttr] at hg) <;> (try (exfalso; omega))) | with_reducible intro (ep : Nat → Nat) | with_reducible apply_assumption -exfalso -symm only [*])
     exact ⟨H, .map 2009 e, .refl H, (by (first | rfl | (simp only [Try.f73, go_sem, simprocAttr]; done) | (simp only [Try.f73, go_sem, simprocAttr]; rfl))), e, ver, by simp only [go_sem, simprocAttr], hH9, hlow⟩
   ·have hkk : H k = some (e0, .arr n [cRun r ++ rest]) := by rw [hlow k hk2, hk]
    have k8 : ¬ k = 2008 := by omega
    have k9 : ¬ k = 2009 := by omega
    repeat' (first | ((fail_if_success (with_reducible refine AW_at (id := 8) ?_)); with_reducible refine sk ?_; intro K hK) | ((with_reducible first | refine rg (md := { base := 2000, own := [8, 9] }) (h := ?_) | refine rgS [8] (md := { base := 2000, own := [8, 9] }) (h := ?_) | refine nx ?_); try simp (disch := omega) only [h0, h1, h5, hH9, g8, hfp, hkk, k8, k9, cRun,go_sem, simprocAttr]) | (with_reducible refine bk ?_) | ((with_reducible refine' cE ?hv ?_ ?_); (case hv => first | rfl | (simp only [h0, h1, h5, hH9, g8, hfp, hkk, k8, k9, cRun,go_sem, simprocAttr]; rfl)); all_goals (intro hc; (try simp only [go_sem, simprocAttr] at hc); try (exfalso; omega))) | ((with_reducible first | refine grdS_split ?_ ?_ | refine lkG_split ?_ ?_) <;> intro hg <;> (try simp (disch := omega) only [hg, h0, h1, h5, hH9, g8, hfp, hkk, k8, k9, cRun,go_sem, simprocAttr]) <;> (try simp only [go_sem, simprocAttr] at hg) <;> (try (exfalso; omega))) | with_reducible intro (ep : Nat → Nat) | with_reducible apply_assumption -exfalso -symm only [*])
    refine AW_range tabOK r.cpls.length (fun k f H => f 1 = .int .i64 m ∧ f 26 = .lst 6 (r.cpls.map cCpl) ∧ (∀ j, j < 2000 → H j = H0 j) ∧ ∃ e, f 5 = .map 2009 e ∧ ∃ ver, H 2009 = some (e, .map ver (imap .i64 (tl (wkTo r m k))))) (by omega) (by rw [hXs]; decide) (by decide) (by (first | rfl | (simp only [go_sem, simprocAttr]; done) | (simp only [go_sem, simprocAttr]; rfl))) (by (first | rfl | (simp only [cRun, go_sem, simprocAttr]; done) | (simp only [cRun, go_sem, simprocAttr]; rfl)))
     ⟨by (first | rfl | (simp only [h1, go_sem, simprocAttr]; done) | (simp only [h1, go_sem, simprocAttr]; rfl)), by (first | rfl | (simp only [hfp, hkk, cRun, go_sem, simprocAttr]; done) | (simp only [hfp, hkk, cRun, go_sem, simprocAttr]; rfl)), hlow, _, by (first | rfl | (simp only [h5, go_sem, simprocAttr]; done) | (simp only [h5, go_sem, simprocAttr]; rfl)), _, by simp only [wkTo_zero]; (first | rfl | (simp only [hH9, go_sem, simprocAttr]; done) | (simp only [hH9, go_sem, simprocAttr]; rfl))⟩ ?_ ?_
    ·rintro k f H hk h28 h27 ⟨h1, h26, hlow, e, h5, ver, hH9⟩
     obtain ⟨x, hx⟩ : ∃ x, r.cpls[k]? = some x := ⟨_, List.getElem?_eq_getElem hk⟩
     refine AW_lose 2008 fun H1 g8 hs1 => ?_
     have hlow' : ∀ j, j < 2000 → H1 j = H0 j := fun j hj => by rw [hs1 _ (by omega), hlow _ hj]
     have hH9' : H1 2009 = some (e, .map ver (imap .i64 (tl (wkTo r m k)))) := by rw [hs1 _ (by decide), hH9]
     clear hs1 hlow hH9
     have hbk := (hF.cpl k x hx).2.2.2.1
     have hsp := wkTo_split (r := r) (m := m) hk
     have hw1 := @wkTo_stay r m k x hx
     have hw2 := @wkTo_gone r m k x hx
     have hnot := @wkTo_not r m k
     have hf := find_mid (l' := List.range' (k + 1) (r.cpls.length - (k + 1))) hnot
     rw [← hsp] at hf
     have he := @eraseI_mid k (wkFrom m 0 (r.cpls.take k)) (List.range' (k + 1) (r.cpls.length - (k + 1)))
     rw [← hsp] at he
     repeat' (first | (with_reducible refine sk ?_; intro K hK) | ((with_reducible first | refine rg (md := { base := 2000, own := [8, 9] }) (h := ?_) | refine rgS [8] (md := { base := 2000, own := [8, 9] }) (h := ?_) | refine nx ?_); try simp (disch := omega) only [h1, h5, h26, h27, h28, hH9', g8, hx, hf, he, imap_erase, cCpl,go_sem, simprocAttr]) | (with_reducible refine bk ?_) | ((with_reducible refine' cE ?hv ?_ ?_); (case hv => first | rfl | (simp only [h1, h5, h26, h27, h28, hH9', g8, hx, hf, he, imap_erase, cCpl,go_sem, simprocAttr]; rfl)); all_goals (intro hc; (try simp only [go_sem, simprocAttr] at hc); try (exfalso; omega))) | ((with_reducible first | refine grdS_split ?_ ?_ | refine lkG_split ?_ ?_) <;> intro hg <;> (try simp (disch := omega) only [hg, h1, h5, h26, h27, h28, hH9', g8, hx, hf, he, imap_erase, cCpl,go_sem, simprocAttr]) <;> (try simp only [go_sem, simprocAttr] at hg) <;> (try (exfalso; omega))) | with_reducible intro (ep : Nat → Nat) | with_reducible apply_assumption -exfalso -symm only [*])
     ·exact ⟨fun j hj => by (repeat rw [if_neg (by omega)]); exact hlow' j hj, e, rfl, _, by rw [hw2 (by simp only [works, decide_eq_false_iff_not]; omega)]⟩
     ·exact ⟨fun j hj => by (repeat rw [if_neg (by omega)]); exact hlow' j hj, e, rfl, _, by rw [hw1 (by simp only [works, decide_eq_true_eq]; omega)]⟩
     ·exact ⟨fun j hj => by (repeat rw [if_neg (by omega)]); exact hlow' j hj, e, rfl, _, by rw [hw1 (by simp only [works, decide_eq_true_eq]; omega)]⟩
    ·rintro f H h28 h27 ⟨h1, h26, hlow, e, h5, ver, hH9⟩
     rw [wkTo_end] at hH9
     repeat' (first | (with_reducible refine sk ?_; intro K hK) | ((with_reducible first | refine rg (md := { base := 2000, own := [8, 9] }) (h := ?_) | refine rgS [8] (md := { base := 2000, own := [8, 9] }) (h := ?_) | refine nx ?_); try simp (disch := omega) only [h1, h5, h26, h27, h28, hH9,go_sem, simprocAttr]) | (with_reducible refine bk ?_) | ((with_reducible refine' cE ?hv ?_ ?_); (case hv => first | rfl | (simp only [h1, h5, h26, h27, h28, hH9,go_sem, simprocAttr]; rfl)); all_goals (intro hc; (try simp only [go_sem, simprocAttr] at hc); try (exfalso; omega))) | ((with_reducible first | refine grdS_split ?_ ?_ | refine lkG_split ?_ ?_) <;> intro hg <;> (try simp (disch := omega) only [hg, h1, h5, h26, h27, h28, hH9,go_sem, simprocAttr]) <;> (try simp only [go_sem, simprocAttr] at hg) <;> (try (exfalso; omega))) | with_reducible intro (ep : Nat → Nat) | with_reducible apply_assumption -exfalso -symm only [*])
     exact ⟨H, .map 2009 e, .refl H, (by (first | rfl | (simp only [Try.f73, go_sem, simprocAttr]; done) | (simp only [Try.f73, go_sem, simprocAttr]; rfl))), e, ver, by simp only [go_sem, simprocAttr], hH9, hlow⟩
 ·have hk' : H2 k = some (e, .arr n [cRun r ++ rest]) := by rw [hlow k hk2, hk]
  have k8 : ¬ k = 2008 := by omega
  have k9 : ¬ k = 2009 := by omega
  repeat' (first | ((fail_if_success (with_reducible refine AW_at (id := 3) ?_)); with_reducible refine sk ?_; intro K hK) | ((with_reducible first | refine rg (md := { base := 2000, own := [8, 9] }) (h := ?_) | refine rgS [8] (md := { base := 2000, own := [8, 9] }) (h := ?_) | refine nx ?_); try simp (disch := omega) only [hfp, cRun, hk', k8, k9, g9, g8',go_sem, simprocAttr]) | (with_reducible refine bk ?_) | ((with_reducible refine' cE ?hv ?_ ?_); (case hv => first | rfl | (simp only [hfp, cRun, hk', k8, k9, g9, g8',go_sem, simprocAttr]; rfl)); all_goals (intro hc; (try simp only [go_sem, simprocAttr] at hc); try (exfalso; omega))) | ((with_reducible first | refine grdS_split ?_ ?_ | refine lkG_split ?_ ?_) <;> intro hg <;> (try simp (disch := omega) only [hg, hfp, cRun, hk', k8, k9, g9, g8',go_sem, simprocAttr]) <;> (try simp only [go_sem, simprocAttr] at hg) <;> (try (exfalso; omega))) | with_reducible intro (ep : Nat → Nat) | with_reducible apply_assumption -exfalso -symm only [*])
  refine AW_range tabOK r.cpls.length (fun k f H => f 0 = fp ∧ f 1 = .int .i64 m ∧ (∀ j, j < 2000 → H j = H0 j) ∧ H 2008 = none ∧ ∃ e, f 5 = .map 2009 e ∧ ∃ ver, H 2009 = some (e, .map ver (imap .i64 (tl (List.range k))))) (by omega) (by rw [hXs]; decide) (by decide) (by (first | rfl | (simp only [go_sem, simprocAttr]; done) | (simp only [go_sem, simprocAttr]; rfl))) (by (first | rfl | (simp only [cRun, go_sem, simprocAttr]; done) | (simp only [cRun, go_sem, simprocAttr]; rfl)))
   ⟨by (first | rfl | (simp only [hfp, go_sem, simprocAttr]; done) | (simp only [hfp, go_sem, simprocAttr]; rfl)), by (first | rfl | (simp only [go_sem, simprocAttr]; done) | (simp only [go_sem, simprocAttr]; rfl)), fun j hj => by simp only [go_sem, simprocAttr]; rw [if_neg (by omega)]; exact hlow j hj, by (first | rfl | (simp only [g8', go_sem, simprocAttr]; done) | (simp only [g8', go_sem, simprocAttr]; rfl)), _, by (first | rfl | (simp only [go_sem, simprocAttr]; done) | (simp only [go_sem, simprocAttr]; rfl)), _, by (first | rfl | (simp only [go_sem, simprocAttr]; done) | (simp only [go_sem, simprocAttr]; rfl))⟩ ?_ ?_
  ·rintro k f H hk h16 h15 ⟨h0, h1, hlow, g8, e, h5, ver, hH9⟩
   have hnew : findI (k : Int) (tl (List.range k)) 0 = none := find_new (by simp)
   repeat' (first | (with_reducible refine sk ?_; intro K hK) | ((with_reducible first | refine rg (md := { base := 2000, own := [8, 9] }) (h := ?_) | refine rgS [8] (md := { base := 2000, own := [8, 9] }) (h := ?_) | refine nx ?_); try simp (disch := omega) only [h0, h1, h5, h15, h16, hH9, g8, hnew,go_sem, simprocAttr]) | (with_reducible refine bk ?_) | ((with_reducible refine' cE ?hv ?_ ?_); (case hv => first | rfl | (simp only [h0, h1, h5, h15, h16, hH9, g8, hnew,go_sem, simprocAttr]; rfl)); all_goals (intro hc; (try simp only [go_sem, simprocAttr] at hc); try (exfalso; omega))) | ((with_reducible first | refine grdS_split ?_ ?_ | refine lkG_split ?_ ?_) <;> intro hg <;> (try simp (disch := omega) only [hg, h0, h1, h5, h15, h16, hH9, g8, hnew,go_sem, simprocAttr]) <;> (try simp only [go_sem, simprocAttr] at hg) <;> (try (exfalso; omega))) | with_reducible intro (ep : Nat → Nat) | with_reducible apply_assumption -exfalso -symm only [*])
   exact ⟨fun j hj => by rw [if_neg (by omega)]; exact hlow j hj, e, rfl, _, by rw [imap_snoc, tl_snoc]⟩
  ·rintro f H h16 h15 ⟨h0, h1, hlow, g8, e, h5, ver, hH9⟩
   rcases hp with hfp | ⟨k, e0, n, hfp, hk, hk2⟩
   ·have hkk : True := trivial
    repeat' (first | ((fail_if_success (with_reducible refine AW_at (id := 8) ?_)); with_reducible refine sk ?_; intro K hK) | ((with_reducible first | refine rg (md := { base := 2000, own := [8, 9] }) (h := ?_) | refine rgS [8] (md := { base := 2000, own := [8, 9] }) (h := ?_) | refine nx ?_); try simp (disch := omega) only [h0, h1, h5, hH9, g8, hfp, cRun,go_sem, simprocAttr]) | (with_reducible refine bk ?_) | ((with_reducible refine' cE ?hv ?_ ?_); (case hv => first | rfl | (simp only [h0, h1, h5, hH9, g8, hfp, cRun,go_sem, simprocAttr]; rfl)); all_goals (intro hc; (try simp only [go_sem, simprocAttr] at hc); try (exfalso; omega))) | ((with_reducible first | refine grdS_split ?_ ?_ | refine lkG_split ?_ ?_) <;> intro hg <;> (try simp (disch := omega) only [hg, h0, h1, h5, hH9, g8, hfp, cRun,go_sem, simprocAttr]) <;> (try simp only [go_sem, simprocAttr] at hg) <;> (try (exfalso; omega))) | with_reducible intro (ep : Nat → Nat) | with_reducible apply_assumption -exfalso -symm only [*])
    refine AW_range tabOK r.cpls.length (fun k f H => f 1 = .int .i64 m ∧ f 26 = .lst 6 (r.cpls.map cCpl) ∧ (∀ j, j < 2000 → H j = H0 j) ∧ ∃ e, f 5 = .map 2009 e ∧ ∃ ver, H 2009 = some (e, .map ver (imap .i64 (tl (wkTo r m k))))) (by omega) (by rw [hXs]; decide) (by decide) (by (first | rfl | (simp only [go_sem, simprocAttr]; done) | (simp only [go_sem, simprocAttr]; rfl))) (by (first | rfl | (simp only [cRun, go_sem, simprocAttr]; done) | (simp only [cRun, go_sem, simprocAttr]; rfl)))
     ⟨by (first | rfl | (simp only [h1, go_sem, simprocAttr]; done) | (simp only [h1, go_sem, simprocAttr]; rfl)), by (first | rfl | (simp only [hfp, hkk, cRun, go_sem, simprocAttr]; done) | (simp only [hfp, hkk, cRun, go_sem, simprocAttr]; rfl)), hlow, _, by (first | rfl | (simp only [h5, go_sem, simprocAttr]; done) | (simp only [h5, go_sem, simprocAttr]; rfl)), _, by simp only [wkTo_zero]; (first | rfl | (simp only [hH9, go_sem, simprocAttr]; done) | (simp only [hH9, go_sem, simprocAttr]; rfl))⟩ ?_ ?_
    ·rintro k f H hk h28 h27 ⟨h1, h26, hlow, e, h5, ver, hH9⟩
     obtain ⟨x, hx⟩ : ∃ x, r.cpls[k]? = some x := ⟨_, List.getElem?_eq_getElem hk⟩
     refine AW_lose 2008 fun H1 g8 hs1 => ?_
     have hlow' : ∀ j, j < 2000 → H1 j = H0 j := fun j hj => by rw [hs1 _ (by omega), hlow _ hj]
     have hH9' : H1 2009 = some (e, .map ver (imap .i64 (tl (wkTo r m k)))) := by rw [hs1 _ (by decide), hH9]
     clear hs1 hlow hH9
     have hbk := (hF.cpl k x hx).2.2.2.1
     have hsp := wkTo_split (r := r) (m := m) hk
     have hw1 := @wkTo_stay r m k x hx
     have hw2 := @wkTo_gone r m k x hx
     have hnot := @wkTo_not r m k
     have hf := find_mid (l' := List.range' (k + 1) (r.cpls.length - (k + 1))) hnot
     rw [← hsp] at hf
     have he := @eraseI_mid k (wkFrom m 0 (r.cpls.take k)) (List.range' (k + 1) (r.cpls.length - (k + 1)))
     rw [← hsp] at he
     repeat' (first | (with_reducible refine sk ?_; intro K hK) | ((with_reducible first | refine rg (md := { base := 2000, own := [8, 9] }) (h := ?_) | refine rgS [8] (md := { base := 2000, own := [8, 9] }) (h := ?_) | refine nx ?_); try simp (disch := omega) only [h1, h5, h26, h27, h28, hH9', g8, hx, hf, he, imap_erase, cCpl,go_sem, simprocAttr]) | (with_reducible refine bk ?_) | ((with_reducible refine' cE ?hv ?_ ?_); (case hv => first | rfl | (simp only [h1, h5, h26, h27, h28, hH9', g8, hx, hf, he, imap_erase, cCpl,go_sem, simprocAttr]; rfl)); all_goals (intro hc; (try simp only [go_sem, simprocAttr] at hc); try (exfalso; omega))) | ((with_reducible first | refine grdS_split ?_ ?_ | refine lkG_split ?_ ?_) <;> intro hg <;> (try simp (disch := omega) only [hg, h1, h5, h26, h27, h28, hH9', g8, hx, hf, he, imap_erase, cCpl,go_sem, simprocAttr]) <;> (try simp only [go_sem, simprocAttr] at hg) <;> (try (exfalso; omega))) | with_reducible intro (ep : Nat → Nat) | with_reducible apply_assumption -exfalso -symm only [*])
     ·exact ⟨fun j hj => by (repeat rw [if_neg (by omega)]); exact hlow' j hj, e, rfl, _, by rw [hw2 (by simp only [works, decide_eq_false_iff_not]; omega)]⟩
     ·exact ⟨fun j hj => by (repeat rw [if_neg (by omega)]); exact hlow' j hj, e, rfl, _, by rw [hw1 (by simp only [works, decide_eq_true_eq]; omega)]⟩
     ·exact ⟨fun j hj => by (repeat rw [if_neg (by omega)]); exact hlow' j hj, e, rfl, _, by rw [hw1 (by simp only [works, decide_eq_true_eq]; omega)]⟩
    ·rintro f H h28 h27 ⟨h1, h26, hlow, e, h5, ver, hH9⟩
     rw [wkTo_end] at hH9
     repeat' (first | (with_reducible refine sk ?_; intro K hK) | ((with_reducible first | refine rg (md := { base := 2000, own := [8, 9] }) (h := ?_) | refine rgS [8] (md := { base := 2000, own := [8, 9] }) (h := ?_) | refine nx ?_); try simp (disch := omega) only [h1, h5, h26, h27, h28, hH9,go_sem, simprocAttr]) | (with_reducible refine bk ?_) | ((with_reducible refine' cE ?hv ?_ ?_); (case hv => first | rfl | (simp only [h1, h5, h26, h27, h28, hH9,go_sem, simprocAttr]; rfl)); all_goals (intro hc; (try simp only [go_sem, simprocAttr] at hc); try (exfalso; omega))) | ((with_reducible first | refine grdS_split ?_ ?_ | refine lkG_split ?_ ?_) <;> intro hg <;> (try simp (disch := omega) only [hg, h1, h5, h26, h27, h28, hH9,go_sem, simprocAttr]) <;> (try simp only [go_sem, simprocAttr] at hg) <;> (try (exfalso; omega))) | with_reducible intro (ep : Nat → Nat) | with_reducible apply_assumption -exfalso -symm only [*])
     exact ⟨H, .map 2009 e, .refl H, (by (first | rfl | (simp only [Try.f73, go_sem, simprocAttr]; done) | (simp only [Try.f73, go_sem, simprocAttr]; rfl))), e, ver, by simp only [go_sem, simprocAttr], hH9, hlow⟩
   ·have hkk : H k = some (e0, .arr n [cRun r ++ rest]) := by rw [hlow k hk2, hk]
    have k8 : ¬ k = 2008 := by omega
    have k9 : ¬ k = 2009 := by omega
    repeat' (first | ((fail_if_success (with_reducible refine AW_at (id := 8) ?_)); with_reducible refine sk ?_; intro K hK) | ((with_reducible first | refine rg (md := { base := 2000, own := [8, 9] }) (h := ?_) | refine rgS [8] (md := { base := 2000, own := [8, 9] }) (h := ?_) | refine nx ?_); try simp (disch := omega) only [h0, h1, h5, hH9, g8, hfp, hkk, k8, k9, cRun,go_sem, simprocAttr]) | (with_reducible refine bk ?_) | ((with_reducible refine' cE ?hv ?_ ?_); (case hv => first | rfl | (simp only [h0, h1, h5, hH9, g8, hfp, hkk, k8, k9, cRun,go_sem, simprocAttr]; rfl)); all_goals (intro hc; (try simp only [go_sem, simprocAttr] at hc); try (exfalso; omega))) | ((with_reducible first | refine grdS_split ?_ ?_ | refine lkG_split ?_ ?_) <;> intro hg <;> (try simp (disch := omega) only [hg, h0, h1, h5, hH9, g8, hfp, hkk, k8, k9, cRun,go_sem, simprocAttr]) <;> (try simp only [go_sem, simprocAttr] at hg) <;> (try (exfalso; omega))) | with_reducible intro (ep : Nat → Nat) | with_reducible apply_assumption -exfalso -symm only [*])
    refine AW_range tabOK r.cpls.length (fun k f H => f 1 = .int .i64 m ∧ f 26 = .lst 6 (r.cpls.map cCpl) ∧ (∀ j, j < 2000 → H j = H0 j) ∧ ∃ e, f 5 = .map 2009 e ∧ ∃ ver, H 2009 = some (e, .map ver (imap .i64 (tl (wkTo r m k))))) (by omega) (by rw [hXs]; decide) (by decide) (by (first | rfl | (simp only [go_sem, simprocAttr]; done) | (simp only [go_sem, simprocAttr]; rfl))) (by (first | rfl | (simp only [cRun, go_sem, simprocAttr]; done) | (simp only [cRun, go_sem, simprocAttr]; rfl)))
     ⟨by (first | rfl | (simp only [h1, go_sem, simprocAttr]; done) | (simp only [h1, go_sem, simprocAttr]; rfl)), by (first | rfl | (simp only [hfp, hkk, cRun, go_sem, simprocAttr]; done) | (simp only [hfp, hkk, cRun, go_sem, simprocAttr]; rfl)), hlow, _, by (first | rfl | (simp only [h5, go_sem, simprocAttr]; done) | (simp only [h5, go_sem, simprocAttr]; rfl)), _, by simp only [wkTo_zero]; (first | rfl | (simp only [hH9, go_sem, simprocAttr]; done) | (simp only [hH9, go_sem, simprocAttr]; rfl))⟩ ?_ ?_
    ·rintro k f H hk h28 h27 ⟨h1, h26, hlow, e, h5, ver, hH9⟩
     obtain ⟨x, hx⟩ : ∃ x, r.cpls[k]? = some x := ⟨_, List.getElem?_eq_getElem hk⟩
     refine AW_lose 2008 fun H1 g8 hs1 => ?_
     have hlow' : ∀ j, j < 2000 → H1 j = H0 j := fun j hj => by rw [hs1 _ (by omega), hlow _ hj]
     have hH9' : H1 2009 = some (e, .map ver (imap .i64 (tl (wkTo r m k)))) := by rw [hs1 _ (by decide), hH9]
     clear hs1 hlow hH9
     have hbk := (hF.cpl k x hx).2.2.2.1
     have hsp := wkTo_split (r := r) (m := m) hk
     have hw1 := @wkTo_stay r m k x hx
     have hw2 := @wkTo_gone r m k x hx
     have hnot := @wkTo_not r m k
     have hf := find_mid (l' := List.range' (k + 1) (r.cpls.length - (k + 1))) hnot
     rw [← hsp] at hf
     have he := @eraseI_mid k (wkFrom m 0 (r.cpls.take k)) (List.range' (k + 1) (r.cpls.length - (k + 1)))
     rw [← hsp] at he
     repeat' (first | (with_reducible refine sk ?_; intro K hK) | ((with_reducible first | refine rg (md := { base := 2000, own := [8, 9] }) (h := ?_) | refine rgS [8] (md := { base := 2000, own := [8, 9] }) (h := ?_) | refine nx ?_); try simp (disch := omega) only [h1, h5, h26, h27, h28, hH9', g8, hx, hf, he, imap_erase, cCpl,go_sem, simprocAttr]) | (with_reducible refine bk ?_) | ((with_reducible refine' cE ?hv ?_ ?_); (case hv => first | rfl | (simp only [h1, h5, h26, h27, h28, hH9', g8, hx, hf, he, imap_erase, cCpl,go_sem, simprocAttr]; rfl)); all_goals (intro hc; (try simp only [go_sem, simprocAttr] at hc); try (exfalso; omega))) | ((with_reducible first | refine grdS_split ?_ ?_ | refine lkG_split ?_ ?_) <;> intro hg <;> (try simp (disch := omega) only [hg, h1, h5, h26, h27, h28, hH9', g8, hx, hf, he, imap_erase, cCpl,go_sem, simprocAttr]) <;> (try simp only [go_sem, simprocAttr] at hg) <;> (try (exfalso; omega))) | with_reducible intro (ep : Nat → Nat) | with_reducible apply_assumption -exfalso -symm only [*])
     ·exact ⟨fun j hj => by (repeat rw [if_neg (by omega)]); exact hlow' j hj, e, rfl, _, by rw [hw2 (by simp only [works, decide_eq_false_iff_not]; omega)]⟩
     ·exact ⟨fun j hj => by (repeat rw [if_neg (by omega)]); exact hlow' j hj, e, rfl, _, by rw [hw1 (by simp only [works, decide_eq_true_eq]; omega)]⟩
     ·exact ⟨fun j hj => by (repeat rw [if_neg (by omega)]); exact hlow' j hj, e, rfl, _, by rw [hw1 (by simp only [works, decide_eq_true_eq]; omega)]⟩
    ·rintro f H h28 h27 ⟨h1, h26, hlow, e, h5, ver, hH9⟩
     rw [wkTo_end] at hH9
     repeat' (first | (with_reducible refine sk ?_; intro K hK) | ((with_reducible first | refine rg (md := { base := 2000, own := [8, 9] }) (h := ?_) | refine rgS [8] (md := { base := 2000, own := [8, 9] }) (h := ?_) | refine nx ?_); try simp (disch := omega) only [h1, h5, h26, h27, h28, hH9,go_sem, simprocAttr]) | (with_reducible refine bk ?_) | ((with_reducible refine' cE ?hv ?_ ?_); (case hv => first | rfl | (simp only [h1, h5, h26, h27, h28, hH9,go_sem, simprocAttr]; rfl)); all_goals (intro hc; (try simp only [go_sem, simprocAttr] at hc); try (exfalso; omega))) | ((with_reducible first | refine grdS_split ?_ ?_ | refine lkG_split ?_ ?_) <;> intro hg <;> (try simp (disch := omega) only [hg, h1, h5, h26, h27, h28, hH9,go_sem, simprocAttr]) <;> (try simp only [go_sem, simprocAttr] at hg) <;> (try (exfalso; omega))) | with_reducible intro (ep : Nat → Nat) | with_reducible apply_assumption -exfalso -symm only [*])
     exact ⟨H, .map 2009 e, .refl H, (by (first | rfl | (simp only [Try.f73, go_sem, simprocAttr]; done) | (simp only [Try.f73, go_sem, simprocAttr]; rfl))), e, ver, by simp only [go_sem, simprocAttr], hH9, hlow⟩
end Cp
namespace Cp
open Go
set_option maxRecDepth 10000
@[go_sem] theorem splice2 {a b c d : Val} : splice [a, b] 0 [c, d] = [c, d] := rfl
theorem splice_len {es vs : List Val} {j : Nat} (h : j + vs.length ≤ es.length) : (splice es j vs).length = es.length := by
 simp only [splice, List.length_append, List.length_take, List.length_drop]; omega
theorem splice_mem {es vs : List Val} {j : Nat} {v : Val} (h : v ∈ splice es j vs) : v ∈ es ∨ v ∈ vs := by
 simp only [splice, List.mem_append] at h
 rcases h with (h | h) | h
 ·exact .inl (List.mem_of_mem_take h)
 ·exact .inr h
 ·exact .inl (List.mem_of_mem_drop h)
theorem drop_splice {es vs : List Val} {j : Nat} (h : j ≤ es.length) : (splice es j vs).drop j = vs ++ es.drop (j + vs.length) := by
 have e : (es.take j).length = j := by simp; omega
 unfold splice
 rw [List.append_assoc, List.drop_append, e, List.drop_of_length_le (by omega), Nat.sub_self]
 rfl
theorem splice_get3 {es vs : List Val} {j i : Nat} (h : j + vs.length ≤ es.length) : (splice es j vs)[i]? = if i < j then es[i]? else if i < j + vs.length then vs[i - j]? else es[i]? := by
 have e : (es.take j).length = j := by simp; omega
 unfold splice
 rw [List.append_assoc, List.getElem?_append, e]
 by_cases h1 : i < j
 ·rw [if_pos h1, if_pos h1, List.getElem?_take, if_pos h1]
 ·rw [if_neg h1, if_neg h1, List.getElem?_append]
  by_cases h2 : i < j + vs.length
  ·rw [if_pos (by omega), if_pos h2]
  ·rw [if_neg (by omega), if_neg h2, List.getElem?_drop]
   congr 1; omega
theorem splice_app {es es' vs : List Val} {j : Nat} (h : es.length ≤ j) : splice (es ++ es') j vs = es ++ splice es' (j - es.length) vs := by
 unfold splice
 rw [List.take_append, List.take_of_length_le h, List.drop_append, List.drop_of_length_le (by omega)]
 simp only [List.append_assoc, List.nil_append]
 rw [show j + vs.length - es.length = j - es.length + vs.length by omega]
def fireAt (r : RunT) : Nat → List Val
 | 0 => cRun r ++ (List.replicate 122 (.int .i64 0) ++ List.replicate 61 (.bool false))
 | k + 1 =>
  if 0 < (wk r ((k + 1 : Nat) : Int)).length then splice (splice (fireAt r k) (128 + (k + 1)) [.bool true]) (6 + (k + 1) * 2) [.int .i64 (meanS r ((k + 1 : Nat) : Int)).lo, .int .i64 (meanS r ((k + 1 : Nat) : Int)).hi]
  else splice (fireAt r k) (128 + (k + 1)) [.bool false]
theorem fireAt_len {r : RunT} : ∀ {k : Nat}, k ≤ 60 → (fireAt r k).length = 189
 | 0, _ => by simp [fireAt, cRun]
 | k + 1, h => by
  have ih := @fireAt_len r k (by omega)
  have e : ∀ v, (splice (fireAt r k) (128 + (k + 1)) [v]).length = 189 := fun v => by rw [splice_len (by simp only [List.length_cons, List.length_nil]; omega), ih]
  simp only [fireAt]
  split
  ·rw [splice_len (by rw [e]; simp only [List.length_cons, List.length_nil]; omega), e]
  ·exact e _
theorem fireAt_run {r : RunT} : ∀ {k : Nat}, ∃ rest, fireAt r k = cRun r ++ rest
 | 0 => ⟨_, rfl⟩
 | k + 1 => by
  obtain ⟨rest, e⟩ := @fireAt_run r k
  have h6 : (cRun r).length = 6 := rfl
  simp only [fireAt, e]
  split
  ·exact ⟨_, by rw [splice_app (by rw [h6]; omega), splice_app (by rw [h6]; omega)]⟩
  ·exact ⟨_, by rw [splice_app (by rw [h6]; omega)]⟩
def stillCell (v : Val) : Prop := noid v = true ∧ ∀ H, fzd H 5 v = v
theorem still_int {k : IntKind} {n : Int} : stillCell (.int k n) := ⟨rfl, fun _ => rfl⟩
theorem still_bool {b : Bool} : stillCell (.bool b) := ⟨rfl, fun _ => rfl⟩
theorem fireAt_still {r : RunT} : ∀ {k : Nat} (v : Val), v ∈ fireAt r k → stillCell v
 | 0, v, h => by
  simp only [fireAt, cRun, List.mem_append, List.mem_cons, List.not_mem_nil, or_false, List.mem_replicate] at h
  rcases h with (rfl | rfl | rfl | rfl | rfl | rfl) | h | h
  all_goals first | exact still_int | skip
  ·exact ⟨by simp only [noid, cPt_noid], fun H => by simp only [fzd_lst, fzd_cPt]⟩
  ·exact ⟨by simp only [noid, cCpl_noid], fun H => by simp only [fzd_lst, fzd_cCpl]⟩
  ·exact ⟨by simp only [noid, cRow_noid], fun H => by simp only [fzd_lst, fzd_cRow]⟩
  ·rw [h.2]; exact still_int
  ·rw [h.2]; exact still_bool
 | k + 1, v, h => by
  have ih := @fireAt_still r k
  have one : ∀ b, v ∈ splice (fireAt r k) (128 + (k + 1)) [.bool b] → stillCell v := fun b h => by
   rcases splice_mem h with h | h
   ·exact ih v h
   ·simp at h; subst h; exact still_bool
  simp only [fireAt] at h
  split at h
  ·rcases splice_mem h with h | h
   ·exact one _ h
   ·simp at h; rcases h with rfl | rfl <;> exact still_int
  ·exact one _ h
theorem noids_still : ∀ {l : List Val}, (∀ v ∈ l, stillCell v) → noids l = true
 | [], _ => rfl
 | v :: l, h => by
  have ih := @noids_still l fun u hu => h u (List.mem_cons_of_mem _ hu)
  simp only [noids, (h v (by simp)).1, ih, Bool.and_self]
theorem fzd_still {H : Hp} {l : List Val} (h : ∀ v ∈ l, stillCell v) : l.map (fzd H 5) = l := by
 conv => rhs; rw [← List.map_id l]
 exact List.map_congr_left fun v hv => (h v hv).2 H
def lfI (r : RunT) (m : Int) (left : List Nat) : List Nat := left.map fun p => (wk r m).getD p 0
theorem lf_all {r : RunT} {m : Int} : lfI r m (List.range (wk r m).length) = wk r m := by
 unfold lfI
 apply List.ext_getElem?
 intro i
 rw [List.getElem?_map]
 by_cases h : i < (wk r m).length
 ·rw [List.getElem?_range h]; simp [List.getD, h]
 ·rw [List.getElem?_eq_none (by simp; omega), List.getElem?_eq_none (by omega)]; rfl
theorem sumLo_perm {r : RunT} {m : Int} {a b : List Nat} (h : a.Perm b) : sumLo r m a = sumLo r m b ∧ sumHi r m a = sumHi r m b := by
 induction h with
 | nil => exact ⟨rfl, rfl⟩
 | cons x _ ih => simp only [sumLo, sumHi, ih.1, ih.2, and_self]
 | swap x y l => simp only [sumLo, sumHi]; omega
 | trans _ _ ih1 ih2 => exact ⟨ih1.1.trans ih2.1, ih1.2.trans ih2.2⟩
theorem lf_take {r : RunT} {m : Int} {left : List Nat} {p w : Nat} {c : Cpl} (h : p ∈ left) (hw : (wk r m)[p]? = some w) (hc : r.cpls[w]? = some c) :
  sumLo r m (lfI r m left) = (truth r c w m).lo + sumLo r m (lfI r m (left.erase p)) ∧ sumHi r m (lfI r m left) = (truth r c w m).hi + sumHi r m (lfI r m (left.erase p)) := by
 have e := sumLo_perm (r := r) (m := m) ((List.perm_cons_erase h).map fun p => (wk r m).getD p 0)
 have e2 : (wk r m).getD p 0 = w := by simp [List.getD, hw]
 simp only [List.map_cons, e2, sumLo, sumHi, hc] at e
 exact e
theorem lf_mem {r : RunT} {m : Int} {left : List Nat} (h : ∀ p ∈ left, p < (wk r m).length) : ∀ i ∈ lfI r m left, i ∈ wk r m := by
 intro i hi
 simp only [lfI, List.mem_map] at hi
 obtain ⟨p, hp, rfl⟩ := hi
 have := h p hp
 simp [List.getD, this]
@[go_sem] theorem lf_len {r : RunT} {m : Int} {left : List Nat} : (lfI r m left).length = left.length := by simp [lfI]
end Cp
namespace Cp
open Go
theorem warm_get {r : RunT} {m : Nat} (h1 : 1 ≤ m) : ∀ {n : Nat}, m ≤ n → n ≤ 60 → (fireAt r n)[128 + m]? = some (.bool (decide (0 < (wk r (m : Int)).length)))
 | 0, h, _ => by omega
 | n + 1, h, h60 => by
  have hl := @fireAt_len r n (by omega)
  have e : ∀ b, (splice (fireAt r n) (128 + (n + 1)) [.bool b])[128 + m]? = if m = n + 1 then some (.bool b) else (fireAt r n)[128 + m]? := fun b => by
   rw [splice_get3 (by simp only [List.length_cons, List.length_nil]; omega)]
   by_cases hm : m = n + 1
   ·subst hm; rw [if_neg (by omega), if_pos (by simp), if_pos rfl, Nat.sub_self]; rfl
   ·rw [if_pos (by omega), if_neg hm]
  have hl1 : ∀ b, (splice (fireAt r n) (128 + (n + 1)) [.bool b]).length = 189 := fun b => by rw [splice_len (by simp only [List.length_cons, List.length_nil]; omega), hl]
  simp only [fireAt]
  by_cases hz : 0 < (wk r ((n + 1 : Nat) : Int)).length
  ·rw [if_pos hz, splice_get3 (by rw [hl1]; simp only [List.length_cons, List.length_nil]; omega), if_neg (by omega), if_neg (by simp only [List.length_cons, List.length_nil]; omega), e]
   by_cases hm : m = n + 1
   ·subst hm; rw [if_pos rfl, decide_eq_true hz]
   ·rw [if_neg hm, warm_get h1 (by omega) (by omega)]
  ·rw [if_neg hz, e]
   by_cases hm : m = n + 1
   ·subst hm; rw [if_pos rfl, decide_eq_false hz]
   ·rw [if_neg hm, warm_get h1 (by omega) (by omega)]
theorem mean_get {r : RunT} {m : Nat} (h1 : 1 ≤ m) (hw : 0 < (wk r (m : Int)).length) : ∀ {n : Nat}, m ≤ n → n ≤ 60 → (fireAt r n)[6 + m * 2]? = some (.int .i64 (meanS r (m : Int)).lo) ∧ (fireAt r n)[6 + m * 2 + 1]? = some (.int .i64 (meanS r (m : Int)).hi)
 | 0, h, _ => by omega
 | n + 1, h, h60 => by
  have hl := @fireAt_len r n (by omega)
  have e : ∀ b i, i < 128 → (splice (fireAt r n) (128 + (n + 1)) [.bool b])[i]? = (fireAt r n)[i]? := fun b i hi => by
   rw [splice_get3 (by simp only [List.length_cons, List.length_nil]; omega), if_pos (by omega)]
  have hl1 : ∀ b, (splice (fireAt r n) (128 + (n + 1)) [.bool b]).length = 189 := fun b => by rw [splice_len (by simp only [List.length_cons, List.length_nil]; omega), hl]
  simp only [fireAt]
  by_cases hz : 0 < (wk r ((n + 1 : Nat) : Int)).length
  ·have g : ∀ i, (splice (splice (fireAt r n) (128 + (n + 1)) [.bool true]) (6 + (n + 1) * 2) [.int .i64 (meanS r ((n + 1 : Nat) : Int)).lo, .int .i64 (meanS r ((n + 1 : Nat) : Int)).hi])[i]? = if i < 6 + (n + 1) * 2 then (splice (fireAt r n) (128 + (n + 1)) [.bool true])[i]? else if i < 6 + (n + 1) * 2 + 2 then [Val.int .i64 (meanS r ((n + 1 : Nat) : Int)).lo, .int .i64 (meanS r ((n + 1 : Nat) : Int)).hi][i - (6 + (n + 1) * 2)]? else (splice (fireAt r n) (128 + (n + 1)) [.bool true])[i]? := fun i =>
    splice_get3 (by rw [hl1]; simp only [List.length_cons, List.length_nil]; omega)
   rw [if_pos hz, g, g]
   by_cases hm : m = n + 1
   ·subst hm
    refine ⟨?_, ?_⟩
    ·rw [if_neg (by omega), if_pos (by omega), Nat.sub_self]; rfl
    ·rw [if_neg (by omega), if_pos (by omega), show 6 + (n + 1) * 2 + 1 - (6 + (n + 1) * 2) = 1 by omega]; rfl
   ·have ih := mean_get h1 hw (n := n) (by omega) (by omega)
    refine ⟨?_, ?_⟩
    ·rw [if_pos (by omega), e _ _ (by omega)]; exact ih.1
    ·rw [if_pos (by omega), e _ _ (by omega)]; exact ih.2
  ·by_cases hm : m = n + 1
   ·subst hm; exact absurd hw hz
   ·rw [if_neg hz, e _ _ (by omega), e _ _ (by omega)]
    exact mean_get h1 hw (by omega) (by omega)
end Cp
namespace Cp
open Go Go.Proofs
set_option maxRecDepth 10000
theorem open_ok (r : RunT) (hF : RunF r) : PureC Try.prog 50 [encRun r] (.pim (fireAt r r.rows.length)) := by
 have hcl := hF.cpls
 have hrl := hF.rows
 have hnn : noids (fireAt r r.rows.length) = true := noids_still fireAt_still
 refine PureC_of (fn := Try.f50) tabOK (by kernel_rfl) rfl (by kernel_rfl) (by simp [Try.f50]) (by simp [noids, noid, noidss, go_sem, encRun, cRun, hnn]) (by first | rfl | simp [noids, noid, noidss, go_sem, encRun, cRun, hnn]) ?_
 intro X hX0 hXs
 repeat' (first | ((fail_if_success (with_reducible refine AW_at (id := 3) ?_)); with_reducible refine sk ?_; intro K hK) | ((with_reducible first | refine AW_regN (id := 8) tabOK { base := 0, own := [6, 10, 22], imp := [20] } [] [31] (by rw [hXs]; decide +kernel) ?_ | refine AW_regN (id := 9) tabOK { base := 0, own := [6, 10, 22], imp := [20] } [] [31] (by rw [hXs]; decide +kernel) ?_ | refine rgL [] [31] (md := { base := 0, own := [6, 10, 22], imp := [20] }) (h := ?_) | refine rgL [6] [31] (md := { base := 0, own := [6, 10, 22], imp := [20] }) (h := ?_) | refine nx ?_); try simp (disch := omega) only [encRun, cRun,go_sem, simprocAttr]) | (with_reducible refine bk ?_) | ((with_reducible refine' cE ?hv ?_ ?_); (case hv => first | rfl | (simp only [encRun, cRun,go_sem, simprocAttr]; rfl)); all_goals (intro hc; (try simp only [go_sem, simprocAttr] at hc); try (exfalso; omega))) | with_reducible intro (ep : Nat → Nat) | with_reducible apply_assumption -exfalso -symm only [*])
 refine AW_block (AW_loop (fun n f H => ∃ k : Nat, n = r.rows.length - k ∧ k ≤ r.rows.length ∧ (f 1 = .pim (cRun r) ∧ f 4 = .int .i64 ((k + 1 : Nat) : Int)) ∧ ∃ e10, f 3 = .ptr 10 e10 189 0 0 ∧ H 10 = some (e10, .arr 189 [fireAt r k]) ∧ Room H 1000 100) r.rows.length
  ⟨0, by simp, Nat.zero_le _, by (and_intros <;> first | rfl | (simp only [cRun, go_sem, simprocAttr]; done) | (simp only [cRun, go_sem, simprocAttr]; rfl)), _, by (first | rfl | (simp only [go_sem, simprocAttr]; done) | (simp only [go_sem, simprocAttr]; rfl)), by simp only [go_sem, simprocAttr]; rfl, fun d hd => by simp only [go_sem, simprocAttr]; rw [if_neg (by omega)]⟩ ?_)
 rintro n f H ⟨k, rfl, hk, ⟨h1, h4⟩, e10, h3, hH10, hroom⟩
 by_cases hlt : k < r.rows.length
 ·refine AW_lose 6 fun H1 g6 hs1 => ?_
  refine AW_lose 22 fun H2 g22 hs2 => ?_
  have g6' : H2 6 = none := by rw [hs2 _ (by decide), g6]
  have hH10' : H2 10 = some (e10, .arr 189 [fireAt r k]) := by rw [hs2 _ (by decide), hs1 _ (by decide), hH10]
  have hroom' : Room H2 1000 100 := fun d hd => by rw [hs2 _ (by omega), hs1 _ (by omega)]; exact hroom d hd
  clear hs1 hs2 g6 hroom hH10
  obtain ⟨rest, hrest⟩ := @fireAt_run r k
  repeat' (first | (with_reducible refine sk ?_; intro K hK) | ((first | (with_reducible first | refine AW_regN (id := 8) tabOK { base := 0, own := [6, 10, 22], imp := [20] } [] [31] (by rw [hXs]; decide +kernel) ?_ | refine AW_regN (id := 9) tabOK { base := 0, own := [6, 10, 22], imp := [20] } [] [31] (by rw [hXs]; decide +kernel) ?_ | refine rgL [] [31] (md := { base := 0, own := [6, 10, 22], imp := [20] }) (h := ?_) | refine rgL [6] [31] (md := { base := 0, own := [6, 10, 22], imp := [20] }) (h := ?_) | refine nx ?_) | refine pK (working_ok r hF rest _ _ (.inr ⟨10, e10, 189, rfl, by simp only [go_sem, simprocAttr, hH10', hrest], by decide⟩) _) ?_ | refine lK (working_ok r hF rest _ _ (.inr ⟨10, e10, 189, rfl, by simp only [go_sem, simprocAttr, hH10', hrest], by decide⟩) _) ?_); try simp (disch := omega) only [h1, h3, h4, hH10', g6', g22, cRun,go_sem, simprocAttr]) | (with_reducible refine bk ?_) | ((with_reducible refine' cE ?hv ?_ ?_); (case hv => first | rfl | (simp only [h1, h3, h4, hH10', g6', g22, cRun,go_sem, simprocAttr]; rfl)); all_goals (intro hc; (try simp only [go_sem, simprocAttr] at hc); try (exfalso; omega))) | (first | refine iK (working_ok r hF rest _ _ (.inr ⟨10, e10, 189, rfl, by simp only [go_sem, simprocAttr, hH10', hrest], by decide⟩) _) ?_) | with_reducible intro (ep : Nat → Nat) | with_reducible apply_assumption -exfalso -symm only [*])
  rintro v H3 ⟨em, ver, rfl, hmap, hs3⟩
  have g6 : H3 6 = none := by rw [hs3 _ (by decide), g6']
  have g22' : H3 22 = none := by rw [hs3 _ (by decide), g22]
  have hH10 : H3 10 = some (e10, .arr 189 [fireAt r k]) := by rw [hs3 _ (by decide), hH10']
  have hroom : Room H3 1000 100 := fun d hd => by rw [hs3 _ (by omega)]; exact hroom' d hd
  clear hs3 g6' g22 hH10' hroom'
  have hwl := @wk_len r ((k + 1 : Nat) : Int)
  simp only [go_sem, simprocAttr]
  repeat' (first | (with_reducible refine sk ?_; intro K hK) | ((with_reducible first | refine AW_regN (id := 8) tabOK { base := 0, own := [6, 10, 22], imp := [20] } [] [31] (by rw [hXs]; decide +kernel) ?_ | refine AW_regN (id := 9) tabOK { base := 0, own := [6, 10, 22], imp := [20] } [] [31] (by rw [hXs]; decide +kernel) ?_ | refine rgL [] [31] (md := { base := 0, own := [6, 10, 22], imp := [20] }) (h := ?_) | refine rgL [6] [31] (md := { base := 0, own := [6, 10, 22], imp := [20] }) (h := ?_) | refine nx ?_); try simp (disch := omega) only [h1, h3, h4, hH10, hmap, g6, g22', cRun,go_sem, simprocAttr]) | (with_reducible refine bk ?_) | ((with_reducible refine' cE ?hv ?_ ?_); (case hv => first | rfl | (simp only [h1, h3, h4, hH10, hmap, g6, g22', cRun,go_sem, simprocAttr]; rfl)); all_goals (intro hc; (try simp only [go_sem, simprocAttr] at hc); try (exfalso; omega))) | with_reducible intro (ep : Nat → Nat) | with_reducible apply_assumption -exfalso -symm only [*])
  refine AW_block (AW_loop (fun n f H => ∃ left : List Nat, n = left.length ∧ left.length ≤ (wk r ((k + 1 : Nat) : Int)).length ∧ (∀ p ∈ left, p < (wk r ((k + 1 : Nat) : Int)).length) ∧ (f 1 = .pim (cRun r) ∧ f 3 = .ptr 10 e10 189 0 0 ∧ f 4 = .int .i64 ((k + 1 : Nat) : Int) ∧ f 5 = .map 2009 em ∧ H 10 = some (e10, .arr 189 [fireAt r k]) ∧ H 2009 = some (em, .map ver (imap .i64 (tl (wk r ((k + 1 : Nat) : Int)))))) ∧ Room H 1000 100 ∧
    ∃ x y e6 e22 cur, f 6 = .ptr 6 e6 2 0 0 ∧ H 6 = some (e6, .arr 2 [[.int .i64 x, .int .i64 y]]) ∧ f 22 = .itr 22 e22 ∧ H 22 = some (e22, .itr 2009 em ver left cur) ∧
     x + sumLo r ((k + 1 : Nat) : Int) (lfI r ((k + 1 : Nat) : Int) left) = sumLo r ((k + 1 : Nat) : Int) (wk r ((k + 1 : Nat) : Int)) ∧ y + sumHi r ((k + 1 : Nat) : Int) (lfI r ((k + 1 : Nat) : Int) left) = sumHi r ((k + 1 : Nat) : Int) (wk r ((k + 1 : Nat) : Int))) (wk r ((k + 1 : Nat) : Int)).length
   ⟨List.range (wk r ((k + 1 : Nat) : Int)).length, by simp, by simp, by simp, by (and_intros <;> first | rfl | (simp only [h1, h3, h4, hH10, hmap, cRun, go_sem, simprocAttr]; done) | (simp only [h1, h3, h4, hH10, hmap, cRun, go_sem, simprocAttr]; rfl)), fun d hd => by simp only [go_sem, simprocAttr]; rw [if_neg (by omega), if_neg (by omega)]; exact hroom d hd, 0, 0, _, _, _, by (first | rfl | (simp only [go_sem, simprocAttr]; done) | (simp only [go_sem, simprocAttr]; rfl)), by (first | rfl | (simp only [go_sem, simprocAttr]; done) | (simp only [go_sem, simprocAttr]; rfl)), by (first | rfl | (simp only [go_sem, simprocAttr]; done) | (simp only [go_sem, simprocAttr]; rfl)), by (first | rfl | (simp only [go_sem, simprocAttr]; done) | (simp only [go_sem, simprocAttr]; rfl)), by rw [lf_all]; omega, by rw [lf_all]; omega⟩ ?_)
  clear g6 g22' hH10 hroom h1 h3 h4 hmap
  rintro n f H ⟨left, rfl, hll, hlt2, ⟨h1, h3, h4, h5, hH10, hmap⟩, hroom, x, y, e6, e22, cur, h6, hH6, h22, hH22, hx, hy⟩
  have hm1 : (1 : Int) ≤ ((k + 1 : Nat) : Int) ∧ ((k + 1 : Nat) : Int) ≤ r.rows.length := by omega
  have hsb := sum_bounds hF hm1.1 hm1.2 (lfI r ((k + 1 : Nat) : Int) left) (lf_mem hlt2)
  have hst := sum_bounds hF hm1.1 hm1.2 (wk r ((k + 1 : Nat) : Int)) (fun j hj => hj)
  rw [lf_len] at hsb
  repeat' (first | (with_reducible refine sk ?_; intro K hK) | ((with_reducible first | refine AW_regN (id := 8) tabOK { base := 0, own := [6, 10, 22], imp := [20] } [] [31] (by rw [hXs]; decide +kernel) ?_ | refine AW_regN (id := 9) tabOK { base := 0, own := [6, 10, 22], imp := [20] } [] [31] (by rw [hXs]; decide +kernel) ?_ | refine rgL [] [31] (md := { base := 0, own := [6, 10, 22], imp := [20] }) (h := ?_) | refine rgL [6] [31] (md := { base := 0, own := [6, 10, 22], imp := [20] }) (h := ?_) | refine nx ?_); try simp (disch := omega) only [h1, h3, h4, h5, h6, h22, hH10, hH6, hH22, hmap, cRun,go_sem, simprocAttr]) | (with_reducible refine bk ?_) | ((with_reducible refine' cE ?hv ?_ ?_); (case hv => first | rfl | (simp only [h1, h3, h4, h5, h6, h22, hH10, hH6, hH22, hmap, cRun,go_sem, simprocAttr]; rfl)); all_goals (intro hc; (try simp only [go_sem, simprocAttr] at hc); try (exfalso; omega))) | with_reducible intro (ep : Nat → Nat) | with_reducible apply_assumption -exfalso -symm only [*])
  refine ⟨fun hl => ?_, fun p hp a v hav => ?_⟩
  ·subst hl
   simp only [lfI, List.map_nil, sumLo, sumHi, Int.add_zero] at hx hy
   subst hx hy
   have hfl := @fireAt_len r k (by omega)
   have h61 : k + 1 < 61 := by omega
   have h188 : 128 + (k + 1) * 1 ≤ 188 := by omega
   have h187 : 6 + (k + 1) * 2 ≤ 187 := by omega
   have hds : ∀ v, (splice (fireAt r k) (128 + (k + 1) * 1) [v]).drop (128 + (k + 1) * 1) = v :: (fireAt r k).drop (128 + (k + 1) * 1 + 1) := fun v => drop_splice (by omega)
   have hlen1 : ∀ v, (splice (fireAt r k) (128 + (k + 1) * 1) [v]).length = 189 := fun v => by rw [splice_len (by simp only [List.length_cons, List.length_nil]; omega), hfl]
   by_cases hz : 0 < (wk r ((k + 1 : Nat) : Int)).length
   ·obtain ⟨q1, q2, q3⟩ := quo840 (n := (wk r ((k + 1 : Nat) : Int)).length) (by omega) (by omega)
    have hz0 : (0 : Int) < ((wk r ((k + 1 : Nat) : Int)).length : Int) := by omega
    have hzn : ¬ ((wk r ((k + 1 : Nat) : Int)).length : Int) = 0 := by omega
    repeat' (first | (with_reducible refine sk ?_; intro K hK) | ((first | (with_reducible first | refine AW_regN (id := 8) tabOK { base := 0, own := [6, 10, 22], imp := [20] } [] [31] (by rw [hXs]; decide +kernel) ?_ | refine AW_regN (id := 9) tabOK { base := 0, own := [6, 10, 22], imp := [20] } [] [31] (by rw [hXs]; decide +kernel) ?_ | refine rgL [] [31] (md := { base := 0, own := [6, 10, 22], imp := [20] }) (h := ?_) | refine rgL [6] [31] (md := { base := 0, own := [6, 10, 22], imp := [20] }) (h := ?_) | refine nx ?_) | refine pK (times_ok ⟨sumLo r ((k + 1 : Nat) : Int) (wk r ((k + 1 : Nat) : Int)), sumHi r ((k + 1 : Nat) : Int) (wk r ((k + 1 : Nat) : Int))⟩ _ (by simp only; omega)) ?_ | refine lK (times_ok ⟨sumLo r ((k + 1 : Nat) : Int) (wk r ((k + 1 : Nat) : Int)), sumHi r ((k + 1 : Nat) : Int) (wk r ((k + 1 : Nat) : Int))⟩ _ (by simp only; omega)) ?_); try simp (disch := omega) only [h1, h3, h4, h5, h6, h22, hH10, hH6, hH22, hmap, hfl, h61, h188, h187, hds, hlen1, hz0, hzn, q1, cRun, encSpan,go_sem, simprocAttr]) | (with_reducible refine bk ?_) | ((with_reducible refine' cE ?hv ?_ ?_); (case hv => first | rfl | (simp only [h1, h3, h4, h5, h6, h22, hH10, hH6, hH22, hmap, hfl, h61, h188, h187, hds, hlen1, hz0, hzn, q1, cRun, encSpan,go_sem, simprocAttr]; rfl)); all_goals (intro hc; (try simp only [go_sem, simprocAttr] at hc); try (exfalso; omega))) | (first | refine iK (times_ok ⟨sumLo r ((k + 1 : Nat) : Int) (wk r ((k + 1 : Nat) : Int)), sumHi r ((k + 1 : Nat) : Int) (wk r ((k + 1 : Nat) : Int))⟩ _ (by simp only; omega)) ?_) | with_reducible intro (ep : Nat → Nat) | with_reducible apply_assumption -exfalso -symm only [*])
    exact ⟨r.rows.length - (k + 1), by omega, k + 1, rfl, by omega, rfl, e10, rfl, by simp only [fireAt, if_pos hz, Nat.mul_one, meanS], fun d hd => by rw [upd_ne _ _ (by omega), upd_ne _ _ (by omega)]; exact hroom d hd⟩
   ·have hz0 : ¬ (0 : Int) < ((wk r ((k + 1 : Nat) : Int)).length : Int) := by omega
    repeat' (first | (with_reducible refine sk ?_; intro K hK) | ((with_reducible first | refine AW_regN (id := 8) tabOK { base := 0, own := [6, 10, 22], imp := [20] } [] [31] (by rw [hXs]; decide +kernel) ?_ | refine AW_regN (id := 9) tabOK { base := 0, own := [6, 10, 22], imp := [20] } [] [31] (by rw [hXs]; decide +kernel) ?_ | refine rgL [] [31] (md := { base := 0, own := [6, 10, 22], imp := [20] }) (h := ?_) | refine rgL [6] [31] (md := { base := 0, own := [6, 10, 22], imp := [20] }) (h := ?_) | refine nx ?_); try simp (disch := omega) only [h1, h3, h4, h5, h6, h22, hH10, hH6, hH22, hmap, hfl, h61, h188, h187, hds, hlen1, hz0, cRun,go_sem, simprocAttr]) | (with_reducible refine bk ?_) | ((with_reducible refine' cE ?hv ?_ ?_); (case hv => first | rfl | (simp only [h1, h3, h4, h5, h6, h22, hH10, hH6, hH22, hmap, hfl, h61, h188, h187, hds, hlen1, hz0, cRun,go_sem, simprocAttr]; rfl)); all_goals (intro hc; (try simp only [go_sem, simprocAttr] at hc); try (exfalso; omega))) | with_reducible intro (ep : Nat → Nat) | with_reducible apply_assumption -exfalso -symm only [*])
    exact ⟨r.rows.length - (k + 1), by omega, k + 1, rfl, by omega, rfl, e10, rfl, by simp only [fireAt, if_neg hz, Nat.mul_one], fun d hd => by rw [upd_ne _ _ (by omega)]; exact hroom d hd⟩
  ·obtain ⟨w, hw⟩ : ∃ w, (wk r ((k + 1 : Nat) : Int))[p]? = some w := ⟨_, List.getElem?_eq_getElem (hlt2 p hp)⟩
   obtain ⟨c, hcc, hwk⟩ := wk_mem.1 (List.mem_of_getElem? hw)
   obtain ⟨e1, e2⟩ := lf_take hp hw hcc
   have htb := truth_bounds hF hcc hm1.1 hm1.2 hwk
   have hle := List.length_erase_of_mem hp
   have hpos := List.length_pos_of_mem hp
   have hg : (tl (wk r ((k + 1 : Nat) : Int)))[p]? = some ((w : Int), .bool true) := by rw [tl_get, hw]; rfl
   rw [hg] at hav
   simp only [Option.map_some, Option.some.injEq, Prod.mk.injEq] at hav
   obtain ⟨rfl, rfl⟩ := hav
   rw [e1] at hx
   rw [e2] at hy
   repeat' (first | (with_reducible refine sk ?_; intro K hK) | ((with_reducible first | refine AW_regN (id := 8) tabOK { base := 0, own := [6, 10, 22], imp := [20] } [] [31] (by rw [hXs]; decide +kernel) ?_ | refine AW_regN (id := 9) tabOK { base := 0, own := [6, 10, 22], imp := [20] } [] [31] (by rw [hXs]; decide +kernel) ?_ | refine rgL [] [31] (md := { base := 0, own := [6, 10, 22], imp := [20] }) (h := ?_) | refine rgL [6] [31] (md := { base := 0, own := [6, 10, 22], imp := [20] }) (h := ?_) | refine nx ?_); try simp (disch := omega) only [h1, h3, h4, h5, h6, h22, hH10, hH6, hH22, hmap, hg, cRun,go_sem, simprocAttr]) | (with_reducible refine bk ?_) | ((with_reducible refine' cE ?hv ?_ ?_); (case hv => first | rfl | (simp only [h1, h3, h4, h5, h6, h22, hH10, hH6, hH22, hmap, hg, cRun,go_sem, simprocAttr]; rfl)); all_goals (intro hc; (try simp only [go_sem, simprocAttr] at hc); try (exfalso; omega))) | with_reducible intro (ep : Nat → Nat) | with_reducible apply_assumption -exfalso -symm only [*])
   refine ⟨_, _, rfl, ?_⟩
   have hroom2 : ∀ q, Room (upd H 22 q) 1000 100 := fun q d hd => by rw [upd_ne _ _ (by omega)]; exact hroom d hd
   have hpts : ∀ q, Pts (upd H 22 q) (.ptr 10 e10 189 0 0) (cRun r ++ rest) := fun q => .inr ⟨10, e10, 189, rfl, by unfold frzH; rw [upd_ne _ _ (by decide), hH10, hrest]; rfl⟩
   repeat' (first | (with_reducible refine sk ?_; intro K hK) | ((first | (with_reducible first | refine AW_regN (id := 8) tabOK { base := 0, own := [6, 10, 22], imp := [20] } [] [31] (by rw [hXs]; decide +kernel) ?_ | refine AW_regN (id := 9) tabOK { base := 0, own := [6, 10, 22], imp := [20] } [] [31] (by rw [hXs]; decide +kernel) ?_ | refine rgL [] [31] (md := { base := 0, own := [6, 10, 22], imp := [20] }) (h := ?_) | refine rgL [6] [31] (md := { base := 0, own := [6, 10, 22], imp := [20] }) (h := ?_) | refine nx ?_) | refine pK (truth_look r hF rest _ _ (hpts _) (hroom2 _) w c hcc _ hm1 hwk) ?_ | refine pK (plus_ok ⟨x, y⟩ (truth r c w _) (by simp only; omega)) ?_ | refine lK (truth_look r hF rest _ _ (hpts _) (hroom2 _) w c hcc _ hm1 hwk) ?_ | refine lK (plus_ok ⟨x, y⟩ (truth r c w _) (by simp only; omega)) ?_); try simp (disch := omega) only [h1, h3, h4, h5, h6, h22, hH10, hH6, hH22, hmap, hg, cRun, encSpan,go_sem, simprocAttr]) | (with_reducible refine bk ?_) | ((with_reducible refine' cE ?hv ?_ ?_); (case hv => first | rfl | (simp only [h1, h3, h4, h5, h6, h22, hH10, hH6, hH22, hmap, hg, cRun, encSpan,go_sem, simprocAttr]; rfl)); all_goals (intro hc; (try simp only [go_sem, simprocAttr] at hc); try (exfalso; omega))) | (first | refine iK (truth_look r hF rest _ _ (hpts _) (hroom2 _) w c hcc _ hm1 hwk) ?_ | refine iK (plus_ok ⟨x, y⟩ (truth r c w _) (by simp only; omega)) ?_) | with_reducible intro (ep : Nat → Nat) | with_reducible apply_assumption -exfalso -symm only [*])
   exact ⟨(left.erase p).length, by omega, left.erase p, rfl, by omega, fun q hq => hlt2 q (List.mem_of_mem_erase hq), fun d hd => by rw [upd_ne _ _ (by omega)]; exact hroom2 _ d hd, _, _, _, _, _, rfl, rfl, rfl, rfl, by omega, by omega⟩
 ·obtain rfl : k = r.rows.length := by omega
  repeat' (first | (with_reducible refine sk ?_; intro K hK) | ((with_reducible first | refine AW_regN (id := 8) tabOK { base := 0, own := [6, 10, 22], imp := [20] } [] [31] (by rw [hXs]; decide +kernel) ?_ | refine AW_regN (id := 9) tabOK { base := 0, own := [6, 10, 22], imp := [20] } [] [31] (by rw [hXs]; decide +kernel) ?_ | refine rgL [] [31] (md := { base := 0, own := [6, 10, 22], imp := [20] }) (h := ?_) | refine rgL [6] [31] (md := { base := 0, own := [6, 10, 22], imp := [20] }) (h := ?_) | refine nx ?_); try simp (disch := omega) only [h1, h3, h4, hH10, cRun,go_sem, simprocAttr]) | (with_reducible refine bk ?_) | ((with_reducible refine' cE ?hv ?_ ?_); (case hv => first | rfl | (simp only [h1, h3, h4, hH10, cRun,go_sem, simprocAttr]; rfl)); all_goals (intro hc; (try simp only [go_sem, simprocAttr] at hc); try (exfalso; omega))) | with_reducible intro (ep : Nat → Nat) | with_reducible apply_assumption -exfalso -symm only [*])
  refine FnP_frz 10 (Or.inl rfl) (by simp only [go_sem, simprocAttr, hH10]; rfl) ⟨_, (by simp only [Try.f50, go_sem, simprocAttr]; rfl), ?_⟩
  simp only [go_sem, simprocAttr, fzd_still fireAt_still]
end Cp
namespace Cp
open Go Go.Proofs
set_option maxRecDepth 10000
end Cp
namespace Cp
open Go Go.Proofs
set_option maxRecDepth 10000
theorem ready_ok (r : RunT) (u : RulesT) : PureC Try.prog 34 [encRun r, encRules u] (.bool (!greatS r u && decide (checkE r u = 0))) := by
 by_cases hg : greatS r u = true
 ·refine PureC_of (fn := Try.f34) tabOK (by kernel_rfl) rfl (by kernel_rfl) (by simp [Try.f34]) (by simp [noids, noid, noidss, go_sem, encRun, cRun, encRules, cRules]) (by first | rfl | simp [noids, noid, noidss, go_sem, encRun, cRun, encRules, cRules]) ?_
  intro X hX0 hXs
  repeat' (first | (with_reducible refine sk ?_; intro K hK) | ((first | (with_reducible first | refine rg (h := ?_) | refine nx ?_) | refine pK (great_ok r u) ?_); try simp (disch := omega) only [encRun, cRun, encRules, cRules, hg,go_sem, simprocAttr]) | (with_reducible refine bk ?_) | ((with_reducible refine' cE ?hv ?_ ?_); (case hv => first | rfl | (simp only [encRun, cRun, encRules, cRules, hg,go_sem, simprocAttr]; rfl)); all_goals (intro hc; (try simp only [go_sem, simprocAttr] at hc); try (exfalso; omega))) | ((with_reducible first | refine grdS_split ?_ ?_ | refine lkG_split ?_ ?_) <;> intro hg <;> (try simp (disch := omega) only [hg, encRun, cRun, encRules, cRules, hg,go_sem, simprocAttr]) <;> (try simp only [go_sem, simprocAttr] at hg) <;> (try (exfalso; omega))) | ((with_reducible refine fe ?_); refine ⟨_, (by simp only [Try.f34, encRun, cRun, encRules, cRules, hg,go_sem, simprocAttr]; rfl), ?_⟩; first | rfl | (try simp only [encRun, cRun, encRules, cRules, hg,go_sem, simprocAttr, seval])) | with_reducible intro (ep : Nat → Nat) | with_reducible apply_assumption -exfalso -symm only [*])
  try simp [hg]
 ·simp only [Bool.not_eq_true] at hg
  obtain ⟨hsm, hst⟩ := great_sm hg
  refine PureC_of (fn := Try.f34) tabOK (by kernel_rfl) rfl (by kernel_rfl) (by simp [Try.f34]) (by simp [noids, noid, noidss, go_sem, encRun, cRun, encRules, cRules]) (by first | rfl | simp [noids, noid, noidss, go_sem, encRun, cRun, encRules, cRules]) ?_
  intro X hX0 hXs
  repeat' (first | (with_reducible refine sk ?_; intro K hK) | ((first | (with_reducible first | refine rg (h := ?_) | refine nx ?_) | refine pK (great_ok r u) ?_ | refine pK (rcheck_ok r u hsm.b ⟨by omega⟩) ?_); try simp (disch := omega) only [encRun, cRun, encRules, cRules, hg,go_sem, simprocAttr]) | (with_reducible refine bk ?_) | ((with_reducible refine' cE ?hv ?_ ?_); (case hv => first | rfl | (simp only [encRun, cRun, encRules, cRules, hg,go_sem, simprocAttr]; rfl)); all_goals (intro hc; (try simp only [go_sem, simprocAttr] at hc); try (exfalso; omega))) | ((with_reducible first | refine grdS_split ?_ ?_ | refine lkG_split ?_ ?_) <;> intro hg <;> (try simp (disch := omega) only [hg, encRun, cRun, encRules, cRules, hg,go_sem, simprocAttr]) <;> (try simp only [go_sem, simprocAttr] at hg) <;> (try (exfalso; omega))) | ((with_reducible refine fe ?_); refine ⟨_, (by simp only [Try.f34, encRun, cRun, encRules, cRules, hg,go_sem, simprocAttr]; rfl), ?_⟩; first | rfl | (try simp only [encRun, cRun, encRules, cRules, hg,go_sem, simprocAttr, seval])) | with_reducible intro (ep : Nat → Nat) | with_reducible apply_assumption -exfalso -symm only [*])
  all_goals try simp [hg]
theorem lspan_ok (a b : Int) : PureC Try.prog 67 [.int .i64 a, .int .i64 b] (encSpan ⟨a, b⟩) := by
 refine PureC_of (fn := Try.f67) tabOK (by kernel_rfl) rfl (by kernel_rfl) (by simp [Try.f67]) (by simp [noids, noid, noidss, go_sem, encSpan]) (by first | rfl | simp [noids, noid, noidss, go_sem, encSpan]) ?_
 intro X hX0 hXs
 repeat' (first | (with_reducible refine sk ?_; intro K hK) | ((with_reducible first | refine rg (h := ?_) | refine rgS [4] (h := ?_) | refine nx ?_); try simp (disch := omega) only [encSpan,go_sem, simprocAttr]) | (with_reducible refine bk ?_) | ((with_reducible refine' cE ?hv ?_ ?_); (case hv => first | rfl | (simp only [encSpan,go_sem, simprocAttr]; rfl)); all_goals (intro hc; (try simp only [go_sem, simprocAttr] at hc); try (exfalso; omega))) | ((with_reducible refine fe ?_); refine ⟨_, (by simp only [Try.f67, encSpan,go_sem, simprocAttr]; rfl), ?_⟩; first | rfl | (try simp only [encSpan,go_sem, simprocAttr, seval])) | with_reducible intro (ep : Nat → Nat) | with_reducible apply_assumption -exfalso -symm only [*])
def SHI (g : Int → Int) (lo : Int) (k : Nat) (a b : Int) : Prop := ((k : Int) ≤ lo ∧ a = 2000 ∧ b = 0) ∨ (lo < k ∧ a = extLo g lo ((k : Int) - 1 - lo).toNat ∧ b = extHi g lo ((k : Int) - 1 - lo).toNat)
theorem SHI_skip {g : Int → Int} {lo : Int} {k : Nat} {a b : Int} (hk : (k : Int) < lo) (h : SHI g lo k a b) : SHI g lo (k + 1) a b := by
 rcases h with ⟨h1, h2, h3⟩ | ⟨h1, _⟩
 ·exact .inl ⟨by omega, h2, h3⟩
 ·omega
theorem SHI_step {g : Int → Int} {lo : Int} {k : Nat} {a b : Int} (hk : ¬ (k : Int) < lo) (hg : 0 ≤ g k ∧ g k ≤ 2000) (h : SHI g lo k a b) : SHI g lo (k + 1) (min a (g k)) (max b (g k)) := by
 rcases h with ⟨h1, h2, h3⟩ | ⟨h1, h2, h3⟩
 ·have e : lo = (k : Int) := by omega
  subst e
  refine .inr ⟨by omega, ?_, ?_⟩
  ·rw [show (((k + 1 : Nat) : Int) - 1 - (k : Int)).toNat = 0 by omega, extLo]; omega
  ·rw [show (((k + 1 : Nat) : Int) - 1 - (k : Int)).toNat = 0 by omega, extHi]; omega
 ·obtain ⟨n, hn⟩ : ∃ n : Nat, ((k : Int) - 1 - lo).toNat = n := ⟨_, rfl⟩
  have e : lo + ((n + 1 : Nat) : Int) = (k : Int) := by omega
  rw [hn] at h2 h3
  refine .inr ⟨by omega, ?_, ?_⟩
  ·rw [show (((k + 1 : Nat) : Int) - 1 - lo).toNat = n + 1 by omega, extLo, e, ← h2]
  ·rw [show (((k + 1 : Nat) : Int) - 1 - lo).toNat = n + 1 by omega, extHi, e, ← h3]
theorem SHI_end {g : Int → Int} {lo hi : Int} {n : Nat} {a b : Int} (hl : lo ≤ hi) (hn : hi + 1 = n) (h : SHI g lo n a b) : a = extLo g lo (hi - lo).toNat ∧ b = extHi g lo (hi - lo).toNat := by
 rcases h with ⟨h1, _⟩ | ⟨h1, h2, h3⟩
 ·omega
 ·rw [show hi - lo = (n : Int) - 1 - lo by omega]; exact ⟨h2, h3⟩
theorem shown_ok (r : RunT) (hF : RunF r) (i : Nat) (c : Cpl) (hci : r.cpls[i]? = some c) (m : Int) (hm : 1 ≤ m ∧ m ≤ r.rows.length) (hw : works c m = true) :
  PureC Try.prog 41 [encRun r, .int .i64 i, .int .i64 m] (encSpan (truth r c i m)) := by
 have hrows := hF.rows
 have hcl := hF.cpls
 have hi : i < r.cpls.length := (List.getElem?_eq_some_iff.1 hci).1
 have hcf := hF.cpl i c hci
 obtain ⟨l1, l2⟩ := lastRow_pos hF hci hm.1 hw
 have hge : (0 : Int) ≤ i := by omega
 obtain ⟨n, hn⟩ : ∃ n : Nat, c.lag.hi + 1 = n := ⟨(c.lag.hi + 1).toNat, by omega⟩
 refine PureC_of (fn := Try.f41) tabOK (by kernel_rfl) rfl (by kernel_rfl) (by simp [Try.f41]) (by simp [noids, noid, noidss, go_sem, encRun, cRun]) (by first | rfl | simp [noids, noid, noidss, go_sem, encRun, cRun]) ?_
 intro X hX0 hXs
 by_cases hb : 0 < c.brk ∧ c.brk - 1 < r.rows.length
 ·have hlr : c.brk - 1 = lastRow r c := by rw [lastRow, if_pos hb.1]; omega
  repeat' (first | (with_reducible refine sk ?_; intro K hK) | ((with_reducible first | refine rg (md := { base := 0, own := [6, 7] }) (h := ?_) | refine rgS [6, 7] (md := { base := 0, own := [6, 7] }) (h := ?_) | refine nx ?_); try simp (disch := omega) only [encRun, cRun, cCpl, hci, hb.1, hb.2, hn,go_sem, simprocAttr]) | (with_reducible refine bk ?_) | ((with_reducible refine' cE ?hv ?_ ?_); (case hv => first | rfl | (simp only [encRun, cRun, cCpl, hci, hb.1, hb.2, hn,go_sem, simprocAttr]; rfl)); all_goals (intro hc; (try simp only [go_sem, simprocAttr] at hc); try (exfalso; omega))) | ((with_reducible first | refine grdS_split ?_ ?_ | refine lkG_split ?_ ?_) <;> intro hg <;> (try simp (disch := omega) only [hg, encRun, cRun, cCpl, hci, hb.1, hb.2, hn,go_sem, simprocAttr]) <;> (try simp only [go_sem, simprocAttr] at hg) <;> (try (exfalso; omega))) | ((with_reducible refine fe ?_); refine ⟨_, (by simp only [Try.f41, encRun, cRun, cCpl, hci, hb.1, hb.2, hn,go_sem, simprocAttr]; rfl), ?_⟩; first | rfl | (try simp only [encRun, cRun, cCpl, hci, hb.1, hb.2, hn,go_sem, simprocAttr, seval])) | with_reducible intro (ep : Nat → Nat) | with_reducible apply_assumption -exfalso -symm only [*])
  refine AW_range tabOK n (fun k f H => (f 3 = .pim (cRun r) ∧ f 1 = .int .i64 i ∧ f 2 = .int .i64 m ∧ f 8 = .int .i64 (lastRow r c)) ∧ ∃ a b e6 e7, f 9 = .int .i64 a ∧ f 10 = .int .i64 b ∧ f 6 = .ptr 6 e6 2 0 0 ∧ H 6 = some (e6, .arr 2 [[.int .i64 0, .int .i64 0]]) ∧ f 7 = .ptr 7 e7 6 0 0 ∧ H 7 = some (e7, .arr 6 [cCpl c]) ∧ SHI (readLag r c i m) c.lag.lo k a b)
   (by omega) (by rw [hXs]; decide) (by decide) (by (first | rfl | (simp only [go_sem, simprocAttr]; done) | (simp only [go_sem, simprocAttr]; rfl))) (by (first | rfl | (simp only [go_sem, simprocAttr]; done) | (simp only [go_sem, simprocAttr]; rfl))) ⟨by (and_intros <;> first | rfl | (simp only [cRun, hlr, go_sem, simprocAttr]; done) | (simp only [cRun, hlr, go_sem, simprocAttr]; rfl)), 2000, 0, _, _, by (first | rfl | (simp only [go_sem, simprocAttr]; done) | (simp only [go_sem, simprocAttr]; rfl)), by (first | rfl | (simp only [go_sem, simprocAttr]; done) | (simp only [go_sem, simprocAttr]; rfl)), by (first | rfl | (simp only [go_sem, simprocAttr]; done) | (simp only [go_sem, simprocAttr]; rfl)), by (first | rfl | (simp only [go_sem, simprocAttr]; done) | (simp only [go_sem, simprocAttr]; rfl)), by (first | rfl | (simp only [go_sem, simprocAttr]; done) | (simp only [go_sem, simprocAttr]; rfl)), by (first | rfl | (simp only [cCpl, go_sem, simprocAttr]; done) | (simp only [cCpl, go_sem, simprocAttr]; rfl)), .inl ⟨by omega, rfl, rfl⟩⟩ ?_ ?_
  ·rintro k f H hk h38 h37 ⟨⟨h3, h1, h2, h8⟩, a, b, e6, e7, h9, h10, h6, hH6, h7, hH7, hs⟩
   obtain ⟨x, d, hx, hd, hrd, hd1, hd2⟩ := readAt_ok hF hi (row := min (m + k) (lastRow r c)) (by omega) (by omega)
   have hge2 : 0 ≤ min (m + k) (lastRow r c) - 1 := by omega
   have hrl : readLag r c i m k = d := by unfold readLag; exact hrd
   by_cases hlt : (k : Int) < c.lag.lo
   ·have hs' := SHI_skip hlt hs
    repeat' (first | (with_reducible refine sk ?_; intro K hK) | ((with_reducible first | refine rg (md := { base := 0, own := [6, 7] }) (h := ?_) | refine rgS [6, 7] (md := { base := 0, own := [6, 7] }) (h := ?_) | refine nx ?_); try simp (disch := omega) only [h1, h2, h3, h6, h7, h8, h9, h10, h37, h38, hH6, hH7, hlt, cRun, cCpl, cRow,go_sem, simprocAttr]) | (with_reducible refine bk ?_) | ((with_reducible refine' cE ?hv ?_ ?_); (case hv => first | rfl | (simp only [h1, h2, h3, h6, h7, h8, h9, h10, h37, h38, hH6, hH7, hlt, cRun, cCpl, cRow,go_sem, simprocAttr]; rfl)); all_goals (intro hc; (try simp only [go_sem, simprocAttr] at hc); try (exfalso; omega))) | ((with_reducible first | refine grdS_split ?_ ?_ | refine lkG_split ?_ ?_) <;> intro hg <;> (try simp (disch := omega) only [hg, h1, h2, h3, h6, h7, h8, h9, h10, h37, h38, hH6, hH7, hlt, cRun, cCpl, cRow,go_sem, simprocAttr]) <;> (try simp only [go_sem, simprocAttr] at hg) <;> (try (exfalso; omega))) | with_reducible intro (ep : Nat → Nat) | with_reducible apply_assumption -exfalso -symm only [*])
    exact ⟨_, _, _, _, rfl, rfl, rfl, rfl, rfl, rfl, hs'⟩
   ·have hs' := SHI_step hlt (by rw [hrl]; omega) hs
    rw [hrl] at hs'
    repeat' (first | (with_reducible refine sk ?_; intro K hK) | ((with_reducible first | refine rg (md := { base := 0, own := [6, 7] }) (h := ?_) | refine rgS [6, 7] (md := { base := 0, own := [6, 7] }) (h := ?_) | refine nx ?_); try simp (disch := omega) only [h1, h2, h3, h6, h7, h8, h9, h10, h37, h38, hH6, hH7, hlt, hx, hd, hge2, hge, cRun, cCpl, cRow,go_sem, simprocAttr]) | (with_reducible refine bk ?_) | ((with_reducible refine' cE ?hv ?_ ?_); (case hv => first | rfl | (simp only [h1, h2, h3, h6, h7, h8, h9, h10, h37, h38, hH6, hH7, hlt, hx, hd, hge2, hge, cRun, cCpl, cRow,go_sem, simprocAttr]; rfl)); all_goals (intro hc; (try simp only [go_sem, simprocAttr] at hc); try (exfalso; omega))) | ((with_reducible first | refine grdS_split ?_ ?_ | refine lkG_split ?_ ?_) <;> intro hg <;> (try simp (disch := omega) only [hg, h1, h2, h3, h6, h7, h8, h9, h10, h37, h38, hH6, hH7, hlt, hx, hd, hge2, hge, cRun, cCpl, cRow,go_sem, simprocAttr]) <;> (try simp only [go_sem, simprocAttr] at hg) <;> (try (exfalso; omega))) | with_reducible intro (ep : Nat → Nat) | with_reducible apply_assumption -exfalso -symm only [*])
    exact ⟨_, _, _, _, rfl, rfl, rfl, rfl, rfl, rfl, hs'⟩
  ·rintro f H h38 h37 ⟨⟨h3, h1, h2, h8⟩, a, b, e6, e7, h9, h10, h6, hH6, h7, hH7, hs⟩
   obtain ⟨rfl, rfl⟩ := SHI_end hcf.2.2.1.2.1 hn hs
   repeat' (first | (with_reducible refine sk ?_; intro K hK) | ((first | (with_reducible first | refine rg (md := { base := 0, own := [6, 7] }) (h := ?_) | refine rgS [6, 7] (md := { base := 0, own := [6, 7] }) (h := ?_) | refine nx ?_) | refine pK (lspan_ok _ _) ?_); try simp (disch := omega) only [h1, h2, h3, h6, h7, h8, h9, h10, h37, h38, hH6, hH7, cRun, cCpl, encSpan,go_sem, simprocAttr]) | (with_reducible refine bk ?_) | ((with_reducible refine' cE ?hv ?_ ?_); (case hv => first | rfl | (simp only [h1, h2, h3, h6, h7, h8, h9, h10, h37, h38, hH6, hH7, cRun, cCpl, encSpan,go_sem, simprocAttr]; rfl)); all_goals (intro hc; (try simp only [go_sem, simprocAttr] at hc); try (exfalso; omega))) | ((with_reducible first | refine grdS_split ?_ ?_ | refine lkG_split ?_ ?_) <;> intro hg <;> (try simp (disch := omega) only [hg, h1, h2, h3, h6, h7, h8, h9, h10, h37, h38, hH6, hH7, cRun, cCpl, encSpan,go_sem, simprocAttr]) <;> (try simp only [go_sem, simprocAttr] at hg) <;> (try (exfalso; omega))) | ((with_reducible refine fe ?_); refine ⟨_, (by simp only [Try.f41, h1, h2, h3, h6, h7, h8, h9, h10, h37, h38, hH6, hH7, cRun, cCpl, encSpan,go_sem, simprocAttr]; rfl), ?_⟩; first | rfl | (try simp only [h1, h2, h3, h6, h7, h8, h9, h10, h37, h38, hH6, hH7, cRun, cCpl, encSpan,go_sem, simprocAttr, seval])) | with_reducible intro (ep : Nat → Nat) | with_reducible apply_assumption -exfalso -symm only [*])
   have htb := truth_bounds hF hci hm.1 hm.2 hw
   simp only [truth] at htb ⊢
   exact ⟨wrap64 (by omega), wrap64 (by omega)⟩
 ·have hlr : (r.rows.length : Int) = lastRow r c := by
   unfold lastRow
   split
   ·omega
   ·rfl
  by_cases hb0 : 0 < c.brk
  ·have hb1 : ¬ c.brk - 1 < r.rows.length := fun h => hb ⟨hb0, h⟩
   repeat' (first | (with_reducible refine sk ?_; intro K hK) | ((with_reducible first | refine rg (md := { base := 0, own := [6, 7] }) (h := ?_) | refine rgS [6, 7] (md := { base := 0, own := [6, 7] }) (h := ?_) | refine nx ?_); try simp (disch := omega) only [encRun, cRun, cCpl, hci, hb0, hb1, hn,go_sem, simprocAttr]) | (with_reducible refine bk ?_) | ((with_reducible refine' cE ?hv ?_ ?_); (case hv => first | rfl | (simp only [encRun, cRun, cCpl, hci, hb0, hb1, hn,go_sem, simprocAttr]; rfl)); all_goals (intro hc; (try simp only [go_sem, simprocAttr] at hc); try (exfalso; omega))) | ((with_reducible first | refine grdS_split ?_ ?_ | refine lkG_split ?_ ?_) <;> intro hg <;> (try simp (disch := omega) only [hg, encRun, cRun, cCpl, hci, hb0, hb1, hn,go_sem, simprocAttr]) <;> (try simp only [go_sem, simprocAttr] at hg) <;> (try (exfalso; omega))) | ((with_reducible refine fe ?_); refine ⟨_, (by simp only [Try.f41, encRun, cRun, cCpl, hci, hb0, hb1, hn,go_sem, simprocAttr]; rfl), ?_⟩; first | rfl | (try simp only [encRun, cRun, cCpl, hci, hb0, hb1, hn,go_sem, simprocAttr, seval])) | with_reducible intro (ep : Nat → Nat) | with_reducible apply_assumption -exfalso -symm only [*])
   refine AW_range tabOK n (fun k f H => (f 3 = .pim (cRun r) ∧ f 1 = .int .i64 i ∧ f 2 = .int .i64 m ∧ f 8 = .int .i64 (lastRow r c)) ∧ ∃ a b e6 e7, f 9 = .int .i64 a ∧ f 10 = .int .i64 b ∧ f 6 = .ptr 6 e6 2 0 0 ∧ H 6 = some (e6, .arr 2 [[.int .i64 0, .int .i64 0]]) ∧ f 7 = .ptr 7 e7 6 0 0 ∧ H 7 = some (e7, .arr 6 [cCpl c]) ∧ SHI (readLag r c i m) c.lag.lo k a b)
    (by omega) (by rw [hXs]; decide) (by decide) (by (first | rfl | (simp only [go_sem, simprocAttr]; done) | (simp only [go_sem, simprocAttr]; rfl))) (by (first | rfl | (simp only [go_sem, simprocAttr]; done) | (simp only [go_sem, simprocAttr]; rfl))) ⟨by (and_intros <;> first | rfl | (simp only [cRun, hlr, go_sem, simprocAttr]; done) | (simp only [cRun, hlr, go_sem, simprocAttr]; rfl)), 2000, 0, _, _, by (first | rfl | (simp only [go_sem, simprocAttr]; done) | (simp only [go_sem, simprocAttr]; rfl)), by (first | rfl | (simp only [go_sem, simprocAttr]; done) | (simp only [go_sem, simprocAttr]; rfl)), by (first | rfl | (simp only [go_sem, simprocAttr]; done) | (simp only [go_sem, simprocAttr]; rfl)), by (first | rfl | (simp only [go_sem, simprocAttr]; done) | (simp only [go_sem, simprocAttr]; rfl)), by (first | rfl | (simp only [go_sem, simprocAttr]; done) | (simp only [go_sem, simprocAttr]; rfl)), by (first | rfl | (simp only [cCpl, go_sem, simprocAttr]; done) | (simp only [cCpl, go_sem, simprocAttr]; rfl)), .inl ⟨by omega, rfl, rfl⟩⟩ ?_ ?_
   ·rintro k f H hk h38 h37 ⟨⟨h3, h1, h2, h8⟩, a, b, e6, e7, h9, h10, h6, hH6, h7, hH7, hs⟩
    obtain ⟨x, d, hx, hd, hrd, hd1, hd2⟩ := readAt_ok hF hi (row := min (m + k) (lastRow r c)) (by omega) (by omega)
    have hge2 : 0 ≤ min (m + k) (lastRow r c) - 1 := by omega
    have hrl : readLag r c i m k = d := by unfold readLag; exact hrd
    by_cases hlt : (k : Int) < c.lag.lo
    ·have hs' := SHI_skip hlt hs
     repeat' (first | (with_reducible refine sk ?_; intro K hK) | ((with_reducible first | refine rg (md := { base := 0, own := [6, 7] }) (h := ?_) | refine rgS [6, 7] (md := { base := 0, own := [6, 7] }) (h := ?_) | refine nx ?_); try simp (disch := omega) only [h1, h2, h3, h6, h7, h8, h9, h10, h37, h38, hH6, hH7, hlt, cRun, cCpl, cRow,go_sem, simprocAttr]) | (with_reducible refine bk ?_) | ((with_reducible refine' cE ?hv ?_ ?_); (case hv => first | rfl | (simp only [h1, h2, h3, h6, h7, h8, h9, h10, h37, h38, hH6, hH7, hlt, cRun, cCpl, cRow,go_sem, simprocAttr]; rfl)); all_goals (intro hc; (try simp only [go_sem, simprocAttr] at hc); try (exfalso; omega))) | ((with_reducible first | refine grdS_split ?_ ?_ | refine lkG_split ?_ ?_) <;> intro hg <;> (try simp (disch := omega) only [hg, h1, h2, h3, h6, h7, h8, h9, h10, h37, h38, hH6, hH7, hlt, cRun, cCpl, cRow,go_sem, simprocAttr]) <;> (try simp only [go_sem, simprocAttr] at hg) <;> (try (exfalso; omega))) | with_reducible intro (ep : Nat → Nat) | with_reducible apply_assumption -exfalso -symm only [*])
     exact ⟨_, _, _, _, rfl, rfl, rfl, rfl, rfl, rfl, hs'⟩
    ·have hs' := SHI_step hlt (by rw [hrl]; omega) hs
     rw [hrl] at hs'
     repeat' (first | (with_reducible refine sk ?_; intro K hK) | ((with_reducible first | refine rg (md := { base := 0, own := [6, 7] }) (h := ?_) | refine rgS [6, 7] (md := { base := 0, own := [6, 7] }) (h := ?_) | refine nx ?_); try simp (disch := omega) only [h1, h2, h3, h6, h7, h8, h9, h10, h37, h38, hH6, hH7, hlt, hx, hd, hge2, hge, cRun, cCpl, cRow,go_sem, simprocAttr]) | (with_reducible refine bk ?_) | ((with_reducible refine' cE ?hv ?_ ?_); (case hv => first | rfl | (simp only [h1, h2, h3, h6, h7, h8, h9, h10, h37, h38, hH6, hH7, hlt, hx, hd, hge2, hge, cRun, cCpl, cRow,go_sem, simprocAttr]; rfl)); all_goals (intro hc; (try simp only [go_sem, simprocAttr] at hc); try (exfalso; omega))) | ((with_reducible first | refine grdS_split ?_ ?_ | refine lkG_split ?_ ?_) <;> intro hg <;> (try simp (disch := omega) only [hg, h1, h2, h3, h6, h7, h8, h9, h10, h37, h38, hH6, hH7, hlt, hx, hd, hge2, hge, cRun, cCpl, cRow,go_sem, simprocAttr]) <;> (try simp only [go_sem, simprocAttr] at hg) <;> (try (exfalso; omega))) | with_reducible intro (ep : Nat → Nat) | with_reducible apply_assumption -exfalso -symm only [*])
     exact ⟨_, _, _, _, rfl, rfl, rfl, rfl, rfl, rfl, hs'⟩
   ·rintro f H h38 h37 ⟨⟨h3, h1, h2, h8⟩, a, b, e6, e7, h9, h10, h6, hH6, h7, hH7, hs⟩
    obtain ⟨rfl, rfl⟩ := SHI_end hcf.2.2.1.2.1 hn hs
    repeat' (first | (with_reducible refine sk ?_; intro K hK) | ((first | (with_reducible first | refine rg (md := { base := 0, own := [6, 7] }) (h := ?_) | refine rgS [6, 7] (md := { base := 0, own := [6, 7] }) (h := ?_) | refine nx ?_) | refine pK (lspan_ok _ _) ?_); try simp (disch := omega) only [h1, h2, h3, h6, h7, h8, h9, h10, h37, h38, hH6, hH7, cRun, cCpl, encSpan,go_sem, simprocAttr]) | (with_reducible refine bk ?_) | ((with_reducible refine' cE ?hv ?_ ?_); (case hv => first | rfl | (simp only [h1, h2, h3, h6, h7, h8, h9, h10, h37, h38, hH6, hH7, cRun, cCpl, encSpan,go_sem, simprocAttr]; rfl)); all_goals (intro hc; (try simp only [go_sem, simprocAttr] at hc); try (exfalso; omega))) | ((with_reducible first | refine grdS_split ?_ ?_ | refine lkG_split ?_ ?_) <;> intro hg <;> (try simp (disch := omega) only [hg, h1, h2, h3, h6, h7, h8, h9, h10, h37, h38, hH6, hH7, cRun, cCpl, encSpan,go_sem, simprocAttr]) <;> (try simp only [go_sem, simprocAttr] at hg) <;> (try (exfalso; omega))) | ((with_reducible refine fe ?_); refine ⟨_, (by simp only [Try.f41, h1, h2, h3, h6, h7, h8, h9, h10, h37, h38, hH6, hH7, cRun, cCpl, encSpan,go_sem, simprocAttr]; rfl), ?_⟩; first | rfl | (try simp only [h1, h2, h3, h6, h7, h8, h9, h10, h37, h38, hH6, hH7, cRun, cCpl, encSpan,go_sem, simprocAttr, seval])) | with_reducible intro (ep : Nat → Nat) | with_reducible apply_assumption -exfalso -symm only [*])
    have htb := truth_bounds hF hci hm.1 hm.2 hw
    simp only [truth] at htb ⊢
    exact ⟨wrap64 (by omega), wrap64 (by omega)⟩
  ·repeat' (first | (with_reducible refine sk ?_; intro K hK) | ((with_reducible first | refine rg (md := { base := 0, own := [6, 7] }) (h := ?_) | refine rgS [6, 7] (md := { base := 0, own := [6, 7] }) (h := ?_) | refine nx ?_); try simp (disch := omega) only [encRun, cRun, cCpl, hci, hb0, hn,go_sem, simprocAttr]) | (with_reducible refine bk ?_) | ((with_reducible refine' cE ?hv ?_ ?_); (case hv => first | rfl | (simp only [encRun, cRun, cCpl, hci, hb0, hn,go_sem, simprocAttr]; rfl)); all_goals (intro hc; (try simp only [go_sem, simprocAttr] at hc); try (exfalso; omega))) | ((with_reducible first | refine grdS_split ?_ ?_ | refine lkG_split ?_ ?_) <;> intro hg <;> (try simp (disch := omega) only [hg, encRun, cRun, cCpl, hci, hb0, hn,go_sem, simprocAttr]) <;> (try simp only [go_sem, simprocAttr] at hg) <;> (try (exfalso; omega))) | ((with_reducible refine fe ?_); refine ⟨_, (by simp only [Try.f41, encRun, cRun, cCpl, hci, hb0, hn,go_sem, simprocAttr]; rfl), ?_⟩; first | rfl | (try simp only [encRun, cRun, cCpl, hci, hb0, hn,go_sem, simprocAttr, seval])) | with_reducible intro (ep : Nat → Nat) | with_reducible apply_assumption -exfalso -symm only [*])
   refine AW_range tabOK n (fun k f H => (f 3 = .pim (cRun r) ∧ f 1 = .int .i64 i ∧ f 2 = .int .i64 m ∧ f 8 = .int .i64 (lastRow r c)) ∧ ∃ a b e6 e7, f 9 = .int .i64 a ∧ f 10 = .int .i64 b ∧ f 6 = .ptr 6 e6 2 0 0 ∧ H 6 = some (e6, .arr 2 [[.int .i64 0, .int .i64 0]]) ∧ f 7 = .ptr 7 e7 6 0 0 ∧ H 7 = some (e7, .arr 6 [cCpl c]) ∧ SHI (readLag r c i m) c.lag.lo k a b)
    (by omega) (by rw [hXs]; decide) (by decide) (by (first | rfl | (simp only [go_sem, simprocAttr]; done) | (simp only [go_sem, simprocAttr]; rfl))) (by (first | rfl | (simp only [go_sem, simprocAttr]; done) | (simp only [go_sem, simprocAttr]; rfl))) ⟨by (and_intros <;> first | rfl | (simp only [cRun, hlr, go_sem, simprocAttr]; done) | (simp only [cRun, hlr, go_sem, simprocAttr]; rfl)), 2000, 0, _, _, by (first | rfl | (simp only [go_sem, simprocAttr]; done) | (simp only [go_sem, simprocAttr]; rfl)), by (first | rfl | (simp only [go_sem, simprocAttr]; done) | (simp only [go_sem, simprocAttr]; rfl)), by (first | rfl | (simp only [go_sem, simprocAttr]; done) | (simp only [go_sem, simprocAttr]; rfl)), by (first | rfl | (simp only [go_sem, simprocAttr]; done) | (simp only [go_sem, simprocAttr]; rfl)), by (first | rfl | (simp only [go_sem, simprocAttr]; done) | (simp only [go_sem, simprocAttr]; rfl)), by (first | rfl | (simp only [cCpl, go_sem, simprocAttr]; done) | (simp only [cCpl, go_sem, simprocAttr]; rfl)), .inl ⟨by omega, rfl, rfl⟩⟩ ?_ ?_
   ·rintro k f H hk h38 h37 ⟨⟨h3, h1, h2, h8⟩, a, b, e6, e7, h9, h10, h6, hH6, h7, hH7, hs⟩
    obtain ⟨x, d, hx, hd, hrd, hd1, hd2⟩ := readAt_ok hF hi (row := min (m + k) (lastRow r c)) (by omega) (by omega)
    have hge2 : 0 ≤ min (m + k) (lastRow r c) - 1 := by omega
    have hrl : readLag r c i m k = d := by unfold readLag; exact hrd
    by_cases hlt : (k : Int) < c.lag.lo
    ·have hs' := SHI_skip hlt hs
     repeat' (first | (with_reducible refine sk ?_; intro K hK) | ((with_reducible first | refine rg (md := { base := 0, own := [6, 7] }) (h := ?_) | refine rgS [6, 7] (md := { base := 0, own := [6, 7] }) (h := ?_) | refine nx ?_); try simp (disch := omega) only [h1, h2, h3, h6, h7, h8, h9, h10, h37, h38, hH6, hH7, hlt, cRun, cCpl, cRow,go_sem, simprocAttr]) | (with_reducible refine bk ?_) | ((with_reducible refine' cE ?hv ?_ ?_); (case hv => first | rfl | (simp only [h1, h2, h3, h6, h7, h8, h9, h10, h37, h38, hH6, hH7, hlt, cRun, cCpl, cRow,go_sem, simprocAttr]; rfl)); all_goals (intro hc; (try simp only [go_sem, simprocAttr] at hc); try (exfalso; omega))) | ((with_reducible first | refine grdS_split ?_ ?_ | refine lkG_split ?_ ?_) <;> intro hg <;> (try simp (disch := omega) only [hg, h1, h2, h3, h6, h7, h8, h9, h10, h37, h38, hH6, hH7, hlt, cRun, cCpl, cRow,go_sem, simprocAttr]) <;> (try simp only [go_sem, simprocAttr] at hg) <;> (try (exfalso; omega))) | with_reducible intro (ep : Nat → Nat) | with_reducible apply_assumption -exfalso -symm only [*])
     exact ⟨_, _, _, _, rfl, rfl, rfl, rfl, rfl, rfl, hs'⟩
    ·have hs' := SHI_step hlt (by rw [hrl]; omega) hs
     rw [hrl] at hs'
     repeat' (first | (with_reducible refine sk ?_; intro K hK) | ((with_reducible first | refine rg (md := { base := 0, own := [6, 7] }) (h := ?_) | refine rgS [6, 7] (md := { base := 0, own := [6, 7] }) (h := ?_) | refine nx ?_); try simp (disch := omega) only [h1, h2, h3, h6, h7, h8, h9, h10, h37, h38, hH6, hH7, hlt, hx, hd, hge2, hge, cRun, cCpl, cRow,go_sem, simprocAttr]) | (with_reducible refine bk ?_) | ((with_reducible refine' cE ?hv ?_ ?_); (case hv => first | rfl | (simp only [h1, h2, h3, h6, h7, h8, h9, h10, h37, h38, hH6, hH7, hlt, hx, hd, hge2, hge, cRun, cCpl, cRow,go_sem, simprocAttr]; rfl)); all_goals (intro hc; (try simp only [go_sem, simprocAttr] at hc); try (exfalso; omega))) | ((with_reducible first | refine grdS_split ?_ ?_ | refine lkG_split ?_ ?_) <;> intro hg <;> (try simp (disch := omega) only [hg, h1, h2, h3, h6, h7, h8, h9, h10, h37, h38, hH6, hH7, hlt, hx, hd, hge2, hge, cRun, cCpl, cRow,go_sem, simprocAttr]) <;> (try simp only [go_sem, simprocAttr] at hg) <;> (try (exfalso; omega))) | with_reducible intro (ep : Nat → Nat) | with_reducible apply_assumption -exfalso -symm only [*])
     exact ⟨_, _, _, _, rfl, rfl, rfl, rfl, rfl, rfl, hs'⟩
   ·rintro f H h38 h37 ⟨⟨h3, h1, h2, h8⟩, a, b, e6, e7, h9, h10, h6, hH6, h7, hH7, hs⟩
    obtain ⟨rfl, rfl⟩ := SHI_end hcf.2.2.1.2.1 hn hs
    repeat' (first | (with_reducible refine sk ?_; intro K hK) | ((first | (with_reducible first | refine rg (md := { base := 0, own := [6, 7] }) (h := ?_) | refine rgS [6, 7] (md := { base := 0, own := [6, 7] }) (h := ?_) | refine nx ?_) | refine pK (lspan_ok _ _) ?_); try simp (disch := omega) only [h1, h2, h3, h6, h7, h8, h9, h10, h37, h38, hH6, hH7, cRun, cCpl, encSpan,go_sem, simprocAttr]) | (with_reducible refine bk ?_) | ((with_reducible refine' cE ?hv ?_ ?_); (case hv => first | rfl | (simp only [h1, h2, h3, h6, h7, h8, h9, h10, h37, h38, hH6, hH7, cRun, cCpl, encSpan,go_sem, simprocAttr]; rfl)); all_goals (intro hc; (try simp only [go_sem, simprocAttr] at hc); try (exfalso; omega))) | ((with_reducible first | refine grdS_split ?_ ?_ | refine lkG_split ?_ ?_) <;> intro hg <;> (try simp (disch := omega) only [hg, h1, h2, h3, h6, h7, h8, h9, h10, h37, h38, hH6, hH7, cRun, cCpl, encSpan,go_sem, simprocAttr]) <;> (try simp only [go_sem, simprocAttr] at hg) <;> (try (exfalso; omega))) | ((with_reducible refine fe ?_); refine ⟨_, (by simp only [Try.f41, h1, h2, h3, h6, h7, h8, h9, h10, h37, h38, hH6, hH7, cRun, cCpl, encSpan,go_sem, simprocAttr]; rfl), ?_⟩; first | rfl | (try simp only [h1, h2, h3, h6, h7, h8, h9, h10, h37, h38, hH6, hH7, cRun, cCpl, encSpan,go_sem, simprocAttr, seval])) | with_reducible intro (ep : Nat → Nat) | with_reducible apply_assumption -exfalso -symm only [*])
    have htb := truth_bounds hF hci hm.1 hm.2 hw
    simp only [truth] at htb ⊢
    exact ⟨wrap64 (by omega), wrap64 (by omega)⟩
end Cp
set_option maxRecDepth 100000
namespace Cp
open Go Go.Proofs
abbrev ii (n : Int) : Val := .int .i64 n
def runV : Val := .agg [ii 7, .lst 2 [[ii 0, ii 20], [ii 5, ii 520], [ii 10, ii 680]], .lst 6 [[ii 1, ii (-5), ii 5, ii 0, ii 0, ii 0], [ii 4, ii 0, ii 0, ii 0, ii 1, ii 3]],
 .lst 2 [[.lst 1 [[ii 120], [ii 130]], ii 10], [.lst 1 [[ii 220], [ii 210]], ii 10], [.lst 1 [[ii 330], [ii 400]], ii 25]], ii (-2), ii 2]
def rulesV : Val := .agg [.lst 2 [[ii 2, ii 100]], ii 60, ii 1, ii 0, ii 20, ii 3]
def openV : Val := .pim [ii 7, .lst 2 [[ii 0, ii 20], [ii 5, ii 520], [ii 10, ii 680]], .lst 6 [[ii 1, ii (-5), ii 5, ii 0, ii 0, ii 0], [ii 4, ii 0, ii 0, ii 0, ii 1, ii 3]], .lst 2
 [[.lst 1 [[ii 120], [ii 130]], ii 10], [.lst 1 [[ii 220], [ii 210]], ii 10], [.lst 1 [[ii 330], [ii 400]], ii 25]], ii (-2), ii 2, ii 0, ii 0, ii 102900, ii 140700,
 ii 178500, ii 182700, ii 273000, ii 281400, ii 0, ii 0, ii 0, ii 0, ii 0, ii 0, ii 0, ii 0, ii 0, ii 0, ii 0, ii 0, ii 0, ii 0, ii 0, ii 0, ii 0, ii 0, ii 0, ii 0, ii 0, ii 0,
 ii 0, ii 0, ii 0, ii 0, ii 0, ii 0, ii 0, ii 0, ii 0, ii 0, ii 0, ii 0, ii 0, ii 0, ii 0, ii 0, ii 0, ii 0, ii 0, ii 0, ii 0, ii 0, ii 0, ii 0, ii 0, ii 0, ii 0, ii 0, ii 0, ii 0,
 ii 0, ii 0, ii 0, ii 0, ii 0, ii 0, ii 0, ii 0, ii 0, ii 0, ii 0, ii 0, ii 0, ii 0, ii 0, ii 0, ii 0, ii 0, ii 0, ii 0, ii 0, ii 0, ii 0, ii 0, ii 0, ii 0, ii 0, ii 0, ii 0, ii 0,
 ii 0, ii 0, ii 0, ii 0, ii 0, ii 0, ii 0, ii 0, ii 0, ii 0, ii 0, ii 0, ii 0, ii 0, ii 0, ii 0, ii 0, ii 0, ii 0, ii 0, ii 0, ii 0, ii 0, ii 0, ii 0, ii 0, ii 0, ii 0, ii 0, ii 0,
 ii 0, ii 0, .bool false, .bool true, .bool true, .bool true, .bool false, .bool false, .bool false, .bool false, .bool false, .bool false, .bool false,
 .bool false, .bool false, .bool false, .bool false, .bool false, .bool false, .bool false, .bool false, .bool false, .bool false, .bool false, .bool
 false, .bool false, .bool false, .bool false, .bool false, .bool false, .bool false, .bool false, .bool false, .bool false, .bool false, .bool false,
 .bool false, .bool false, .bool false, .bool false, .bool false, .bool false, .bool false, .bool false, .bool false, .bool false, .bool false, .bool
 false, .bool false, .bool false, .bool false, .bool false, .bool false, .bool false, .bool false, .bool false, .bool false, .bool false, .bool false,
 .bool false, .bool false, .bool false, .bool false]
theorem run_run : PureC Try.prog 61 [] runV := run_all (n := 400) tabOK mix look_ok (by rfl) (by rfl) (by kernel_rfl)
theorem rules_run : PureC Try.prog 62 [] rulesV := run_all (n := 400) tabOK mix look_ok (by rfl) (by rfl) (by kernel_rfl)
theorem ran_run : PureC Try.prog 49 [runV] (.bool true) := run_val (n := 400) tabOK mix look_ok (by rfl) (by rfl) (by kernel_rfl)
noncomputable def look1 : Look := { look with memo := fun f => if Nat.beq f 49 = true then [([runV], .bool true)] else [], pmemo := fun f => [] }
theorem look1_m : ∀ fid xs v, (xs, v) ∈ look1.memo fid → PureC Try.prog fid xs v := fun fid vs v h => by
 simp only [look1] at h
 split at h
 ·rename_i hf
  rw [Nat.beq_eq] at hf
  subst hf
  simp only [List.mem_cons, List.not_mem_nil, or_false, Prod.mk.injEq] at h
  rcases h with ⟨rfl, rfl⟩
  exact ran_run
 ·skip
  cases h
theorem look1_p : ∀ fid xs v, (xs, v) ∈ look1.pmemo fid → PureC Try.prog fid xs v := fun fid vs v h => by
 simp only [look1] at h
 cases h
theorem look1_ok : LookOK Try.prog look1 := ⟨look_ok.fn, look1_m, look1_p⟩
theorem check_run : PureC Try.prog 20 [runV, rulesV] (ii 0) := run_val (n := 400) tabOK mix look1_ok (by rfl) (by rfl) (by kernel_rfl)
theorem open_run : PureC Try.prog 50 [runV] openV := run_all (n := 400) tabOK mix look_ok (by kernel_rfl) (by kernel_rfl) (by kernel_rfl)
end Cp
namespace Cp
open Go Go.Proofs
noncomputable def look2 : Look := { look with memo := fun f => if Nat.beq f 49 = true then [([runV], .bool true)] else if Nat.beq f 20 = true then [([runV, rulesV], ii 0)] else if Nat.beq f 50 = true then [([runV], openV)] else [], pmemo := fun f => [] }
theorem look2_m : ∀ fid xs v, (xs, v) ∈ look2.memo fid → PureC Try.prog fid xs v := fun fid vs v h => by
 simp only [look2] at h
 split at h
 ·rename_i hf
  rw [Nat.beq_eq] at hf
  subst hf
  simp only [List.mem_cons, List.not_mem_nil, or_false, Prod.mk.injEq] at h
  rcases h with ⟨rfl, rfl⟩
  exact ran_run
 ·skip
  split at h
  ·rename_i hf
   rw [Nat.beq_eq] at hf
   subst hf
   simp only [List.mem_cons, List.not_mem_nil, or_false, Prod.mk.injEq] at h
   rcases h with ⟨rfl, rfl⟩
   exact check_run
  ·skip
   split at h
   ·rename_i hf
    rw [Nat.beq_eq] at hf
    subst hf
    simp only [List.mem_cons, List.not_mem_nil, or_false, Prod.mk.injEq] at h
    rcases h with ⟨rfl, rfl⟩
    exact open_run
   ·skip
    cases h
theorem look2_p : ∀ fid xs v, (xs, v) ∈ look2.pmemo fid → PureC Try.prog fid xs v := fun fid vs v h => by
 simp only [look2] at h
 cases h
theorem look2_ok : LookOK Try.prog look2 := ⟨look_ok.fn, look2_m, look2_p⟩
def leftV : Val := .lst 4 [[ii 1, .int .u8 3, ii 4, .int .u8 1], [ii 2, .int .u8 2, ii (-1), .int .u8 1], [ii 3, .int .u8 4, ii (-1), .int .u8 2]]
theorem left_run : PureC Try.prog 57 [runV, rulesV] leftV := run_all (n := 400) tabOK mix look2_ok (by rfl) (by rfl) (by kernel_rfl)
end Cp
namespace Cp
open Go Go.Proofs
noncomputable def look3 : Look := { look with memo := fun f => if Nat.beq f 49 = true then [([runV], .bool true)] else if Nat.beq f 20 = true then [([runV, rulesV], ii 0)] else if Nat.beq f 50 = true then [([runV], openV)] else if Nat.beq f 57 = true then [([runV, rulesV], leftV)] else [], pmemo := fun f => if Nat.beq f 61 = true then [([], runV)] else if Nat.beq f 62 = true then [([], rulesV)] else [] }
theorem look3_m : ∀ fid xs v, (xs, v) ∈ look3.memo fid → PureC Try.prog fid xs v := fun fid vs v h => by
 simp only [look3] at h
 split at h
 ·rename_i hf
  rw [Nat.beq_eq] at hf
  subst hf
  simp only [List.mem_cons, List.not_mem_nil, or_false, Prod.mk.injEq] at h
  rcases h with ⟨rfl, rfl⟩
  exact ran_run
 ·skip
  split at h
  ·rename_i hf
   rw [Nat.beq_eq] at hf
   subst hf
   simp only [List.mem_cons, List.not_mem_nil, or_false, Prod.mk.injEq] at h
   rcases h with ⟨rfl, rfl⟩
   exact check_run
  ·skip
   split at h
   ·rename_i hf
    rw [Nat.beq_eq] at hf
    subst hf
    simp only [List.mem_cons, List.not_mem_nil, or_false, Prod.mk.injEq] at h
    rcases h with ⟨rfl, rfl⟩
    exact open_run
   ·skip
    split at h
    ·rename_i hf
     rw [Nat.beq_eq] at hf
     subst hf
     simp only [List.mem_cons, List.not_mem_nil, or_false, Prod.mk.injEq] at h
     rcases h with ⟨rfl, rfl⟩
     exact left_run
    ·skip
     cases h
theorem look3_p : ∀ fid xs v, (xs, v) ∈ look3.pmemo fid → PureC Try.prog fid xs v := fun fid vs v h => by
 simp only [look3] at h
 split at h
 ·rename_i hf
  rw [Nat.beq_eq] at hf
  subst hf
  simp only [List.mem_cons, List.not_mem_nil, or_false, Prod.mk.injEq] at h
  rcases h with ⟨rfl, rfl⟩
  exact run_run
 ·skip
  split at h
  ·rename_i hf
   rw [Nat.beq_eq] at hf
   subst hf
   simp only [List.mem_cons, List.not_mem_nil, or_false, Prod.mk.injEq] at h
   rcases h with ⟨rfl, rfl⟩
   exact rules_run
  ·skip
   cases h
theorem look3_ok : LookOK Try.prog look3 := ⟨look_ok.fn, look3_m, look3_p⟩
theorem alive_run : PureC Try.prog 33 [] (.bool true) := run_val (n := 400) tabOK mix look3_ok (by rfl) (by rfl) (by kernel_rfl)
end Cp
namespace Cp
open Go Go.Proofs
set_option maxRecDepth 10000
theorem deg_where {l : List Pt} (hc : CurveF l) {m : Int} (h0 : 0 ≤ m) (h1 : m < lastM l) : ∃ (k : Nat) (a b : Pt), l[k]? = some a ∧ l[k + 1]? = some b ∧ a.m ≤ m ∧ m < b.m := by
 obtain ⟨p, hp, hp0⟩ := hc.zero
 have key : ∀ n, n < l.length → (∃ q, l[n]? = some q ∧ q.m ≤ m) ∨ (∃ (k : Nat) (a b : Pt), l[k]? = some a ∧ l[k + 1]? = some b ∧ a.m ≤ m ∧ m < b.m) := by
  intro n
  induction n with
  | zero => exact fun _ => .inl ⟨p, hp, by omega⟩
  | succ n ih =>
   intro hn
   rcases ih (by omega) with ⟨q, hq, hqm⟩ | h
   ·have hb : l[n + 1]? = some l[n + 1] := List.getElem?_eq_getElem hn
    by_cases hm : (l[n + 1]).m ≤ m
    ·exact .inl ⟨_, hb, hm⟩
    ·exact .inr ⟨n, q, _, hq, hb, hqm, by omega⟩
   ·exact .inr h
 have hlen := hc.len
 rcases key (l.length - 1) (by omega) with ⟨q, hq, hqm⟩ | h
 ·rw [lastM_get hq] at h1; omega
 ·exact h
theorem deg_mid {l : List Pt} (hc : CurveF l) {k : Nat} {a b : Pt} {m : Int} (ha : l[k]? = some a) (hb : l[k + 1]? = some b) (h1 : a.m ≤ m) (h2 : m < b.m) : degAt l m = interp a b m := by
 by_cases he : a.m = m
 ·rw [(degAt_at hc (i := k) (b := a) (m := m) (fun j p hj hp => by have := (hc.inc j k p a hj hp ha).1; omega) ha).1 he]
  unfold interp
  rw [show m - a.m = 0 by omega]; simp
 ·refine (degAt_at hc (i := k + 1) (b := b) (m := m) (fun j p hj hp => ?_) hb).2 k a rfl ha h2
  by_cases hjk : j = k
  ·subst hjk; rw [ha] at hp; cases hp; omega
  ·have := (hc.inc j k p a (by omega) hp ha).1; omega
theorem deg_point {l : List Pt} (hc : CurveF l) {k : Nat} {b : Pt} (hb : l[k]? = some b) : degAt l b.m = b.d :=
 (degAt_at hc (i := k) (b := b) (m := b.m) (fun j p hj hp => (hc.inc j k p b hj hp hb).1) hb).1 rfl
theorem deg_bnd {l : List Pt} (hc : CurveF l) {m : Int} (h0 : 0 ≤ m) (h1 : m ≤ lastM l) : 0 ≤ degAt l m ∧ degAt l m ≤ 2000 := by
 by_cases he : m = lastM l
 ·have hlen := hc.len
  obtain ⟨z, hz⟩ : ∃ z, l[l.length - 1]? = some z := ⟨_, List.getElem?_eq_getElem (by omega)⟩
  rw [he, lastM_get hz, deg_point hc hz]
  have := hc.all _ _ hz; omega
 ·obtain ⟨k, a, b, ha, hb, h2, h3⟩ := deg_where hc h0 (by omega)
  have hab := hc.inc k (k + 1) a b (by omega) ha hb
  obtain ⟨_, b3, b4⟩ := interp_bounds (hc.all _ _ ha) (hc.all _ _ hb) hab.2 h2 h3
  rw [deg_mid hc ha hb h2 h3]
  have := hc.all _ _ ha; have := hc.all _ _ hb
  unfold interp; omega
end Cp
