/- Rules, facts and contracts that the statement's proof leans on. Conditions: none. -/
import Derived.Test.YtioeikglibjefaaP10
set_option linter.unusedVariables false
set_option linter.unusedSimpArgs false
set_option linter.unusedSectionVars false
namespace Cp
open Go Go.Proofs
set_option maxRecDepth 10000
set_option maxHeartbeats 4000000
def vTr (b : Brc) : Val := .bool true
def BrkH (g : FuncId) (caps : List Val) (r : RunT) (u : RulesT) (m : Int) (H0 : Hp) (L : List Brc) (f : Fr) (H : Hp) : Prop :=
 (f 2 = .fn g caps ∧ f 3 = .pim (cRun r) ∧ f 4 = .pim (cRules u) ∧ f 10 = .int .i64 m) ∧ (∀ j, j < 700 → H j = H0 j) ∧ ∃ e v, f 7 = .map 725 e ∧ H 725 = some (e, .map v (kmap vTr L))
theorem AW_keepLow {P : Program} {X : Cx} {ro : Option Nat} {c : Code} {Q : Exit → Fr → Hp → Prop} {f : Fr} {H : Hp} (B k : Nat) (h : ∀ H' : Hp, (∀ j, j < B → H' j = H j) → H' k = H k → (∀ j, B ≤ j → ¬ j = k → H' j = none) → AW P ro X c Q f H') : AW P ro X c Q f H :=
 AW_drop (fun j => if B ≤ j ∧ ¬ j = k then none else H j) (fun j => by
  by_cases hj : B ≤ j ∧ ¬ j = k
  ·exact .inl (by simp [hj])
  ·exact .inr (by simp [hj])) (h _ (fun j hj => by rw [if_neg (by omega)]) (by simp) fun j h1 h2 => by simp [h1, h2])
theorem wk_snoc {r : RunT} {m : Int} {k : Nat} {c : Cpl} (hc : r.cpls[k]? = some c) : wkFrom m 0 (r.cpls.take (k + 1)) = wkFrom m 0 (r.cpls.take k) ++ (if works c m = true then [k] else []) := by
 have hk := (List.getElem?_eq_some_iff.1 hc).1
 have hl : (r.cpls.take k).length = k := by simp; omega
 rw [take_snoc' hc, wkFrom_app, hl, Nat.zero_add]
 simp only [wkFrom]
theorem broken_ok (r : RunT) (hrun : runOK r = true) (u : RulesT) (hU : RulesF u) (g : FuncId) (caps : List Val) (hcaps : noids caps = true) (p : Int → Int → Int) (hp : ∀ m i, 0 ≤ p m i ∧ p m i ≤ 1000)
  (hcall : ∀ m i : Int, 1 ≤ m → m ≤ 60 → -1 ≤ i → i ≤ 10 → PureC Try.prog g ([.int .i64 m, .int .i64 i] ++ caps) (.int .i64 (p m i))) (H0 : Hp) :
  ACall Try.prog 35 [encRun r, encRules u, .fn g caps] H0 (fun v H' => (∀ j, j < 700 → H' j = H0 j) ∧ ∃ e ver, v = .map 725 e ∧ H' 725 = some (e, .map ver (kmap vTr (brkB r u p r.rows.length)))) := by
 refine ACall_of (fn := Try.f35) tabOK (by kernel_rfl) rfl (by kernel_rfl) (by simp [Try.f35]) ?_
 intro X hX0 hXs
 have hF := run_facts hrun
 have hrl := hF.rows
 have hcl := hF.cpls
 have hdeg := fun m => deg_bnd (l := r.curve) hF.curve (m := m)
 have hcv : curveOK r.curve = true := by
  have := hrun
  simp only [runOK, Bool.and_eq_true] at this
  exact this.1.1.1
 refine AW_lose 725 fun H1 g25 hs1 => ?_
 have hlow : ∀ j, j < 700 → H1 j = H0 j := fun j hj => hs1 _ (by omega)
 clear hs1
 repeat' (first | ((fail_if_success (with_reducible refine AW_at (id := 4) ?_)); with_reducible refine sk ?_; intro K hK) | ((with_reducible first | refine rg (md := { base := 700, own := [16, 17, 20, 23, 25] }) (h := ?_) | refine rgS [16, 17, 20, 23] (md := { base := 700, own := [16, 17, 20, 23, 25] }) (h := ?_) | refine nx ?_); try simp (disch := omega) only [encRun, encRules, g25,go_sem, simprocAttr]) | (with_reducible refine bk ?_) | ((with_reducible refine' cE ?hv ?_ ?_); (case hv => first | rfl | (simp only [encRun, encRules, g25,go_sem, simprocAttr]; rfl)); all_goals (intro hc; (try simp only [go_sem, simprocAttr] at hc); try (exfalso; omega))) | ((with_reducible first | refine grdS_split ?_ ?_ | refine lkG_split ?_ ?_) <;> intro hg <;> (try simp (disch := omega) only [hg, encRun, encRules, g25,go_sem, simprocAttr]) <;> (try simp only [go_sem, simprocAttr] at hg) <;> (try (exfalso; omega))) | with_reducible intro (ep : Nat → Nat) | with_reducible apply_assumption -exfalso -symm only [*])
 refine AW_block (AW_loop (fun n f H => ∃ k : Nat, n = r.rows.length - k ∧ k ≤ r.rows.length ∧ f 8 = .int .i64 (cumP r p k) ∧ f 9 = .int .i64 (cumC r k) ∧ BrkH g caps r u ((k + 1 : Nat) : Int) H0 (brkB r u p k) f H) r.rows.length
  ⟨0, by simp, Nat.zero_le _, by (first | rfl | (simp only [go_sem, simprocAttr]; done) | (simp only [go_sem, simprocAttr]; rfl)), by (first | rfl | (simp only [go_sem, simprocAttr]; done) | (simp only [go_sem, simprocAttr]; rfl)), by (and_intros <;> first | rfl | (simp only [go_sem, simprocAttr]; done) | (simp only [go_sem, simprocAttr]; rfl)), fun j hj => by (try simp only [upd]); (repeat rw [if_neg (by omega)]); exact hlow j hj, _, _, by (first | rfl | (simp only [go_sem, simprocAttr]; done) | (simp only [go_sem, simprocAttr]; rfl)), by (first | rfl | (simp only [kmap, brkB, go_sem, simprocAttr]; done) | (simp only [kmap, brkB, go_sem, simprocAttr]; rfl))⟩ ?_)
 clear hlow g25
 rintro n f H ⟨k, rfl, hk, h8, h9, ⟨h2, h3, h4, h10⟩, hlow, e, v, h7, hH⟩
 by_cases hlt : k < r.rows.length
 ·have hm1 : 1 ≤ ((k + 1 : Nat) : Int) ∧ ((k + 1 : Nat) : Int) ≤ r.rows.length := by omega
  have hat := at_ok r.curve (by have := hF.curve.len; omega) ((k + 1 : Nat) : Int)
  rw [if_pos hcv, if_pos (by omega)] at hat
  have hlt2 : ((k + 1 : Nat) : Int) ≤ (r.rows.length : Int) := hm1.2
  repeat' (first | ((fail_if_success (with_reducible refine AW_at (id := 8) ?_)); with_reducible refine sk ?_; intro K hK) | ((first | (with_reducible first | refine rg (md := { base := 700, own := [16, 17, 20, 23, 25] }) (h := ?_) | refine rgS [16, 17, 20, 23] (md := { base := 700, own := [16, 17, 20, 23, 25] }) (h := ?_) | refine nx ?_) | refine pK (hat) ?_); try simp (disch := omega) only [h2, h3, h4, h7, h8, h9, h10, hH, hlt2, cRun,go_sem, simprocAttr]) | (with_reducible refine bk ?_) | ((with_reducible refine' cE ?hv ?_ ?_); (case hv => first | rfl | (simp only [h2, h3, h4, h7, h8, h9, h10, hH, hlt2, cRun,go_sem, simprocAttr]; rfl)); all_goals (intro hc; (try simp only [go_sem, simprocAttr] at hc); try (exfalso; omega))) | ((with_reducible first | refine grdS_split ?_ ?_ | refine lkG_split ?_ ?_) <;> intro hg <;> (try simp (disch := omega) only [hg, h2, h3, h4, h7, h8, h9, h10, hH, hlt2, cRun,go_sem, simprocAttr]) <;> (try simp only [go_sem, simprocAttr] at hg) <;> (try (exfalso; omega))) | with_reducible intro (ep : Nat → Nat) | with_reducible apply_assumption -exfalso -symm only [*])
  have hcutA : ∀ f H, f 8 = .int .i64 (cumP r p k) ∧ f 9 = .int .i64 (cumC r k) ∧ f 11 = .int .i64 (degAt r.curve ((k + 1 : Nat) : Int)) ∧ f 13 = .int .i64 ((wk r ((k + 1 : Nat) : Int)).length : Nat) ∧ f 14 = .int .i64 (allP r p ((k + 1 : Nat) : Int) (wk r ((k + 1 : Nat) : Int))) ∧ BrkH g caps r u ((k + 1 : Nat) : Int) H0 (brkB r u p k ++ brkMs r u p ((k + 1 : Nat) : Int)) f H → K f H := by
   clear h2 h3 h4 h7 h8 h9 h10 hH hlow
   rintro f H ⟨h8, h9, h11, h13, h14, ⟨h2, h3, h4, h10⟩, hlow, e, v, h7, hH⟩
   refine hK f H ?_
   clear hK
   refine sk ?_
   intro K hK
   have hcutB : ∀ f H, f 8 = .int .i64 (cumP r p (k + 1)) ∧ f 9 = .int .i64 (cumC r (k + 1)) ∧ BrkH g caps r u ((k + 1 : Nat) : Int) H0 (brkB r u p k ++ brkMs r u p ((k + 1 : Nat) : Int) ++ brkMb r ((k + 1 : Nat) : Int)) f H → K f H := by
    clear h2 h3 h4 h7 h8 h9 h10 h11 h13 h14 hH hlow
    rintro f H ⟨h8, h9, ⟨h2, h3, h4, h10⟩, hlow, e, v, h7, hH⟩
    refine hK f H ?_
    clear hK
    refine sk ?_
    intro K hK
    have hcutC : ∀ f H, BrkH g caps r u ((k + 1 : Nat) : Int) H0 (brkB r u p k ++ brkMs r u p ((k + 1 : Nat) : Int) ++ brkMb r ((k + 1 : Nat) : Int) ++ brkMa r u p (k + 1)) f H ∧ f 8 = .int .i64 (cumP r p (k + 1)) ∧ f 9 = .int .i64 (cumC r (k + 1)) → K f H := by
     clear h2 h3 h4 h7 h8 h9 h10 hH hlow
     rintro f H ⟨⟨⟨h2, h3, h4, h10⟩, hlow, e, v, h7, hH⟩, h8, h9⟩
     refine hK f H ?_
     clear hK
     refine AW_keepLow 700 725 fun H2 hl2 hH2 hn2 => ?_
     rw [hH] at hH2
     have hlow2 : ∀ j, j < 700 → H2 j = H0 j := fun j hj => (hl2 j hj).trans (hlow j hj)
     have n23 := hn2 723 (by decide) (by decide)
     clear hH hl2 hn2 hlow
     obtain ⟨x, hx⟩ : ∃ x, r.rows[k]? = some x := ⟨_, List.getElem?_eq_getElem hlt⟩
     have hxb := hF.row k x hx
     have hgf := hF.gauge
     have hup := hU.press
     have hpb := hp ((k + 1 : Nat) : Int) (-1)
     have hpa : pressAt r ((k + 1 : Nat) : Int) = x.press := by
      unfold pressAt
      rw [show (((k + 1 : Nat) : Int) - 1).toNat = k by omega, hx]; rfl
     have hcl1 := hcall ((k + 1 : Nat) : Int) (-1) (by omega) (by omega) (by omega) (by omega)
     have htp := atP_bnd (s := ⟨x.press - r.gauge.hi, x.press - r.gauge.lo⟩) (p := p ((k + 1 : Nat) : Int) (-1)) (by simp only; omega) hpb
     obtain ⟨tp, htpe⟩ : ∃ t, atP ⟨x.press - r.gauge.hi, x.press - r.gauge.lo⟩ (p ((k + 1 : Nat) : Int) (-1)) = t := ⟨_, rfl⟩
     rw [htpe] at htp
     have htq : (x.press - r.gauge.hi) * 1000 + (x.press - r.gauge.lo - (x.press - r.gauge.hi)) * p ((k + 1 : Nat) : Int) (-1) = tp := by rw [← htpe]; rfl
     have hq1 : 0 ≤ (x.press - r.gauge.lo - (x.press - r.gauge.hi)) * p ((k + 1 : Nat) : Int) (-1) := Int.mul_nonneg (by omega) hpb.1
     have hq2 : (x.press - r.gauge.lo - (x.press - r.gauge.hi)) * p ((k + 1 : Nat) : Int) (-1) ≤ (x.press - r.gauge.lo - (x.press - r.gauge.hi)) * 1000 := Int.mul_le_mul_of_nonneg_left hpb.2 (by omega)
     simp only at htp
     have hbp : brkP r u p ((k + 1 : Nat) : Int) = decide (tp < u.press.lo * 1000 ∨ u.press.hi * 1000 < tp) := by unfold brkP brkO; rw [hpa, htpe]
     have hM : brkB r u p (k + 1) = brkB r u p k ++ brkMs r u p ((k + 1 : Nat) : Int) ++ brkMb r ((k + 1 : Nat) : Int) ++ brkMa r u p (k + 1) ++ brkMp r u p ((k + 1 : Nat) : Int) := by simp only [brkB, brkM, List.append_assoc]
     obtain ⟨L, hL⟩ : ∃ L, brkB r u p k ++ brkMs r u p ((k + 1 : Nat) : Int) ++ brkMb r ((k + 1 : Nat) : Int) ++ brkMa r u p (k + 1) = L := ⟨_, rfl⟩
     have hfr : ∀ x ∈ L, ¬ sameL ⟨((k + 1 : Nat) : Int), 4, -1, 0⟩ x := fun x hx hs => by
      obtain ⟨s1, s2, _⟩ := hs
      simp only at s1 s2
      rw [← hL] at hx
      rcases List.mem_append.1 hx with hx | hx
      ·rcases List.mem_append.1 hx with hx | hx
       ·rcases List.mem_append.1 hx with hx | hx
        ·have := (brkB_le hx).2; omega
        ·unfold brkMs at hx
         split at hx
         ·simp at hx
         ·obtain ⟨_, _, _, _, _, rfl⟩ := brkL_mem hx; simp at s2
       ·unfold brkMb at hx; split at hx <;> simp at hx; subst hx; simp at s2
      ·unfold brkMa at hx; split at hx <;> simp at hx; subst hx; simp at s2
     have hfi := xfind_kmap (b := ⟨((k + 1 : Nat) : Int), 4, -1, 0⟩) (v := vTr) L 0
     rw [findB_none hfr, limK] at hfi
     rw [hL] at hM hH2
     by_cases hpf : ((k + 1 : Nat) : Int) < u.pfrom
     ·have hpf2 : ¬ u.pfrom ≤ ((k + 1 : Nat) : Int) := by omega
      have hend : brkB r u p (k + 1) = L := by rw [hM]; unfold brkMp; rw [if_pos hpf, List.append_nil]
      repeat' (first | (with_reducible refine sk ?_; intro K hK) | ((first | (with_reducible first | refine rg (md := { base := 700, own := [16, 17, 20, 23, 25] }) (h := ?_) | refine rgS [16, 17, 20, 23] (md := { base := 700, own := [16, 17, 20, 23, 25] }) (h := ?_) | refine nx ?_) | refine pK (lspan_ok _ _) ?_ | refine pK (hcl1) ?_); try simp (disch := omega) only [h2, h3, h4, h7, h8, h9, h10, hH2, n23, hx, htq, hpf2, cRun, cRow, cRules, encSpan,go_sem, simprocAttr]) | (with_reducible refine bk ?_) | ((with_reducible refine' cE ?hv ?_ ?_); (case hv => first | rfl | (simp only [h2, h3, h4, h7, h8, h9, h10, hH2, n23, hx, htq, hpf2, cRun, cRow, cRules, encSpan,go_sem, simprocAttr]; rfl)); all_goals (intro hc; (try simp only [go_sem, simprocAttr] at hc); try (exfalso; omega))) | ((with_reducible first | refine grdS_split ?_ ?_ | refine lkG_split ?_ ?_) <;> intro hg <;> (try simp (disch := omega) only [hg, h2, h3, h4, h7, h8, h9, h10, hH2, n23, hx, htq, hpf2, cRun, cRow, cRules, encSpan,go_sem, simprocAttr]) <;> (try simp only [go_sem, simprocAttr] at hg) <;> (try (exfalso; omega))) | with_reducible intro (ep : Nat → Nat) | with_reducible apply_assumption -exfalso -symm only [*])
      exact ⟨r.rows.length - (k + 1), by omega, k + 1, rfl, by omega, rfl, rfl, ⟨by (and_intros <;> first | rfl | (simp only [h2, h3, h4, h10, go_sem, simprocAttr]; done) | (simp only [h2, h3, h4, h10, go_sem, simprocAttr]; rfl)), fun j hj => by (try simp only [upd]); (repeat rw [if_neg (by omega)]); exact hlow2 j hj, _, _, by (first | rfl | (simp only [h7, go_sem, simprocAttr]; done) | (simp only [h7, go_sem, simprocAttr]; rfl)), by rw [hend]; (first | rfl | (simp only [hH2, go_sem, simprocAttr]; done) | (simp only [hH2, go_sem, simprocAttr]; rfl))⟩⟩
     ·have hpf2 : u.pfrom ≤ ((k + 1 : Nat) : Int) := by omega
      have hmp : brkMp r u p ((k + 1 : Nat) : Int) = if brkP r u p ((k + 1 : Nat) : Int) = true then [⟨((k + 1 : Nat) : Int), 4, -1, 0⟩] else [] := by unfold brkMp; rw [if_neg hpf]
      rw [hbp] at hmp
      by_cases hb1 : tp < u.press.lo * 1000
      ·have hend : brkB r u p (k + 1) = L ++ [⟨((k + 1 : Nat) : Int), 4, -1, 0⟩] := by rw [hM, hmp, if_pos (decide_eq_true (.inl hb1))]
       repeat' (first | (with_reducible refine sk ?_; intro K hK) | ((first | (with_reducible first | refine rg (md := { base := 700, own := [16, 17, 20, 23, 25] }) (h := ?_) | refine rgS [16, 17, 20, 23] (md := { base := 700, own := [16, 17, 20, 23, 25] }) (h := ?_) | refine nx ?_) | refine pK (lspan_ok _ _) ?_ | refine pK (hcl1) ?_); try simp (disch := omega) only [h2, h3, h4, h7, h8, h9, h10, hH2, n23, hx, htq, hpf2, hb1, hfi, cRun, cRow, cRules, encSpan,go_sem, simprocAttr]) | (with_reducible refine bk ?_) | ((with_reducible refine' cE ?hv ?_ ?_); (case hv => first | rfl | (simp only [h2, h3, h4, h7, h8, h9, h10, hH2, n23, hx, htq, hpf2, hb1, hfi, cRun, cRow, cRules, encSpan,go_sem, simprocAttr]; rfl)); all_goals (intro hc; (try simp only [go_sem, simprocAttr] at hc); try (exfalso; omega))) | ((with_reducible first | refine grdS_split ?_ ?_ | refine lkG_split ?_ ?_) <;> intro hg <;> (try simp (disch := omega) only [hg, h2, h3, h4, h7, h8, h9, h10, hH2, n23, hx, htq, hpf2, hb1, hfi, cRun, cRow, cRules, encSpan,go_sem, simprocAttr]) <;> (try simp only [go_sem, simprocAttr] at hg) <;> (try (exfalso; omega))) | with_reducible intro (ep : Nat → Nat) | with_reducible apply_assumption -exfalso -symm only [*])
       exact ⟨r.rows.length - (k + 1), by omega, k + 1, rfl, by omega, rfl, rfl, ⟨by (and_intros <;> first | rfl | (simp only [h2, h3, h4, h10, go_sem, simprocAttr]; done) | (simp only [h2, h3, h4, h10, go_sem, simprocAttr]; rfl)), fun j hj => by (try simp only [upd]); (repeat rw [if_neg (by omega)]); exact hlow2 j hj, _, _, by (first | rfl | (simp only [h7, go_sem, simprocAttr]; done) | (simp only [h7, go_sem, simprocAttr]; rfl)), by rw [hend, ← kmap_snoc]; (first | rfl | (simp only [hH2, go_sem, simprocAttr]; done) | (simp only [hH2, go_sem, simprocAttr]; rfl))⟩⟩
      ·by_cases hb2 : u.press.hi * 1000 < tp
       ·have hend : brkB r u p (k + 1) = L ++ [⟨((k + 1 : Nat) : Int), 4, -1, 0⟩] := by rw [hM, hmp, if_pos (decide_eq_true (.inr hb2))]
        repeat' (first | (with_reducible refine sk ?_; intro K hK) | ((first | (with_reducible first | refine rg (md := { base := 700, own := [16, 17, 20, 23, 25] }) (h := ?_) | refine rgS [16, 17, 20, 23] (md := { base := 700, own := [16, 17, 20, 23, 25] }) (h := ?_) | refine nx ?_) | refine pK (lspan_ok _ _) ?_ | refine pK (hcl1) ?_); try simp (disch := omega) only [h2, h3, h4, h7, h8, h9, h10, hH2, n23, hx, htq, hpf2, hb1, hb2, hfi, cRun, cRow, cRules, encSpan,go_sem, simprocAttr]) | (with_reducible refine bk ?_) | ((with_reducible refine' cE ?hv ?_ ?_); (case hv => first | rfl | (simp only [h2, h3, h4, h7, h8, h9, h10, hH2, n23, hx, htq, hpf2, hb1, hb2, hfi, cRun, cRow, cRules, encSpan,go_sem, simprocAttr]; rfl)); all_goals (intro hc; (try simp only [go_sem, simprocAttr] at hc); try (exfalso; omega))) | ((with_reducible first | refine grdS_split ?_ ?_ | refine lkG_split ?_ ?_) <;> intro hg <;> (try simp (disch := omega) only [hg, h2, h3, h4, h7, h8, h9, h10, hH2, n23, hx, htq, hpf2, hb1, hb2, hfi, cRun, cRow, cRules, encSpan,go_sem, simprocAttr]) <;> (try simp only [go_sem, simprocAttr] at hg) <;> (try (exfalso; omega))) | with_reducible intro (ep : Nat → Nat) | with_reducible apply_assumption -exfalso -symm only [*])
        exact ⟨r.rows.length - (k + 1), by omega, k + 1, rfl, by omega, rfl, rfl, ⟨by (and_intros <;> first | rfl | (simp only [h2, h3, h4, h10, go_sem, simprocAttr]; done) | (simp only [h2, h3, h4, h10, go_sem, simprocAttr]; rfl)), fun j hj => by (try simp only [upd]); (repeat rw [if_neg (by omega)]); exact hlow2 j hj, _, _, by (first | rfl | (simp only [h7, go_sem, simprocAttr]; done) | (simp only [h7, go_sem, simprocAttr]; rfl)), by rw [hend, ← kmap_snoc]; (first | rfl | (simp only [hH2, go_sem, simprocAttr]; done) | (simp only [hH2, go_sem, simprocAttr]; rfl))⟩⟩
       ·have hend : brkB r u p (k + 1) = L := by rw [hM, hmp, if_neg (by simp [hb1, hb2]), List.append_nil]
        repeat' (first | (with_reducible refine sk ?_; intro K hK) | ((first | (with_reducible first | refine rg (md := { base := 700, own := [16, 17, 20, 23, 25] }) (h := ?_) | refine rgS [16, 17, 20, 23] (md := { base := 700, own := [16, 17, 20, 23, 25] }) (h := ?_) | refine nx ?_) | refine pK (lspan_ok _ _) ?_ | refine pK (hcl1) ?_); try simp (disch := omega) only [h2, h3, h4, h7, h8, h9, h10, hH2, n23, hx, htq, hpf2, hb1, hb2, hfi, cRun, cRow, cRules, encSpan,go_sem, simprocAttr]) | (with_reducible refine bk ?_) | ((with_reducible refine' cE ?hv ?_ ?_); (case hv => first | rfl | (simp only [h2, h3, h4, h7, h8, h9, h10, hH2, n23, hx, htq, hpf2, hb1, hb2, hfi, cRun, cRow, cRules, encSpan,go_sem, simprocAttr]; rfl)); all_goals (intro hc; (try simp only [go_sem, simprocAttr] at hc); try (exfalso; omega))) | ((with_reducible first | refine grdS_split ?_ ?_ | refine lkG_split ?_ ?_) <;> intro hg <;> (try simp (disch := omega) only [hg, h2, h3, h4, h7, h8, h9, h10, hH2, n23, hx, htq, hpf2, hb1, hb2, hfi, cRun, cRow, cRules, encSpan,go_sem, simprocAttr]) <;> (try simp only [go_sem, simprocAttr] at hg) <;> (try (exfalso; omega))) | with_reducible intro (ep : Nat → Nat) | with_reducible apply_assumption -exfalso -symm only [*])
        exact ⟨r.rows.length - (k + 1), by omega, k + 1, rfl, by omega, rfl, rfl, ⟨by (and_intros <;> first | rfl | (simp only [h2, h3, h4, h10, go_sem, simprocAttr]; done) | (simp only [h2, h3, h4, h10, go_sem, simprocAttr]; rfl)), fun j hj => by (try simp only [upd]); (repeat rw [if_neg (by omega)]); exact hlow2 j hj, _, _, by (first | rfl | (simp only [h7, go_sem, simprocAttr]; done) | (simp only [h7, go_sem, simprocAttr]; rfl)), by rw [hend]; (first | rfl | (simp only [hH2, go_sem, simprocAttr]; done) | (simp only [hH2, go_sem, simprocAttr]; rfl))⟩⟩
    clear hK
    have hul := hU.len
    have hcl2 := cutS_le (u := u) (m := ((k + 1 : Nat) : Int))
    repeat' (first | (with_reducible refine sk ?_; intro K hK) | ((with_reducible first | refine rg (md := { base := 700, own := [16, 17, 20, 23, 25] }) (h := ?_) | refine rgS [16, 17, 20, 23] (md := { base := 700, own := [16, 17, 20, 23, 25] }) (h := ?_) | refine nx ?_); try simp (disch := omega) only [h2, h3, h4, h7, h8, h9, h10, hH, cRules,go_sem, simprocAttr]) | (with_reducible refine bk ?_) | ((with_reducible refine' cE ?hv ?_ ?_); (case hv => first | rfl | (simp only [h2, h3, h4, h7, h8, h9, h10, hH, cRules,go_sem, simprocAttr]; rfl)); all_goals (intro hc; (try simp only [go_sem, simprocAttr] at hc); try (exfalso; omega))) | ((with_reducible first | refine grdS_split ?_ ?_ | refine lkG_split ?_ ?_) <;> intro hg <;> (try simp (disch := omega) only [hg, h2, h3, h4, h7, h8, h9, h10, hH, cRules,go_sem, simprocAttr]) <;> (try simp only [go_sem, simprocAttr] at hg) <;> (try (exfalso; omega))) | with_reducible intro (ep : Nat → Nat) | with_reducible apply_assumption -exfalso -symm only [*])
    refine AW_range tabOK u.steps.length (fun i f H => f 8 = .int .i64 (cumP r p (k + 1)) ∧ f 9 = .int .i64 (cumC r (k + 1)) ∧ f 118 = .lst 2 (u.steps.map cStep) ∧
      ∃ L, BrkH g caps r u ((k + 1 : Nat) : Int) H0 L f H ∧ L = brkB r u p k ++ brkMs r u p ((k + 1 : Nat) : Int) ++ brkMb r ((k + 1 : Nat) : Int) ++ (if 0 < cutS u ((k + 1 : Nat) : Int) ∧ cutS u ((k + 1 : Nat) : Int) ≤ i then brkMa r u p (k + 1) else [])) (by omega) (by rw [hXs]; decide) (by decide) (by (first | rfl | (simp only [go_sem, simprocAttr]; done) | (simp only [go_sem, simprocAttr]; rfl))) (by (first | rfl | (simp only [go_sem, simprocAttr]; done) | (simp only [go_sem, simprocAttr]; rfl)))
     ⟨by (first | rfl | (simp only [h8, go_sem, simprocAttr]; done) | (simp only [h8, go_sem, simprocAttr]; rfl)), by (first | rfl | (simp only [h9, go_sem, simprocAttr]; done) | (simp only [h9, go_sem, simprocAttr]; rfl)), by (first | rfl | (simp only [go_sem, simprocAttr]; done) | (simp only [go_sem, simprocAttr]; rfl)), _, ⟨by (and_intros <;> first | rfl | (simp only [h2, h3, h4, h10, cRules, go_sem, simprocAttr]; done) | (simp only [h2, h3, h4, h10, cRules, go_sem, simprocAttr]; rfl)), hlow, _, _, by (first | rfl | (simp only [h7, go_sem, simprocAttr]; done) | (simp only [h7, go_sem, simprocAttr]; rfl)), by (first | rfl | (simp only [hH, go_sem, simprocAttr]; done) | (simp only [hH, go_sem, simprocAttr]; rfl))⟩, by rw [if_neg (by omega), List.append_nil]⟩ ?_ ?_
    ·clear h2 h3 h4 h7 h8 h9 h10 hH hlow hcutC
     rintro i f H hi h120 h119 ⟨h8, h9, h118, L, ⟨⟨h2, h3, h4, h10⟩, hlow, e, v, h7, hH⟩, hLe⟩
     obtain ⟨s, hs⟩ : ∃ s, u.steps[i]? = some s := ⟨_, List.getElem?_eq_getElem hi⟩
     have hsc : s.frm ≤ ((k + 1 : Nat) : Int) ↔ i < cutS u ((k + 1 : Nat) : Int) := steps_cut hU.from0 hs
     refine AW_keepLow 700 725 fun H2 hl2 hH2 hn2 => ?_
     rw [hH] at hH2
     have hlow2 : ∀ j, j < 700 → H2 j = H0 j := fun j hj => (hl2 j hj).trans (hlow j hj)
     have n20 := hn2 720 (by decide) (by decide)
     clear hH hl2 hn2 hlow
     rcases Nat.lt_trichotomy (i + 1) (cutS u ((k + 1 : Nat) : Int)) with hcs | hcs | hcs
     ·obtain ⟨s2, hs2⟩ : ∃ s, u.steps[i + 1]? = some s := ⟨_, List.getElem?_eq_getElem (by omega)⟩
      have hsc2 : s2.frm ≤ ((k + 1 : Nat) : Int) ↔ i + 1 < cutS u ((k + 1 : Nat) : Int) := steps_cut hU.from0 hs2
      have a1 : s.frm ≤ ((k + 1 : Nat) : Int) := hsc.2 (by omega)
      have a2 : s2.frm ≤ ((k + 1 : Nat) : Int) := hsc2.2 hcs
      have a3 : ((i + 1 : Nat) : Int) < (u.steps.length : Int) := by omega
      have a4 : ¬ ((k + 1 : Nat) : Int) < s.frm := by omega
      rw [if_neg (by omega)] at hLe
      repeat' (first | (with_reducible refine sk ?_; intro K hK) | ((with_reducible first | refine rg (md := { base := 700, own := [16, 17, 20, 23, 25] }) (h := ?_) | refine rgS [16, 17, 20, 23] (md := { base := 700, own := [16, 17, 20, 23, 25] }) (h := ?_) | refine nx ?_); try simp (disch := omega) only [h2, h3, h4, h7, h8, h9, h10, h118, h119, h120, hH2, n20, hs, hs2, a1, a2, a3, a4, cStep, cRules,go_sem, simprocAttr]) | (with_reducible refine bk ?_) | ((with_reducible refine' cE ?hv ?_ ?_); (case hv => first | rfl | (simp only [h2, h3, h4, h7, h8, h9, h10, h118, h119, h120, hH2, n20, hs, hs2, a1, a2, a3, a4, cStep, cRules,go_sem, simprocAttr]; rfl)); all_goals (intro hc; (try simp only [go_sem, simprocAttr] at hc); try (exfalso; omega))) | ((with_reducible first | refine grdS_split ?_ ?_ | refine lkG_split ?_ ?_) <;> intro hg <;> (try simp (disch := omega) only [hg, h2, h3, h4, h7, h8, h9, h10, h118, h119, h120, hH2, n20, hs, hs2, a1, a2, a3, a4, cStep, cRules,go_sem, simprocAttr]) <;> (try simp only [go_sem, simprocAttr] at hg) <;> (try (exfalso; omega))) | with_reducible intro (ep : Nat → Nat) | with_reducible apply_assumption -exfalso -symm only [*])
      exact ⟨L, ⟨by (and_intros <;> first | rfl | (simp only [h2, h3, h4, h10, go_sem, simprocAttr]; done) | (simp only [h2, h3, h4, h10, go_sem, simprocAttr]; rfl)), fun j hj => by (try simp only [upd]); (repeat rw [if_neg (by omega)]); exact hlow2 j hj, _, _, by (first | rfl | (simp only [h7, go_sem, simprocAttr]; done) | (simp only [h7, go_sem, simprocAttr]; rfl)), by (first | rfl | (simp only [hH2, go_sem, simprocAttr]; done) | (simp only [hH2, go_sem, simprocAttr]; rfl))⟩, by rw [if_neg (by omega)]; exact hLe⟩
     ·obtain ⟨s', hs', hps, hp0, hp1⟩ := partS_some hU (m := ((k + 1 : Nat) : Int)) (j := i) (by omega)
      rw [hs] at hs'; cases hs'
      have a1 : s.frm ≤ ((k + 1 : Nat) : Int) := hsc.2 (by omega)
      have a4 : ¬ ((k + 1 : Nat) : Int) < s.frm := by omega
      rw [if_neg (by omega)] at hLe
      have hcp := cumP_bnd hF hp (k + 1) (by omega)
      have hcb := cum_bounds hF hdeg (k + 1) (by omega)
      have hc0 := cumC_pos hdeg (k + 1) (by omega)
      have hm0 : 0 ≤ cumC r (k + 1) * 840 * s.part := Int.mul_nonneg (by omega) hp0
      have hm1' : cumC r (k + 1) * 840 * s.part ≤ cumC r (k + 1) * 840 * 1000 := Int.mul_le_mul_of_nonneg_left hp1 (by omega)
      have hneg : (0 - cumC r (k + 1) * 840) * s.part = -(cumC r (k + 1) * 840 * s.part) := by rw [Int.zero_sub]; exact Int.neg_mul ..
      have hn0 : -(cumC r (k + 1) * 840 * 1000) ≤ (0 - cumC r (k + 1) * 840) * s.part ∧ (0 - cumC r (k + 1) * 840) * s.part ≤ 0 := by rw [hneg]; omega
      have hba : brkA r u p (k + 1) = decide (cumC r (k + 1) * 840 * s.part < cumP r p (k + 1) - cumC r (k + 1) * 840 * 1000 ∨ cumP r p (k + 1) - cumC r (k + 1) * 840 * 1000 < (0 - cumC r (k + 1) * 840) * s.part) := by
       unfold brkA offP; rw [hps, decide_eq_true hp0, Bool.true_and, Int.zero_sub]
      have hfr : ∀ x ∈ L, ¬ sameL ⟨((k + 1 : Nat) : Int), 2, -1, 0⟩ x := fun x hx hs => by
       obtain ⟨s1, s2, _⟩ := hs
       simp only at s1 s2
       rw [hLe, List.append_nil] at hx
       rcases List.mem_append.1 hx with hx | hx
       ·rcases List.mem_append.1 hx with hx | hx
        ·have := (brkB_le hx).2; omega
        ·unfold brkMs at hx
         split at hx
         ·simp at hx
         ·obtain ⟨_, _, _, _, _, rfl⟩ := brkL_mem hx; simp at s2
       ·unfold brkMb at hx; split at hx <;> simp at hx; subst hx; simp at s2
      have hfi := xfind_kmap (b := ⟨((k + 1 : Nat) : Int), 2, -1, 0⟩) (v := vTr) L 0
      rw [findB_none hfr, limK] at hfi
      rw [List.append_nil] at hLe
      have hold : brkA r u p (k + 1) = false → L = brkB r u p k ++ brkMs r u p ((k + 1 : Nat) : Int) ++ brkMb r ((k + 1 : Nat) : Int) ++ (if 0 < cutS u ((k + 1 : Nat) : Int) ∧ cutS u ((k + 1 : Nat) : Int) ≤ i + 1 then brkMa r u p (k + 1) else []) := fun h => by
       rw [if_pos (by omega)]; unfold brkMa; rw [h, hLe]; simp
      have hnew : brkA r u p (k + 1) = true → L ++ [⟨((k + 1 : Nat) : Int), 2, -1, 0⟩] = brkB r u p k ++ brkMs r u p ((k + 1 : Nat) : Int) ++ brkMb r ((k + 1 : Nat) : Int) ++ (if 0 < cutS u ((k + 1 : Nat) : Int) ∧ cutS u ((k + 1 : Nat) : Int) ≤ i + 1 then brkMa r u p (k + 1) else []) := fun h => by
       rw [if_pos (by omega)]; unfold brkMa; rw [h, hLe]; rfl
      rw [hba] at hold hnew
      by_cases hlast : i + 1 = u.steps.length
      ·have a3 : ¬ ((i + 1 : Nat) : Int) < (u.steps.length : Int) := by omega
       have hs2 : True := trivial
       have a5 : True := trivial
       by_cases hb1 : cumC r (k + 1) * 840 * s.part < cumP r p (k + 1) - cumC r (k + 1) * 840 * 1000
       ·have hnew := hnew (decide_eq_true (.inl hb1))
        repeat' (first | (with_reducible refine sk ?_; intro K hK) | ((with_reducible first | refine rg (md := { base := 700, own := [16, 17, 20, 23, 25] }) (h := ?_) | refine rgS [16, 17, 20, 23] (md := { base := 700, own := [16, 17, 20, 23, 25] }) (h := ?_) | refine nx ?_); try simp (disch := omega) only [h2, h3, h4, h7, h8, h9, h10, h118, h119, h120, hH2, n20, hs, hs2, a1, a3, a4, a5, hb1, hfi, cStep, cRules,go_sem, simprocAttr]) | (with_reducible refine bk ?_) | ((with_reducible refine' cE ?hv ?_ ?_); (case hv => first | rfl | (simp only [h2, h3, h4, h7, h8, h9, h10, h118, h119, h120, hH2, n20, hs, hs2, a1, a3, a4, a5, hb1, hfi, cStep, cRules,go_sem, simprocAttr]; rfl)); all_goals (intro hc; (try simp only [go_sem, simprocAttr] at hc); try (exfalso; omega))) | ((with_reducible first | refine grdS_split ?_ ?_ | refine lkG_split ?_ ?_) <;> intro hg <;> (try simp (disch := omega) only [hg, h2, h3, h4, h7, h8, h9, h10, h118, h119, h120, hH2, n20, hs, hs2, a1, a3, a4, a5, hb1, hfi, cStep, cRules,go_sem, simprocAttr]) <;> (try simp only [go_sem, simprocAttr] at hg) <;> (try (exfalso; omega))) | with_reducible intro (ep : Nat → Nat) | with_reducible apply_assumption -exfalso -symm only [*])
        exact ⟨L ++ [⟨((k + 1 : Nat) : Int), 2, -1, 0⟩], ⟨by (and_intros <;> first | rfl | (simp only [h2, h3, h4, h10, go_sem, simprocAttr]; done) | (simp only [h2, h3, h4, h10, go_sem, simprocAttr]; rfl)), fun j hj => by (try simp only [upd]); (repeat rw [if_neg (by omega)]); exact hlow2 j hj, _, _, by (first | rfl | (simp only [h7, go_sem, simprocAttr]; done) | (simp only [h7, go_sem, simprocAttr]; rfl)), by rw [← kmap_snoc]; (first | rfl | (simp only [hH2, go_sem, simprocAttr]; done) | (simp only [hH2, go_sem, simprocAttr]; rfl))⟩, hnew⟩
       ·by_cases hb2 : cumP r p (k + 1) - cumC r (k + 1) * 840 * 1000 < (0 - cumC r (k + 1) * 840) * s.part
        ·have hnew := hnew (decide_eq_true (.inr hb2))
         repeat' (first | (with_reducible refine sk ?_; intro K hK) | ((with_reducible first | refine rg (md := { base := 700, own := [16, 17, 20, 23, 25] }) (h := ?_) | refine rgS [16, 17, 20, 23] (md := { base := 700, own := [16, 17, 20, 23, 25] }) (h := ?_) | refine nx ?_); try simp (disch := omega) only [h2, h3, h4, h7, h8, h9, h10, h118, h119, h120, hH2, n20, hs, hs2, a1, a3, a4, a5, hb1, hb2, hfi, cStep, cRules,go_sem, simprocAttr]) | (with_reducible refine bk ?_) | ((with_reducible refine' cE ?hv ?_ ?_); (case hv => first | rfl | (simp only [h2, h3, h4, h7, h8, h9, h10, h118, h119, h120, hH2, n20, hs, hs2, a1, a3, a4, a5, hb1, hb2, hfi, cStep, cRules,go_sem, simprocAttr]; rfl)); all_goals (intro hc; (try simp only [go_sem, simprocAttr] at hc); try (exfalso; omega))) | ((with_reducible first | refine grdS_split ?_ ?_ | refine lkG_split ?_ ?_) <;> intro hg <;> (try simp (disch := omega) only [hg, h2, h3, h4, h7, h8, h9, h10, h118, h119, h120, hH2, n20, hs, hs2, a1, a3, a4, a5, hb1, hb2, hfi, cStep, cRules,go_sem, simprocAttr]) <;> (try simp only [go_sem, simprocAttr] at hg) <;> (try (exfalso; omega))) | with_reducible intro (ep : Nat → Nat) | with_reducible apply_assumption -exfalso -symm only [*])
         exact ⟨L ++ [⟨((k + 1 : Nat) : Int), 2, -1, 0⟩], ⟨by (and_intros <;> first | rfl | (simp only [h2, h3, h4, h10, go_sem, simprocAttr]; done) | (simp only [h2, h3, h4, h10, go_sem, simprocAttr]; rfl)), fun j hj => by (try simp only [upd]); (repeat rw [if_neg (by omega)]); exact hlow2 j hj, _, _, by (first | rfl | (simp only [h7, go_sem, simprocAttr]; done) | (simp only [h7, go_sem, simprocAttr]; rfl)), by rw [← kmap_snoc]; (first | rfl | (simp only [hH2, go_sem, simprocAttr]; done) | (simp only [hH2, go_sem, simprocAttr]; rfl))⟩, hnew⟩
        ·have hold := hold (decide_eq_false (by omega))
         repeat' (first | (with_reducible refine sk ?_; intro K hK) | ((with_reducible first | refine rg (md := { base := 700, own := [16, 17, 20, 23, 25] }) (h := ?_) | refine rgS [16, 17, 20, 23] (md := { base := 700, own := [16, 17, 20, 23, 25] }) (h := ?_) | refine nx ?_); try simp (disch := omega) only [h2, h3, h4, h7, h8, h9, h10, h118, h119, h120, hH2, n20, hs, hs2, a1, a3, a4, a5, hb1, hb2, hfi, cStep, cRules,go_sem, simprocAttr]) | (with_reducible refine bk ?_) | ((with_reducible refine' cE ?hv ?_ ?_); (case hv => first | rfl | (simp only [h2, h3, h4, h7, h8, h9, h10, h118, h119, h120, hH2, n20, hs, hs2, a1, a3, a4, a5, hb1, hb2, hfi, cStep, cRules,go_sem, simprocAttr]; rfl)); all_goals (intro hc; (try simp only [go_sem, simprocAttr] at hc); try (exfalso; omega))) | ((with_reducible first | refine grdS_split ?_ ?_ | refine lkG_split ?_ ?_) <;> intro hg <;> (try simp (disch := omega) only [hg, h2, h3, h4, h7, h8, h9, h10, h118, h119, h120, hH2, n20, hs, hs2, a1, a3, a4, a5, hb1, hb2, hfi, cStep, cRules,go_sem, simprocAttr]) <;> (try simp only [go_sem, simprocAttr] at hg) <;> (try (exfalso; omega))) | with_reducible intro (ep : Nat → Nat) | with_reducible apply_assumption -exfalso -symm only [*])
         exact ⟨L, ⟨by (and_intros <;> first | rfl | (simp only [h2, h3, h4, h10, go_sem, simprocAttr]; done) | (simp only [h2, h3, h4, h10, go_sem, simprocAttr]; rfl)), fun j hj => by (try simp only [upd]); (repeat rw [if_neg (by omega)]); exact hlow2 j hj, _, _, by (first | rfl | (simp only [h7, go_sem, simprocAttr]; done) | (simp only [h7, go_sem, simprocAttr]; rfl)), by (first | rfl | (simp only [hH2, go_sem, simprocAttr]; done) | (simp only [hH2, go_sem, simprocAttr]; rfl))⟩, hold⟩
      ·obtain ⟨s2, hs2⟩ : ∃ s, u.steps[i + 1]? = some s := ⟨_, List.getElem?_eq_getElem (by omega)⟩
       have hsc2 : s2.frm ≤ ((k + 1 : Nat) : Int) ↔ i + 1 < cutS u ((k + 1 : Nat) : Int) := steps_cut hU.from0 hs2
       have a3 : ((i + 1 : Nat) : Int) < (u.steps.length : Int) := by omega
       have a5 : ¬ s2.frm ≤ ((k + 1 : Nat) : Int) := by omega
       by_cases hb1 : cumC r (k + 1) * 840 * s.part < cumP r p (k + 1) - cumC r (k + 1) * 840 * 1000
       ·have hnew := hnew (decide_eq_true (.inl hb1))
        repeat' (first | (with_reducible refine sk ?_; intro K hK) | ((with_reducible first | refine rg (md := { base := 700, own := [16, 17, 20, 23, 25] }) (h := ?_) | refine rgS [16, 17, 20, 23] (md := { base := 700, own := [16, 17, 20, 23, 25] }) (h := ?_) | refine nx ?_); try simp (disch := omega) only [h2, h3, h4, h7, h8, h9, h10, h118, h119, h120, hH2, n20, hs, hs2, a1, a3, a4, a5, hb1, hfi, cStep, cRules,go_sem, simprocAttr]) | (with_reducible refine bk ?_) | ((with_reducible refine' cE ?hv ?_ ?_); (case hv => first | rfl | (simp only [h2, h3, h4, h7, h8, h9, h10, h118, h119, h120, hH2, n20, hs, hs2, a1, a3, a4, a5, hb1, hfi, cStep, cRules,go_sem, simprocAttr]; rfl)); all_goals (intro hc; (try simp only [go_sem, simprocAttr] at hc); try (exfalso; omega))) | ((with_reducible first | refine grdS_split ?_ ?_ | refine lkG_split ?_ ?_) <;> intro hg <;> (try simp (disch := omega) only [hg, h2, h3, h4, h7, h8, h9, h10, h118, h119, h120, hH2, n20, hs, hs2, a1, a3, a4, a5, hb1, hfi, cStep, cRules,go_sem, simprocAttr]) <;> (try simp only [go_sem, simprocAttr] at hg) <;> (try (exfalso; omega))) | with_reducible intro (ep : Nat → Nat) | with_reducible apply_assumption -exfalso -symm only [*])
        exact ⟨L ++ [⟨((k + 1 : Nat) : Int), 2, -1, 0⟩], ⟨by (and_intros <;> first | rfl | (simp only [h2, h3, h4, h10, go_sem, simprocAttr]; done) | (simp only [h2, h3, h4, h10, go_sem, simprocAttr]; rfl)), fun j hj => by (try simp only [upd]); (repeat rw [if_neg (by omega)]); exact hlow2 j hj, _, _, by (first | rfl | (simp only [h7, go_sem, simprocAttr]; done) | (simp only [h7, go_sem, simprocAttr]; rfl)), by rw [← kmap_snoc]; (first | rfl | (simp only [hH2, go_sem, simprocAttr]; done) | (simp only [hH2, go_sem, simprocAttr]; rfl))⟩, hnew⟩
       ·by_cases hb2 : cumP r p (k + 1) - cumC r (k + 1) * 840 * 1000 < (0 - cumC r (k + 1) * 840) * s.part
        ·have hnew := hnew (decide_eq_true (.inr hb2))
         repeat' (first | (with_reducible refine sk ?_; intro K hK) | ((with_reducible first | refine rg (md := { base := 700, own := [16, 17, 20, 23, 25] }) (h := ?_) | refine rgS [16, 17, 20, 23] (md := { base := 700, own := [16, 17, 20, 23, 25] }) (h := ?_) | refine nx ?_); try simp (disch := omega) only [h2, h3, h4, h7, h8, h9, h10, h118, h119, h120, hH2, n20, hs, hs2, a1, a3, a4, a5, hb1, hb2, hfi, cStep, cRules,go_sem, simprocAttr]) | (with_reducible refine bk ?_) | ((with_reducible refine' cE ?hv ?_ ?_); (case hv => first | rfl | (simp only [h2, h3, h4, h7, h8, h9, h10, h118, h119, h120, hH2, n20, hs, hs2, a1, a3, a4, a5, hb1, hb2, hfi, cStep, cRules,go_sem, simprocAttr]; rfl)); all_goals (intro hc; (try simp only [go_sem, simprocAttr] at hc); try (exfalso; omega))) | ((with_reducible first | refine grdS_split ?_ ?_ | refine lkG_split ?_ ?_) <;> intro hg <;> (try simp (disch := omega) only [hg, h2, h3, h4, h7, h8, h9, h10, h118, h119, h120, hH2, n20, hs, hs2, a1, a3, a4, a5, hb1, hb2, hfi, cStep, cRules,go_sem, simprocAttr]) <;> (try simp only [go_sem, simprocAttr] at hg) <;> (try (exfalso; omega))) | with_reducible intro (ep : Nat → Nat) | with_reducible apply_assumption -exfalso -symm only [*])
         exact ⟨L ++ [⟨((k + 1 : Nat) : Int), 2, -1, 0⟩], ⟨by (and_intros <;> first | rfl | (simp only [h2, h3, h4, h10, go_sem, simprocAttr]; done) | (simp only [h2, h3, h4, h10, go_sem, simprocAttr]; rfl)), fun j hj => by (try simp only [upd]); (repeat rw [if_neg (by omega)]); exact hlow2 j hj, _, _, by (first | rfl | (simp only [h7, go_sem, simprocAttr]; done) | (simp only [h7, go_sem, simprocAttr]; rfl)), by rw [← kmap_snoc]; (first | rfl | (simp only [hH2, go_sem, simprocAttr]; done) | (simp only [hH2, go_sem, simprocAttr]; rfl))⟩, hnew⟩
        ·have hold := hold (decide_eq_false (by omega))
         repeat' (first | (with_reducible refine sk ?_; intro K hK) | ((with_reducible first | refine rg (md := { base := 700, own := [16, 17, 20, 23, 25] }) (h := ?_) | refine rgS [16, 17, 20, 23] (md := { base := 700, own := [16, 17, 20, 23, 25] }) (h := ?_) | refine nx ?_); try simp (disch := omega) only [h2, h3, h4, h7, h8, h9, h10, h118, h119, h120, hH2, n20, hs, hs2, a1, a3, a4, a5, hb1, hb2, hfi, cStep, cRules,go_sem, simprocAttr]) | (with_reducible refine bk ?_) | ((with_reducible refine' cE ?hv ?_ ?_); (case hv => first | rfl | (simp only [h2, h3, h4, h7, h8, h9, h10, h118, h119, h120, hH2, n20, hs, hs2, a1, a3, a4, a5, hb1, hb2, hfi, cStep, cRules,go_sem, simprocAttr]; rfl)); all_goals (intro hc; (try simp only [go_sem, simprocAttr] at hc); try (exfalso; omega))) | ((with_reducible first | refine grdS_split ?_ ?_ | refine lkG_split ?_ ?_) <;> intro hg <;> (try simp (disch := omega) only [hg, h2, h3, h4, h7, h8, h9, h10, h118, h119, h120, hH2, n20, hs, hs2, a1, a3, a4, a5, hb1, hb2, hfi, cStep, cRules,go_sem, simprocAttr]) <;> (try simp only [go_sem, simprocAttr] at hg) <;> (try (exfalso; omega))) | with_reducible intro (ep : Nat → Nat) | with_reducible apply_assumption -exfalso -symm only [*])
         exact ⟨L, ⟨by (and_intros <;> first | rfl | (simp only [h2, h3, h4, h10, go_sem, simprocAttr]; done) | (simp only [h2, h3, h4, h10, go_sem, simprocAttr]; rfl)), fun j hj => by (try simp only [upd]); (repeat rw [if_neg (by omega)]); exact hlow2 j hj, _, _, by (first | rfl | (simp only [h7, go_sem, simprocAttr]; done) | (simp only [h7, go_sem, simprocAttr]; rfl)), by (first | rfl | (simp only [hH2, go_sem, simprocAttr]; done) | (simp only [hH2, go_sem, simprocAttr]; rfl))⟩, hold⟩
     ·have a1 : ((k + 1 : Nat) : Int) < s.frm := by omega
      repeat' (first | (with_reducible refine sk ?_; intro K hK) | ((with_reducible first | refine rg (md := { base := 700, own := [16, 17, 20, 23, 25] }) (h := ?_) | refine rgS [16, 17, 20, 23] (md := { base := 700, own := [16, 17, 20, 23, 25] }) (h := ?_) | refine nx ?_); try simp (disch := omega) only [h2, h3, h4, h7, h8, h9, h10, h118, h119, h120, hH2, n20, hs, a1, cStep, cRules,go_sem, simprocAttr]) | (with_reducible refine bk ?_) | ((with_reducible refine' cE ?hv ?_ ?_); (case hv => first | rfl | (simp only [h2, h3, h4, h7, h8, h9, h10, h118, h119, h120, hH2, n20, hs, a1, cStep, cRules,go_sem, simprocAttr]; rfl)); all_goals (intro hc; (try simp only [go_sem, simprocAttr] at hc); try (exfalso; omega))) | ((with_reducible first | refine grdS_split ?_ ?_ | refine lkG_split ?_ ?_) <;> intro hg <;> (try simp (disch := omega) only [hg, h2, h3, h4, h7, h8, h9, h10, h118, h119, h120, hH2, n20, hs, a1, cStep, cRules,go_sem, simprocAttr]) <;> (try simp only [go_sem, simprocAttr] at hg) <;> (try (exfalso; omega))) | with_reducible intro (ep : Nat → Nat) | with_reducible apply_assumption -exfalso -symm only [*])
      exact ⟨L, ⟨by (and_intros <;> first | rfl | (simp only [h2, h3, h4, h10, go_sem, simprocAttr]; done) | (simp only [h2, h3, h4, h10, go_sem, simprocAttr]; rfl)), fun j hj => by (try simp only [upd]); (repeat rw [if_neg (by omega)]); exact hlow2 j hj, _, _, by (first | rfl | (simp only [h7, go_sem, simprocAttr]; done) | (simp only [h7, go_sem, simprocAttr]; rfl)), by (first | rfl | (simp only [hH2, go_sem, simprocAttr]; done) | (simp only [hH2, go_sem, simprocAttr]; rfl))⟩, by rw [hLe]; by_cases h0 : 0 < cutS u ((k + 1 : Nat) : Int); rw [if_pos (by omega), if_pos (by omega)]; rw [if_neg (by omega), if_neg (by omega)]⟩
    ·rintro f H h120 h119 ⟨h8, h9, h118, L, ⟨⟨h2, h3, h4, h10⟩, hlow, e, v, h7, hH⟩, hLe⟩
     have hLe2 : L = brkB r u p k ++ brkMs r u p ((k + 1 : Nat) : Int) ++ brkMb r ((k + 1 : Nat) : Int) ++ brkMa r u p (k + 1) := by
      rw [hLe]
      by_cases hc0 : cutS u ((k + 1 : Nat) : Int) = 0
      ·have hpn := partS_none hU hc0
       have : brkMa r u p (k + 1) = [] := by unfold brkMa brkA; rw [hpn]; rfl
       rw [if_neg (by omega), this]
      ·rw [if_pos (by omega)]
     subst hLe2
     clear hLe
     repeat' (first | (with_reducible refine sk ?_; intro K hK) | ((with_reducible first | refine rg (md := { base := 700, own := [16, 17, 20, 23, 25] }) (h := ?_) | refine rgS [16, 17, 20, 23] (md := { base := 700, own := [16, 17, 20, 23, 25] }) (h := ?_) | refine nx ?_); try simp (disch := omega) only [h8, h9,go_sem, simprocAttr]) | (with_reducible refine bk ?_) | ((with_reducible refine' cE ?hv ?_ ?_); (case hv => first | rfl | (simp only [h8, h9,go_sem, simprocAttr]; rfl)); all_goals (intro hc; (try simp only [go_sem, simprocAttr] at hc); try (exfalso; omega))) | ((with_reducible first | refine grdS_split ?_ ?_ | refine lkG_split ?_ ?_) <;> intro hg <;> (try simp (disch := omega) only [hg, h8, h9,go_sem, simprocAttr]) <;> (try simp only [go_sem, simprocAttr] at hg) <;> (try (exfalso; omega))) | with_reducible intro (ep : Nat → Nat) | with_reducible apply_assumption -exfalso -symm only [*])
     exact ⟨⟨by (and_intros <;> first | rfl | (simp only [h2, h3, h4, h10, go_sem, simprocAttr]; done) | (simp only [h2, h3, h4, h10, go_sem, simprocAttr]; rfl)), hlow, _, _, by (first | rfl | (simp only [h7, go_sem, simprocAttr]; done) | (simp only [h7, go_sem, simprocAttr]; rfl)), hH⟩, by (first | rfl | (simp only [h8, go_sem, simprocAttr]; done) | (simp only [h8, go_sem, simprocAttr]; rfl)), by (first | rfl | (simp only [h9, go_sem, simprocAttr]; done) | (simp only [h9, go_sem, simprocAttr]; rfl))⟩
   clear hK
   have hwl := @wk_len r ((k + 1 : Nat) : Int)
   have hd1 := hdeg ((k + 1 : Nat) : Int) (by omega) (by omega)
   have hcb := cum_bounds hF hdeg k hk
   have hpb := cumP_bnd hF hp k hk
   have hab := allP_bnd hF hp hm1.1 hm1.2 (wk r ((k + 1 : Nat) : Int)) fun _ h => h
   have hsb := sum_bounds hF hm1.1 hm1.2 (wk r ((k + 1 : Nat) : Int)) fun _ h => h
   refine AW_keepLow 700 725 fun H2 hl2 hH2 hn2 => ?_
   rw [hH] at hH2
   have hlow2 : ∀ j, j < 700 → H2 j = H0 j := fun j hj => (hl2 j hj).trans (hlow j hj)
   clear hH hl2 hn2 hlow
   by_cases hne : wk r ((k + 1 : Nat) : Int) = []
   ·have hfr : ∀ x ∈ brkB r u p k ++ brkMs r u p ((k + 1 : Nat) : Int), ¬ sameL ⟨((k + 1 : Nat) : Int), 1, -1, 0⟩ x := fun x hx hs => by
     obtain ⟨s1, s2, _⟩ := hs
     simp only at s1 s2
     rcases List.mem_append.1 hx with hx | hx
     ·have := (brkB_le hx).2; omega
     ·unfold brkMs at hx
      split at hx
      ·simp at hx
      ·obtain ⟨_, _, _, _, _, rfl⟩ := brkL_mem hx; simp at s2
    have hfi := xfind_kmap (b := ⟨((k + 1 : Nat) : Int), 1, -1, 0⟩) (v := vTr) (brkB r u p k ++ brkMs r u p ((k + 1 : Nat) : Int)) 0
    rw [findB_none hfr, limK] at hfi
    have hl0 : (wk r ((k + 1 : Nat) : Int)).length = 0 := by rw [hne]; rfl
    have hb1 : brkMb r ((k + 1 : Nat) : Int) = [⟨((k + 1 : Nat) : Int), 1, -1, 0⟩] := by unfold brkMb; rw [if_pos hne]
    rw [hl0] at h13
    have ec1 : cumP r p (k + 1) = cumP r p k := by simp only [cumP]; rw [if_pos hne, Int.add_zero]
    have ec2 : cumC r (k + 1) = cumC r k := by simp only [cumC]; rw [if_pos hne, Int.add_zero]
    repeat' (first | (with_reducible refine sk ?_; intro K hK) | ((with_reducible first | refine rg (md := { base := 700, own := [16, 17, 20, 23, 25] }) (h := ?_) | refine rgS [16, 17, 20, 23] (md := { base := 700, own := [16, 17, 20, 23, 25] }) (h := ?_) | refine nx ?_); try simp (disch := omega) only [h2, h3, h4, h7, h8, h9, h10, h11, h13, h14, hH2, hfi,go_sem, simprocAttr]) | (with_reducible refine bk ?_) | ((with_reducible refine' cE ?hv ?_ ?_); (case hv => first | rfl | (simp only [h2, h3, h4, h7, h8, h9, h10, h11, h13, h14, hH2, hfi,go_sem, simprocAttr]; rfl)); all_goals (intro hc; (try simp only [go_sem, simprocAttr] at hc); try (exfalso; omega))) | ((with_reducible first | refine grdS_split ?_ ?_ | refine lkG_split ?_ ?_) <;> intro hg <;> (try simp (disch := omega) only [hg, h2, h3, h4, h7, h8, h9, h10, h11, h13, h14, hH2, hfi,go_sem, simprocAttr]) <;> (try simp only [go_sem, simprocAttr] at hg) <;> (try (exfalso; omega))) | with_reducible intro (ep : Nat → Nat) | with_reducible apply_assumption -exfalso -symm only [*])
    exact ⟨by rw [ec1]; (first | rfl | (simp only [h8, go_sem, simprocAttr]; done) | (simp only [h8, go_sem, simprocAttr]; rfl)), by rw [ec2]; (first | rfl | (simp only [h9, go_sem, simprocAttr]; done) | (simp only [h9, go_sem, simprocAttr]; rfl)), ⟨by (and_intros <;> first | rfl | (simp only [h2, h3, h4, h10, go_sem, simprocAttr]; done) | (simp only [h2, h3, h4, h10, go_sem, simprocAttr]; rfl)), fun j hj => by (try simp only [upd]); (repeat rw [if_neg (by omega)]); exact hlow2 j hj, _, _, by (first | rfl | (simp only [h7, go_sem, simprocAttr]; done) | (simp only [h7, go_sem, simprocAttr]; rfl)), by rw [hb1, ← kmap_snoc]; (first | rfl | (simp only [hH2, go_sem, simprocAttr]; done) | (simp only [hH2, go_sem, simprocAttr]; rfl))⟩⟩
   ·have h0 : 0 < (wk r ((k + 1 : Nat) : Int)).length := List.length_pos_iff.2 hne
    obtain ⟨q1, q2, q3⟩ := quo840 (n := (wk r ((k + 1 : Nat) : Int)).length) (by omega) (by omega)
    have hz : ¬ ((wk r ((k + 1 : Nat) : Int)).length : Int) = 0 := by omega
    have hpr : -100000000000 ≤ allP r p ((k + 1 : Nat) : Int) (wk r ((k + 1 : Nat) : Int)) * (840 / ((wk r ((k + 1 : Nat) : Int)).length : Int)) ∧ allP r p ((k + 1 : Nat) : Int) (wk r ((k + 1 : Nat) : Int)) * (840 / ((wk r ((k + 1 : Nat) : Int)).length : Int)) ≤ 100000000000 := by
     obtain hq | hq | hq | hq | hq | hq | hq | hq : (wk r ((k + 1 : Nat) : Int)).length = 1 ∨ (wk r ((k + 1 : Nat) : Int)).length = 2 ∨ (wk r ((k + 1 : Nat) : Int)).length = 3 ∨ (wk r ((k + 1 : Nat) : Int)).length = 4 ∨ (wk r ((k + 1 : Nat) : Int)).length = 5 ∨ (wk r ((k + 1 : Nat) : Int)).length = 6 ∨ (wk r ((k + 1 : Nat) : Int)).length = 7 ∨ (wk r ((k + 1 : Nat) : Int)).length = 8 := by omega
     all_goals rw [hq] at hsb ⊢; omega
    have hb1 : brkMb r ((k + 1 : Nat) : Int) = [] := by unfold brkMb; rw [if_neg hne]
    have ec1 : cumP r p (k + 1) = cumP r p k + allP r p ((k + 1 : Nat) : Int) (wk r ((k + 1 : Nat) : Int)) * (840 / ((wk r ((k + 1 : Nat) : Int)).length : Int)) := by simp only [cumP]; rw [if_neg hne]
    have ec2 : cumC r (k + 1) = cumC r k + degAt r.curve ((k + 1 : Nat) : Int) := by simp only [cumC]; rw [if_neg hne]
    repeat' (first | (with_reducible refine sk ?_; intro K hK) | ((with_reducible first | refine rg (md := { base := 700, own := [16, 17, 20, 23, 25] }) (h := ?_) | refine rgS [16, 17, 20, 23] (md := { base := 700, own := [16, 17, 20, 23, 25] }) (h := ?_) | refine nx ?_); try simp (disch := omega) only [h2, h3, h4, h7, h8, h9, h10, h11, h13, h14, hH2, hz, q1,go_sem, simprocAttr]) | (with_reducible refine bk ?_) | ((with_reducible refine' cE ?hv ?_ ?_); (case hv => first | rfl | (simp only [h2, h3, h4, h7, h8, h9, h10, h11, h13, h14, hH2, hz, q1,go_sem, simprocAttr]; rfl)); all_goals (intro hc; (try simp only [go_sem, simprocAttr] at hc); try (exfalso; omega))) | ((with_reducible first | refine grdS_split ?_ ?_ | refine lkG_split ?_ ?_) <;> intro hg <;> (try simp (disch := omega) only [hg, h2, h3, h4, h7, h8, h9, h10, h11, h13, h14, hH2, hz, q1,go_sem, simprocAttr]) <;> (try simp only [go_sem, simprocAttr] at hg) <;> (try (exfalso; omega))) | with_reducible intro (ep : Nat → Nat) | with_reducible apply_assumption -exfalso -symm only [*])
    exact ⟨by rw [ec1]; (first | rfl | (simp only [h8, go_sem, simprocAttr]; done) | (simp only [h8, go_sem, simprocAttr]; rfl)), by rw [ec2]; (first | rfl | (simp only [h9, go_sem, simprocAttr]; done) | (simp only [h9, go_sem, simprocAttr]; rfl)), ⟨by (and_intros <;> first | rfl | (simp only [h2, h3, h4, h10, go_sem, simprocAttr]; done) | (simp only [h2, h3, h4, h10, go_sem, simprocAttr]; rfl)), fun j hj => by (try simp only [upd]); (repeat rw [if_neg (by omega)]); exact hlow2 j hj, _, _, by (first | rfl | (simp only [h7, go_sem, simprocAttr]; done) | (simp only [h7, go_sem, simprocAttr]; rfl)), by rw [hb1, List.append_nil]; (first | rfl | (simp only [hH2, go_sem, simprocAttr]; done) | (simp only [hH2, go_sem, simprocAttr]; rfl))⟩⟩
  clear hK
  repeat' (first | (with_reducible refine sk ?_; intro K hK) | ((with_reducible first | refine rg (md := { base := 700, own := [16, 17, 20, 23, 25] }) (h := ?_) | refine rgS [16, 17, 20, 23] (md := { base := 700, own := [16, 17, 20, 23, 25] }) (h := ?_) | refine nx ?_); try simp (disch := omega) only [h2, h3, h4, h7, h8, h9, h10, hH, hlt2, cRun,go_sem, simprocAttr]) | (with_reducible refine bk ?_) | ((with_reducible refine' cE ?hv ?_ ?_); (case hv => first | rfl | (simp only [h2, h3, h4, h7, h8, h9, h10, hH, hlt2, cRun,go_sem, simprocAttr]; rfl)); all_goals (intro hc; (try simp only [go_sem, simprocAttr] at hc); try (exfalso; omega))) | ((with_reducible first | refine grdS_split ?_ ?_ | refine lkG_split ?_ ?_) <;> intro hg <;> (try simp (disch := omega) only [hg, h2, h3, h4, h7, h8, h9, h10, hH, hlt2, cRun,go_sem, simprocAttr]) <;> (try simp only [go_sem, simprocAttr] at hg) <;> (try (exfalso; omega))) | with_reducible intro (ep : Nat → Nat) | with_reducible apply_assumption -exfalso -symm only [*])
  refine AW_range tabOK r.cpls.length (fun i f H => f 8 = .int .i64 (cumP r p k) ∧ f 9 = .int .i64 (cumC r k) ∧ f 11 = .int .i64 (degAt r.curve ((k + 1 : Nat) : Int)) ∧ f 41 = .lst 6 (r.cpls.map cCpl) ∧ (∃ n a, f 13 = .int .i64 n ∧ f 14 = .int .i64 a ∧ n = ((wkFrom ((k + 1 : Nat) : Int) 0 (r.cpls.take i)).length : Nat) ∧ a = allP r p ((k + 1 : Nat) : Int) (wkFrom ((k + 1 : Nat) : Int) 0 (r.cpls.take i))) ∧
    ∃ L, BrkH g caps r u ((k + 1 : Nat) : Int) H0 L f H ∧ L = brkB r u p k ++ (if ((k + 1 : Nat) : Int) < u.sfrom then [] else brkL r u p ((k + 1 : Nat) : Int) (wkFrom ((k + 1 : Nat) : Int) 0 (r.cpls.take i)))) (by omega) (by rw [hXs]; decide) (by decide) (by (first | rfl | (simp only [go_sem, simprocAttr]; done) | (simp only [go_sem, simprocAttr]; rfl))) (by (first | rfl | (simp only [go_sem, simprocAttr]; done) | (simp only [go_sem, simprocAttr]; rfl)))
   ⟨by (first | rfl | (simp only [h8, go_sem, simprocAttr]; done) | (simp only [h8, go_sem, simprocAttr]; rfl)), by (first | rfl | (simp only [h9, go_sem, simprocAttr]; done) | (simp only [h9, go_sem, simprocAttr]; rfl)), by (first | rfl | (simp only [go_sem, simprocAttr]; done) | (simp only [go_sem, simprocAttr]; rfl)), by (first | rfl | (simp only [go_sem, simprocAttr]; done) | (simp only [go_sem, simprocAttr]; rfl)), ⟨0, 0, by (first | rfl | (simp only [go_sem, simprocAttr]; done) | (simp only [go_sem, simprocAttr]; rfl)), by (first | rfl | (simp only [go_sem, simprocAttr]; done) | (simp only [go_sem, simprocAttr]; rfl)), by simp [wkFrom], by simp [wkFrom, allP]⟩, brkB r u p k, ⟨by (and_intros <;> first | rfl | (simp only [h2, h3, h4, h10, go_sem, simprocAttr]; done) | (simp only [h2, h3, h4, h10, go_sem, simprocAttr]; rfl)), hlow, _, _, by (first | rfl | (simp only [h7, go_sem, simprocAttr]; done) | (simp only [h7, go_sem, simprocAttr]; rfl)), by (first | rfl | (simp only [hH, go_sem, simprocAttr]; done) | (simp only [hH, go_sem, simprocAttr]; rfl))⟩, by simp [wkFrom, brkL]⟩ ?_ ?_
  ·clear h2 h3 h4 h7 h8 h9 h10 hH hlow hcutA
   rintro i f H hi h43 h42 ⟨h8, h9, h11, h41, ⟨n, a, h13, h14, hn, ha⟩, L, ⟨⟨h2, h3, h4, h10⟩, hlow, e, v, h7, hH⟩, hLe⟩
   obtain ⟨c, hci⟩ : ∃ c, r.cpls[i]? = some c := ⟨_, List.getElem?_eq_getElem hi⟩
   refine AW_keepLow 700 725 fun H2 hl2 hH2 hn2 => ?_
   rw [hH] at hH2
   have hlow2 : ∀ j, j < 700 → H2 j = H0 j := fun j hj => (hl2 j hj).trans (hlow j hj)
   have n16 := hn2 716 (by decide) (by decide)
   have n17 := hn2 717 (by decide) (by decide)
   clear hH hl2 hn2 hlow
   have hmem : ∀ j ∈ wkFrom ((k + 1 : Nat) : Int) 0 (r.cpls.take i), j ∈ wk r ((k + 1 : Nat) : Int) := fun j hj => by
    have : wk r ((k + 1 : Nat) : Int) = wkFrom ((k + 1 : Nat) : Int) 0 (r.cpls.take i) ++ wkFrom ((k + 1 : Nat) : Int) (0 + (r.cpls.take i).length) (r.cpls.drop i) := by
     rw [← wkFrom_app, List.take_append_drop]; rfl
    rw [this]; exact List.mem_append_left _ hj
   have hab := allP_bnd hF hp hm1.1 hm1.2 _ hmem
   have hsb := sum_bounds hF hm1.1 hm1.2 _ hmem
   have hwl := wkFrom_len ((k + 1 : Nat) : Int) (r.cpls.take i) 0
   have hwl2 : (r.cpls.take i).length ≤ r.cpls.length := by simp; omega
   rw [← ha] at hab
   have hst := wk_snoc (m := ((k + 1 : Nat) : Int)) hci
   by_cases hw : works c ((k + 1 : Nat) : Int) = true
   ·have htb := truth_bounds hF hci hm1.1 hm1.2 hw
    have hpb := hp ((k + 1 : Nat) : Int) (i : Int)
    have htp := atP_bnd (s := truth r c i ((k + 1 : Nat) : Int)) (p := p ((k + 1 : Nat) : Int) i) (by omega) hpb
    rw [if_pos hw] at hst
    have hcl1 := hcall ((k + 1 : Nat) : Int) i (by omega) (by omega) (by omega) (by omega)
    obtain ⟨tl, th, hts⟩ : ∃ lo hi, truth r c i ((k + 1 : Nat) : Int) = ⟨lo, hi⟩ := ⟨_, _, rfl⟩
    obtain ⟨tp, htpe⟩ : ∃ t, atP (truth r c i ((k + 1 : Nat) : Int)) (p ((k + 1 : Nat) : Int) i) = t := ⟨_, rfl⟩
    have hsh := shown_ok r hF i c hci ((k + 1 : Nat) : Int) hm1 hw
    rw [hts] at hsh htb
    rw [htpe, hts] at htp
    have htq : tl * 1000 + (th - tl) * p ((k + 1 : Nat) : Int) i = tp := by rw [← htpe, hts]; rfl
    have hq1 : 0 ≤ (th - tl) * p ((k + 1 : Nat) : Int) i := Int.mul_nonneg (by simp only at htb; omega) hpb.1
    have hq2 : (th - tl) * p ((k + 1 : Nat) : Int) i ≤ (th - tl) * 1000 := Int.mul_le_mul_of_nonneg_left hpb.2 (by simp only at htb; omega)
    simp only at htb htp
    have hd1 := hdeg ((k + 1 : Nat) : Int) (by omega) (by omega)
    have us := hU.single
    have hcf := hF.cpl i c hci
    have hbrk : brkS r u p ((k + 1 : Nat) : Int) c i = decide (tp < (degAt r.curve ((k + 1 : Nat) : Int) - u.single) * 1000 ∨ (degAt r.curve ((k + 1 : Nat) : Int) + u.single) * 1000 < tp) := by unfold brkS brkO; rw [htpe]
    have hfr : ∀ x ∈ L, ¬ sameL ⟨((k + 1 : Nat) : Int), 3, c.id, 0⟩ x := fun x hx hs => by
     obtain ⟨s1, _, s3⟩ := hs
     simp only at s1 s3
     rw [hLe] at hx
     rcases List.mem_append.1 hx with hx | hx
     ·have := (brkB_le hx).2; omega
     ·split at hx
      ·simp at hx
      ·obtain ⟨j, c', hj, hc', _, rfl⟩ := brkL_mem hx
       have hji : j < i := by
        obtain ⟨j2, c2, e2, hc2, _⟩ := (wkFrom_mem _ _ _ _).1 hj
        have := (List.getElem?_eq_some_iff.1 hc2).1
        simp at this; omega
       have := hF.ids j i c' c hji hc' hci
       simp only at s3; omega
    have hfi := xfind_kmap (b := ⟨((k + 1 : Nat) : Int), 3, c.id, 0⟩) (v := vTr) L 0
    rw [findB_none hfr, limK] at hfi
    by_cases hsf : ((k + 1 : Nat) : Int) < u.sfrom
    ·rw [if_pos hsf] at hLe
     have hsf2 : ¬ u.sfrom ≤ ((k + 1 : Nat) : Int) := by omega
     repeat' (first | (with_reducible refine sk ?_; intro K hK) | ((first | (with_reducible first | refine rg (md := { base := 700, own := [16, 17, 20, 23, 25] }) (h := ?_) | refine rgS [16, 17, 20, 23] (md := { base := 700, own := [16, 17, 20, 23, 25] }) (h := ?_) | refine nx ?_) | refine pK (works_ok c ((k + 1 : Nat) : Int)) ?_ | refine pK (hsh) ?_ | refine pK (hcl1) ?_); try simp (disch := omega) only [h2, h3, h4, h7, h8, h9, h10, h11, h13, h14, h41, h42, h43, hH2, n16, n17, hci, hw, htq, hsf, hsf2, cRun, cCpl, cRules, encSpan,go_sem, simprocAttr]) | (with_reducible refine bk ?_) | ((with_reducible refine' cE ?hv ?_ ?_); (case hv => first | rfl | (simp only [h2, h3, h4, h7, h8, h9, h10, h11, h13, h14, h41, h42, h43, hH2, n16, n17, hci, hw, htq, hsf, hsf2, cRun, cCpl, cRules, encSpan,go_sem, simprocAttr]; rfl)); all_goals (intro hc; (try simp only [go_sem, simprocAttr] at hc); try (exfalso; omega))) | ((with_reducible first | refine grdS_split ?_ ?_ | refine lkG_split ?_ ?_) <;> intro hg <;> (try simp (disch := omega) only [hg, h2, h3, h4, h7, h8, h9, h10, h11, h13, h14, h41, h42, h43, hH2, n16, n17, hci, hw, htq, hsf, hsf2, cRun, cCpl, cRules, encSpan,go_sem, simprocAttr]) <;> (try simp only [go_sem, simprocAttr] at hg) <;> (try (exfalso; omega))) | with_reducible intro (ep : Nat → Nat) | with_reducible apply_assumption -exfalso -symm only [*])
     exact ⟨⟨_, _, rfl, rfl, by rw [hst, List.length_append, hn]; rfl, by rw [hst, allP_snoc hci, ← ha, htpe]⟩, L, ⟨by (and_intros <;> first | rfl | (simp only [h2, h3, h4, h10, go_sem, simprocAttr]; done) | (simp only [h2, h3, h4, h10, go_sem, simprocAttr]; rfl)), fun j hj => by (try simp only [upd]); (repeat rw [if_neg (by omega)]); exact hlow2 j hj, _, _, by (first | rfl | (simp only [h7, go_sem, simprocAttr]; done) | (simp only [h7, go_sem, simprocAttr]; rfl)), by (first | rfl | (simp only [hH2, go_sem, simprocAttr]; done) | (simp only [hH2, go_sem, simprocAttr]; rfl))⟩, hLe.trans (List.append_nil _)⟩
    ·rw [if_neg hsf] at hLe
     have hsf2 : u.sfrom ≤ ((k + 1 : Nat) : Int) := by omega
     have hold : brkS r u p ((k + 1 : Nat) : Int) c i = false → L = brkB r u p k ++ brkL r u p ((k + 1 : Nat) : Int) (wkFrom ((k + 1 : Nat) : Int) 0 (r.cpls.take (i + 1))) := fun h => by rw [hst, brkL_snoc hci, h, hLe]; simp
     have hnew : brkS r u p ((k + 1 : Nat) : Int) c i = true → L ++ [⟨((k + 1 : Nat) : Int), 3, c.id, 0⟩] = brkB r u p k ++ brkL r u p ((k + 1 : Nat) : Int) (wkFrom ((k + 1 : Nat) : Int) 0 (r.cpls.take (i + 1))) := fun h => by rw [hst, brkL_snoc hci, h, hLe]; simp
     rw [hbrk] at hold hnew
     by_cases hb1 : (degAt r.curve ((k + 1 : Nat) : Int) + u.single) * 1000 < tp
     ·have hnew := hnew (decide_eq_true (.inr hb1))
      repeat' (first | (with_reducible refine sk ?_; intro K hK) | ((first | (with_reducible first | refine rg (md := { base := 700, own := [16, 17, 20, 23, 25] }) (h := ?_) | refine rgS [16, 17, 20, 23] (md := { base := 700, own := [16, 17, 20, 23, 25] }) (h := ?_) | refine nx ?_) | refine pK (works_ok c ((k + 1 : Nat) : Int)) ?_ | refine pK (hsh) ?_ | refine pK (hcl1) ?_); try simp (disch := omega) only [h2, h3, h4, h7, h8, h9, h10, h11, h13, h14, h41, h42, h43, hH2, n16, n17, hci, hw, htq, hsf2, hb1, hfi, cRun, cCpl, cRules, encSpan,go_sem, simprocAttr]) | (with_reducible refine bk ?_) | ((with_reducible refine' cE ?hv ?_ ?_); (case hv => first | rfl | (simp only [h2, h3, h4, h7, h8, h9, h10, h11, h13, h14, h41, h42, h43, hH2, n16, n17, hci, hw, htq, hsf2, hb1, hfi, cRun, cCpl, cRules, encSpan,go_sem, simprocAttr]; rfl)); all_goals (intro hc; (try simp only [go_sem, simprocAttr] at hc); try (exfalso; omega))) | ((with_reducible first | refine grdS_split ?_ ?_ | refine lkG_split ?_ ?_) <;> intro hg <;> (try simp (disch := omega) only [hg, h2, h3, h4, h7, h8, h9, h10, h11, h13, h14, h41, h42, h43, hH2, n16, n17, hci, hw, htq, hsf2, hb1, hfi, cRun, cCpl, cRules, encSpan,go_sem, simprocAttr]) <;> (try simp only [go_sem, simprocAttr] at hg) <;> (try (exfalso; omega))) | with_reducible intro (ep : Nat → Nat) | with_reducible apply_assumption -exfalso -symm only [*])
      exact ⟨⟨_, _, rfl, rfl, by rw [hst, List.length_append, hn]; rfl, by rw [hst, allP_snoc hci, ← ha, htpe]⟩, L ++ [⟨((k + 1 : Nat) : Int), 3, c.id, 0⟩], ⟨by (and_intros <;> first | rfl | (simp only [h2, h3, h4, h10, go_sem, simprocAttr]; done) | (simp only [h2, h3, h4, h10, go_sem, simprocAttr]; rfl)), fun j hj => by (try simp only [upd]); (repeat rw [if_neg (by omega)]); exact hlow2 j hj, _, _, by (first | rfl | (simp only [h7, go_sem, simprocAttr]; done) | (simp only [h7, go_sem, simprocAttr]; rfl)), by rw [← kmap_snoc]; (first | rfl | (simp only [hH2, go_sem, simprocAttr]; done) | (simp only [hH2, go_sem, simprocAttr]; rfl))⟩, by rw [if_neg hsf]; exact hnew⟩
     ·by_cases hb2 : tp < (degAt r.curve ((k + 1 : Nat) : Int) - u.single) * 1000
      ·have hnew := hnew (decide_eq_true (.inl hb2))
       repeat' (first | (with_reducible refine sk ?_; intro K hK) | ((first | (with_reducible first | refine rg (md := { base := 700, own := [16, 17, 20, 23, 25] }) (h := ?_) | refine rgS [16, 17, 20, 23] (md := { base := 700, own := [16, 17, 20, 23, 25] }) (h := ?_) | refine nx ?_) | refine pK (works_ok c ((k + 1 : Nat) : Int)) ?_ | refine pK (hsh) ?_ | refine pK (hcl1) ?_); try simp (disch := omega) only [h2, h3, h4, h7, h8, h9, h10, h11, h13, h14, h41, h42, h43, hH2, n16, n17, hci, hw, htq, hsf2, hb1, hb2, hfi, cRun, cCpl, cRules, encSpan,go_sem, simprocAttr]) | (with_reducible refine bk ?_) | ((with_reducible refine' cE ?hv ?_ ?_); (case hv => first | rfl | (simp only [h2, h3, h4, h7, h8, h9, h10, h11, h13, h14, h41, h42, h43, hH2, n16, n17, hci, hw, htq, hsf2, hb1, hb2, hfi, cRun, cCpl, cRules, encSpan,go_sem, simprocAttr]; rfl)); all_goals (intro hc; (try simp only [go_sem, simprocAttr] at hc); try (exfalso; omega))) | ((with_reducible first | refine grdS_split ?_ ?_ | refine lkG_split ?_ ?_) <;> intro hg <;> (try simp (disch := omega) only [hg, h2, h3, h4, h7, h8, h9, h10, h11, h13, h14, h41, h42, h43, hH2, n16, n17, hci, hw, htq, hsf2, hb1, hb2, hfi, cRun, cCpl, cRules, encSpan,go_sem, simprocAttr]) <;> (try simp only [go_sem, simprocAttr] at hg) <;> (try (exfalso; omega))) | with_reducible intro (ep : Nat → Nat) | with_reducible apply_assumption -exfalso -symm only [*])
       exact ⟨⟨_, _, rfl, rfl, by rw [hst, List.length_append, hn]; rfl, by rw [hst, allP_snoc hci, ← ha, htpe]⟩, L ++ [⟨((k + 1 : Nat) : Int), 3, c.id, 0⟩], ⟨by (and_intros <;> first | rfl | (simp only [h2, h3, h4, h10, go_sem, simprocAttr]; done) | (simp only [h2, h3, h4, h10, go_sem, simprocAttr]; rfl)), fun j hj => by (try simp only [upd]); (repeat rw [if_neg (by omega)]); exact hlow2 j hj, _, _, by (first | rfl | (simp only [h7, go_sem, simprocAttr]; done) | (simp only [h7, go_sem, simprocAttr]; rfl)), by rw [← kmap_snoc]; (first | rfl | (simp only [hH2, go_sem, simprocAttr]; done) | (simp only [hH2, go_sem, simprocAttr]; rfl))⟩, by rw [if_neg hsf]; exact hnew⟩
      ·have hold := hold (decide_eq_false (by omega))
       repeat' (first | (with_reducible refine sk ?_; intro K hK) | ((first | (with_reducible first | refine rg (md := { base := 700, own := [16, 17, 20, 23, 25] }) (h := ?_) | refine rgS [16, 17, 20, 23] (md := { base := 700, own := [16, 17, 20, 23, 25] }) (h := ?_) | refine nx ?_) | refine pK (works_ok c ((k + 1 : Nat) : Int)) ?_ | refine pK (hsh) ?_ | refine pK (hcl1) ?_); try simp (disch := omega) only [h2, h3, h4, h7, h8, h9, h10, h11, h13, h14, h41, h42, h43, hH2, n16, n17, hci, hw, htq, hsf2, hb1, hb2, cRun, cCpl, cRules, encSpan,go_sem, simprocAttr]) | (with_reducible refine bk ?_) | ((with_reducible refine' cE ?hv ?_ ?_); (case hv => first | rfl | (simp only [h2, h3, h4, h7, h8, h9, h10, h11, h13, h14, h41, h42, h43, hH2, n16, n17, hci, hw, htq, hsf2, hb1, hb2, cRun, cCpl, cRules, encSpan,go_sem, simprocAttr]; rfl)); all_goals (intro hc; (try simp only [go_sem, simprocAttr] at hc); try (exfalso; omega))) | ((with_reducible first | refine grdS_split ?_ ?_ | refine lkG_split ?_ ?_) <;> intro hg <;> (try simp (disch := omega) only [hg, h2, h3, h4, h7, h8, h9, h10, h11, h13, h14, h41, h42, h43, hH2, n16, n17, hci, hw, htq, hsf2, hb1, hb2, cRun, cCpl, cRules, encSpan,go_sem, simprocAttr]) <;> (try simp only [go_sem, simprocAttr] at hg) <;> (try (exfalso; omega))) | with_reducible intro (ep : Nat → Nat) | with_reducible apply_assumption -exfalso -symm only [*])
       exact ⟨⟨_, _, rfl, rfl, by rw [hst, List.length_append, hn]; rfl, by rw [hst, allP_snoc hci, ← ha, htpe]⟩, L, ⟨by (and_intros <;> first | rfl | (simp only [h2, h3, h4, h10, go_sem, simprocAttr]; done) | (simp only [h2, h3, h4, h10, go_sem, simprocAttr]; rfl)), fun j hj => by (try simp only [upd]); (repeat rw [if_neg (by omega)]); exact hlow2 j hj, _, _, by (first | rfl | (simp only [h7, go_sem, simprocAttr]; done) | (simp only [h7, go_sem, simprocAttr]; rfl)), by (first | rfl | (simp only [hH2, go_sem, simprocAttr]; done) | (simp only [hH2, go_sem, simprocAttr]; rfl))⟩, by rw [if_neg hsf]; exact hold⟩
   ·simp only [Bool.not_eq_true] at hw
    rw [if_neg (by rw [hw]; decide), List.append_nil] at hst
    repeat' (first | (with_reducible refine sk ?_; intro K hK) | ((first | (with_reducible first | refine rg (md := { base := 700, own := [16, 17, 20, 23, 25] }) (h := ?_) | refine rgS [16, 17, 20, 23] (md := { base := 700, own := [16, 17, 20, 23, 25] }) (h := ?_) | refine nx ?_) | refine pK (works_ok c ((k + 1 : Nat) : Int)) ?_); try simp (disch := omega) only [h2, h3, h4, h7, h8, h9, h10, h11, h13, h14, h41, h42, h43, hH2, n16, hci, hw, cRun, cCpl,go_sem, simprocAttr]) | (with_reducible refine bk ?_) | ((with_reducible refine' cE ?hv ?_ ?_); (case hv => first | rfl | (simp only [h2, h3, h4, h7, h8, h9, h10, h11, h13, h14, h41, h42, h43, hH2, n16, hci, hw, cRun, cCpl,go_sem, simprocAttr]; rfl)); all_goals (intro hc; (try simp only [go_sem, simprocAttr] at hc); try (exfalso; omega))) | ((with_reducible first | refine grdS_split ?_ ?_ | refine lkG_split ?_ ?_) <;> intro hg <;> (try simp (disch := omega) only [hg, h2, h3, h4, h7, h8, h9, h10, h11, h13, h14, h41, h42, h43, hH2, n16, hci, hw, cRun, cCpl,go_sem, simprocAttr]) <;> (try simp only [go_sem, simprocAttr] at hg) <;> (try (exfalso; omega))) | with_reducible intro (ep : Nat → Nat) | with_reducible apply_assumption -exfalso -symm only [*])
    exact ⟨⟨_, _, rfl, rfl, by rw [hst]; exact hn, by rw [hst]; exact ha⟩, L, ⟨by (and_intros <;> first | rfl | (simp only [h2, h3, h4, h10, go_sem, simprocAttr]; done) | (simp only [h2, h3, h4, h10, go_sem, simprocAttr]; rfl)), fun j hj => by (try simp only [upd]); (repeat rw [if_neg (by omega)]); exact hlow2 j hj, _, _, by (first | rfl | (simp only [h7, go_sem, simprocAttr]; done) | (simp only [h7, go_sem, simprocAttr]; rfl)), by (first | rfl | (simp only [hH2, go_sem, simprocAttr]; done) | (simp only [hH2, go_sem, simprocAttr]; rfl))⟩, by rw [hst]; exact hLe⟩
  ·rintro f H h43 h42 ⟨h8, h9, h11, h41, ⟨n, a, h13, h14, hn, ha⟩, L, ⟨⟨h2, h3, h4, h10⟩, hlow, e, v, h7, hH⟩, hLe⟩
   rw [List.take_of_length_le (Nat.le_refl _)] at hn ha hLe
   subst hn ha hLe
   repeat' (first | (with_reducible refine sk ?_; intro K hK) | ((with_reducible first | refine rg (md := { base := 700, own := [16, 17, 20, 23, 25] }) (h := ?_) | refine rgS [16, 17, 20, 23] (md := { base := 700, own := [16, 17, 20, 23, 25] }) (h := ?_) | refine nx ?_); try simp (disch := omega) only [h8, h9, h11, h13, h14,go_sem, simprocAttr]) | (with_reducible refine bk ?_) | ((with_reducible refine' cE ?hv ?_ ?_); (case hv => first | rfl | (simp only [h8, h9, h11, h13, h14,go_sem, simprocAttr]; rfl)); all_goals (intro hc; (try simp only [go_sem, simprocAttr] at hc); try (exfalso; omega))) | ((with_reducible first | refine grdS_split ?_ ?_ | refine lkG_split ?_ ?_) <;> intro hg <;> (try simp (disch := omega) only [hg, h8, h9, h11, h13, h14,go_sem, simprocAttr]) <;> (try simp only [go_sem, simprocAttr] at hg) <;> (try (exfalso; omega))) | with_reducible intro (ep : Nat → Nat) | with_reducible apply_assumption -exfalso -symm only [*])
   exact ⟨by (first | rfl | (simp only [h8, go_sem, simprocAttr]; done) | (simp only [h8, go_sem, simprocAttr]; rfl)), by (first | rfl | (simp only [h9, go_sem, simprocAttr]; done) | (simp only [h9, go_sem, simprocAttr]; rfl)), by (first | rfl | (simp only [h11, go_sem, simprocAttr]; done) | (simp only [h11, go_sem, simprocAttr]; rfl)), by (first | rfl | (simp only [h13, go_sem, simprocAttr]; done) | (simp only [h13, go_sem, simprocAttr]; rfl)), by (first | rfl | (simp only [h14, go_sem, simprocAttr]; done) | (simp only [h14, go_sem, simprocAttr]; rfl)), ⟨by (and_intros <;> first | rfl | (simp only [h2, h3, h4, h10, go_sem, simprocAttr]; done) | (simp only [h2, h3, h4, h10, go_sem, simprocAttr]; rfl)), hlow, _, _, by (first | rfl | (simp only [h7, go_sem, simprocAttr]; done) | (simp only [h7, go_sem, simprocAttr]; rfl)), hH⟩⟩
 ·repeat' (first | (with_reducible refine sk ?_; intro K hK) | ((with_reducible first | refine rg (md := { base := 700, own := [16, 17, 20, 23, 25] }) (h := ?_) | refine rgS [16, 17, 20, 23] (md := { base := 700, own := [16, 17, 20, 23, 25] }) (h := ?_) | refine nx ?_); try simp (disch := omega) only [h2, h3, h4, h7, h8, h9, h10, hH, cRun,go_sem, simprocAttr]) | (with_reducible refine bk ?_) | ((with_reducible refine' cE ?hv ?_ ?_); (case hv => first | rfl | (simp only [h2, h3, h4, h7, h8, h9, h10, hH, cRun,go_sem, simprocAttr]; rfl)); all_goals (intro hc; (try simp only [go_sem, simprocAttr] at hc); try (exfalso; omega))) | ((with_reducible first | refine grdS_split ?_ ?_ | refine lkG_split ?_ ?_) <;> intro hg <;> (try simp (disch := omega) only [hg, h2, h3, h4, h7, h8, h9, h10, hH, cRun,go_sem, simprocAttr]) <;> (try simp only [go_sem, simprocAttr] at hg) <;> (try (exfalso; omega))) | with_reducible intro (ep : Nat → Nat) | with_reducible apply_assumption -exfalso -symm only [*])
  obtain rfl : k = r.rows.length := by omega
  refine FnQ_end (Or.inl rfl) (.refl _) (by simp only [Try.f35, go_sem, simprocAttr]; rfl) ?_
  exact ⟨hlow, e, v, by simp only [go_sem, simprocAttr], hH⟩
end Cp
namespace Cp
open Go Go.Proofs
set_option maxRecDepth 10000
def nowV (r : RunT) (k : Nat) : List Val := [.int .i64 (degAt r.curve (k : Int)), .int .i64 (cumC r k), .int .i64 (cumLo r k), .int .i64 (cumHi r k)]
theorem minutes1_ok (r : RunT) (hF : RunF r) (H0 : Hp) (ky ey : Nat) (J : Nat → Hp → Prop) (hJ0 : J 0 H0) (hloc : ∀ k H H', J k H → (∀ j, (j < 200 ∨ 300 ≤ j) → H' j = H j) → J k H')
  (hY : ∀ k H, k < r.rows.length → J k H → RoundC Try.prog ky ey [.int .i64 ((k + 1 : Nat) : Int), .agg (nowV r (k + 1))] H (fun v H' => v = .bool true ∧ J (k + 1) H' ∧ ∀ j, 200 ≤ j → j < 300 → H' j = H j)) :
  ACall Try.prog 92 [.yld ky ey, .pim [.pim (fireAt r r.rows.length)]] H0 (fun v H' => J r.rows.length H') := by
 refine ACall_of (fn := Try.f92) tabOK (by kernel_rfl) rfl (by kernel_rfl) (by simp [Try.f92]) ?_
 intro X hX0 hXs
 have hrl := hF.rows
 have hcl := hF.cpls
 have hdeg := fun m => deg_bnd (l := r.curve) hF.curve (m := m)
 refine AW_lose 203 fun H1 g3 hs1 => ?_
 have hJ1 : J 0 H1 := hloc _ _ _ hJ0 fun j hj => hs1 j (by omega)
 clear hJ0 hs1
 repeat' (first | (with_reducible refine sk ?_; intro K hK) | ((with_reducible first | refine AW_regY (id := 8) tabOK { base := 200, own := [] } [] [] (by rw [hXs]; decide +kernel) ?_ | refine rg (md := { base := 200, own := [] }) (h := ?_) | refine rgS [3] (md := { base := 200, own := [] }) (h := ?_) | refine nx ?_); try simp (disch := omega) only [g3,go_sem, simprocAttr]) | (with_reducible refine bk ?_) | ((with_reducible refine' cE ?hv ?_ ?_); (case hv => first | rfl | (simp only [g3,go_sem, simprocAttr]; rfl)); all_goals (intro hc; (try simp only [go_sem, simprocAttr] at hc); try (exfalso; omega))) | with_reducible intro (ep : Nat → Nat) | with_reducible apply_assumption -exfalso -symm only [*])
 refine AW_block (AW_loop (fun n f H => ∃ k : Nat, n = r.rows.length - k ∧ k ≤ r.rows.length ∧ (f 0 = .yld ky ey ∧ f 1 = .pim [.pim (fireAt r r.rows.length)] ∧ f 4 = .int .i64 ((k + 1 : Nat) : Int)) ∧ ∃ e3 a, f 3 = .ptr 203 e3 4 0 0 ∧ H 203 = some (e3, .arr 4 [[.int .i64 a, .int .i64 (cumC r k), .int .i64 (cumLo r k), .int .i64 (cumHi r k)]]) ∧ J k H) r.rows.length
  ⟨0, by simp, Nat.zero_le _, by (and_intros <;> first | rfl | (simp only [go_sem, simprocAttr]; done) | (simp only [go_sem, simprocAttr]; rfl)), _, 0, by (first | rfl | (simp only [go_sem, simprocAttr]; done) | (simp only [go_sem, simprocAttr]; rfl)), by (first | rfl | (simp only [go_sem, simprocAttr]; done) | (simp only [go_sem, simprocAttr]; rfl)), hloc _ _ _ hJ1 fun j hj => upd_ne _ _ (by omega)⟩ ?_)
 clear hJ1 g3
 rintro n f H ⟨k, rfl, hk, ⟨h0, h1, h4⟩, e3, a, h3, hH3, hJ⟩
 obtain ⟨rest, hrest⟩ := @fireAt_run r r.rows.length
 by_cases hlt : k < r.rows.length
 ·have hwg := drop_cons (warm_get (r := r) (m := k + 1) (by omega) (n := r.rows.length) (by omega) (by omega))
  have h61 : k + 1 < 61 := by omega
  have hcb := cum_bounds hF hdeg k (by omega)
  have hd1 := hdeg ((k + 1 : Nat) : Int) (by omega) (by omega)
  have h1' := h1
  have hY' := fun H => hY k H hlt
  rw [hrest] at h1'
  by_cases hne : wk r ((k + 1 : Nat) : Int) = []
  ·have hwg' : ((fireAt r r.rows.length).drop 128).drop ((k + 1) * 1) = .bool false :: (fireAt r r.rows.length).drop (128 + (k + 1) + 1) := by rw [List.drop_drop, Nat.mul_one, hwg, hne]; rfl
   rw [hrest] at hwg'
   have hwg2 : (rest.drop 122).drop ((k + 1) * 1) = .bool false :: (cRun r ++ rest).drop (128 + (k + 1) + 1) := hwg'
   have hnow : nowV r (k + 1) = [.int .i64 (degAt r.curve ((k + 1 : Nat) : Int)), .int .i64 (cumC r k), .int .i64 (cumLo r k), .int .i64 (cumHi r k)] := by simp only [nowV, cumC, cumLo, cumHi, if_pos hne, Int.add_zero]
   rw [hnow] at hY'
   repeat' (first | (with_reducible refine sk ?_; intro K hK) | ((first | (with_reducible first | refine AW_regY (id := 8) tabOK { base := 200, own := [] } [] [] (by rw [hXs]; decide +kernel) ?_ | refine rg (md := { base := 200, own := [] }) (h := ?_) | refine rgS [3] (md := { base := 200, own := [] }) (h := ?_) | refine nx ?_) | refine pK (degree_ok r.curve hF.curve ((k + 1 : Nat) : Int) (by omega) (by omega)) ?_); try simp (disch := omega) only [h0, h1', h3, h4, hH3, h61, hwg2, cRun,go_sem, simprocAttr]) | (with_reducible refine bk ?_) | ((with_reducible refine' cE ?hv ?_ ?_); (case hv => first | rfl | (simp only [h0, h1', h3, h4, hH3, h61, hwg2, cRun,go_sem, simprocAttr]; rfl)); all_goals (intro hc; (try simp only [go_sem, simprocAttr] at hc); try (exfalso; omega))) | with_reducible intro (ep : Nat → Nat) | with_reducible apply_assumption -exfalso -symm only [*])
   refine yldK_intro (hY' _ (hloc _ _ _ hJ fun j hj => by repeat rw [upd_ne _ _ (by omega)])) ?_
   rintro v H3 ⟨rfl, hJ3, hk3⟩
   have hH4 := hk3 203 (by decide) (by decide)
   simp only [hH3, go_sem, simprocAttr] at hH4
   simp only [go_sem, simprocAttr]
   repeat' (first | (with_reducible refine sk ?_; intro K hK) | ((with_reducible first | refine AW_regY (id := 8) tabOK { base := 200, own := [] } [] [] (by rw [hXs]; decide +kernel) ?_ | refine rg (md := { base := 200, own := [] }) (h := ?_) | refine rgS [3] (md := { base := 200, own := [] }) (h := ?_) | refine nx ?_); try simp (disch := omega) only [h0, h1, h3, h4, hH4,go_sem, simprocAttr]) | (with_reducible refine bk ?_) | ((with_reducible refine' cE ?hv ?_ ?_); (case hv => first | rfl | (simp only [h0, h1, h3, h4, hH4,go_sem, simprocAttr]; rfl)); all_goals (intro hc; (try simp only [go_sem, simprocAttr] at hc); try (exfalso; omega))) | with_reducible intro (ep : Nat → Nat) | with_reducible apply_assumption -exfalso -symm only [*])
   exact ⟨r.rows.length - (k + 1), by omega, k + 1, rfl, by omega, rfl, _, degAt r.curve ((k + 1 : Nat) : Int), rfl, by simp only [cumC, cumLo, cumHi, if_pos hne, Int.add_zero], hJ3⟩
  ·have hn0 : 0 < (wk r ((k + 1 : Nat) : Int)).length := List.length_pos_iff.2 hne
   obtain ⟨g1, g2⟩ := mean_get (r := r) (m := k + 1) (by omega) hn0 (n := r.rows.length) (by omega) (by omega)
   have g1' := drop_cons g1
   rw [drop_cons g2] at g1'
   have hwg' : ((fireAt r r.rows.length).drop 128).drop ((k + 1) * 1) = .bool true :: (fireAt r r.rows.length).drop (128 + (k + 1) + 1) := by rw [List.drop_drop, Nat.mul_one, hwg, decide_eq_true hn0]
   have g1'' : ((fireAt r r.rows.length).drop 6).drop ((k + 1) * 2) = .int .i64 (meanS r ((k + 1 : Nat) : Int)).lo :: .int .i64 (meanS r ((k + 1 : Nat) : Int)).hi :: (fireAt r r.rows.length).drop (6 + (k + 1) * 2 + 1 + 1) := by rw [List.drop_drop]; exact g1'
   rw [hrest] at hwg' g1''
   have hwg2 : (rest.drop 122).drop ((k + 1) * 1) = .bool true :: (cRun r ++ rest).drop (128 + (k + 1) + 1) := hwg'
   have g2'' : rest.drop ((k + 1) * 2) = .int .i64 (meanS r ((k + 1 : Nat) : Int)).lo :: .int .i64 (meanS r ((k + 1 : Nat) : Int)).hi :: (cRun r ++ rest).drop (6 + (k + 1) * 2 + 1 + 1) := g1''
   have hmb := mean_bounds hF (m := ((k + 1 : Nat) : Int)) (by omega) (by omega) hne
   have hnow : nowV r (k + 1) = [.int .i64 (degAt r.curve ((k + 1 : Nat) : Int)), .int .i64 (cumC r k + degAt r.curve ((k + 1 : Nat) : Int)), .int .i64 (cumLo r k + (meanS r ((k + 1 : Nat) : Int)).lo), .int .i64 (cumHi r k + (meanS r ((k + 1 : Nat) : Int)).hi)] := by simp only [nowV, cumC, cumLo, cumHi, if_neg hne]
   rw [hnow] at hY'
   repeat' (first | (with_reducible refine sk ?_; intro K hK) | ((first | (with_reducible first | refine AW_regY (id := 8) tabOK { base := 200, own := [] } [] [] (by rw [hXs]; decide +kernel) ?_ | refine rg (md := { base := 200, own := [] }) (h := ?_) | refine rgS [3] (md := { base := 200, own := [] }) (h := ?_) | refine nx ?_) | refine pK (degree_ok r.curve hF.curve ((k + 1 : Nat) : Int) (by omega) (by omega)) ?_ | refine pK (plus_ok ⟨cumLo r k, cumHi r k⟩ (meanS r ((k + 1 : Nat) : Int)) (by simp only; omega)) ?_); try simp (disch := omega) only [h0, h1', h3, h4, hH3, h61, hwg2, g2'', cRun, encSpan,go_sem, simprocAttr]) | (with_reducible refine bk ?_) | ((with_reducible refine' cE ?hv ?_ ?_); (case hv => first | rfl | (simp only [h0, h1', h3, h4, hH3, h61, hwg2, g2'', cRun, encSpan,go_sem, simprocAttr]; rfl)); all_goals (intro hc; (try simp only [go_sem, simprocAttr] at hc); try (exfalso; omega))) | with_reducible intro (ep : Nat → Nat) | with_reducible apply_assumption -exfalso -symm only [*])
   refine yldK_intro (hY' _ (hloc _ _ _ hJ fun j hj => by repeat rw [upd_ne _ _ (by omega)])) ?_
   rintro v H3 ⟨rfl, hJ3, hk3⟩
   have hH4 := hk3 203 (by decide) (by decide)
   simp only [hH3, go_sem, simprocAttr] at hH4
   simp only [go_sem, simprocAttr]
   repeat' (first | (with_reducible refine sk ?_; intro K hK) | ((with_reducible first | refine AW_regY (id := 8) tabOK { base := 200, own := [] } [] [] (by rw [hXs]; decide +kernel) ?_ | refine rg (md := { base := 200, own := [] }) (h := ?_) | refine rgS [3] (md := { base := 200, own := [] }) (h := ?_) | refine nx ?_); try simp (disch := omega) only [h0, h1, h3, h4, hH4,go_sem, simprocAttr]) | (with_reducible refine bk ?_) | ((with_reducible refine' cE ?hv ?_ ?_); (case hv => first | rfl | (simp only [h0, h1, h3, h4, hH4,go_sem, simprocAttr]; rfl)); all_goals (intro hc; (try simp only [go_sem, simprocAttr] at hc); try (exfalso; omega))) | with_reducible intro (ep : Nat → Nat) | with_reducible apply_assumption -exfalso -symm only [*])
   exact ⟨r.rows.length - (k + 1), by omega, k + 1, rfl, by omega, rfl, _, degAt r.curve ((k + 1 : Nat) : Int), rfl, by simp only [cumC, cumLo, cumHi, if_neg hne], hJ3⟩
 ·obtain rfl : k = r.rows.length := by omega
  rw [hrest] at h1
  repeat' (first | (with_reducible refine sk ?_; intro K hK) | ((with_reducible first | refine AW_regY (id := 8) tabOK { base := 200, own := [] } [] [] (by rw [hXs]; decide +kernel) ?_ | refine rg (md := { base := 200, own := [] }) (h := ?_) | refine rgS [3] (md := { base := 200, own := [] }) (h := ?_) | refine nx ?_); try simp (disch := omega) only [h0, h1, h3, h4, hH3, cRun,go_sem, simprocAttr]) | (with_reducible refine bk ?_) | ((with_reducible refine' cE ?hv ?_ ?_); (case hv => first | rfl | (simp only [h0, h1, h3, h4, hH3, cRun,go_sem, simprocAttr]; rfl)); all_goals (intro hc; (try simp only [go_sem, simprocAttr] at hc); try (exfalso; omega))) | with_reducible intro (ep : Nat → Nat) | with_reducible apply_assumption -exfalso -symm only [*])
  exact FnQ_end (Or.inr rfl) (.refl _) (by simp only [Try.f92, go_sem, simprocAttr]; rfl) hJ
end Cp
namespace Cp
open Go Go.Proofs
set_option maxRecDepth 10000
def lftV (l : List Brc) : Val := if l = [] then .nils else .lst 4 (l.map cBrc)
theorem chk_any (r : RunT) (hF : RunF r) (u : RulesT) (hU : RulesF u) (k i : Nat) (hk : k + 1 ≤ r.rows.length) (hi : i < 4) : ∃ g, chkV[i]? = some [.int .u8 ((i + 1 : Nat) : Int), .fn g []] ∧
  ∀ H0, Room H0 1000 100 → ACall Try.prog g [.pim (fireAt r r.rows.length), encRules u, .int .i64 ((k + 1 : Nat) : Int), .agg (nowV r (k + 1))] H0 (MapR H0 (chkX r u k i)) := by
 have hrl := hF.rows
 have hdeg := fun m => deg_bnd (l := r.curve) hF.curve (m := m)
 have hcb := cum_bounds hF hdeg (k + 1) hk
 match i, hi with
 | 0, _ => exact ⟨_, rfl, fun H0 _ => chk1_ok r hF u k hk _ _ _ _ H0⟩
 | 1, _ => exact ⟨_, rfl, fun H0 _ => chk2_ok u hU _ k _ _ _ _ (by omega) (by omega) (by omega) H0⟩
 | 2, _ => exact ⟨_, rfl, fun H0 hroom => chk3_ok r hF u hU k hk (hdeg _ (by omega) (by omega)) _ _ _ H0 hroom⟩
 | 3, _ => exact ⟨_, rfl, fun H0 _ => chk4_ok r hF u hU k hk _ rfl H0⟩
def LJ (r : RunT) (u : RulesT) (e5 e6 ey : Nat) (L : AObj) (k : Nat) (H : Hp) : Prop :=
 H 5 = some (e5, .arr 1 [[.pim (fireAt r r.rows.length)]]) ∧ H 100 = some (ey, L) ∧ Room H 1000 100 ∧ ∃ l : List Brc, l.Perm (leftB r u k) ∧ AllL e6 l H
theorem left_ok (r : RunT) (hF : RunF r) (u : RulesT) (hU : RulesF u) : PureC Try.prog 57 [encRun r, encRules u] (lftV (leftS r u)) := by
 have hrl := hF.rows
 have hcl := hF.cpls
 have hnn : noids (fireAt r r.rows.length) = true := noids_still fireAt_still
 have hnv : noid (lftV (leftS r u)) = true := by
  unfold lftV; split
  ·rfl
  ·simp only [noid, cBrc_noid]
 refine PureC_ofR (fn := Try.f57) tabOK (by kernel_rfl) rfl (by kernel_rfl) (by simp [Try.f57]) (by simp [noids, noid, noidss, go_sem, encRun, cRun, encRules, cRules]) hnv ?_
 intro X hX0 hXs hXr
 repeat' (first | (with_reducible refine sk ?_; intro K hK) | ((first | (with_reducible first | refine AW_regN (id := 10) tabOK { base := 0, own := [] } [] [] (by rw [hXs]; decide +kernel) ?_ | refine AW_regN (id := 11) tabOK { base := 0, own := [] } [] [] (by rw [hXs]; decide +kernel) ?_ | refine rg (h := ?_) | refine rgS [5, 6, 8, 10, 13] (h := ?_) | refine nx ?_) | refine pK (open_ok r hF) ?_ | refine pK (minutes_ok (fireAt r r.rows.length) hnn) ?_); try simp (disch := omega) only [encRun, cRun, encRules, cRules, hnn,go_sem, simprocAttr]) | (with_reducible refine bk ?_) | ((with_reducible refine' cE ?hv ?_ ?_); (case hv => first | rfl | (simp only [encRun, cRun, encRules, cRules, hnn,go_sem, simprocAttr]; rfl)); all_goals (intro hc; (try simp only [go_sem, simprocAttr] at hc); try (exfalso; omega))) | with_reducible intro (ep : Nat → Nat) | with_reducible apply_assumption -exfalso -symm only [*])
 have hXs0 : X.sz = 60 := hXs
 refine AW_block ?_
 refine AW_rangeFunc 100 (by simp only [go_sem, simprocAttr]; rfl) hXr fun ey => ?_
 generalize hf0 : (upd _ _ _ : Fr) = f0
 generalize hH : (upd (upd (upd none0 _ _) _ _) _ _ : Hp) = HH
 obtain ⟨e5, e6, g3, g5, g6, G5, G6, G0⟩ : ∃ e5 e6, f0 3 = .pim (cRules u) ∧ f0 5 = .ptr 5 e5 1 0 0 ∧ f0 6 = .ptr 6 e6 1 0 0 ∧ HH 5 = some (e5, .arr 1 [[.pim (fireAt r r.rows.length)]]) ∧ HH 6 = some (e6, .arr 1 [[.nils]]) ∧ ∀ j, 7 ≤ j → HH j = none := by
  refine ⟨_, _, by rw [← hf0]; rfl, by rw [← hf0]; rfl, by rw [← hf0]; rfl, by rw [← hH]; rfl, by rw [← hH]; rfl, fun j hj => ?_⟩
  rw [← hH, upd_ne _ _ (by omega), upd_ne _ _ (by omega), upd_ne _ _ (by omega)]; rfl
 clear hf0 hH hXs
 generalize hL : AObj.loop _ _ _ _ _ _ = L
 refine ⟨fun v H' => LJ r u e5 e6 ey L r.rows.length H', minutes1_ok r hF _ 100 ey (LJ r u e5 e6 ey L) ?_ ?_ ?_, ?_⟩
 ·exact ⟨by rw [upd_ne _ _ (by decide), G5], upd_same _ _ _, fun d hd => by rw [upd_ne _ _ (by omega)]; exact G0 _ (by omega), [], .refl _, .inl ⟨rfl, by rw [upd_ne _ _ (by decide), G6]⟩⟩
 ·rintro k H H' ⟨q1, q2, q3, l, q4, q5⟩ h
  exact ⟨by rw [h _ (by omega), q1], by rw [h _ (by omega), q2], fun d hd => by rw [h _ (by omega)]; exact q3 d hd, l, q4, q5.same (h _ (by omega)) (h _ (by omega))⟩
 ·rintro k Hs hk ⟨q1, q2, q3, l, q4, q5⟩
  subst hL
  refine ⟨_, _, _, _, _, q2, rfl, fun t ht => ?_, fun X1 b h10 h1s h1r => ?_⟩
  ·rw [frL_len, hXs0]
   have ht' : t = 18 ∨ t = 19 := by simpa using ht
   rcases ht' with rfl | rfl <;> decide
  have hXs : X1.sz = 60 := by rw [h1s, frL_len, hXs0]
  show AW _ _ _ _ _ (upd (upd (frOf (frL f0 X.sz)) 18 (.int .i64 ((k + 1 : Nat) : Int))) 19 (.agg (nowV r (k + 1)))) Hs
  have k3 : frOf (frL f0 X.sz) 3 = .pim (cRules u) := by rw [frOf_frL, hXs0, if_pos (by decide), g3]
  have k5 : frOf (frL f0 X.sz) 5 = .ptr 5 e5 1 0 0 := by rw [frOf_frL, hXs0, if_pos (by decide), g5]
  have k6 : frOf (frL f0 X.sz) 6 = .ptr 6 e6 1 0 0 := by rw [frOf_frL, hXs0, if_pos (by decide), g6]
  generalize frOf (frL f0 X.sz) = f1 at k3 k5 k6
  refine AW_lose 308 fun H1 g8 hs1 => ?_
  have hs1' : ∀ j, ¬ j = 308 → H1 j = Hs j := hs1
  repeat' (first | (with_reducible refine sk ?_; intro K hK) | ((with_reducible first | refine AW_regN (id := 10) tabOK { base := 300, own := [33, 55], imp := [32] } [] [] (by rw [hXs]; decide +kernel) ?_ | refine AW_regN (id := 11) tabOK { base := 300, own := [33, 55], imp := [32] } [] [] (by rw [hXs]; decide +kernel) ?_ | refine rg (md := { base := 300, own := [33, 55], imp := [32] }) (h := ?_) | refine rgS [5, 6, 8, 10, 13] (md := { base := 300, own := [33, 55], imp := [32] }) (h := ?_) | refine nx ?_); try simp (disch := omega) only [k3, k5, k6, g8, nowV,go_sem, simprocAttr]) | (with_reducible refine bk ?_) | ((with_reducible refine' cE ?hv ?_ ?_); (case hv => first | rfl | (simp only [k3, k5, k6, g8, nowV,go_sem, simprocAttr]; rfl)); all_goals (intro hc; (try simp only [go_sem, simprocAttr] at hc); try (exfalso; omega))) | with_reducible intro (ep : Nat → Nat) | with_reducible apply_assumption -exfalso -symm only [*])
  refine ⟨rfl, _, _, _, _, _, by rw [upd_ne _ _ (by decide), upd_ne _ _ (by decide), hs1 _ (by decide), q2], ?_⟩
  generalize hHs : (upd (upd (upd H1 _ _) _ _) 100 _ : Hp) = HB
  generalize hfB : (upd _ _ _ : Fr) = fB
  obtain ⟨e8, b8, b7, b3, b5, b6, B8, B5, B100, Broom, BA, Bsame⟩ : ∃ e8, fB 8 = .ptr 308 e8 4 0 0 ∧ fB 7 = .int .i64 ((k + 1 : Nat) : Int) ∧ fB 3 = .pim (cRules u) ∧ fB 5 = .ptr 5 e5 1 0 0 ∧ fB 6 = .ptr 6 e6 1 0 0 ∧ HB 308 = some (e8, .arr 4 [nowV r (k + 1)]) ∧ HB 5 = some (e5, .arr 1 [[.pim (fireAt r r.rows.length)]]) ∧ HB 100 = _ ∧ Room HB 1000 100 ∧ AllL e6 l HB ∧ (∀ j, 200 ≤ j → j < 300 → HB j = Hs j) := by
   refine ⟨_, by rw [← hfB]; rfl, by rw [← hfB]; rfl, by rw [← hfB]; simp only [k3, go_sem, simprocAttr], by rw [← hfB]; simp only [k5, go_sem, simprocAttr], by rw [← hfB]; simp only [k6, go_sem, simprocAttr], by rw [← hHs]; rfl, ?_, by rw [← hHs, upd_same], fun d hd => ?_, q5.same ?_ ?_, fun j h1 h2 => ?_⟩
   ·rw [← hHs, upd_ne _ _ (by decide), upd_ne _ _ (by decide), upd_ne _ _ (by decide), hs1 _ (by decide), q1]
   ·rw [← hHs, upd_ne _ _ (by omega), upd_ne _ _ (by omega), upd_ne _ _ (by omega), hs1 _ (by omega)]; exact q3 d hd
   ·rw [← hHs, upd_ne _ _ (by decide), upd_ne _ _ (by decide), upd_ne _ _ (by decide), hs1 _ (by decide)]
   ·rw [← hHs, upd_ne _ _ (by decide), upd_ne _ _ (by decide), upd_ne _ _ (by decide), hs1 _ (by decide)]
   ·rw [← hHs, upd_ne _ _ (by omega), upd_ne _ _ (by omega), upd_ne _ _ (by omega), hs1 _ (by omega)]
  generalize hLB : (some (ey, AObj.loop _ _ _ _ _ _) : Option (Nat × AObj)) = LB at B100
  clear hHs hfB q1 q3 q5 hs1 hs1' g8 k3 k5 k6
  repeat' (first | (with_reducible refine sk ?_; intro K hK) | ((first | (with_reducible first | refine AW_regN (id := 10) tabOK { base := 300, own := [33, 55], imp := [32] } [] [] (by rw [hXs]; decide +kernel) ?_ | refine AW_regN (id := 11) tabOK { base := 300, own := [33, 55], imp := [32] } [] [] (by rw [hXs]; decide +kernel) ?_ | refine rg (md := { base := 300, own := [33, 55], imp := [32] }) (h := ?_) | refine rgS [5, 6, 8, 10, 13] (md := { base := 300, own := [33, 55], imp := [32] }) (h := ?_) | refine nx ?_) | refine pK (checks_ok) ?_); try simp (disch := omega) only [b3, b5, b6, b7, b8, nowV,go_sem, simprocAttr]) | (with_reducible refine bk ?_) | ((with_reducible refine' cE ?hv ?_ ?_); (case hv => first | rfl | (simp only [b3, b5, b6, b7, b8, nowV,go_sem, simprocAttr]; rfl)); all_goals (intro hc; (try simp only [go_sem, simprocAttr] at hc); try (exfalso; omega))) | (first | refine iK (checks_ok) ?_) | with_reducible intro (ep : Nat → Nat) | with_reducible apply_assumption -exfalso -symm only [*])
  refine AW_range tabOK 4 (fun i f H => (f 3 = .pim (cRules u) ∧ f 5 = .ptr 5 e5 1 0 0 ∧ f 6 = .ptr 6 e6 1 0 0 ∧ f 7 = .int .i64 ((k + 1 : Nat) : Int) ∧ f 8 = .ptr 308 e8 4 0 0 ∧ f 20 = .lst 2 chkV) ∧ H 308 = some (e8, .arr 4 [nowV r (k + 1)]) ∧ H 5 = some (e5, .arr 1 [[.pim (fireAt r r.rows.length)]]) ∧ H 100 = LB ∧ Room H 1000 100 ∧ (∀ j, 200 ≤ j → j < 300 → H j = Hs j) ∧
    ∃ l, l.Perm (leftB r u k ++ chkB r u k i) ∧ AllL e6 l H)
   (by omega) (by rw [hXs]; decide) (by decide) (by (first | rfl | (simp only [go_sem, simprocAttr]; done) | (simp only [go_sem, simprocAttr]; rfl))) (by (first | rfl | (simp only [chkV, go_sem, simprocAttr]; done) | (simp only [chkV, go_sem, simprocAttr]; rfl))) ⟨by (and_intros <;> first | rfl | (simp only [b3, b5, b6, b7, b8, chkV, go_sem, simprocAttr]; done) | (simp only [b3, b5, b6, b7, b8, chkV, go_sem, simprocAttr]; rfl)), B8, B5, B100, Broom, Bsame, l, by simpa [chkB] using q4, BA⟩ ?_ ?_
  ·rintro i f H hi h22 h21 ⟨⟨h3, h5, h6, h7, h8, h20⟩, H8, H5, H100, Hroom, Hsame, l, hl, hA⟩
   obtain ⟨g, hcv, hcall⟩ := chk_any r hF u hU k i (by omega) hi
   refine AW_lose 310 fun H1 g10 hs1 => ?_
   refine AW_lose 333 fun H2 g33 hs2 => ?_
   have hs : ∀ j, ¬ j = 310 → ¬ j = 333 → H2 j = H j := fun j h1 h2 => by rw [hs2 _ h2, hs1 _ h1]
   have g10' : H2 310 = none := by rw [hs2 _ (by decide), g10]
   have H8' := (hs 308 (by decide) (by decide)).trans H8
   have H5' := (hs 5 (by decide) (by decide)).trans H5
   have Hroom' : Room H2 1000 100 := fun d hd => by rw [hs _ (by omega) (by omega)]; exact Hroom d hd
   simp only [nowV] at H8'
   simp only [nowV, encRules, cRules] at hcall
   repeat' (first | (with_reducible refine sk ?_; intro K hK) | ((with_reducible first | refine AW_regN (id := 10) tabOK { base := 300, own := [33, 55], imp := [32] } [] [] (by rw [hXs]; decide +kernel) ?_ | refine AW_regN (id := 11) tabOK { base := 300, own := [33, 55], imp := [32] } [] [] (by rw [hXs]; decide +kernel) ?_ | refine rg (md := { base := 300, own := [33, 55], imp := [32] }) (h := ?_) | refine rgS [5, 6, 8, 10, 13] (md := { base := 300, own := [33, 55], imp := [32] }) (h := ?_) | refine nx ?_); try simp (disch := omega) only [h3, h5, h6, h7, h8, h20, h21, h22, H8', H5', g10', hcv, cRules,go_sem, simprocAttr]) | (with_reducible refine bk ?_) | ((with_reducible refine' cE ?hv ?_ ?_); (case hv => first | rfl | (simp only [h3, h5, h6, h7, h8, h20, h21, h22, H8', H5', g10', hcv, cRules,go_sem, simprocAttr]; rfl)); all_goals (intro hc; (try simp only [go_sem, simprocAttr] at hc); try (exfalso; omega))) | with_reducible intro (ep : Nat → Nat) | with_reducible apply_assumption -exfalso -symm only [*])
   refine impK_intro (hcall _ fun d hd => by rw [upd_ne _ _ (by omega), upd_ne _ _ (by omega)]; exact Hroom' d hd) ?_
   rintro v H3 ⟨hlow, es, hperm, hres⟩
   have hlow' : ∀ j, j < 400 → ¬ j = 310 → ¬ j = 333 → H3 j = H j := fun j h1 h2 h3 => by rw [hlow _ h1, upd_ne _ _ h2, upd_ne _ _ h2, hs _ h2 h3]
   have g33' : H3 333 = none := by rw [hlow _ (by decide), upd_ne _ _ (by decide), upd_ne _ _ (by decide), g33]
   have w10 := (hlow 310 (by decide)).trans (upd_same _ _ _)
   have hkn : KnAll es := fun p hp => chkX_kn p (hperm.mem_iff.1 hp)
   have hel : es.length ≤ 8 := by rw [hperm.length_eq]; exact chkX_len hF
   have hb1 := leftB_len (u := u) hF k
   have hb2 := chkB_len (u := u) (k := k) hF (i := i) (by omega)
   have hll := hl.length_eq
   rw [List.length_append] at hll
   have hll0 : l.length ≤ 1000 := by omega
   have hB2 : ∀ l' : List Brc, l'.Perm (leftB r u k ++ chkB r u k i ++ toB ((k + 1 : Nat) : Int) ((i + 1 : Nat) : Int) es) → l'.Perm (leftB r u k ++ chkB r u k (i + 1)) := fun l' h => by
    refine h.trans ?_
    rw [List.append_assoc]
    exact .append_left _ (.append_left _ (toB_perm hperm))
   have c8 := (hlow' 308 (by decide) (by decide) (by decide)).trans H8
   have c5 := (hlow' 5 (by decide) (by decide) (by decide)).trans H5
   have c100 := (hlow' 100 (by decide) (by decide) (by decide)).trans H100
   have cA := hA.same (hlow' 6 (by decide) (by decide) (by decide)) (hlow' 355 (by decide) (by decide) (by decide))
   have csame : ∀ j, 200 ≤ j → j < 300 → H3 j = Hs j := fun j h1 h2 => by rw [hlow' j (by omega) (by omega) (by omega)]; exact Hsame j h1 h2
   clear hs hs1 hs2 g10 g10' g33 H8' H5' Hroom' hlow hlow' hcall H8 H5 H100 hA Hsame Hroom
   rcases hres with ⟨rfl, rfl⟩ | ⟨km, em, ver, hkm1, hkm2, rfl, hmap⟩
   ·simp only [g33', go_sem, simprocAttr]
    repeat' (first | (with_reducible refine sk ?_; intro K hK) | ((with_reducible first | refine AW_regN (id := 10) tabOK { base := 300, own := [33, 55], imp := [32] } [] [] (by rw [hXs]; decide +kernel) ?_ | refine AW_regN (id := 11) tabOK { base := 300, own := [33, 55], imp := [32] } [] [] (by rw [hXs]; decide +kernel) ?_ | refine rg (md := { base := 300, own := [33, 55], imp := [32] }) (h := ?_) | refine rgS [5, 6, 8, 10, 13] (md := { base := 300, own := [33, 55], imp := [32] }) (h := ?_) | refine nx ?_); try simp (disch := omega) only [h3, h5, h6, h7, h8, h20, h21, h22,go_sem, simprocAttr]) | (with_reducible refine bk ?_) | ((with_reducible refine' cE ?hv ?_ ?_); (case hv => first | rfl | (simp only [h3, h5, h6, h7, h8, h20, h21, h22,go_sem, simprocAttr]; rfl)); all_goals (intro hc; (try simp only [go_sem, simprocAttr] at hc); try (exfalso; omega))) | with_reducible intro (ep : Nat → Nat) | with_reducible apply_assumption -exfalso -symm only [*])
    refine AW_cut 400 fun H4 hlt4 hge4 => ?_
    generalize hfC : (upd _ _ _ : Fr) = fC
    obtain ⟨e33, t33, t3, t5, t6, t7, t8, t20, t21, t22, T33⟩ : ∃ e33, fC 33 = .itr 333 e33 ∧ fC 3 = .pim (cRules u) ∧ fC 5 = .ptr 5 e5 1 0 0 ∧ fC 6 = .ptr 6 e6 1 0 0 ∧ fC 7 = .int .i64 ((k + 1 : Nat) : Int) ∧ fC 8 = .ptr 308 e8 4 0 0 ∧ fC 20 = .lst 2 chkV ∧ fC 21 = .int .i64 (4 : Nat) ∧ fC 22 = .int .i64 i ∧ H4 333 = some (e33, .nit) :=
     ⟨_, by rw [← hfC]; rfl, by rw [← hfC]; simp only [h3, go_sem, simprocAttr], by rw [← hfC]; simp only [h5, go_sem, simprocAttr], by rw [← hfC]; simp only [h6, go_sem, simprocAttr], by rw [← hfC]; simp only [h7, go_sem, simprocAttr], by rw [← hfC]; simp only [h8, go_sem, simprocAttr], by rw [← hfC]; simp only [h20, go_sem, simprocAttr], by rw [← hfC]; simp only [h21, go_sem, simprocAttr], by rw [← hfC]; simp only [h22, go_sem, simprocAttr], by rw [hlt4 _ (by decide), upd_same]⟩
    have d8 := (hlt4 308 (by decide)).trans ((upd_ne _ _ (by decide)).trans c8)
    have d5 := (hlt4 5 (by decide)).trans ((upd_ne _ _ (by decide)).trans c5)
    have d100 := (hlt4 100 (by decide)).trans ((upd_ne _ _ (by decide)).trans c100)
    have dA := cA.same ((hlt4 6 (by decide)).trans (upd_ne _ _ (by decide))) ((hlt4 355 (by decide)).trans (upd_ne _ _ (by decide)))
    have dsame : ∀ j, 200 ≤ j → j < 300 → H4 j = Hs j := fun j h1 h2 => by rw [hlt4 j (by omega), upd_ne _ _ (by omega)]; exact csame j h1 h2
    clear hfC hlt4
    refine AW_block (AW_loop (fun n f1 H1 => n = 0 ∧ f1 = fC ∧ H1 = H4) 0 ⟨rfl, rfl, rfl⟩ ?_)
    rintro n f1 H1' ⟨rfl, rfl, rfl⟩
    repeat' (first | (with_reducible refine sk ?_; intro K hK) | ((with_reducible first | refine AW_regN (id := 10) tabOK { base := 300, own := [33, 55], imp := [32] } [] [] (by rw [hXs]; decide +kernel) ?_ | refine AW_regN (id := 11) tabOK { base := 300, own := [33, 55], imp := [32] } [] [] (by rw [hXs]; decide +kernel) ?_ | refine rg (md := { base := 300, own := [33, 55], imp := [32] }) (h := ?_) | refine rgS [5, 6, 8, 10, 13] (md := { base := 300, own := [33, 55], imp := [32] }) (h := ?_) | refine nx ?_); try simp (disch := omega) only [t33, T33,go_sem, simprocAttr]) | (with_reducible refine bk ?_) | ((with_reducible refine' cE ?hv ?_ ?_); (case hv => first | rfl | (simp only [t33, T33,go_sem, simprocAttr]; rfl)); all_goals (intro hc; (try simp only [go_sem, simprocAttr] at hc); try (exfalso; omega))) | with_reducible intro (ep : Nat → Nat) | with_reducible apply_assumption -exfalso -symm only [*])
    exact ⟨t22, t21, ⟨t3, t5, t6, t7, t8, t20⟩, d8, d5, d100, fun d hd => hge4 _ (by omega), dsame, l, hB2 l (by simpa [toB] using hl), dA⟩
   ·have n333 : ¬ km = 333 := by omega
    simp only [g33', hmap, n333, go_sem, simprocAttr]
    repeat' (first | (with_reducible refine sk ?_; intro K hK) | ((with_reducible first | refine AW_regN (id := 10) tabOK { base := 300, own := [33, 55], imp := [32] } [] [] (by rw [hXs]; decide +kernel) ?_ | refine AW_regN (id := 11) tabOK { base := 300, own := [33, 55], imp := [32] } [] [] (by rw [hXs]; decide +kernel) ?_ | refine rg (md := { base := 300, own := [33, 55], imp := [32] }) (h := ?_) | refine rgS [5, 6, 8, 10, 13] (md := { base := 300, own := [33, 55], imp := [32] }) (h := ?_) | refine nx ?_); try simp (disch := omega) only [h3, h5, h6, h7, h8, h20, h21, h22,go_sem, simprocAttr]) | (with_reducible refine bk ?_) | ((with_reducible refine' cE ?hv ?_ ?_); (case hv => first | rfl | (simp only [h3, h5, h6, h7, h8, h20, h21, h22,go_sem, simprocAttr]; rfl)); all_goals (intro hc; (try simp only [go_sem, simprocAttr] at hc); try (exfalso; omega))) | with_reducible intro (ep : Nat → Nat) | with_reducible apply_assumption -exfalso -symm only [*])
    refine AW_cut 500 fun H4 hlt4 hge4 => ?_
    generalize hfC : (upd _ _ _ : Fr) = fC
    obtain ⟨e33, e10, t33, t10, t3, t5, t6, t7, t8, t20, t21, t22, T33, d10⟩ : ∃ e33 e10, fC 33 = .itr 333 e33 ∧ fC 10 = .ptr 310 e10 2 0 0 ∧ fC 3 = .pim (cRules u) ∧ fC 5 = .ptr 5 e5 1 0 0 ∧ fC 6 = .ptr 6 e6 1 0 0 ∧ fC 7 = .int .i64 ((k + 1 : Nat) : Int) ∧ fC 8 = .ptr 308 e8 4 0 0 ∧ fC 20 = .lst 2 chkV ∧ fC 21 = .int .i64 (4 : Nat) ∧ fC 22 = .int .i64 i ∧ H4 333 = some (e33, .itr km em ver (List.range es.length) none) ∧ H4 310 = some (e10, .arr 2 [[.int .u8 ((i + 1 : Nat) : Int), .fn g []]]) :=
     ⟨_, _, by rw [← hfC]; rfl, by rw [← hfC]; rfl, by rw [← hfC]; simp only [h3, go_sem, simprocAttr], by rw [← hfC]; simp only [h5, go_sem, simprocAttr], by rw [← hfC]; simp only [h6, go_sem, simprocAttr], by rw [← hfC]; simp only [h7, go_sem, simprocAttr], by rw [← hfC]; simp only [h8, go_sem, simprocAttr], by rw [← hfC]; simp only [h20, go_sem, simprocAttr], by rw [← hfC]; simp only [h21, go_sem, simprocAttr], by rw [← hfC]; simp only [h22, go_sem, simprocAttr], by rw [hlt4 _ (by decide), upd_same], by rw [hlt4 _ (by decide), upd_ne _ _ (by decide), w10]⟩
    have d8 := (hlt4 308 (by decide)).trans ((upd_ne _ _ (by decide)).trans c8)
    have d5 := (hlt4 5 (by decide)).trans ((upd_ne _ _ (by decide)).trans c5)
    have d100 := (hlt4 100 (by decide)).trans ((upd_ne _ _ (by decide)).trans c100)
    have dmap := (hlt4 km (by omega)).trans ((upd_ne _ _ n333).trans hmap)
    have dA := cA.same ((hlt4 6 (by decide)).trans (upd_ne _ _ (by decide))) ((hlt4 355 (by decide)).trans (upd_ne _ _ (by decide)))
    have dsame : ∀ j, 200 ≤ j → j < 300 → H4 j = Hs j := fun j h1 h2 => by rw [hlt4 j (by omega), upd_ne _ _ (by omega)]; exact csame j h1 h2
    have droom : Room H4 1000 100 := fun d hd => hge4 _ (by omega)
    clear hfC hlt4 hge4 c8 c5 c100 cA csame w10 g33' hmap h3 h5 h6 h7 h8 h20 h21 h22
    have n6 : ¬ km = 6 := by omega
    have n313 : ¬ km = 313 := by omega
    have n355 : ¬ km = 355 := by omega
    refine AW_block (AW_loop (fun n f H => ∃ left : List Nat, n = left.length ∧ (∀ p ∈ left, p < es.length) ∧ (f 10 = .ptr 310 e10 2 0 0 ∧ f 3 = .pim (cRules u) ∧ f 5 = .ptr 5 e5 1 0 0 ∧ f 6 = .ptr 6 e6 1 0 0 ∧ f 7 = .int .i64 ((k + 1 : Nat) : Int) ∧ f 8 = .ptr 308 e8 4 0 0 ∧ f 20 = .lst 2 chkV ∧ f 21 = .int .i64 (4 : Nat) ∧ f 22 = .int .i64 i) ∧
      H 310 = some (e10, .arr 2 [[.int .u8 ((i + 1 : Nat) : Int), .fn g []]]) ∧ H 308 = some (e8, .arr 4 [nowV r (k + 1)]) ∧ H 5 = some (e5, .arr 1 [[.pim (fireAt r r.rows.length)]]) ∧ H 100 = LB ∧ H km = some (em, .map ver (imap .i64 es)) ∧ Room H 1000 100 ∧ (∀ j, 200 ≤ j → j < 300 → H j = Hs j) ∧
      ∃ l cur, (l ++ toB ((k + 1 : Nat) : Int) ((i + 1 : Nat) : Int) (lfE es left)).Perm (leftB r u k ++ chkB r u k i ++ toB ((k + 1 : Nat) : Int) ((i + 1 : Nat) : Int) es) ∧ AllL e6 l H ∧ f 33 = .itr 333 e33 ∧ H 333 = some (e33, .itr km em ver left cur)) es.length
     ⟨List.range es.length, by simp, by simp, ⟨t10, t3, t5, t6, t7, t8, t20, t21, t22⟩, d10, d8, d5, d100, dmap, droom, dsame, l, none, by rw [lfE_all]; exact hl.append_right _, dA, t33, T33⟩ ?_)
    clear t10 t3 t5 t6 t7 t8 t20 t21 t22 d10 d8 d5 d100 dmap droom dsame dA t33 T33 hl
    rintro n f H ⟨left, rfl, hmem, ⟨t10, t3, t5, t6, t7, t8, t20, t21, t22⟩, d10, d8, d5, d100, dmap, droom, dsame, l, cur, hl, hA, t33, T33⟩
    repeat' (first | (with_reducible refine sk ?_; intro K hK) | ((with_reducible first | refine AW_regN (id := 10) tabOK { base := 300, own := [33, 55], imp := [32] } [] [] (by rw [hXs]; decide +kernel) ?_ | refine AW_regN (id := 11) tabOK { base := 300, own := [33, 55], imp := [32] } [] [] (by rw [hXs]; decide +kernel) ?_ | refine rg (md := { base := 300, own := [33, 55], imp := [32] }) (h := ?_) | refine rgS [5, 6, 8, 10, 13] (md := { base := 300, own := [33, 55], imp := [32] }) (h := ?_) | refine nx ?_); try simp (disch := omega) only [t33, T33, dmap,go_sem, simprocAttr]) | (with_reducible refine bk ?_) | ((with_reducible refine' cE ?hv ?_ ?_); (case hv => first | rfl | (simp only [t33, T33, dmap,go_sem, simprocAttr]; rfl)); all_goals (intro hc; (try simp only [go_sem, simprocAttr] at hc); try (exfalso; omega))) | with_reducible intro (ep : Nat → Nat) | with_reducible apply_assumption -exfalso -symm only [*])
    refine ⟨fun hlz => ?_, fun p hp a v hav => ?_⟩
    ·subst hlz
     repeat' (first | (with_reducible refine sk ?_; intro K hK) | ((with_reducible first | refine AW_regN (id := 10) tabOK { base := 300, own := [33, 55], imp := [32] } [] [] (by rw [hXs]; decide +kernel) ?_ | refine AW_regN (id := 11) tabOK { base := 300, own := [33, 55], imp := [32] } [] [] (by rw [hXs]; decide +kernel) ?_ | refine rg (md := { base := 300, own := [33, 55], imp := [32] }) (h := ?_) | refine rgS [5, 6, 8, 10, 13] (md := { base := 300, own := [33, 55], imp := [32] }) (h := ?_) | refine nx ?_); try simp (disch := omega) only [t33, T33, dmap,go_sem, simprocAttr]) | (with_reducible refine bk ?_) | ((with_reducible refine' cE ?hv ?_ ?_); (case hv => first | rfl | (simp only [t33, T33, dmap,go_sem, simprocAttr]; rfl)); all_goals (intro hc; (try simp only [go_sem, simprocAttr] at hc); try (exfalso; omega))) | with_reducible intro (ep : Nat → Nat) | with_reducible apply_assumption -exfalso -symm only [*])
     exact ⟨t22, t21, ⟨t3, t5, t6, t7, t8, t20⟩, d8, d5, d100, droom, dsame, l, hB2 l (by simpa [lfE, toB] using hl), hA⟩
    ·obtain ⟨cp, hcp⟩ : ∃ x, es[p]? = some x := ⟨_, List.getElem?_eq_getElem (hmem p hp)⟩
     obtain ⟨kv, hkv, hk0, hk255⟩ := hkn cp (List.mem_of_getElem? hcp)
     obtain ⟨c, v2⟩ := cp
     simp only at hkv
     subst hkv
     have htk := toB_take (m := ((k + 1 : Nat) : Int)) (q := ((i + 1 : Nat) : Int)) hp hcp hl
     have hle := List.length_erase_of_mem hp
     have hpos := List.length_pos_of_mem hp
     rw [hcp] at hav
     simp only [Option.map_some, Option.some.injEq, Prod.mk.injEq] at hav
     obtain ⟨rfl, rfl⟩ := hav
     have hl0 := hl
     refine hK _ _ ?_
     refine AW_lose 313 fun H5 g13 hs5 => ?_
     have x333 := (hs5 333 (by decide)).trans (upd_same _ _ _)
     have x310 := (hs5 310 (by decide)).trans ((upd_ne _ _ (by decide)).trans d10)
     have x308 := (hs5 308 (by decide)).trans ((upd_ne _ _ (by decide)).trans d8)
     have x5 := (hs5 5 (by decide)).trans ((upd_ne _ _ (by decide)).trans d5)
     have x100 := (hs5 100 (by decide)).trans ((upd_ne _ _ (by decide)).trans d100)
     have xmap := (hs5 km n313).trans ((upd_ne _ _ n333).trans dmap)
     have xroom : Room H5 1000 100 := fun d hd => by rw [hs5 _ (by omega), upd_ne _ _ (by omega)]; exact droom d hd
     have xsame : ∀ j, 200 ≤ j → j < 300 → H5 j = Hs j := fun j h1 h2 => by rw [hs5 _ (by omega), upd_ne _ _ (by omega)]; exact dsame j h1 h2
     have xA := hA.same ((hs5 6 (by decide)).trans (upd_ne _ _ (by decide))) ((hs5 355 (by decide)).trans (upd_ne _ _ (by decide)))
     clear hs5 d10 d8 d5 d100 dmap droom dsame hA T33 hl
     have hlb : l.length + 1 ≤ 1073741824 := by
      have := hl0.length_eq
      simp only [List.length_append] at this
      have h3 : (toB ((k + 1 : Nat) : Int) ((i + 1 : Nat) : Int) es).length ≤ 8 := Nat.le_trans (toB_len _) hel
      omega
     rcases xA with ⟨rfl, x6⟩ | ⟨hlne, ea, x6, x355⟩
     ·repeat' (first | (with_reducible refine sk ?_; intro K hK) | ((with_reducible first | refine AW_regN (id := 10) tabOK { base := 300, own := [33, 55], imp := [32] } [] [] (by rw [hXs]; decide +kernel) ?_ | refine AW_regN (id := 11) tabOK { base := 300, own := [33, 55], imp := [32] } [] [] (by rw [hXs]; decide +kernel) ?_ | refine rg (md := { base := 300, own := [33, 55], imp := [32] }) (h := ?_) | refine rgS [5, 6, 8, 10, 13] (md := { base := 300, own := [33, 55], imp := [32] }) (h := ?_) | refine nx ?_); try simp (disch := omega) only [t33, t10, t7, t6, x333, x310, xmap, x6, hcp, g13,go_sem, simprocAttr]) | (with_reducible refine bk ?_) | ((with_reducible refine' cE ?hv ?_ ?_); (case hv => first | rfl | (simp only [t33, t10, t7, t6, x333, x310, xmap, x6, hcp, g13,go_sem, simprocAttr]; rfl)); all_goals (intro hc; (try simp only [go_sem, simprocAttr] at hc); try (exfalso; omega))) | with_reducible intro (ep : Nat → Nat) | with_reducible apply_assumption -exfalso -symm only [*])
      refine ⟨_, _, rfl, ?_⟩
      repeat' (first | (with_reducible refine sk ?_; intro K hK) | ((with_reducible first | refine AW_regN (id := 10) tabOK { base := 300, own := [33, 55], imp := [32] } [] [] (by rw [hXs]; decide +kernel) ?_ | refine AW_regN (id := 11) tabOK { base := 300, own := [33, 55], imp := [32] } [] [] (by rw [hXs]; decide +kernel) ?_ | refine rg (md := { base := 300, own := [33, 55], imp := [32] }) (h := ?_) | refine rgS [5, 6, 8, 10, 13] (md := { base := 300, own := [33, 55], imp := [32] }) (h := ?_) | refine nx ?_); try simp (disch := omega) only [t33, t10, t7, t6, x333, x310, xmap, x6, hcp, g13, n6, n313, n355, kn,go_sem, simprocAttr]) | (with_reducible refine bk ?_) | ((with_reducible refine' cE ?hv ?_ ?_); (case hv => first | rfl | (simp only [t33, t10, t7, t6, x333, x310, xmap, x6, hcp, g13, n6, n313, n355, kn,go_sem, simprocAttr]; rfl)); all_goals (intro hc; (try simp only [go_sem, simprocAttr] at hc); try (exfalso; omega))) | with_reducible intro (ep : Nat → Nat) | with_reducible apply_assumption -exfalso -symm only [*])
      ·exact ⟨(left.erase p).length, by omega, left.erase p, rfl, fun q hq => hmem q (List.mem_of_mem_erase hq), ⟨t3, t5, t8, t20, t21, t22⟩, x308, x5, x100, fun d hd => by rw [upd_ne _ _ (by omega), upd_ne _ _ (by omega), upd_ne _ _ (by omega), upd_ne _ _ (by omega)]; exact xroom d hd, fun j h1 h2 => by rw [if_neg (by omega), if_neg (by omega), if_neg (by omega), if_neg (by omega)]; exact xsame j h1 h2, [⟨((k + 1 : Nat) : Int), ((i + 1 : Nat) : Int), c, kv⟩], some p, by have h := htk; rw [oneB, if_neg (by simpa using hc)] at h; exact h, .inr ⟨by simp, _, rfl, rfl⟩, rfl⟩
      ·exact ⟨(left.erase p).length, by omega, left.erase p, rfl, fun q hq => hmem q (List.mem_of_mem_erase hq), ⟨t3, t5, t8, t20, t21, t22⟩, x308, x5, x100, fun d hd => by rw [upd_ne _ _ (by omega), upd_ne _ _ (by omega)]; exact xroom d hd, fun j h1 h2 => by rw [if_neg (by omega), if_neg (by omega)]; exact xsame j h1 h2, [], some p, by have h := htk; rw [oneB, if_pos (by simpa using hc), List.append_nil] at h; exact h, .inl ⟨rfl, by rw [upd_ne _ _ (by decide), upd_ne _ _ (by decide)]; exact x6⟩, rfl⟩
     ·repeat' (first | (with_reducible refine sk ?_; intro K hK) | ((with_reducible first | refine AW_regN (id := 10) tabOK { base := 300, own := [33, 55], imp := [32] } [] [] (by rw [hXs]; decide +kernel) ?_ | refine AW_regN (id := 11) tabOK { base := 300, own := [33, 55], imp := [32] } [] [] (by rw [hXs]; decide +kernel) ?_ | refine rg (md := { base := 300, own := [33, 55], imp := [32] }) (h := ?_) | refine rgS [5, 6, 8, 10, 13] (md := { base := 300, own := [33, 55], imp := [32] }) (h := ?_) | refine nx ?_); try simp (disch := omega) only [t33, t10, t7, t6, x333, x310, xmap, x6, x355, hcp, g13,go_sem, simprocAttr]) | (with_reducible refine bk ?_) | ((with_reducible refine' cE ?hv ?_ ?_); (case hv => first | rfl | (simp only [t33, t10, t7, t6, x333, x310, xmap, x6, x355, hcp, g13,go_sem, simprocAttr]; rfl)); all_goals (intro hc; (try simp only [go_sem, simprocAttr] at hc); try (exfalso; omega))) | with_reducible intro (ep : Nat → Nat) | with_reducible apply_assumption -exfalso -symm only [*])
      refine ⟨_, _, rfl, ?_⟩
      repeat' (first | (with_reducible refine sk ?_; intro K hK) | ((with_reducible first | refine AW_regN (id := 10) tabOK { base := 300, own := [33, 55], imp := [32] } [] [] (by rw [hXs]; decide +kernel) ?_ | refine AW_regN (id := 11) tabOK { base := 300, own := [33, 55], imp := [32] } [] [] (by rw [hXs]; decide +kernel) ?_ | refine rg (md := { base := 300, own := [33, 55], imp := [32] }) (h := ?_) | refine rgS [5, 6, 8, 10, 13] (md := { base := 300, own := [33, 55], imp := [32] }) (h := ?_) | refine nx ?_); try simp (disch := omega) only [t33, t10, t7, t6, x333, x310, xmap, x6, x355, hcp, g13, hlb, n6, n313, n355, kn,go_sem, simprocAttr]) | (with_reducible refine bk ?_) | ((with_reducible refine' cE ?hv ?_ ?_); (case hv => first | rfl | (simp only [t33, t10, t7, t6, x333, x310, xmap, x6, x355, hcp, g13, hlb, n6, n313, n355, kn,go_sem, simprocAttr]; rfl)); all_goals (intro hc; (try simp only [go_sem, simprocAttr] at hc); try (exfalso; omega))) | with_reducible intro (ep : Nat → Nat) | with_reducible apply_assumption -exfalso -symm only [*])
      ·exact ⟨(left.erase p).length, by omega, left.erase p, rfl, fun q hq => hmem q (List.mem_of_mem_erase hq), ⟨t3, t5, t8, t20, t21, t22⟩, x308, x5, x100, fun d hd => by rw [upd_ne _ _ (by omega), upd_ne _ _ (by omega), upd_ne _ _ (by omega), upd_ne _ _ (by omega)]; exact xroom d hd, fun j h1 h2 => by rw [if_neg (by omega), if_neg (by omega), if_neg (by omega), if_neg (by omega)]; exact xsame j h1 h2, l ++ [⟨((k + 1 : Nat) : Int), ((i + 1 : Nat) : Int), c, kv⟩], some p, by have h := htk; rw [oneB, if_neg (by simpa using hc)] at h; exact h, .inr ⟨by simp, _, by rw [List.length_append]; rfl, by rw [List.map_append]; rfl⟩, rfl⟩
      ·exact ⟨(left.erase p).length, by omega, left.erase p, rfl, fun q hq => hmem q (List.mem_of_mem_erase hq), ⟨t3, t5, t8, t20, t21, t22⟩, x308, x5, x100, fun d hd => by rw [upd_ne _ _ (by omega), upd_ne _ _ (by omega)]; exact xroom d hd, fun j h1 h2 => by rw [if_neg (by omega), if_neg (by omega)]; exact xsame j h1 h2, l, some p, by have h := htk; rw [oneB, if_pos (by simpa using hc), List.append_nil] at h; exact h, .inr ⟨hlne, _, by rw [upd_ne _ _ (by decide), upd_ne _ _ (by decide)]; exact x6, by rw [upd_ne _ _ (by decide), upd_ne _ _ (by decide)]; exact x355⟩, rfl⟩
  ·rintro f H h22 h21 ⟨⟨h3, h5, h6, h7, h8, h20⟩, H8, H5, H100, Hroom, Hsame, l, hl, hA⟩
   refine ⟨_, _, _, _, _, _, by rw [H100, ← hLB], ?_⟩
   refine ⟨rfl, ⟨by rw [upd_ne _ _ (by decide), H5], upd_same _ _ _, fun d hd => by rw [upd_ne _ _ (by omega)]; exact Hroom d hd, l, ?_, hA.same (upd_ne _ _ (by decide)) (upd_ne _ _ (by decide))⟩, fun j h1 h2 => by rw [upd_ne _ _ (by omega)]; exact Hsame j h1 h2⟩
   rw [chkB_all] at hl
   exact hl
 ·rintro v H' ⟨p5, p100, proom, l, hl, hA⟩
  subst hL
  refine ⟨_, _, _, _, _, _, p100, by simp, ?_⟩
  have hXs : X.sz = 60 := hXs0
  have hA' : AllL e6 l (upd H' 100 none) := hA.same (upd_ne _ _ (by decide)) (upd_ne _ _ (by decide))
  generalize upd H' 100 none = H2 at hA'
  clear hA p5 p100 proom
  have hkd : ∀ b ∈ l, 0 ≤ b.kind ∧ b.kind ≤ 255 := fun b hb => leftS_kind (hl.mem_iff.1 hb)
  rcases hA' with ⟨rfl, x6⟩ | ⟨hlne, ea, x6, x355⟩
  ·have hS : leftS r u = [] := hl.symm.eq_nil
   rw [hS]
   repeat' (first | (with_reducible refine sk ?_; intro K hK) | ((first | (with_reducible first | refine AW_regN (id := 10) tabOK { base := 0, own := [], imp := [58] } [] [] (by rw [hXs]; decide +kernel) ?_ | refine AW_regN (id := 11) tabOK { base := 0, own := [], imp := [58] } [] [] (by rw [hXs]; decide +kernel) ?_ | refine rg (md := { base := 0, own := [], imp := [58] }) (h := ?_) | refine rgS [5, 6, 8, 10, 13] (md := { base := 0, own := [], imp := [58] }) (h := ?_) | refine nx ?_) | refine pK (brSort0 _ _) ?_); try simp (disch := omega) only [g6, x6,go_sem, simprocAttr]) | (with_reducible refine bk ?_) | ((with_reducible refine' cE ?hv ?_ ?_); (case hv => first | rfl | (simp only [g6, x6,go_sem, simprocAttr]; rfl)); all_goals (intro hc; (try simp only [go_sem, simprocAttr] at hc); try (exfalso; omega))) | (first | refine iK (brSort0 _ _) ?_) | with_reducible intro (ep : Nat → Nat) | with_reducible apply_assumption -exfalso -symm only [*])
   rintro v H3 rfl
   simp only [go_sem, simprocAttr]
   repeat' (first | (with_reducible refine sk ?_; intro K hK) | ((with_reducible first | refine AW_regN (id := 10) tabOK { base := 0, own := [], imp := [58] } [] [] (by rw [hXs]; decide +kernel) ?_ | refine AW_regN (id := 11) tabOK { base := 0, own := [], imp := [58] } [] [] (by rw [hXs]; decide +kernel) ?_ | refine rg (md := { base := 0, own := [], imp := [58] }) (h := ?_) | refine rgS [5, 6, 8, 10, 13] (md := { base := 0, own := [], imp := [58] }) (h := ?_) | refine nx ?_); try simp (disch := omega) only [g6, x6,go_sem, simprocAttr]) | (with_reducible refine bk ?_) | ((with_reducible refine' cE ?hv ?_ ?_); (case hv => first | rfl | (simp only [g6, x6,go_sem, simprocAttr]; rfl)); all_goals (intro hc; (try simp only [go_sem, simprocAttr] at hc); try (exfalso; omega))) | ((with_reducible refine fe ?_); refine ⟨_, (by simp only [Try.f57, g6, x6,go_sem, simprocAttr]; rfl), ?_⟩; first | rfl | (try simp only [g6, x6,go_sem, simprocAttr, seval])) | with_reducible intro (ep : Nat → Nat) | with_reducible apply_assumption -exfalso -symm only [*])
   rw [lftV, if_pos hS]
  ·have hlen := hl.length_eq
   have hb := leftB_len (u := u) hF r.rows.length
   repeat' (first | (with_reducible refine sk ?_; intro K hK) | ((first | (with_reducible first | refine AW_regN (id := 10) tabOK { base := 0, own := [], imp := [58] } [] [] (by rw [hXs]; decide +kernel) ?_ | refine AW_regN (id := 11) tabOK { base := 0, own := [], imp := [58] } [] [] (by rw [hXs]; decide +kernel) ?_ | refine rg (md := { base := 0, own := [], imp := [58] }) (h := ?_) | refine rgS [5, 6, 8, 10, 13] (md := { base := 0, own := [], imp := [58] }) (h := ?_) | refine nx ?_) | refine pK (brSort _ 355 ea l.length l hkd x355 rfl (by omega)) ?_); try simp (disch := omega) only [g6, x6,go_sem, simprocAttr]) | (with_reducible refine bk ?_) | ((with_reducible refine' cE ?hv ?_ ?_); (case hv => first | rfl | (simp only [g6, x6,go_sem, simprocAttr]; rfl)); all_goals (intro hc; (try simp only [go_sem, simprocAttr] at hc); try (exfalso; omega))) | (first | refine iK (brSort _ 355 ea l.length l hkd x355 rfl (by omega)) ?_) | with_reducible intro (ep : Nat → Nat) | with_reducible apply_assumption -exfalso -symm only [*])
   rintro v H3 ⟨l', hp, hs, rfl⟩
   have hS : l' = leftS r u := sorted_uniq _ _ (hp.trans hl) (leftB_pair hF) hs
   have hne : leftS r u ≠ [] := fun e => by
    rw [← hS] at e; subst e; exact hlne hp.symm.eq_nil
   have hll : l.length = (leftS r u).length := by rw [← hS]; exact hp.length_eq.symm
   rw [hll] at x6
   subst hS
   simp only [go_sem, simprocAttr]
   repeat' (first | (with_reducible refine sk ?_; intro K hK) | ((with_reducible first | refine AW_regN (id := 10) tabOK { base := 0, own := [], imp := [58] } [] [] (by rw [hXs]; decide +kernel) ?_ | refine AW_regN (id := 11) tabOK { base := 0, own := [], imp := [58] } [] [] (by rw [hXs]; decide +kernel) ?_ | refine rg (md := { base := 0, own := [], imp := [58] }) (h := ?_) | refine rgS [5, 6, 8, 10, 13] (md := { base := 0, own := [], imp := [58] }) (h := ?_) | refine nx ?_); try simp (disch := omega) only [g6, x6, x355,go_sem, simprocAttr]) | (with_reducible refine bk ?_) | ((with_reducible refine' cE ?hv ?_ ?_); (case hv => first | rfl | (simp only [g6, x6, x355,go_sem, simprocAttr]; rfl)); all_goals (intro hc; (try simp only [go_sem, simprocAttr] at hc); try (exfalso; omega))) | with_reducible intro (ep : Nat → Nat) | with_reducible apply_assumption -exfalso -symm only [*])
   refine FnP_frz 355 (Or.inl rfl) (by simp only [go_sem, simprocAttr]; rfl) ⟨_, (by simp only [Try.f57, go_sem, simprocAttr]; rfl), ?_⟩
   rw [lftV, if_neg hne]
   simp only [go_sem, simprocAttr]
end Cp
namespace Cp
open Go Go.Proofs
set_option maxRecDepth 10000
set_option maxHeartbeats 4000000
end Cp
namespace Cp
open Go Go.Proofs
set_option maxRecDepth 10000
set_option maxHeartbeats 4000000
theorem check0 {r : RunT} {u : RulesT} (h : checkE r u = 0) : runOK r = true ∧ rulesOK u = true := by
 unfold checkE at h
 split at h
 ·split at h
  ·rename_i h1 h2; exact ⟨h1, h2⟩
  ·omega
 ·omega
theorem leftl_ok (r : RunT) (hF : RunF r) (u : RulesT) (hU : RulesF u) : PureC Try.prog 57 [encRun r, encRules u] (.lst 4 ((leftS r u).map cBrc)) := by
 refine (left_ok r hF u hU).weak (by simp only [noid, cBrc_noid]) fun G w x h => ?_
 unfold lftV at h
 split at h
 ·rename_i he; rw [he]; exact h.nils_lst _
 ·exact h
def leftT (r : RunT) (u : RulesT) : Val := if checkE r u = 0 then .tup [.lst 4 ((leftS r u).map cBrc), .int .i64 0] else .tup [.lst 4 [], .int .i64 (checkE r u)]
theorem Left_ok (r : RunT) (u : RulesT) (hb : RunB r) (hu : RulesB u) : PureC Try.prog 25 [encRun r, encRules u] (leftT r u) := by
 by_cases hc0 : checkE r u = 0
 ·obtain ⟨h1, h2⟩ := check0 hc0
  rw [leftT, if_pos hc0]
  refine PureC_of (fn := Try.f25) tabOK (by kernel_rfl) rfl (by kernel_rfl) (by simp [Try.f25]) (by simp [noids, noid, noidss, go_sem, encRun, cRun, encRules, cRules]) (by first | rfl | simp [noids, noid, noidss, go_sem, encRun, cRun, encRules, cRules]) ?_
  intro X hX0 hXs
  repeat' (first | (with_reducible refine sk ?_; intro K hK) | ((first | (with_reducible first | refine rg (h := ?_) | refine nx ?_) | refine pK (check_ok r u hb hu) ?_ | refine pK (leftl_ok r (run_facts h1) u (rules_facts h2)) ?_); try simp (disch := omega) only [encRun, cRun, encRules, cRules, hc0,go_sem, simprocAttr]) | (with_reducible refine bk ?_) | ((with_reducible refine' cE ?hv ?_ ?_); (case hv => first | rfl | (simp only [encRun, cRun, encRules, cRules, hc0,go_sem, simprocAttr]; rfl)); all_goals (intro hc; (try simp only [go_sem, simprocAttr] at hc); try (exfalso; omega))) | ((with_reducible refine fe ?_); refine ⟨_, (by simp only [Try.f25, encRun, cRun, encRules, cRules, hc0,go_sem, simprocAttr]; rfl), ?_⟩; first | rfl | (try simp only [encRun, cRun, encRules, cRules, hc0,go_sem, simprocAttr, seval])) | with_reducible intro (ep : Nat → Nat) | with_reducible apply_assumption -exfalso -symm only [*])
 ·rw [leftT, if_neg hc0]
  refine PureC.weak (v := .tup [.nils, .int .i64 (checkE r u)]) ?_ rfl fun G w x h => h.tup_nils
  refine PureC_of (fn := Try.f25) tabOK (by kernel_rfl) rfl (by kernel_rfl) (by simp [Try.f25]) (by simp [noids, noid, noidss, go_sem, encRun, cRun, encRules, cRules]) (by first | rfl | simp [noids, noid, noidss, go_sem, encRun, cRun, encRules, cRules]) ?_
  intro X hX0 hXs
  repeat' (first | (with_reducible refine sk ?_; intro K hK) | ((first | (with_reducible first | refine rg (h := ?_) | refine nx ?_) | refine pK (check_ok r u hb hu) ?_); try simp (disch := omega) only [encRun, cRun, encRules, cRules, hc0,go_sem, simprocAttr]) | (with_reducible refine bk ?_) | ((with_reducible refine' cE ?hv ?_ ?_); (case hv => first | rfl | (simp only [encRun, cRun, encRules, cRules, hc0,go_sem, simprocAttr]; rfl)); all_goals (intro hc; (try simp only [go_sem, simprocAttr] at hc); try (exfalso; omega))) | ((with_reducible refine fe ?_); refine ⟨_, (by simp only [Try.f25, encRun, cRun, encRules, cRules, hc0,go_sem, simprocAttr]; rfl), ?_⟩; first | rfl | (try simp only [encRun, cRun, encRules, cRules, hc0,go_sem, simprocAttr, seval])) | with_reducible intro (ep : Nat → Nat) | with_reducible apply_assumption -exfalso -symm only [*])
end Cp
namespace Cp
open Go Go.Proofs
set_option maxRecDepth 10000
set_option maxHeartbeats 4000000
end Cp
namespace Cp
open Go Go.Proofs
set_option maxRecDepth 10000
set_option maxHeartbeats 4000000
def c32 (m : Int) : List Val := [.int .u32 m]
@[go_sem] theorem c32_noid {l : List Int} : noidss (l.map c32) = true := noidss_map fun _ => rfl
end Cp
namespace Cp
open Go
theorem fit_map {α : Type} {c : α → List Val} : ∀ {xss : List (List Val)}, (∀ es ∈ xss, ∃ x, es = c x) → ∃ l : List α, xss = l.map c
 | [], _ => ⟨[], rfl⟩
 | es :: xss, h => by
  obtain ⟨x, rfl⟩ := h es (by simp)
  obtain ⟨l, rfl⟩ := fit_map fun es he => h es (List.mem_cons_of_mem _ he)
  exact ⟨x :: l, rfl⟩
theorem fit_slice {T : Tab} {n : Nat} {t e sz : Nat} {vs : List Val} {b b2 s1 : Nat} {z z2 : Val} {p p2 : Bool} {k2 : TK} {α : Type} {c : α → List Val} (ht : T t = some { kind := .slice e, sz := s1, bytes := b, zero := z, plain := p })
  (he : T e = some { kind := k2, sz := sz, bytes := b2, zero := z2, plain := p2 }) (h : Fit T (n + 1) t vs) (hc : ∀ es, Fit T n e es → ∃ x, es = c x) : ∃ l : List α, vs = [.lst sz (l.map c)] := by
 simp only [Fit, ht] at h
 obtain ⟨sz', xss, rfl, hs, _, hx⟩ := h
 rw [he] at hs
 cases hs
 obtain ⟨l, rfl⟩ := fit_map (c := c) fun es hes => hc es (hx es hes).2
 exact ⟨l, rfl⟩
theorem fit_struct {T : Tab} {n : Nat} {t sz : Nat} {vs : List Val} {b : Nat} {z : Val} {p : Bool} {fs : List (Nat × Nat)} (ht : T t = some { kind := .struct fs, sz := sz, bytes := b, zero := z, plain := p }) (h : Fit T (n + 1) t vs) :
  vs.length = sz ∧ ∀ q ∈ fs, ∃ fi, T q.2 = some fi ∧ Fit T n q.2 ((vs.drop q.1).take fi.sz) := by
 simp only [Fit, ht] at h
 exact h
theorem fit_int {T : Tab} {n : Nat} {t : Nat} {vs : List Val} {s b : Nat} {z : Val} {p : Bool} {k : IntKind} (ht : T t = some { kind := .int k, sz := s, bytes := b, zero := z, plain := p }) (h : Fit T (n + 1) t vs) : ∃ m, vs = [.int k m] ∧ (Lit.int k m).wf = true := by
 simp only [Fit, ht] at h
 exact h
theorem fit3 {n : Nat} {vs : List Val} (h : Fit tab (n + 1) 3 vs) : ∃ m, vs = [.int .i64 m] := by
 obtain ⟨m, h, _⟩ := fit_int tab_3 h; exact ⟨m, h⟩
theorem fit_ints {n : Nat} {vs : List Val} {t b s1 : Nat} {z : Val} {p : Bool} (ht : tab t = some { kind := .slice 3, sz := s1, bytes := b, zero := z, plain := p }) (h : Fit tab (n + 2) t vs) : ∃ l : List Int, vs = [.lst 1 (ints l)] := by
 obtain ⟨l, rfl⟩ := fit_slice (c := fun m : Int => [Val.int .i64 m]) ht tab_3 h fun es he => fit3 he
 exact ⟨l, rfl⟩
theorem fit_two {n : Nat} {vs : List Val} {t b : Nat} {z : Val} {p : Bool} (ht : tab t = some { kind := .struct [(0, 3), (1, 3)], sz := 2, bytes := b, zero := z, plain := p }) (h : Fit tab (n + 2) t vs) : ∃ x y : Int, vs = [.int .i64 x, .int .i64 y] := by
 obtain ⟨hl, hq⟩ := fit_struct ht h
 match vs, hl with
 | [a, b], _ =>
  obtain ⟨fi, e, h0⟩ := hq (0, 3) (by simp)
  rw [tab_3] at e; cases e
  obtain ⟨fi, e, h1⟩ := hq (1, 3) (by simp)
  rw [tab_3] at e; cases e
  obtain ⟨x, hx⟩ := fit3 h0
  obtain ⟨y, hy⟩ := fit3 h1
  simp at hx hy
  exact ⟨x, y, by rw [hx, hy]⟩
theorem fit_span {n : Nat} {vs : List Val} (h : Fit tab (n + 2) 26 vs) : ∃ s : Span, vs = [.int .i64 s.lo, .int .i64 s.hi] := by
 obtain ⟨x, y, h⟩ := fit_two tab_26 h; exact ⟨⟨x, y⟩, h⟩
theorem fit_pt {n : Nat} {vs : List Val} (h : Fit tab (n + 2) 93 vs) : ∃ x : Pt, vs = cPt x := by
 obtain ⟨x, y, h⟩ := fit_two tab_93 h; exact ⟨⟨x, y⟩, h⟩
theorem fit_step {n : Nat} {vs : List Val} (h : Fit tab (n + 2) 85 vs) : ∃ x : StepT, vs = cStep x := by
 obtain ⟨x, y, h⟩ := fit_two tab_85 h; exact ⟨⟨x, y⟩, h⟩
theorem fit_cpl {n : Nat} {vs : List Val} (h : Fit tab (n + 3) 76 vs) : ∃ x : Cpl, vs = cCpl x := by
 obtain ⟨hl, hq⟩ := fit_struct tab_76 h
 match vs, hl with
 | [a, b, c, d, e, f], _ =>
  obtain ⟨fi, e0, h0⟩ := hq (0, 3) (by simp)
  rw [tab_3] at e0; cases e0
  obtain ⟨fi, e1, h1⟩ := hq (1, 26) (by simp)
  rw [tab_26] at e1; cases e1
  obtain ⟨fi, e2, h2⟩ := hq (3, 26) (by simp)
  rw [tab_26] at e2; cases e2
  obtain ⟨fi, e3, h3⟩ := hq (5, 3) (by simp)
  rw [tab_3] at e3; cases e3
  obtain ⟨x0, h0⟩ := fit3 h0
  obtain ⟨x1, h1⟩ := fit_span h1
  obtain ⟨x2, h2⟩ := fit_span h2
  obtain ⟨x3, h3⟩ := fit3 h3
  simp at h0 h1 h2 h3
  obtain ⟨h1, h1'⟩ := h1
  obtain ⟨h2, h2'⟩ := h2
  exact ⟨⟨x0, x1, x2, x3⟩, by rw [h0, h1, h1', h2, h2', h3]; rfl⟩
theorem fit_row {n : Nat} {vs : List Val} (h : Fit tab (n + 3) 89 vs) : ∃ x : RowT, vs = cRow x := by
 obtain ⟨hl, hq⟩ := fit_struct tab_89 h
 match vs, hl with
 | [a, b], _ =>
  obtain ⟨fi, e0, h0⟩ := hq (0, 87) (by simp)
  rw [tab_87] at e0; cases e0
  obtain ⟨fi, e1, h1⟩ := hq (1, 3) (by simp)
  rw [tab_3] at e1; cases e1
  obtain ⟨x0, h0⟩ := fit_ints tab_87 h0
  obtain ⟨x1, h1⟩ := fit3 h1
  simp at h0 h1
  exact ⟨⟨x0, x1⟩, by rw [h0, h1]; rfl⟩
theorem fit_pts {n : Nat} {vs : List Val} (h : Fit tab (n + 3) 22 vs) : ∃ l : List Pt, vs = [.lst 2 (l.map cPt)] := fit_slice tab_22 tab_93 h fun es he => fit_pt he
theorem fit_run {n : Nat} {vs : List Val} (h : Fit tab (n + 5) 28 vs) : ∃ r : RunT, vs = cRun r := by
 obtain ⟨hl, hq⟩ := fit_struct tab_28 h
 match vs, hl with
 | [a, b, c, d, e, f], _ =>
  obtain ⟨fi, e0, h0⟩ := hq (0, 3) (by simp)
  rw [tab_3] at e0; cases e0
  obtain ⟨fi, e1, h1⟩ := hq (1, 22) (by simp)
  rw [tab_22] at e1; cases e1
  obtain ⟨fi, e2, h2⟩ := hq (2, 23) (by simp)
  rw [tab_23] at e2; cases e2
  obtain ⟨fi, e3, h3⟩ := hq (3, 24) (by simp)
  rw [tab_24] at e3; cases e3
  obtain ⟨fi, e4, h4⟩ := hq (4, 26) (by simp)
  rw [tab_26] at e4; cases e4
  obtain ⟨x0, h0⟩ := fit3 h0
  obtain ⟨x1, h1⟩ := fit_pts h1
  obtain ⟨x2, h2⟩ := fit_slice tab_23 tab_76 h2 fun es he => fit_cpl he
  obtain ⟨x3, h3⟩ := fit_slice tab_24 tab_89 h3 fun es he => fit_row he
  obtain ⟨x4, h4⟩ := fit_span h4
  simp at h0 h1 h2 h3 h4
  obtain ⟨h4, h4'⟩ := h4
  exact ⟨⟨x0, x1, x2, x3, x4⟩, by rw [h0, h1, h2, h3, h4, h4']; rfl⟩
theorem fit_rules {n : Nat} {vs : List Val} (h : Fit tab (n + 5) 31 vs) : ∃ u : RulesT, vs = cRules u := by
 obtain ⟨hl, hq⟩ := fit_struct tab_31 h
 match vs, hl with
 | [a, b, c, d, e, f], _ =>
  obtain ⟨fi, e0, h0⟩ := hq (0, 29) (by simp)
  rw [tab_29] at e0; cases e0
  obtain ⟨fi, e1, h1⟩ := hq (1, 3) (by simp)
  rw [tab_3] at e1; cases e1
  obtain ⟨fi, e2, h2⟩ := hq (2, 3) (by simp)
  rw [tab_3] at e2; cases e2
  obtain ⟨fi, e3, h3⟩ := hq (3, 26) (by simp)
  rw [tab_26] at e3; cases e3
  obtain ⟨fi, e4, h4⟩ := hq (5, 3) (by simp)
  rw [tab_3] at e4; cases e4
  obtain ⟨x0, h0⟩ := fit_slice tab_29 tab_85 h0 fun es he => fit_step he
  obtain ⟨x1, h1⟩ := fit3 h1
  obtain ⟨x2, h2⟩ := fit3 h2
  obtain ⟨x3, h3⟩ := fit_span h3
  obtain ⟨x4, h4⟩ := fit3 h4
  simp at h0 h1 h2 h3 h4
  obtain ⟨h3, h3'⟩ := h3
  exact ⟨⟨x0, x1, x2, x3, x4⟩, by rw [h0, h1, h2, h3, h3', h4]; rfl⟩
theorem arg_run {a : Val} (h : FitV tab 8 28 a) : ∃ r : RunT, a = encRun r := by
 obtain ⟨ti, cs, e, h, _, rfl⟩ := h
 obtain ⟨l, rfl⟩ := fit_run h
 rw [tab_28] at e; cases e; exact ⟨l, rfl⟩
theorem arg_rules {a : Val} (h : FitV tab 8 31 a) : ∃ r : RulesT, a = encRules r := by
 obtain ⟨ti, cs, e, h, _, rfl⟩ := h
 obtain ⟨l, rfl⟩ := fit_rules h
 rw [tab_31] at e; cases e; exact ⟨l, rfl⟩
end Cp
namespace Cp
open Go Go.Proofs
set_option maxRecDepth 10000
set_option maxHeartbeats 4000000
end Cp
namespace Cp
open Go Go.Proofs
set_option maxRecDepth 10000
set_option maxHeartbeats 4000000
theorem findB_mem {b : Brc} {v : Brc → Val} : ∀ {l : List Brc} {i : Nat}, (∃ x ∈ l, sameL b x) → ∃ (j : Nat) (x : Brc), findB b v l i = some (j, v x)
 | [], i, h => by obtain ⟨x, hx, _⟩ := h; simp at hx
 | y :: l, i, h => by
  simp only [findB]
  by_cases hs : sameL b y
  ·rw [if_pos hs]; exact ⟨_, _, rfl⟩
  ·rw [if_neg hs]
   refine findB_mem (l := l) ?_
   obtain ⟨x, hx, h2⟩ := h
   rcases List.mem_cons.1 hx with rfl | hx
   ·exact absurd h2 hs
   ·exact ⟨x, hx, h2⟩
theorem kmap_get {v : Brc → Val} {l : List Brc} {i : Nat} : (kmap v l)[i]? = (l[i]?).map fun b => (limK b, v b) := by simp [kmap]
theorem kmap_len {v : Brc → Val} {l : List Brc} : (kmap v l).length = l.length := by simp [kmap]
end Cp
namespace Cp
open Go
def P0 : Int → Int → Int := fun _ _ => 0
def P1 : Int → Int → Int := fun _ _ => 1000
def EndsL (l b0 b1 : List Brc) : Prop := ∀ a ∈ l, (∃ b ∈ b0, sameL a b) ∨ ∃ b ∈ b1, sameL a b
theorem EndsL.app {l l' a b a' b' : List Brc} (h1 : EndsL l a b) (h2 : EndsL l' a' b') : EndsL (l ++ l') (a ++ a') (b ++ b') := fun x hx => by
 rcases List.mem_append.1 hx with hx | hx
 ·rcases h1 x hx with ⟨y, h3, h4⟩ | ⟨y, h3, h4⟩
  ·exact .inl ⟨y, List.mem_append_left _ h3, h4⟩
  ·exact .inr ⟨y, List.mem_append_left _ h3, h4⟩
 ·rcases h2 x hx with ⟨y, h3, h4⟩ | ⟨y, h3, h4⟩
  ·exact .inl ⟨y, List.mem_append_right _ h3, h4⟩
  ·exact .inr ⟨y, List.mem_append_right _ h3, h4⟩
theorem EndsL.nil {b0 b1 : List Brc} : EndsL [] b0 b1 := fun a h => by simp at h
theorem ends_one {m q c n k : Int} {x y : Bool} (h : n ≠ 0 → x = true ∨ y = true) : EndsL (oneB m q c n) (if x = true then [⟨m, q, c, k⟩] else []) (if y = true then [⟨m, q, c, k⟩] else []) := fun a ha => by
 obtain ⟨rfl, hn⟩ := oneB_mem ha
 rcases h hn with h | h
 ·exact .inl ⟨⟨m, q, c, k⟩, by rw [if_pos h]; simp, rfl, rfl, rfl⟩
 ·exact .inr ⟨⟨m, q, c, k⟩, by rw [if_pos h]; simp, rfl, rfl, rfl⟩
section
variable {r : RunT} {u : RulesT}
theorem allP_0 {m : Int} : ∀ {l : List Nat}, allP r P0 m l = sumLo r m l * 1000
 | [] => by simp [allP, sumLo]
 | i :: l => by
  simp only [allP, sumLo, allP_0 (l := l)]
  cases r.cpls[i]? with
  | none => simp only; omega
  | some c => simp only [P0, atP_0]; omega
theorem allP_1 {m : Int} : ∀ {l : List Nat}, allP r P1 m l = sumHi r m l * 1000
 | [] => by simp [allP, sumHi]
 | i :: l => by
  simp only [allP, sumHi, allP_1 (l := l)]
  cases r.cpls[i]? with
  | none => simp only; omega
  | some c => simp only [P1, atP_1]; omega
theorem cumP_0 : ∀ {k : Nat}, cumP r P0 k = cumLo r k * 1000
 | 0 => by simp [cumP, cumLo]
 | k + 1 => by
  simp only [cumP, cumLo, cumP_0 (k := k), allP_0, meanS]
  split
  ·omega
  ·rw [Int.add_mul, Int.mul_assoc, Int.mul_assoc, Int.mul_comm 1000]
theorem cumP_1 : ∀ {k : Nat}, cumP r P1 k = cumHi r k * 1000
 | 0 => by simp [cumP, cumHi]
 | k + 1 => by
  simp only [cumP, cumHi, cumP_1 (k := k), allP_1, meanS]
  split
  ·omega
  ·rw [Int.add_mul, Int.mul_assoc, Int.mul_assoc, Int.mul_comm 1000]
theorem ends_singL (hF : RunF r) {m : Int} (hm : 1 ≤ m) (hm2 : m ≤ r.rows.length) : ∀ (l : List Nat), (∀ i ∈ l, i ∈ wk r m) → EndsL (singL r u m l) (brkL r u P0 m l) (brkL r u P1 m l)
 | [], _ => EndsL.nil
 | i :: l, h => by
  simp only [singL, brkL]
  refine EndsL.app ?_ (ends_singL hF hm hm2 l fun j hj => h j (by simp [hj]))
  obtain ⟨c, hc, hw⟩ := wk_mem.1 (h i (by simp))
  have htb := truth_bounds hF hc hm hm2 hw
  unfold singI brkI
  rw [hc]
  refine ends_one fun hn => ?_
  unfold brkS
  simp only [P0, P1, atP_0, atP_1]
  exact brkO_ends (by omega) hn
theorem ends_min (hF : RunF r) {k : Nat} (hk : 1 ≤ k) (hk2 : k ≤ r.rows.length) : ∀ x ∈ minB r u k, (∃ b ∈ brkM r u P0 k, sameL x b) ∨ ∃ b ∈ brkM r u P1 k, sameL x b := by
 have hA : EndsL (oneB (k : Int) 2 (-1) (areaS r u k)) (brkMa r u P0 k) (brkMa r u P1 k) := by
  refine ends_one fun hn => ?_
  unfold areaS at hn
  by_cases hp : partS u (k : Int) < 0
  ·rw [if_pos hp] at hn; exact absurd rfl hn
  ·rw [if_neg hp] at hn
   unfold brkA offP
   rw [decide_eq_true (by omega : 0 ≤ partS u (k : Int)), Bool.true_and, Bool.true_and, cumP_0, cumP_1]
   have hneg : -(cumC r k * 840) * partS u (k : Int) = -(cumC r k * 840 * partS u (k : Int)) := Int.neg_mul ..
   rw [hneg]
   simp only [decide_eq_true_eq]
   unfold outK at hn
   simp only at hn
   split at hn <;> (try split at hn) <;> omega
 have hS : EndsL (singB r u (k : Int)) (brkMs r u P0 (k : Int)) (brkMs r u P1 (k : Int)) := by
  unfold singB brkMs
  split
  ·exact EndsL.nil
  ·exact ends_singL hF (by omega) (by omega) _ fun i h => h
 have hB : EndsL (blindB r (k : Int)) (brkMb r (k : Int)) (brkMb r (k : Int)) := by
  unfold blindB brkMb
  split
  ·exact fun b hb => by simp at hb; subst hb; exact .inl ⟨_, List.mem_singleton.2 rfl, rfl, rfl, rfl⟩
  ·exact EndsL.nil
 have hP : EndsL (pressB r u (k : Int)) (brkMp r u P0 (k : Int)) (brkMp r u P1 (k : Int)) := by
  unfold pressB brkMp
  split
  ·exact EndsL.nil
  ·refine ends_one fun hn => ?_
   have hg := hF.gauge
   unfold brkP
   simp only [P0, P1, atP_0, atP_1]
   exact brkO_ends (by simp only; omega) hn
 intro x h
 simp only [minB, brkM, List.mem_append] at h ⊢
 rcases h with ((h | h) | h) | h
 ·rcases hB x h with ⟨a, h1, h2⟩ | ⟨a, h1, h2⟩
  ·exact .inl ⟨a, .inl (.inl (.inr h1)), h2⟩
  ·exact .inr ⟨a, .inl (.inl (.inr h1)), h2⟩
 ·rcases hA x h with ⟨a, h1, h2⟩ | ⟨a, h1, h2⟩
  ·exact .inl ⟨a, .inl (.inr h1), h2⟩
  ·exact .inr ⟨a, .inl (.inr h1), h2⟩
 ·rcases hS x h with ⟨a, h1, h2⟩ | ⟨a, h1, h2⟩
  ·exact .inl ⟨a, .inl (.inl (.inl h1)), h2⟩
  ·exact .inr ⟨a, .inl (.inl (.inl h1)), h2⟩
 ·rcases hP x h with ⟨a, h1, h2⟩ | ⟨a, h1, h2⟩
  ·exact .inl ⟨a, .inr h1, h2⟩
  ·exact .inr ⟨a, .inr h1, h2⟩
theorem ends_left (hF : RunF r) : ∀ (k : Nat), k ≤ r.rows.length → EndsL (leftB r u k) (brkB r u P0 k) (brkB r u P1 k)
 | 0, _ => EndsL.nil
 | k + 1, hk => by
  simp only [leftB, brkB]
  exact EndsL.app (ends_left hF k (by omega)) fun x hx => ends_min hF (by omega) hk x hx
end
end Cp
