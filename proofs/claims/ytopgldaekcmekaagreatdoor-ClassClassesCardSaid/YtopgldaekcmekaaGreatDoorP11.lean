/- Rules, facts and contracts that the statement's proof leans on. Conditions: none. -/
import Derived.Test.YtopgldaekcmekaaGreatDoorRows
import Derived.LaidMore
import Derived.LaidHandle
import Derived.OpenShut
import Derived.FnData
import Derived.Test.YtopgldaekcmekaaGreatDoorP10
set_option linter.unusedVariables false
set_option linter.unusedSimpArgs false
set_option linter.unusedSectionVars false
namespace Cp
open Go Go.Proofs
set_option maxRecDepth 10000
set_option maxHeartbeats 2000000
def nxtL (s : Int) (l : List Int) : Int := (l.find? fun c => decide (s < c)).getD 0
theorem nxtL_snoc {s x : Int} {l : List Int} (hl : ∀ c ∈ l, c ≠ 0) : nxtL s (l ++ [x]) = if nxtL s l = 0 then (if s < x then x else 0) else nxtL s l := by
 unfold nxtL
 rw [List.find?_append]
 cases hf : l.find? fun c => decide (s < c) with
 | none =>
  simp only [Option.none_or, Option.getD_none, if_true, List.find?_cons, List.find?_nil]
  by_cases h : s < x
  ·rw [if_pos h, decide_eq_true h]; rfl
  ·rw [if_neg h, decide_eq_false h]; rfl
 | some y =>
  have := hl y (List.mem_of_find?_eq_some hf)
  simp only [Option.some_or, Option.getD_some]
  rw [if_neg this]
theorem r2Stops_ok (t : TestT) (hb : TestB t) (l : Int) (hl : 0 ≤ l ∧ l ≤ 255) : PureC Tryz.prog 17 [encTest t, .int .u8 l] (stopsV t l) := by
 have hc := r2Class_ok t hb l hl
 unfold classV at hc
 unfold stopsV
 by_cases h : checkT t = 0
 ·rw [if_pos h] at hc ⊢
  have hF := testF h
  by_cases hcr : 1 ≤ l ∧ l ≤ 3
  ·rw [if_pos hcr] at hc ⊢
   obtain ⟨k, rfl⟩ : ∃ k : Nat, l = (k : Int) := ⟨l.toNat, by omega⟩
   have hk3 : 1 ≤ k ∧ k ≤ 3 := by omega
   rw [Int.toNat_natCast] at hc ⊢
   have hnn := @stopsS_none t k
   have hns := @stopsS_next t k
   have hnb := @nextC_cls (sureS t k)
   generalize stopsS t k = st at *
   generalize sureS t k = sr at *
   generalize mayS t k = mr at *
   simp only [encTest, cTest, encSpan] at hc
   have hw2 : IntKind.u8.wrap (2 * (k : Int)) = ((2 * k : Nat) : Int) := by rw [IntWalk.u8_in _ (by omega)]; omega
   have hnx : nxtL sr clsL = nextC sr := rfl
   have hfin := hF.fin
   have hck := hF.clock
   have hrl := hF.rows
   by_cases hn0 : nextC sr = 0
   ·rw [hnn hn0]
    refine PureC.weak (v := .tup [.nils, .int .i64 0]) ?_ rfl fun G w x h => h.tup_nils
    refine PureC_of (fn := Tryz.f17) tabOK (by kernel_rfl) rfl (by kernel_rfl) (by simp [Tryz.f17]) (by simp [noids, noid, noidss, go_sem, encTest, cTest]) (by first | rfl | simp [noids, noid, noidss, go_sem, encTest, cTest]) ?_
    intro X hX0 hXs
    repeat' (first | with_reducible (first | ((fail_if_success (refine AW_at (id := 5) ?_)); refine sk ?_; intro K hK) | intro (ep : Nat → Nat) | apply_assumption -exfalso -symm only [*]) | ((first | (with_reducible first | refine rg (md := { base := 0, own := [67, 79, 107] }) (h := ?_) | refine nx ?_) | refine pK (hc) ?_); try simp (disch := omega) only [encTest, cTest,go_sem, simprocAttr]) | ((with_reducible refine' cE ?hv ?_ ?_); (case hv => rfl); all_goals (intro hc; (try simp only [go_sem, simprocAttr] at hc))) | fail)
    have hcut : ∀ f H, (f 1 = .int .u8 (k : Int) ∧ f 2 = .pim (cTest t) ∧ f 8 = .int .i64 (nextC sr)) → K f H := by
     rintro f H ⟨h1, h2, h8⟩
     refine hK f H ?_
     clear hK
     rw [hn0] at h8
     repeat' (first | with_reducible (first | (refine sk ?_; intro K hK) | apply_assumption -exfalso -symm only [*]) | ((with_reducible first | refine rg (md := { base := 0, own := [67, 79, 107] }) (h := ?_) | refine nx ?_); try simp (disch := omega) only [h8,go_sem, simprocAttr]) | ((with_reducible refine' cE ?hv ?_ ?_); (case hv => rfl); all_goals (intro hc; (try simp only [go_sem, simprocAttr] at hc))) | ((with_reducible refine fe ?_); refine ⟨_, (by simp only [Tryz.f17, h8,go_sem, simprocAttr]; rfl), ?_⟩; rfl) | fail)
    clear hK
    have hcutE : ∃ _ : Unit, _ := ⟨(), hcut⟩
    clear hcut
    repeat' (first | with_reducible (first | (refine sk ?_; intro K hK) | apply_assumption -exfalso -symm only [*]) | ((first | (with_reducible refine rg (md := { base := 0, own := [67, 79, 107] }) (h := ?_)) | refine pK (r2classes_ok) ?_); try simp (disch := omega) only [go_sem, simprocAttr]) | fail)
    refine AW_range tabOK 7 (fun i f H => (f 1 = .int .u8 (k : Int) ∧ f 2 = .pim (cTest t) ∧ f 26 = .lst 1 (ints clsL)) ∧ f 8 = .int .i64 (nxtL sr (clsL.take i)) ∧ ∃ e6, f 6 = .ptr 6 e6 2 0 0 ∧ H 6 = some (e6, .arr 2 [[.int .i64 sr, .int .i64 mr]])) (by decide) (by rw [hXs]; decide) (by decide) (by (first | rfl | (simp only [go_sem, simprocAttr]; done) | (simp only [go_sem, simprocAttr]; rfl))) (by (first | rfl | (simp only [ints, clsL, List.length_cons, List.length_nil, go_sem, simprocAttr]; done) | (simp only [ints, clsL, List.length_cons, List.length_nil, go_sem, simprocAttr]; rfl)))
     ⟨by (and_intros <;> first | rfl | (simp only [cTest, go_sem, simprocAttr]; done) | (simp only [cTest, go_sem, simprocAttr]; rfl)), by (first | rfl | (simp only [go_sem, simprocAttr]; done) | (simp only [go_sem, simprocAttr]; rfl)), _, by (first | rfl | (simp only [go_sem, simprocAttr]; done) | (simp only [go_sem, simprocAttr]; rfl)), by (first | rfl | (simp only [go_sem, simprocAttr]; done) | (simp only [go_sem, simprocAttr]; rfl))⟩ ?_ ?_
    ·clear hcutE hc hns hnn hnb
     rintro i f H hi h28 h27 ⟨⟨h1, h2, h26⟩, h8, e6, h6, H6⟩
     obtain ⟨x, hx⟩ : ∃ x, clsL[i]? = some x := ⟨_, List.getElem?_eq_getElem hi⟩
     have hxa := ints_at hx
     have hsn := nxtL_snoc (s := sr) (x := x) (l := clsL.take i) fun c hc => by have := clsL_pos (List.mem_of_mem_take hc); omega
     have hxb := cls_r (List.mem_of_getElem? hx)
     rw [take_snocC hx, hsn]
     generalize nxtL sr (clsL.take i) = n0 at *
     refine AW_keep [6] ?_
     change keep H [6] 6 = _ at H6
     generalize keep H [6] = H2 at *
     clear hsn hx hnx
     by_cases hlt : sr < x
     ·by_cases hz : n0 = 0
      ·rw [if_pos hz, if_pos hlt]
       repeat' (first | with_reducible (first | (refine sk ?_; intro K hK) | apply_assumption -exfalso -symm only [*]) | ((with_reducible refine rg (md := { base := 0, own := [67, 79, 107] }) (h := ?_)); try simp (disch := omega) only [h1, h2, h6, h8, h26, h27, h28, hxa, H6, hlt, hz, cTest,go_sem, simprocAttr]) | ((with_reducible refine' cE ?hv ?_ ?_); (case hv => rfl); all_goals (intro hc; (try simp only [go_sem, simprocAttr] at hc))) | fail)
       exact ⟨e6, by (first | rfl | (simp only [h6, go_sem, simprocAttr]; done) | (simp only [h6, go_sem, simprocAttr]; rfl)), by (first | rfl | (simp only [H6, go_sem, simprocAttr]; done) | (simp only [H6, go_sem, simprocAttr]; rfl))⟩
      ·rw [if_neg hz]
       repeat' (first | with_reducible (first | (refine sk ?_; intro K hK) | apply_assumption -exfalso -symm only [*]) | ((with_reducible first | refine rg (md := { base := 0, own := [67, 79, 107] }) (h := ?_) | refine nx ?_); try simp (disch := omega) only [h1, h2, h6, h8, h26, h27, h28, hxa, H6, hlt, hz, cTest,go_sem, simprocAttr]) | ((with_reducible refine' cE ?hv ?_ ?_); (case hv => rfl); all_goals (intro hc; (try simp only [go_sem, simprocAttr] at hc))) | fail)
       exact ⟨e6, by (first | rfl | (simp only [h6, go_sem, simprocAttr]; done) | (simp only [h6, go_sem, simprocAttr]; rfl)), by (first | rfl | (simp only [H6, go_sem, simprocAttr]; done) | (simp only [H6, go_sem, simprocAttr]; rfl))⟩
     ·have hzz : (if n0 = 0 then (if sr < x then x else 0) else n0) = n0 := by
       rw [if_neg hlt]; split
       ·rename_i h; exact h.symm
       ·rfl
      rw [hzz]
      repeat' (first | with_reducible (first | (refine sk ?_; intro K hK) | apply_assumption -exfalso -symm only [*]) | ((with_reducible first | refine rg (md := { base := 0, own := [67, 79, 107] }) (h := ?_) | refine nx ?_); try simp (disch := omega) only [h1, h2, h6, h8, h26, h27, h28, hxa, H6, hlt, cTest,go_sem, simprocAttr]) | ((with_reducible refine' cE ?hv ?_ ?_); (case hv => rfl); all_goals (intro hc; (try simp only [go_sem, simprocAttr] at hc))) | fail)
      exact ⟨e6, by (first | rfl | (simp only [h6, go_sem, simprocAttr]; done) | (simp only [h6, go_sem, simprocAttr]; rfl)), by (first | rfl | (simp only [H6, go_sem, simprocAttr]; done) | (simp only [H6, go_sem, simprocAttr]; rfl))⟩
    ·rintro f H h28 h27 ⟨⟨h1, h2, h26⟩, h8, e6, h6, H6⟩
     obtain ⟨_, hcut⟩ := hcutE
     rw [show clsL.take 7 = clsL from rfl, hnx] at h8
     repeat' (first | with_reducible apply_assumption -exfalso -symm only [*] | fail)
     exact ⟨by (first | rfl | (simp only [h1, go_sem, simprocAttr]; done) | (simp only [h1, go_sem, simprocAttr]; rfl)), by (first | rfl | (simp only [h2, go_sem, simprocAttr]; done) | (simp only [h2, go_sem, simprocAttr]; rfl)), by (first | rfl | (simp only [h8, go_sem, simprocAttr]; done) | (simp only [h8, go_sem, simprocAttr]; rfl))⟩
   ·have hns' := hns hn0
    have hnb' := hnb hn0
    refine PureC_of (fn := Tryz.f17) tabOK (by kernel_rfl) rfl (by kernel_rfl) (by simp [Tryz.f17]) (by simp [noids, noid, noidss, go_sem, encTest, cTest]) (by first | rfl | simp [noids, noid, noidss, go_sem, encTest, cTest]) ?_
    intro X hX0 hXs
    repeat' (first | with_reducible (first | ((fail_if_success (refine AW_at (id := 5) ?_)); refine sk ?_; intro K hK) | intro (ep : Nat → Nat) | apply_assumption -exfalso -symm only [*]) | ((first | (with_reducible first | refine rg (md := { base := 0, own := [67, 79, 107] }) (h := ?_) | refine nx ?_) | refine pK (hc) ?_); try simp (disch := omega) only [encTest, cTest,go_sem, simprocAttr]) | ((with_reducible refine' cE ?hv ?_ ?_); (case hv => rfl); all_goals (intro hc; (try simp only [go_sem, simprocAttr] at hc))) | fail)
    have hcut : ∀ f H, (f 1 = .int .u8 (k : Int) ∧ f 2 = .pim (cTest t) ∧ f 8 = .int .i64 (nextC sr)) → K f H := by
     rintro f H ⟨h1, h2, h8⟩
     refine hK f H ?_
     clear hK hnn hns hnb hnx
     generalize nextC sr = nx' at *
     have hcl := @critsL_len t nx' (2 * k)
     refine AW_keep [] ?_
     generalize keep H [] = H0
     repeat' (first | with_reducible (first | ((fail_if_success (refine AW_at (id := 14) ?_)); refine sk ?_; intro K hK) | apply_assumption -exfalso -symm only [*]) | ((with_reducible first | refine rg (md := { base := 0, own := [67, 79, 107] }) (h := ?_) | refine nx ?_); try simp (disch := omega) only [h8, hn0,go_sem, simprocAttr]) | ((with_reducible refine' cE ?hv ?_ ?_); (case hv => rfl); all_goals (intro hc; (try simp only [go_sem, simprocAttr] at hc))) | fail)
     have hcut : ∀ f H, (f 2 = .pim (cTest t) ∧ f 8 = .int .i64 nx') ∧ LstC 67 1 ((critsL t nx' (2 * k)).map c8) (f 11) H → K f H := by
      rintro f H ⟨⟨h6, h10⟩, hL⟩
      refine hK f H ?_
      clear hK h1 h2 h8
      refine AW_keep [67] ?_
      have k84 : keep H [67] 79 = none := rfl
      have kL : LstC 67 1 ((critsL t nx' (2 * k)).map c8) (f 11) (keep H [67]) := hL.same rfl
      generalize keep H [67] = H5 at *
      clear hL
      refine AW_lstMv 79 11 kL k84 (by decide) fun f6 H6 hL6 hf6 hH6 => ?_
      have g6 := (hf6 2 (by decide)).trans h6
      have g10 := (hf6 8 (by decide)).trans h10
      clear hf6 hH6 kL k84 h6 h10
      repeat' (first | with_reducible ((fail_if_success (refine AW_at (id := 20) ?_)); refine sk ?_; intro K hK) | fail)
      have hcut2 : ∀ f H, (f 2 = .pim (cTest t) ∧ f 8 = .int .i64 nx') ∧ LstC 79 1 ((critsL t nx' (2 * k) ++ endL t nx').map c8) (f 11) H → K f H := by
       clear g6 g10 hL6
       rintro f H ⟨⟨h6, h10⟩, hL⟩
       refine hK f H ?_
       clear hK
       have hel : (endL t nx').length ≤ 1 := by unfold endL; split <;> simp
       refine AW_keep [79] ?_
       have k91 : keep H [79] 107 = none := rfl
       have kL : LstC 79 1 ((critsL t nx' (2 * k) ++ endL t nx').map c8) (f 11) (keep H [79]) := hL.same rfl
       generalize keep H [79] = H5 at *
       clear hL
       refine AW_lstMv 107 11 kL k91 (by decide) fun f6 H6 hL6 hf6 hH6 => ?_
       have g6 := (hf6 2 (by decide)).trans h6
       have g10 := (hf6 8 (by decide)).trans h10
       clear hf6 hH6 kL k91 h6 h10
       have hkp := rKept_ok t.run t.rules hb.run hb.rules (min nx' t.run.rows.length)
       rw [keptT, if_pos hF.check, if_pos (by omega)] at hkp
       have hfl : furnL t nx' = if knownAt t nx' = 2 then [] else [8] := rfl
       have hkn : knownAt t nx' = if (t.run.rows.length : Int) < nx' then 0 else (keptL (leftS t.run t.rules) nx').1 := rfl
       have hkb := keptL_mono (l := leftS t.run t.rules) (Int.le_refl (min nx' (t.run.rows.length : Int)))
       have hkv : ¬ (t.run.rows.length : Int) < nx' → knownAt t nx' = (keptL (leftS t.run t.rules) (min nx' (t.run.rows.length : Int))).1 := fun h => by
        rw [hkn, if_neg h, Int.min_eq_left (by omega)]
       have hk0 : (t.run.rows.length : Int) < nx' → knownAt t nx' = 0 := fun h => by rw [hkn, if_pos h]
       generalize (keptL (leftS t.run t.rules) (min nx' (t.run.rows.length : Int))).1 = kk at *
       generalize (keptL (leftS t.run t.rules) (min nx' (t.run.rows.length : Int))).2 = km at *
       generalize knownAt t nx' = kn at *
       clear hkn
       simp only [encRun, cRun, encRules, cRules] at hkp
       repeat' (first | with_reducible (first | ((fail_if_success (refine AW_at (id := 23) ?_)); refine sk ?_; intro K hK) | apply_assumption -exfalso -symm only [*]) | ((first | (with_reducible refine rg (md := { base := 0, own := [67, 79, 107] }) (h := ?_)) | refine pK (hkp) ?_); try simp (disch := omega) only [g6, g10, cTest, encRun, cRun, encRules, cRules,go_sem, simprocAttr]) | fail)
       have hcut3 : ∀ f H, LstC 107 1 (st.map c8) (f 11) H → K f H := by
        clear g6 g10 hL6 hkp
        intro f H hL
        refine hK f H ?_
        clear hK
        have hz : ∀ H : Hp, ((st.map c8).map fun es => es.map (fzd H 5)) = st.map c8 := fun H => map_id2 (fun _ => rfl) _
        refine AW_lstC (t := 11) hz hL fun f2 H2 h3 hf2 hH2 => ?_
        clear hf2 hH2 hL hz
        repeat' (first | with_reducible (first | (refine sk ?_; intro K hK) | apply_assumption -exfalso -symm only [*]) | ((with_reducible first | refine rg (md := { base := 0, own := [67, 79, 107] }) (h := ?_) | refine nx ?_); try simp (disch := omega) only [h3,go_sem, simprocAttr]) | ((with_reducible refine fe ?_); refine ⟨_, (by simp only [Tryz.f17, h3,go_sem, simprocAttr]; rfl), ?_⟩; (try simp only [h3,go_sem, simprocAttr, seval])) | fail)
       clear hK hkp
       have hcutE : ∃ _ : Unit, _ := ⟨(), hcut3⟩
       clear hcut3
       by_cases hk2 : kn = 2
       ·rw [if_pos hk2] at hfl
        have hst : st = critsL t nx' (2 * k) ++ endL t nx' := by rw [hns', hfl, List.append_nil]
        clear hns'
        have hlt : ¬ (t.run.rows.length : Int) < nx' := fun h => by have := hk0 h; omega
        have hkk := hkv hlt
        rw [hk2] at hkk
        subst hkk
        clear hkv hk0
        repeat' (first | with_reducible (first | (refine sk ?_; intro K hK) | apply_assumption -exfalso -symm only [*]) | ((with_reducible first | refine rg (md := { base := 0, own := [67, 79, 107] }) (h := ?_) | refine nx ?_); try simp (disch := omega) only [g6, g10, hlt, cTest,go_sem, simprocAttr]) | ((with_reducible refine' cE ?hv ?_ ?_); (case hv => rfl); all_goals (intro hc; (try simp only [go_sem, simprocAttr] at hc))) | fail)
        obtain ⟨_, hcut3⟩ := hcutE
        refine hcut3 _ _ ?_
        simp only [go_sem, simprocAttr]
        rw [hst]; exact hL6
       ·rw [if_neg hk2] at hfl
        have hst : st = (critsL t nx' (2 * k) ++ endL t nx') ++ [8] := by rw [hns', hfl]
        clear hns'
        have hcl2 : (critsL t nx' (2 * k) ++ endL t nx').length ≤ 2 * k + 1 := by rw [List.length_append]; omega
        have hkk : ¬ (t.run.rows.length : Int) < nx' → ¬ kk = 2 := fun h => by have := hkv h; omega
        clear hkv hk0
        generalize critsL t nx' (2 * k) ++ endL t nx' = L at *
        rcases hL6 with ⟨hC, h11⟩ | ⟨hne, ea, h11, k91⟩
        ·refine AW_lose 107 fun H7 g91 hs3 => ?_
         clear hs3
         by_cases hlt : (t.run.rows.length : Int) < nx'
         ·repeat' (first | with_reducible (first | (refine sk ?_; intro K hK) | intro (ep : Nat → Nat) | apply_assumption -exfalso -symm only [*]) | ((with_reducible refine rg (md := { base := 0, own := [67, 79, 107] }) (h := ?_)); try simp (disch := omega) only [g6, g10, h11, g91, hlt, cTest,go_sem, simprocAttr]) | ((with_reducible refine' cE ?hv ?_ ?_); (case hv => rfl); all_goals (intro hc; (try simp only [go_sem, simprocAttr] at hc))) | fail)
          obtain ⟨_, hcut3⟩ := hcutE
          refine hcut3 _ _ ?_
          rw [hst, List.map_append, hC]; exact .one (by (first | rfl | (simp only [c8, go_sem, simprocAttr]; done) | (simp only [c8, go_sem, simprocAttr]; rfl)))
         ·have hkk := hkk hlt
          repeat' (first | with_reducible (first | (refine sk ?_; intro K hK) | intro (ep : Nat → Nat) | apply_assumption -exfalso -symm only [*]) | ((with_reducible refine rg (md := { base := 0, own := [67, 79, 107] }) (h := ?_)); try simp (disch := omega) only [g6, g10, h11, g91, hlt, hkk, cTest,go_sem, simprocAttr]) | ((with_reducible refine' cE ?hv ?_ ?_); (case hv => rfl); all_goals (intro hc; (try simp only [go_sem, simprocAttr] at hc))) | fail)
          obtain ⟨_, hcut3⟩ := hcutE
          refine hcut3 _ _ ?_
          rw [hst, List.map_append, hC]; exact .one (by (first | rfl | (simp only [c8, go_sem, simprocAttr]; done) | (simp only [c8, go_sem, simprocAttr]; rfl)))
        ·rw [List.length_map] at h11
         have hkb2 : L.length ≤ 1073741823 := by omega
         by_cases hlt : (t.run.rows.length : Int) < nx'
         ·repeat' (first | with_reducible (first | (refine sk ?_; intro K hK) | intro (ep : Nat → Nat) | apply_assumption -exfalso -symm only [*]) | ((with_reducible refine rg (md := { base := 0, own := [67, 79, 107] }) (h := ?_)); try simp (disch := omega) only [g6, g10, h11, k91, hkb2, hlt, cTest,go_sem, simprocAttr]) | ((with_reducible refine' cE ?hv ?_ ?_); (case hv => rfl); all_goals (intro hc; (try simp only [go_sem, simprocAttr] at hc))) | fail)
          obtain ⟨_, hcut3⟩ := hcutE
          refine hcut3 _ _ ?_
          rw [hst, List.map_append, List.map_cons, List.map_nil, ← List.length_map (f := c8)]; exact .snoc (by (first | rfl | (simp only [c8, go_sem, simprocAttr]; done) | (simp only [c8, go_sem, simprocAttr]; rfl)))
         ·have hkk := hkk hlt
          repeat' (first | with_reducible (first | (refine sk ?_; intro K hK) | intro (ep : Nat → Nat) | apply_assumption -exfalso -symm only [*]) | ((with_reducible refine rg (md := { base := 0, own := [67, 79, 107] }) (h := ?_)); try simp (disch := omega) only [g6, g10, h11, k91, hkb2, hlt, hkk, cTest,go_sem, simprocAttr]) | ((with_reducible refine' cE ?hv ?_ ?_); (case hv => rfl); all_goals (intro hc; (try simp only [go_sem, simprocAttr] at hc))) | fail)
          obtain ⟨_, hcut3⟩ := hcutE
          refine hcut3 _ _ ?_
          rw [hst, List.map_append, List.map_cons, List.map_nil, ← List.length_map (f := c8)]; exact .snoc (by (first | rfl | (simp only [c8, go_sem, simprocAttr]; done) | (simp only [c8, go_sem, simprocAttr]; rfl)))
      clear hK
      have hcutE : ∃ _ : Unit, _ := ⟨(), hcut2⟩
      clear hcut2 hns'
      have hel : endL t nx' = if t.fin - t.clock.hi < 60 * nx' then [7] else [] := rfl
      by_cases hlt : t.fin - t.clock.hi < 60 * nx'
      ·rw [if_pos hlt] at hel
       rw [hel] at hcutE
       generalize critsL t nx' (2 * k) = L at *
       rcases hL6 with ⟨hC, h11⟩ | ⟨hne, ea, h11, k84⟩
       ·refine AW_lose 79 fun H7 g84 hs3 => ?_
        clear hs3
        repeat' (first | with_reducible (first | (refine sk ?_; intro K hK) | intro (ep : Nat → Nat) | apply_assumption -exfalso -symm only [*]) | ((with_reducible refine rg (md := { base := 0, own := [67, 79, 107] }) (h := ?_)); try simp (disch := omega) only [g6, g10, h11, g84, hlt, cTest,go_sem, simprocAttr]) | ((with_reducible refine' cE ?hv ?_ ?_); (case hv => rfl); all_goals (intro hc; (try simp only [go_sem, simprocAttr] at hc))) | fail)
        obtain ⟨_, hcut2⟩ := hcutE
        refine hcut2 _ _ ⟨by (and_intros <;> first | rfl | (simp only [g6, g10, cTest, go_sem, simprocAttr]; done) | (simp only [g6, g10, cTest, go_sem, simprocAttr]; rfl)), ?_⟩
        rw [List.map_append, hC]; exact .one (by (first | rfl | (simp only [c8, go_sem, simprocAttr]; done) | (simp only [c8, go_sem, simprocAttr]; rfl)))
       ·rw [List.length_map] at h11
        have hkb2 : L.length ≤ 1073741823 := by omega
        repeat' (first | with_reducible (first | (refine sk ?_; intro K hK) | intro (ep : Nat → Nat) | apply_assumption -exfalso -symm only [*]) | ((with_reducible refine rg (md := { base := 0, own := [67, 79, 107] }) (h := ?_)); try simp (disch := omega) only [g6, g10, h11, k84, hkb2, hlt, cTest,go_sem, simprocAttr]) | ((with_reducible refine' cE ?hv ?_ ?_); (case hv => rfl); all_goals (intro hc; (try simp only [go_sem, simprocAttr] at hc))) | fail)
        obtain ⟨_, hcut2⟩ := hcutE
        refine hcut2 _ _ ⟨by (and_intros <;> first | rfl | (simp only [g6, g10, cTest, go_sem, simprocAttr]; done) | (simp only [g6, g10, cTest, go_sem, simprocAttr]; rfl)), ?_⟩
        rw [List.map_append, List.map_cons, List.map_nil, ← List.length_map (f := c8)]; exact .snoc (by (first | rfl | (simp only [c8, go_sem, simprocAttr]; done) | (simp only [c8, go_sem, simprocAttr]; rfl)))
      ·rw [if_neg hlt] at hel
       rw [hel] at hcutE
       repeat' (first | with_reducible (first | (refine sk ?_; intro K hK) | apply_assumption -exfalso -symm only [*]) | ((with_reducible first | refine rg (md := { base := 0, own := [67, 79, 107] }) (h := ?_) | refine nx ?_); try simp (disch := omega) only [g6, g10, hlt, cTest,go_sem, simprocAttr]) | ((with_reducible refine' cE ?hv ?_ ?_); (case hv => rfl); all_goals (intro hc; (try simp only [go_sem, simprocAttr] at hc))) | fail)
       obtain ⟨_, hcut2⟩ := hcutE
       refine hcut2 _ _ ⟨by (and_intros <;> first | rfl | (simp only [g6, g10, cTest, go_sem, simprocAttr]; done) | (simp only [g6, g10, cTest, go_sem, simprocAttr]; rfl)), ?_⟩
       rw [List.append_nil]; simp only [go_sem, simprocAttr]; exact hL6
     clear hK
     have hcutE : ∃ _ : Unit, _ := ⟨(), hcut⟩
     clear hcut
     have hrf := fun j hj => r2fails_ok t hb.notes hF.notes (by omega) hF.clock j hj
     repeat' (first | with_reducible (first | (refine sk ?_; intro K hK) | apply_assumption -exfalso -symm only [*]) | ((with_reducible refine rg (md := { base := 0, own := [67, 79, 107] }) (h := ?_)); try simp (disch := omega) only [go_sem, simprocAttr]) | fail)
     refine AW_block (AW_loop (fun m f H => ∃ i : Nat, m = 2 * k - i ∧ i ≤ 2 * k ∧ (f 1 = .int .u8 (k : Int) ∧ f 2 = .pim (cTest t) ∧ f 8 = .int .i64 nx' ∧ f 12 = .int .u8 ((i + 1 : Nat) : Int)) ∧ LstC 67 1 ((critsL t nx' i).map c8) (f 11) H) (2 * k)
      ⟨0, rfl, Nat.zero_le _, by (and_intros <;> first | rfl | (simp only [h1, h2, h8, go_sem, simprocAttr]; done) | (simp only [h1, h2, h8, go_sem, simprocAttr]; rfl)), .inl ⟨rfl, by (first | rfl | (simp only [go_sem, simprocAttr]; done) | (simp only [go_sem, simprocAttr]; rfl))⟩⟩ ?_)
     clear hns' hc h1 h2 h8
     rintro m f H ⟨i, rfl, hi, ⟨h1, h2, h8, h12⟩, hL⟩
     by_cases hlt : i < 2 * k
     ·clear hcutE
      have hrc := hrf i (by omega)
      have hw : IntKind.u8.wrap ((i + 1 + 1 : Nat) : Int) = ((i + 1 + 1 : Nat) : Int) := IntWalk.u8_in _ (by omega)
      have hc12 : ((i + 1 : Nat) : Int) ≤ ((2 * k : Nat) : Int) := by omega
      have hsu := @critsL_succ t nx' i
      have hcl3 := @critsL_len t nx' i
      have hsc : stopsC t nx' i = (!decide ((failC t i).held = 2) && decide ((failC t i).at1.lo ≤ 60 * nx')) := rfl
      have hhd := failC_held t i
      simp only [encTest, cTest, encFail, cFail] at hrc
      refine AW_keep [67] ?_
      have k13 : keep H [67] 13 = none := rfl
      have kL : LstC 67 1 ((critsL t nx' i).map c8) (f 11) (keep H [67]) := hL.same rfl
      generalize keep H [67] = H5 at *
      clear hL hrf
      rw [hsc] at hsu
      generalize critsL t nx' i = L at *
      generalize (failC t i).at1.lo = lo at *
      generalize (failC t i).at1.hi = hi9 at *
      generalize (failC t i).held = hd at *
      by_cases hF2 : hd = 2
      ·have hF3 : ¬ hd < 2 := by omega
       simp only [hF2, decide_true, Bool.not_true, Bool.false_and, Bool.false_eq_true, if_false, List.append_nil] at hsu
       repeat' (first | with_reducible (first | (refine sk ?_; intro K hK) | refine bk ?_ | intro (ep : Nat → Nat) | apply_assumption -exfalso -symm only [*]) | ((first | (with_reducible first | refine rg (md := { base := 0, own := [67, 79, 107] }) (h := ?_) | refine nx ?_) | refine pK (hrc) ?_); try simp (disch := omega) only [h1, h2, h8, h12, hw, hw2, hc12, hF3, k13, cTest,go_sem, simprocAttr]) | ((with_reducible refine' cE ?hv ?_ ?_); (case hv => rfl); all_goals (intro hc; (try simp only [go_sem, simprocAttr] at hc))) | fail)
       exact ⟨2 * k - (i + 1), by omega, i + 1, rfl, by omega, rfl, by rw [hsu]; exact kL.same (by (repeat rw [upd_ne _ _ (by decide)]))⟩
      ·have hF3 : hd < 2 := by omega
       simp only [decide_eq_false hF2, Bool.not_false, Bool.true_and, decide_eq_true_eq] at hsu
       by_cases hlo : lo ≤ 60 * nx'
       ·rw [if_pos hlo] at hsu
        rcases kL with ⟨hC, h11⟩ | ⟨hne, ea, h11, k65⟩
        ·refine AW_lose 67 fun H7 g65 hs3 => ?_
         have g13 := (hs3 13 (by decide)).trans k13
         clear hs3 k13
         repeat' (first | with_reducible (first | (refine sk ?_; intro K hK) | refine bk ?_ | intro (ep : Nat → Nat) | apply_assumption -exfalso -symm only [*]) | ((first | (with_reducible first | refine rg (md := { base := 0, own := [67, 79, 107] }) (h := ?_) | refine nx ?_) | refine pK (hrc) ?_); try simp (disch := omega) only [h1, h2, h8, h11, h12, hw, hw2, hc12, hF3, g13, g65, hlo, cTest,go_sem, simprocAttr]) | ((with_reducible refine' cE ?hv ?_ ?_); (case hv => rfl); all_goals (intro hc; (try simp only [go_sem, simprocAttr] at hc))) | fail)
         exact ⟨2 * k - (i + 1), by omega, i + 1, rfl, by omega, rfl, by rw [hsu, List.map_append, hC]; exact .one (by (first | rfl | (simp only [c8, go_sem, simprocAttr]; done) | (simp only [c8, go_sem, simprocAttr]; rfl)))⟩
        ·rw [List.length_map] at h11
         have hkb2 : L.length ≤ 1073741823 := by omega
         repeat' (first | with_reducible (first | (refine sk ?_; intro K hK) | refine bk ?_ | intro (ep : Nat → Nat) | apply_assumption -exfalso -symm only [*]) | ((first | (with_reducible first | refine rg (md := { base := 0, own := [67, 79, 107] }) (h := ?_) | refine nx ?_) | refine pK (hrc) ?_); try simp (disch := omega) only [h1, h2, h8, h11, h12, hw, hw2, hc12, hF3, k13, k65, hkb2, hlo, cTest,go_sem, simprocAttr]) | ((with_reducible refine' cE ?hv ?_ ?_); (case hv => rfl); all_goals (intro hc; (try simp only [go_sem, simprocAttr] at hc))) | fail)
         exact ⟨2 * k - (i + 1), by omega, i + 1, rfl, by omega, rfl, by rw [hsu, List.map_append, List.map_cons, List.map_nil, ← List.length_map (f := c8)]; exact .snoc (by (first | rfl | (simp only [c8, go_sem, simprocAttr]; done) | (simp only [c8, go_sem, simprocAttr]; rfl)))⟩
       ·rw [if_neg hlo, List.append_nil] at hsu
        repeat' (first | with_reducible (first | (refine sk ?_; intro K hK) | refine bk ?_ | intro (ep : Nat → Nat) | apply_assumption -exfalso -symm only [*]) | ((first | (with_reducible first | refine rg (md := { base := 0, own := [67, 79, 107] }) (h := ?_) | refine nx ?_) | refine pK (hrc) ?_); try simp (disch := omega) only [h1, h2, h8, h12, hw, hw2, hc12, hF3, k13, hlo, cTest,go_sem, simprocAttr]) | ((with_reducible refine' cE ?hv ?_ ?_); (case hv => rfl); all_goals (intro hc; (try simp only [go_sem, simprocAttr] at hc))) | fail)
        exact ⟨2 * k - (i + 1), by omega, i + 1, rfl, by omega, rfl, by rw [hsu]; exact kL.same (by (repeat rw [upd_ne _ _ (by decide)]))⟩
     ·obtain rfl : i = 2 * k := by omega
      have hc12 : ¬ ((2 * k + 1 : Nat) : Int) ≤ ((2 * k : Nat) : Int) := by omega
      clear hrf
      repeat' (first | with_reducible (first | (refine sk ?_; intro K hK) | apply_assumption -exfalso -symm only [*]) | ((with_reducible first | refine rg (md := { base := 0, own := [67, 79, 107] }) (h := ?_) | refine nx ?_); try simp (disch := omega) only [h1, h2, h8, h12, hw2, hc12, cTest,go_sem, simprocAttr]) | ((with_reducible refine' cE ?hv ?_ ?_); (case hv => rfl); all_goals (intro hc; (try simp only [go_sem, simprocAttr] at hc))) | fail)
      obtain ⟨_, hcut⟩ := hcutE
      exact hcut _ _ ⟨by (and_intros <;> first | rfl | (simp only [h2, h8, cTest, go_sem, simprocAttr]; done) | (simp only [h2, h8, cTest, go_sem, simprocAttr]; rfl)), hL⟩
    clear hK
    have hcutE : ∃ _ : Unit, _ := ⟨(), hcut⟩
    clear hcut
    repeat' (first | with_reducible (first | (refine sk ?_; intro K hK) | apply_assumption -exfalso -symm only [*]) | ((first | (with_reducible refine rg (md := { base := 0, own := [67, 79, 107] }) (h := ?_)) | refine pK (r2classes_ok) ?_); try simp (disch := omega) only [go_sem, simprocAttr]) | fail)
    refine AW_range tabOK 7 (fun i f H => (f 1 = .int .u8 (k : Int) ∧ f 2 = .pim (cTest t) ∧ f 26 = .lst 1 (ints clsL)) ∧ f 8 = .int .i64 (nxtL sr (clsL.take i)) ∧ ∃ e6, f 6 = .ptr 6 e6 2 0 0 ∧ H 6 = some (e6, .arr 2 [[.int .i64 sr, .int .i64 mr]])) (by decide) (by rw [hXs]; decide) (by decide) (by (first | rfl | (simp only [go_sem, simprocAttr]; done) | (simp only [go_sem, simprocAttr]; rfl))) (by (first | rfl | (simp only [ints, clsL, List.length_cons, List.length_nil, go_sem, simprocAttr]; done) | (simp only [ints, clsL, List.length_cons, List.length_nil, go_sem, simprocAttr]; rfl)))
     ⟨by (and_intros <;> first | rfl | (simp only [cTest, go_sem, simprocAttr]; done) | (simp only [cTest, go_sem, simprocAttr]; rfl)), by (first | rfl | (simp only [go_sem, simprocAttr]; done) | (simp only [go_sem, simprocAttr]; rfl)), _, by (first | rfl | (simp only [go_sem, simprocAttr]; done) | (simp only [go_sem, simprocAttr]; rfl)), by (first | rfl | (simp only [go_sem, simprocAttr]; done) | (simp only [go_sem, simprocAttr]; rfl))⟩ ?_ ?_
    ·clear hcutE hc hns hnn hnb
     rintro i f H hi h28 h27 ⟨⟨h1, h2, h26⟩, h8, e6, h6, H6⟩
     obtain ⟨x, hx⟩ : ∃ x, clsL[i]? = some x := ⟨_, List.getElem?_eq_getElem hi⟩
     have hxa := ints_at hx
     have hsn := nxtL_snoc (s := sr) (x := x) (l := clsL.take i) fun c hc => by have := clsL_pos (List.mem_of_mem_take hc); omega
     have hxb := cls_r (List.mem_of_getElem? hx)
     rw [take_snocC hx, hsn]
     generalize nxtL sr (clsL.take i) = n0 at *
     refine AW_keep [6] ?_
     change keep H [6] 6 = _ at H6
     generalize keep H [6] = H2 at *
     clear hsn hx hnx
     by_cases hlt : sr < x
     ·by_cases hz : n0 = 0
      ·rw [if_pos hz, if_pos hlt]
       repeat' (first | with_reducible (first | (refine sk ?_; intro K hK) | apply_assumption -exfalso -symm only [*]) | ((with_reducible refine rg (md := { base := 0, own := [67, 79, 107] }) (h := ?_)); try simp (disch := omega) only [h1, h2, h6, h8, h26, h27, h28, hxa, H6, hlt, hz, cTest,go_sem, simprocAttr]) | ((with_reducible refine' cE ?hv ?_ ?_); (case hv => rfl); all_goals (intro hc; (try simp only [go_sem, simprocAttr] at hc))) | fail)
       exact ⟨e6, by (first | rfl | (simp only [h6, go_sem, simprocAttr]; done) | (simp only [h6, go_sem, simprocAttr]; rfl)), by (first | rfl | (simp only [H6, go_sem, simprocAttr]; done) | (simp only [H6, go_sem, simprocAttr]; rfl))⟩
      ·rw [if_neg hz]
       repeat' (first | with_reducible (first | (refine sk ?_; intro K hK) | apply_assumption -exfalso -symm only [*]) | ((with_reducible first | refine rg (md := { base := 0, own := [67, 79, 107] }) (h := ?_) | refine nx ?_); try simp (disch := omega) only [h1, h2, h6, h8, h26, h27, h28, hxa, H6, hlt, hz, cTest,go_sem, simprocAttr]) | ((with_reducible refine' cE ?hv ?_ ?_); (case hv => rfl); all_goals (intro hc; (try simp only [go_sem, simprocAttr] at hc))) | fail)
       exact ⟨e6, by (first | rfl | (simp only [h6, go_sem, simprocAttr]; done) | (simp only [h6, go_sem, simprocAttr]; rfl)), by (first | rfl | (simp only [H6, go_sem, simprocAttr]; done) | (simp only [H6, go_sem, simprocAttr]; rfl))⟩
     ·have hzz : (if n0 = 0 then (if sr < x then x else 0) else n0) = n0 := by
       rw [if_neg hlt]; split
       ·rename_i h; exact h.symm
       ·rfl
      rw [hzz]
      repeat' (first | with_reducible (first | (refine sk ?_; intro K hK) | apply_assumption -exfalso -symm only [*]) | ((with_reducible first | refine rg (md := { base := 0, own := [67, 79, 107] }) (h := ?_) | refine nx ?_); try simp (disch := omega) only [h1, h2, h6, h8, h26, h27, h28, hxa, H6, hlt, cTest,go_sem, simprocAttr]) | ((with_reducible refine' cE ?hv ?_ ?_); (case hv => rfl); all_goals (intro hc; (try simp only [go_sem, simprocAttr] at hc))) | fail)
      exact ⟨e6, by (first | rfl | (simp only [h6, go_sem, simprocAttr]; done) | (simp only [h6, go_sem, simprocAttr]; rfl)), by (first | rfl | (simp only [H6, go_sem, simprocAttr]; done) | (simp only [H6, go_sem, simprocAttr]; rfl))⟩
    ·rintro f H h28 h27 ⟨⟨h1, h2, h26⟩, h8, e6, h6, H6⟩
     obtain ⟨_, hcut⟩ := hcutE
     rw [show clsL.take 7 = clsL from rfl, hnx] at h8
     repeat' (first | with_reducible apply_assumption -exfalso -symm only [*] | fail)
     exact ⟨by (first | rfl | (simp only [h1, go_sem, simprocAttr]; done) | (simp only [h1, go_sem, simprocAttr]; rfl)), by (first | rfl | (simp only [h2, go_sem, simprocAttr]; done) | (simp only [h2, go_sem, simprocAttr]; rfl)), by (first | rfl | (simp only [h8, go_sem, simprocAttr]; done) | (simp only [h8, go_sem, simprocAttr]; rfl))⟩
  ·rw [if_neg hcr] at hc ⊢
   simp only [encTest, cTest, encSpan] at hc
   refine PureC.weak (v := .tup [.nils, .int .i64 2]) ?_ rfl fun G w x h => h.tup_nils
   refine PureC_of (fn := Tryz.f17) tabOK (by kernel_rfl) rfl (by kernel_rfl) (by simp [Tryz.f17]) (by simp [noids, noid, noidss, go_sem, encTest, cTest]) (by first | rfl | simp [noids, noid, noidss, go_sem, encTest, cTest]) ?_
   intro X hX0 hXs
   repeat' (first | with_reducible (first | (refine sk ?_; intro K hK) | intro (ep : Nat → Nat) | apply_assumption -exfalso -symm only [*]) | ((first | (with_reducible first | refine rg (md := { base := 0, own := [67, 79, 107] }) (h := ?_) | refine nx ?_) | refine pK (hc) ?_); try simp (disch := omega) only [h, encTest, cTest,go_sem, simprocAttr]) | ((with_reducible refine' cE ?hv ?_ ?_); (case hv => rfl); all_goals (intro hc; (try simp only [go_sem, simprocAttr] at hc))) | ((with_reducible refine fe ?_); refine ⟨_, (by simp only [Tryz.f17, h, encTest, cTest,go_sem, simprocAttr]; rfl), ?_⟩; rfl) | fail)
 ·rw [if_neg h] at hc ⊢
  simp only [encTest, cTest, encSpan] at hc
  refine PureC.weak (v := .tup [.nils, .int .i64 (checkT t)]) ?_ rfl fun G w x h => h.tup_nils
  refine PureC_of (fn := Tryz.f17) tabOK (by kernel_rfl) rfl (by kernel_rfl) (by simp [Tryz.f17]) (by simp [noids, noid, noidss, go_sem, encTest, cTest]) (by first | rfl | simp [noids, noid, noidss, go_sem, encTest, cTest]) ?_
  intro X hX0 hXs
  repeat' (first | with_reducible (first | (refine sk ?_; intro K hK) | intro (ep : Nat → Nat) | apply_assumption -exfalso -symm only [*]) | ((first | (with_reducible first | refine rg (md := { base := 0, own := [67, 79, 107] }) (h := ?_) | refine nx ?_) | refine pK (hc) ?_); try simp (disch := omega) only [h, encTest, cTest,go_sem, simprocAttr]) | ((with_reducible refine' cE ?hv ?_ ?_); (case hv => rfl); all_goals (intro hc; (try simp only [go_sem, simprocAttr] at hc))) | ((with_reducible refine fe ?_); refine ⟨_, (by simp only [Tryz.f17, h, encTest, cTest,go_sem, simprocAttr]; rfl), ?_⟩; rfl) | fail)
end Cp
namespace Cp
open Go Go.Proofs
set_option maxRecDepth 10000
set_option maxHeartbeats 1000000
theorem r2same_ok (t : TestT) (hr : RunB t.run) (hu : t.rules.steps.length ≤ 100000) (hn : t.notes.length ≤ 100000) : PureC Tryz.prog 18 [encTest t, encTest t] (.bool true) := by
 have s1 := same_ok t.run t.run hr
 have s2 := sameRules_ok t.rules t.rules (by omega)
 simp only [decide_true, encRun, cRun, encRules, cRules] at s1 s2
 refine PureC_of (fn := Tryz.f18) tabOK (by kernel_rfl) rfl (by kernel_rfl) (by simp [Tryz.f18]) (by simp [noids, noid, noidss, go_sem, encTest, cTest]) (by first | rfl | simp [noids, noid, noidss, go_sem, encTest, cTest]) ?_
 intro X hX0 hXs
 repeat' (first | with_reducible (first | (refine sk ?_; intro K hK) | apply_assumption -exfalso -symm only [*]) | ((first | (with_reducible first | refine rg (h := ?_) | refine nx ?_) | refine pK (s1) ?_ | refine pK (s2) ?_); try simp (disch := omega) only [List.range_zero, List.nil_append, List.cons_append, List.map_cons, List.map_nil, encTest, cTest, encRun, cRun, encRules, cRules,go_sem, simprocAttr]) | ((with_reducible refine' cE ?hv ?_ ?_); (case hv => rfl); all_goals (intro hc; (try simp only [go_sem, simprocAttr] at hc))) | fail)
 refine AW_block (AW_loop (fun m f H => ∃ i : Nat, m = t.notes.length - i ∧ i ≤ t.notes.length ∧ (f 2 = .pim (cTest t) ∧ f 3 = .pim (cTest t) ∧ f 5 = .int .i64 (i : Int))) t.notes.length
  ⟨0, rfl, Nat.zero_le _, by (and_intros <;> first | rfl | (simp only [cTest, go_sem, simprocAttr]; done) | (simp only [cTest, go_sem, simprocAttr]; rfl))⟩ ?_)
 rintro m f H ⟨i, rfl, hi, h2, h3, h5⟩
 by_cases hlt : i < t.notes.length
 ·obtain ⟨n, hn⟩ : ∃ x, t.notes[i]? = some x := ⟨_, List.getElem?_eq_getElem hlt⟩
  have hna := note_at hn
  simp only [cNote] at hna
  repeat' (first | with_reducible (first | (refine sk ?_; intro K hK) | refine bk ?_ | apply_assumption -exfalso -symm only [*]) | ((with_reducible first | refine rg (h := ?_) | refine nx ?_); try simp (disch := omega) only [h2, h3, h5, hlt, hna, cTest,go_sem, simprocAttr]) | ((with_reducible refine' cE ?hv ?_ ?_); (case hv => rfl); all_goals (intro hc; (try simp only [go_sem, simprocAttr] at hc); try (exfalso; omega))) | fail)
  exact ⟨t.notes.length - (i + 1), by omega, i + 1, rfl, by omega, rfl⟩
 ·repeat' (first | with_reducible (first | (refine sk ?_; intro K hK) | apply_assumption -exfalso -symm only [*]) | ((with_reducible first | refine rg (h := ?_) | refine nx ?_); try simp (disch := omega) only [h2, h3, h5, hlt, cTest,go_sem, simprocAttr]) | ((with_reducible refine' cE ?hv ?_ ?_); (case hv => rfl); all_goals (intro hc; (try simp only [go_sem, simprocAttr] at hc); try (exfalso; omega))) | ((with_reducible refine fe ?_); refine ⟨_, (by simp only [Tryz.f18, h2, h3, h5, hlt, cTest,go_sem, simprocAttr]; rfl), ?_⟩; rfl) | fail)
end Cp
namespace Cp
open Go
theorem fit_map {α : Type} {c : α → List Val} : ∀ {xss : List (List Val)}, (∀ es ∈ xss, ∃ x, es = c x) → ∃ l : List α, xss = l.map c
 | [], _ => ⟨[], rfl⟩
 | es :: xss, h => by
  obtain ⟨x, rfl⟩ := h es (by simp)
  obtain ⟨l, rfl⟩ := fit_map fun es he => h es (List.mem_cons_of_mem _ he)
  exact ⟨x :: l, rfl⟩
theorem fit_slice {T : Tab} {n : Nat} {t e sz : Nat} {vs : List Val} {b b2 s1 : Nat} {z z2 : Val} {p p2 : Bool} {k2 : TK} {α : Type} {c : α → List Val} (ht : T t = some { kind := .slice e, sz := s1, bytes := b, zero := z, plain := p })
  (he : T e = some { kind := k2, sz := sz, bytes := b2, zero := z2, plain := p2 }) (h : Fit T (n + 1) t vs) (hc : ∀ es, Fit T n e es → ∃ x, es = c x) : ∃ l : List α, vs = [.lst sz (l.map c)] := by
 simp only [Fit, ht] at h
 obtain ⟨sz', xss, rfl, hs, _, hx⟩ := h
 rw [he] at hs
 cases hs
 obtain ⟨l, rfl⟩ := fit_map (c := c) fun es hes => hc es (hx es hes).2
 exact ⟨l, rfl⟩
theorem fit_struct {T : Tab} {n : Nat} {t sz : Nat} {vs : List Val} {b : Nat} {z : Val} {p : Bool} {fs : List (Nat × Nat)} (ht : T t = some { kind := .struct fs, sz := sz, bytes := b, zero := z, plain := p }) (h : Fit T (n + 1) t vs) :
  vs.length = sz ∧ ∀ q ∈ fs, ∃ fi, T q.2 = some fi ∧ Fit T n q.2 ((vs.drop q.1).take fi.sz) := by
 simp only [Fit, ht] at h
 exact h
theorem fit_int {T : Tab} {n : Nat} {t : Nat} {vs : List Val} {s b : Nat} {z : Val} {p : Bool} {k : IntKind} (ht : T t = some { kind := .int k, sz := s, bytes := b, zero := z, plain := p }) (h : Fit T (n + 1) t vs) : ∃ m, vs = [.int k m] ∧ (Lit.int k m).wf = true := by
 simp only [Fit, ht] at h
 exact h
theorem fit3 {n : Nat} {vs : List Val} (h : Fit tab (n + 1) 3 vs) : ∃ m, vs = [.int .i64 m] := by
 obtain ⟨m, h, _⟩ := fit_int tab_3 h; exact ⟨m, h⟩
theorem fit_ints {n : Nat} {vs : List Val} {t b s1 : Nat} {z : Val} {p : Bool} (ht : tab t = some { kind := .slice 3, sz := s1, bytes := b, zero := z, plain := p }) (h : Fit tab (n + 2) t vs) : ∃ l : List Int, vs = [.lst 1 (ints l)] := by
 obtain ⟨l, rfl⟩ := fit_slice (c := fun m : Int => [Val.int .i64 m]) ht tab_3 h fun es he => fit3 he
 exact ⟨l, rfl⟩
theorem fit_two {n : Nat} {vs : List Val} {t b : Nat} {z : Val} {p : Bool} (ht : tab t = some { kind := .struct [(0, 3), (1, 3)], sz := 2, bytes := b, zero := z, plain := p }) (h : Fit tab (n + 2) t vs) : ∃ x y : Int, vs = [.int .i64 x, .int .i64 y] := by
 obtain ⟨hl, hq⟩ := fit_struct ht h
 match vs, hl with
 | [a, b], _ =>
  obtain ⟨fi, e, h0⟩ := hq (0, 3) (by simp)
  rw [tab_3] at e; cases e
  obtain ⟨fi, e, h1⟩ := hq (1, 3) (by simp)
  rw [tab_3] at e; cases e
  obtain ⟨x, hx⟩ := fit3 h0
  obtain ⟨y, hy⟩ := fit3 h1
  simp at hx hy
  exact ⟨x, y, by rw [hx, hy]⟩
theorem fit_span {n : Nat} {vs : List Val} (h : Fit tab (n + 2) 26 vs) : ∃ s : Span, vs = [.int .i64 s.lo, .int .i64 s.hi] := by
 obtain ⟨x, y, h⟩ := fit_two tab_26 h; exact ⟨⟨x, y⟩, h⟩
theorem fit_pt {n : Nat} {vs : List Val} (h : Fit tab (n + 2) 139 vs) : ∃ x : Pt, vs = cPt x := by
 obtain ⟨x, y, h⟩ := fit_two tab_139 h; exact ⟨⟨x, y⟩, h⟩
theorem fit_step {n : Nat} {vs : List Val} (h : Fit tab (n + 2) 66 vs) : ∃ x : StepT, vs = cStep x := by
 obtain ⟨x, y, h⟩ := fit_two tab_66 h; exact ⟨⟨x, y⟩, h⟩
theorem fit_cpl {n : Nat} {vs : List Val} (h : Fit tab (n + 3) 136 vs) : ∃ x : Cpl, vs = cCpl x := by
 obtain ⟨hl, hq⟩ := fit_struct tab_136 h
 match vs, hl with
 | [a, b, c, d, e, f], _ =>
  obtain ⟨fi, e0, h0⟩ := hq (0, 3) (by simp)
  rw [tab_3] at e0; cases e0
  obtain ⟨fi, e1, h1⟩ := hq (1, 26) (by simp)
  rw [tab_26] at e1; cases e1
  obtain ⟨fi, e2, h2⟩ := hq (3, 26) (by simp)
  rw [tab_26] at e2; cases e2
  obtain ⟨fi, e3, h3⟩ := hq (5, 3) (by simp)
  rw [tab_3] at e3; cases e3
  obtain ⟨x0, h0⟩ := fit3 h0
  obtain ⟨x1, h1⟩ := fit_span h1
  obtain ⟨x2, h2⟩ := fit_span h2
  obtain ⟨x3, h3⟩ := fit3 h3
  simp at h0 h1 h2 h3
  obtain ⟨h1, h1'⟩ := h1
  obtain ⟨h2, h2'⟩ := h2
  exact ⟨⟨x0, x1, x2, x3⟩, by rw [h0, h1, h1', h2, h2', h3]; rfl⟩
theorem fit_row {n : Nat} {vs : List Val} (h : Fit tab (n + 3) 126 vs) : ∃ x : RowT, vs = cRow x := by
 obtain ⟨hl, hq⟩ := fit_struct tab_126 h
 match vs, hl with
 | [a, b], _ =>
  obtain ⟨fi, e0, h0⟩ := hq (0, 75) (by simp)
  rw [tab_75] at e0; cases e0
  obtain ⟨fi, e1, h1⟩ := hq (1, 3) (by simp)
  rw [tab_3] at e1; cases e1
  obtain ⟨x0, h0⟩ := fit_ints tab_75 h0
  obtain ⟨x1, h1⟩ := fit3 h1
  simp at h0 h1
  exact ⟨⟨x0, x1⟩, by rw [h0, h1]; rfl⟩
theorem fit_pts {n : Nat} {vs : List Val} (h : Fit tab (n + 3) 22 vs) : ∃ l : List Pt, vs = [.lst 2 (l.map cPt)] := fit_slice tab_22 tab_139 h fun es he => fit_pt he
theorem fit_run {n : Nat} {vs : List Val} (h : Fit tab (n + 5) 28 vs) : ∃ r : RunT, vs = cRun r := by
 obtain ⟨hl, hq⟩ := fit_struct tab_28 h
 match vs, hl with
 | [a, b, c, d, e, f], _ =>
  obtain ⟨fi, e0, h0⟩ := hq (0, 3) (by simp)
  rw [tab_3] at e0; cases e0
  obtain ⟨fi, e1, h1⟩ := hq (1, 22) (by simp)
  rw [tab_22] at e1; cases e1
  obtain ⟨fi, e2, h2⟩ := hq (2, 23) (by simp)
  rw [tab_23] at e2; cases e2
  obtain ⟨fi, e3, h3⟩ := hq (3, 24) (by simp)
  rw [tab_24] at e3; cases e3
  obtain ⟨fi, e4, h4⟩ := hq (4, 26) (by simp)
  rw [tab_26] at e4; cases e4
  obtain ⟨x0, h0⟩ := fit3 h0
  obtain ⟨x1, h1⟩ := fit_pts h1
  obtain ⟨x2, h2⟩ := fit_slice tab_23 tab_136 h2 fun es he => fit_cpl he
  obtain ⟨x3, h3⟩ := fit_slice tab_24 tab_126 h3 fun es he => fit_row he
  obtain ⟨x4, h4⟩ := fit_span h4
  simp at h0 h1 h2 h3 h4
  obtain ⟨h4, h4'⟩ := h4
  exact ⟨⟨x0, x1, x2, x3, x4⟩, by rw [h0, h1, h2, h3, h4, h4']; rfl⟩
theorem fit_rules {n : Nat} {vs : List Val} (h : Fit tab (n + 5) 31 vs) : ∃ u : RulesT, vs = cRules u := by
 obtain ⟨hl, hq⟩ := fit_struct tab_31 h
 match vs, hl with
 | [a, b, c, d, e, f], _ =>
  obtain ⟨fi, e0, h0⟩ := hq (0, 29) (by simp)
  rw [tab_29] at e0; cases e0
  obtain ⟨fi, e1, h1⟩ := hq (1, 3) (by simp)
  rw [tab_3] at e1; cases e1
  obtain ⟨fi, e2, h2⟩ := hq (2, 3) (by simp)
  rw [tab_3] at e2; cases e2
  obtain ⟨fi, e3, h3⟩ := hq (3, 26) (by simp)
  rw [tab_26] at e3; cases e3
  obtain ⟨fi, e4, h4⟩ := hq (5, 3) (by simp)
  rw [tab_3] at e4; cases e4
  obtain ⟨x0, h0⟩ := fit_slice tab_29 tab_66 h0 fun es he => fit_step he
  obtain ⟨x1, h1⟩ := fit3 h1
  obtain ⟨x2, h2⟩ := fit3 h2
  obtain ⟨x3, h3⟩ := fit_span h3
  obtain ⟨x4, h4⟩ := fit3 h4
  simp at h0 h1 h2 h3 h4
  obtain ⟨h3, h3'⟩ := h3
  exact ⟨⟨x0, x1, x2, x3, x4⟩, by rw [h0, h1, h2, h3, h3', h4]; rfl⟩
theorem arg_byte {a : Val} (h : FitV tab 8 5 a) : ∃ m, a = .int .u8 m ∧ 0 ≤ m ∧ m ≤ 255 := by
 obtain ⟨ti, cs, e, h, _, rfl⟩ := h
 obtain ⟨m, rfl, hw⟩ := fit_int tab_5 h
 rw [tab_5] at e; cases e
 simp [Lit.wf, IntKind.min, IntKind.max, IntKind.signed, IntKind.bits] at hw
 exact ⟨m, rfl, by omega, by omega⟩
theorem fit_note {n : Nat} {vs : List Val} (h : Fit tab (n + 3) 70 vs) : ∃ x : NoteT, vs = cNote x ∧ 0 ≤ x.kind ∧ x.kind ≤ 255 := by
 obtain ⟨hl, hq⟩ := fit_struct tab_70 h
 match vs, hl with
 | [a, b, c, d, e], _ =>
  obtain ⟨fi, e0, h0⟩ := hq (0, 3) (by simp)
  rw [tab_3] at e0; cases e0
  obtain ⟨fi, e1, h1⟩ := hq (1, 5) (by simp)
  rw [tab_5] at e1; cases e1
  obtain ⟨fi, e2, h2⟩ := hq (2, 3) (by simp)
  rw [tab_3] at e2; cases e2
  obtain ⟨fi, e3, h3⟩ := hq (3, 26) (by simp)
  rw [tab_26] at e3; cases e3
  obtain ⟨x0, h0⟩ := fit3 h0
  obtain ⟨x1, h1, hw⟩ := fit_int tab_5 h1
  obtain ⟨x2, h2⟩ := fit3 h2
  obtain ⟨x3, h3⟩ := fit_span h3
  simp [Lit.wf, IntKind.min, IntKind.max, IntKind.signed, IntKind.bits] at hw
  simp at h0 h1 h2 h3
  obtain ⟨h3, h3'⟩ := h3
  exact ⟨⟨x0, x1, x2, x3⟩, by rw [h0, h1, h2, h3, h3']; rfl, by simp only; omega, by simp only; omega⟩
theorem fit_map3 {α : Type} {c : α → List Val} {p : α → Prop} : ∀ {xss : List (List Val)}, (∀ es ∈ xss, ∃ x, es = c x ∧ p x) → ∃ l : List α, xss = l.map c ∧ ∀ x ∈ l, p x
 | [], _ => ⟨[], rfl, fun x h => by simp at h⟩
 | es :: xss, h => by
  obtain ⟨x, rfl, hp⟩ := h es (by simp)
  obtain ⟨l, rfl, hl⟩ := fit_map3 fun es he => h es (List.mem_cons_of_mem _ he)
  exact ⟨x :: l, rfl, fun y hy => by rcases List.mem_cons.1 hy with rfl | hy; exact hp; exact hl y hy⟩
theorem fit_slice2 {T : Tab} {n : Nat} {t e sz : Nat} {vs : List Val} {b b2 s1 : Nat} {z z2 : Val} {p p2 : Bool} {k2 : TK} {α : Type} {c : α → List Val} {q : α → Prop} (ht : T t = some { kind := .slice e, sz := s1, bytes := b, zero := z, plain := p })
  (he : T e = some { kind := k2, sz := sz, bytes := b2, zero := z2, plain := p2 }) (h : Fit T (n + 1) t vs) (hc : ∀ es, Fit T n e es → ∃ x, es = c x ∧ q x) : ∃ l : List α, vs = [.lst sz (l.map c)] ∧ ∀ x ∈ l, q x := by
 simp only [Fit, ht] at h
 obtain ⟨sz', xss, rfl, hs, _, hx⟩ := h
 rw [he] at hs
 cases hs
 obtain ⟨l, rfl, hq⟩ := fit_map3 (c := c) fun es hes => hc es (hx es hes).2
 exact ⟨l, rfl, hq⟩
theorem fit_array {T : Tab} {n : Nat} {t sz m e : Nat} {vs : List Val} {b : Nat} {z : Val} {p : Bool} (ht : T t = some { kind := .array m e, sz := sz, bytes := b, zero := z, plain := p }) (h : Fit T (n + 1) t vs) :
  vs.length = sz ∧ ∀ i, i < m → ∃ fi, T e = some fi ∧ Fit T n e ((vs.drop (i * fi.sz)).take fi.sz) := by
 simp only [Fit, ht] at h
 exact h
theorem fit_lims {n : Nat} {vs : List Val} (h : Fit tab (n + 2) 32 vs) : ∃ a b c d e g : Int, vs = [.int .i64 a, .int .i64 b, .int .i64 c, .int .i64 d, .int .i64 e, .int .i64 g] := by
 obtain ⟨hl, hq⟩ := fit_array tab_32 h
 match vs, hl with
 | [a, b, c, d, e, g], _ =>
  have q := fun i hi => hq i hi
  have one : ∀ i v, i < 6 → ([a, b, c, d, e, g] : List Val)[i]? = some v → ∃ m, v = .int .i64 m := by
   intro i v hi hv
   obtain ⟨fi, ef, hf⟩ := q i hi
   rw [tab_3] at ef; cases ef
   obtain ⟨m, hm⟩ := fit3 hf
   refine ⟨m, ?_⟩
   have : ((([a, b, c, d, e, g] : List Val).drop (i * 1)).take 1)[0]? = some (.int .i64 m) := by rw [hm]; rfl
   rw [List.getElem?_take, if_pos (by decide), List.getElem?_drop, Nat.mul_one, Nat.add_zero, hv] at this
   exact Option.some.inj this
  obtain ⟨m0, rfl⟩ := one 0 a (by decide) rfl
  obtain ⟨m1, rfl⟩ := one 1 b (by decide) rfl
  obtain ⟨m2, rfl⟩ := one 2 c (by decide) rfl
  obtain ⟨m3, rfl⟩ := one 3 d (by decide) rfl
  obtain ⟨m4, rfl⟩ := one 4 e (by decide) rfl
  obtain ⟨m5, rfl⟩ := one 5 g (by decide) rfl
  exact ⟨m0, m1, m2, m3, m4, m5, rfl⟩
def NotesU (t : TestT) : Prop := ∀ n ∈ t.notes, 0 ≤ n.kind ∧ n.kind ≤ 255
set_option maxHeartbeats 2000000 in
theorem fit_test {n : Nat} {vs : List Val} (h : Fit tab (n + 6) 35 vs) : ∃ t : TestT, vs = cTest t ∧ NotesU t := by
 obtain ⟨hl, hq⟩ := fit_struct tab_35 h
 have cut : ∀ (vs : List Val), vs.length = 23 → vs = vs.take 1 ++ ((vs.drop 1).take 6 ++ ((vs.drop 7).take 6 ++ ((vs.drop 13).take 2 ++ ((vs.drop 15).take 1 ++ ((vs.drop 16).take 6 ++ (vs.drop 22).take 1))))) := by
  intro vs hl
  have d : ∀ (a k : Nat), vs.drop a = (vs.drop a).take k ++ vs.drop (a + k) := fun a k => by rw [← List.drop_drop, List.take_append_drop]
  have e : (vs.drop 22).take 1 = vs.drop 22 := List.take_of_length_le (by rw [List.length_drop]; omega)
  rw [e, ← d 16 6, ← d 15 1, ← d 13 2, ← d 7 6, ← d 1 6]
  exact (List.take_append_drop 1 vs).symm
 obtain ⟨fi, e0, h0⟩ := hq (0, 3) (by simp)
 rw [tab_3] at e0; cases e0
 obtain ⟨fi, e1, h1⟩ := hq (1, 28) (by simp)
 rw [tab_28] at e1; cases e1
 obtain ⟨fi, e2, h2⟩ := hq (7, 31) (by simp)
 rw [tab_31] at e2; cases e2
 obtain ⟨fi, e3, h3⟩ := hq (13, 26) (by simp)
 rw [tab_26] at e3; cases e3
 obtain ⟨fi, e4, h4⟩ := hq (15, 3) (by simp)
 rw [tab_3] at e4; cases e4
 obtain ⟨fi, e5, h5⟩ := hq (16, 32) (by simp)
 rw [tab_32] at e5; cases e5
 obtain ⟨fi, e6, h6⟩ := hq (22, 33) (by simp)
 rw [tab_33] at e6; cases e6
 obtain ⟨x0, h0⟩ := fit3 h0
 obtain ⟨x1, h1⟩ := fit_run h1
 obtain ⟨x2, h2⟩ := fit_rules h2
 obtain ⟨x3, h3⟩ := fit_span h3
 obtain ⟨x4, h4⟩ := fit3 h4
 obtain ⟨l0, l1, l2, l3, l4, l5, h5⟩ := fit_lims h5
 obtain ⟨x6, h6, hu⟩ := fit_slice2 tab_33 tab_70 h6 fun es he => fit_note he
 simp only [List.drop_zero] at h0
 refine ⟨⟨x0, x1, x2, x3, x4, l0, l1, l2, l3, l4, l5, x6⟩, ?_, hu⟩
 rw [cut vs hl, h0, h1, h2, h3, h4, h5, h6]
 rfl
theorem arg_test {a : Val} (h : FitV tab 8 35 a) : ∃ t : TestT, a = encTest t ∧ NotesU t := by
 obtain ⟨ti, cs, e, h, _, rfl⟩ := h
 obtain ⟨l, rfl, hu⟩ := fit_test h
 rw [tab_35] at e; cases e; exact ⟨l, rfl, hu⟩
end Cp
namespace Cp
open Go Go.Proofs
set_option maxRecDepth 10000
set_option maxHeartbeats 2000000
structure TestG (t : TestT) : Prop where
 sm : RunSm t.run
 steps : t.rules.steps.length ≤ 10
 notes : t.notes.length ≤ 80
 tb : TestB t
theorem testG {t : TestT} (h : greatT t = false) (hu : NotesU t) : TestG t := by
 unfold greatT at h
 rw [Bool.or_eq_false_iff, decide_eq_false_iff_not] at h
 obtain ⟨h1, h2⟩ := great_sm h.1
 exact ⟨h1, h2, by omega, h1.b, ⟨by omega⟩, by omega, hu⟩
theorem byteL_c8 : ∀ {l : List Int}, byteL (l.map c8) = some l
 | [] => rfl
 | a :: l => by simp only [List.map_cons, c8, byteL, byteL_c8 (l := l)]
theorem classV_tup {t : TestT} {c : Int} : ∃ (s : Span) (e : Int), classV t c = .tup [encSpan s, .int .i64 e] := by
 unfold classV; (repeat' split) <;> exact ⟨_, _, rfl⟩
theorem stopsV_tup {t : TestT} {c : Int} : ∃ (l : List Int) (e : Int), stopsV t c = .tup [.lst 1 (l.map c8), .int .i64 e] := by
 unfold stopsV; (repeat' split)
 ·exact ⟨_, _, rfl⟩
 ·exact ⟨[], _, rfl⟩
 ·exact ⟨[], _, rfl⟩
end Cp
namespace Cp
open Go Go.Proofs
set_option maxRecDepth 10000
set_option maxHeartbeats 2000000
theorem classes_law (t : TestT) (hu : NotesU t) (l : Int) (hl0 : 0 ≤ l) (hl1 : l ≤ 255) : PureC Tryz.prog 3 [encTest t, .int .u8 l] (.bool true) := by
 have hg := r2great_ok t
 simp only [encTest, cTest] at hg
 cases hgr : greatT t with
 | true =>
  rw [hgr] at hg
  refine PureC_of (fn := Tryz.f3) tabOK (by kernel_rfl) rfl (by kernel_rfl) (by simp [Tryz.f3]) (by simp [noids, noid, noidss, go_sem, encTest, cTest]) (by first | rfl | simp [noids, noid, noidss, go_sem, encTest, cTest]) ?_
  intro X hX0 hXs
  repeat' (first | with_reducible (first | (refine sk ?_; intro K hK) | apply_assumption -exfalso -symm only [*]) | ((first | (with_reducible first | refine rg (h := ?_) | refine nx ?_) | refine pK (hg) ?_); try simp (disch := omega) only [encTest, cTest,go_sem, simprocAttr]) | ((with_reducible refine' cE ?hv ?_ ?_); (case hv => rfl); all_goals (intro hc; (try simp only [go_sem, simprocAttr] at hc))) | ((with_reducible refine fe ?_); refine ⟨_, (by simp only [Tryz.f3, encTest, cTest,go_sem, simprocAttr]; rfl), ?_⟩; rfl) | fail)
 | false =>
  rw [hgr] at hg
  obtain ⟨hsm, hst, hnt, htb⟩ := testG hgr hu
  have h1 := r2twin_ok t hsm (by omega) (by omega)
  have h2 := cClass_ok t htb l ⟨hl0, hl1⟩
  have h3 := r2Class_ok t htb l ⟨hl0, hl1⟩
  have h4 := cStops_ok t htb l ⟨hl0, hl1⟩
  have h5 := r2Stops_ok t htb l ⟨hl0, hl1⟩
  have h8 := r2same_ok t hsm.b (by omega) (by omega)
  obtain ⟨s, e, hF⟩ := @classV_tup t l
  obtain ⟨st, d, hG⟩ := @stopsV_tup t l
  have hby := @byteL_c8 st
  rw [hF] at h2 h3
  rw [hG] at h4 h5
  simp only [encTest, cTest, encSpan] at h1 h2 h3 h4 h5 h8
  refine PureC_of (fn := Tryz.f3) tabOK (by kernel_rfl) rfl (by kernel_rfl) (by simp [Tryz.f3]) (by simp [noids, noid, noidss, go_sem, encTest, cTest]) (by first | rfl | simp [noids, noid, noidss, go_sem, encTest, cTest]) ?_
  intro X hX0 hXs
  repeat' (first | with_reducible (first | (refine sk ?_; intro K hK) | intro (ep : Nat → Nat) | apply_assumption -exfalso -symm only [*]) | ((first | (with_reducible first | refine rg (h := ?_) | refine nx ?_) | refine pK (hg) ?_ | refine pK (h1) ?_ | refine pK (h2) ?_ | refine pK (h3) ?_ | refine pK (h4) ?_ | refine pK (h5) ?_ | refine pK (h8) ?_); try simp (disch := omega) only [encTest, cTest, encSpan, hby,go_sem, simprocAttr]) | ((with_reducible refine' cE ?hv ?_ ?_); (case hv => rfl); all_goals (intro hc; (try simp only [go_sem, simprocAttr] at hc))) | ((with_reducible refine fe ?_); refine ⟨_, (by simp only [Tryz.f3, encTest, cTest, encSpan, hby,go_sem, simprocAttr]; rfl), ?_⟩; rfl) | fail)
end Cp
namespace Cp
open Go Go.Proofs
set_option maxRecDepth 100000
theorem shows_one {W : World} {fuel : Nat} {v : Value} {cs : List Value} {b : UInt8} {r : List UInt8} {q : List MemPlace} {f0 : FuncId} (hl : cs.length = 1) (hv : cs = [v])
  (hone : ((List.range Tryz.prog.funcs.size).filter fun f => (Tryz.prog.funcs[f]?).any (·.name.toUTF8.data.toList == b :: r)) = [f0])
  (h : DataW.trod (funcToken Tryz.prog) Tryz.prog W 0 (fun _ => true) true fuel 165 cs = some (.agg [.held (b :: r)], q)) : v = .func (.func f0) #[] #[] := by
 subst hv
 obtain ⟨xs, m, rfl, e1, _, hxl, hf⟩ := DataW.trod_struct Tryz.underlying165 h
 simp only [Prod.mk.injEq, DataW.agg.injEq] at e1
 have h0 : DataW.trod (funcToken Tryz.prog) Tryz.prog W 0 (fun _ => true) true m 164 (([v].drop 0).take (Tryz.prog.cellsOf 164)) = xs[0]? := hf 0 _ rfl
 have hc1 : Tryz.prog.cellsOf 164 = 1 := by kernel_rfl
 rw [hc1] at h0
 match xs, hxl with
 | [x], _ =>
  obtain ⟨x1, x2⟩ := x
  simp only [List.map_cons, List.map_nil, List.cons.injEq, and_true] at e1
  simp only [List.drop_zero, List.take_succ_cons, List.take_zero, List.getElem?_cons_zero] at h0
  rw [← e1.1] at h0
  exact func_of_trod Tryz.underlying164 hone h0
def showsD : DataW Unit := .agg [.agg [.iface "func" (.lit (.string [99, 111, 116, 116, 111, 110, 112, 97, 100, 47, 99, 108, 97, 115, 115, 46, 115, 104, 111, 119, 115, 36, 49]))], .agg [.iface "func" (.lit (.string [99, 111, 116, 116, 111, 110, 112, 97, 100, 47, 99, 108, 97, 115, 115, 46, 115, 104, 111, 119, 115, 36, 50]))]]
theorem glb_ok {W : World} (h : laidMetH Tryz.prog [("cottonpad/class.shows", .iface "func table" showsD)] W) : GlbOK W := by
 obtain ⟨g, t, cs, fuel, p, e1, e2, e3, e4⟩ := h.funcs (n := "cottonpad/class.shows") (d := showsD) (List.mem_singleton.2 rfl)
 have hg : Tryz.prog.globalNamed "cottonpad/class.shows" = some 0 := by kernel_rfl
 obtain rfl : 0 = g := Option.some.inj (hg.symm.trans e1)
 have ht : (Tryz.prog.globals[0]?).map (·.type) = some 166 := by kernel_rfl
 obtain rfl : 166 = t := Option.some.inj (ht.symm.trans e2)
 have hcell := fun i => World.var?_cell e1 e3 i
 obtain ⟨xs, m, rfl, x1, hl, hxl, hf⟩ := DataW.trod_array Tryz.underlying166 e4
 have hc1 : Tryz.prog.cellsOf 165 = 1 := by kernel_rfl
 have hc2 : Tryz.prog.cellsOf 166 = 2 := by kernel_rfl
 rw [hc2] at hl
 obtain ⟨cs⟩ := cs
 match cs, hl, xs, hxl with
 | [v0, v1], _, [y0, y1], _ =>
  have h0 := hf 0 (by decide)
  have h1 := hf 1 (by decide)
  simp only [hc1, Nat.zero_mul, Nat.one_mul, List.drop_zero, List.drop_succ_cons, List.take_succ_cons, List.take_zero, List.getElem?_cons_zero, List.getElem?_cons_succ] at h0 h1
  obtain ⟨y0, z0⟩ := y0
  obtain ⟨y1, z1⟩ := y1
  simp only [Prod.mk.injEq, List.map_cons, List.map_nil] at x1
  have hx := x1.1
  have hd : showsD.funcsOut = .agg [.agg [.held [99, 111, 116, 116, 111, 110, 112, 97, 100, 47, 99, 108, 97, 115, 115, 46, 115, 104, 111, 119, 115, 36, 49]], .agg [.held [99, 111, 116, 116, 111, 110, 112, 97, 100, 47, 99, 108, 97, 115, 115, 46, 115, 104, 111, 119, 115, 36, 50]]] := by kernel_rfl
  rw [hd] at hx
  simp only [DataW.agg.injEq, List.cons.injEq, and_true] at hx
  rw [← hx.1] at h0
  rw [← hx.2] at h1
  have r0 := shows_one (f0 := 160) rfl rfl (by kernel_rfl) h0
  have r1 := shows_one (f0 := 161) rfl rfl (by kernel_rfl) h1
  subst r0 r1
  have c0 := hcell 0
  have c1 := hcell 1
  intro g cs hge
  unfold GE at hge
  split at hge
  ·rename_i h0; subst h0
   cases hge
   refine .pim _ 0 0 (fun j => if j = 0 then .func (.func 160) #[] #[] else .func (.func 161) #[] #[]) (cell_lt c0) (fun j v hj => ?_) (fun j v hj => ?_) (fun j v hj => ?_)
   ·match j, hj with
    | 0, hj => simpa using c0
    | 1, hj => simpa using c1
    | j + 2, hj => simp at hj
   ·match j, hj with
    | 0, hj => cases hj; rfl
    | 1, hj => cases hj; rfl
    | j + 2, hj => simp at hj
   ·match j, hj with
    | 0, hj => cases hj; exact .fn _ _ _ rfl (fun i v h => by simp at h)
    | 1, hj => cases hj; exact .fn _ _ _ rfl (fun i v h => by simp at h)
    | j + 2, hj => simp at hj
  ·cases hge
end Cp
