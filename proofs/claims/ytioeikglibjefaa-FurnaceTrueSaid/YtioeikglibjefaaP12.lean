/- Rules, facts and contracts that the statement's proof leans on. Conditions: none. -/
import Derived.Test.YtioeikglibjefaaP11
set_option linter.unusedVariables false
set_option linter.unusedSimpArgs false
set_option linter.unusedSectionVars false
namespace Cp
open Go Go.Proofs
set_option maxRecDepth 10000
set_option maxHeartbeats 4000000
def truP (l : List Int) (m i : Int) : Int := (chI l (9 * m + i + 1)).tmod 1001
theorem truP_bnd {l : List Int} (hl : By l) (m i : Int) : 0 ≤ truP l m i ∧ truP l m i ≤ 1000 := by
  have h := chI_bnd hl (9 * m + i + 1)
  have h1 : 0 ≤ (chI l (9 * m + i + 1)).tmod 1001 := Int.tmod_nonneg _ h.1
  have h2 : (chI l (9 * m + i + 1)).tmod 1001 < 1001 := Int.tmod_lt_of_pos _ (by omega)
  unfold truP; omega
theorem true1_ok (l : List Int) (hl : By l) (m i : Int) (hm : 1 ≤ m ∧ m ≤ 60) (hi : -1 ≤ i ∧ i ≤ 10) : PureC Try.prog 36 [.int .i64 m, .int .i64 i, .pim [.lst 1 (l.map c32)]] (.int .i64 (truP l m i)) := by
  have hb := truP_bnd hl m i
  have hc := choose_ok l (9 * m + i + 1) (by omega)
  have hcb := chI_bnd hl (9 * m + i + 1)
  unfold truP at hb ⊢
  obtain ⟨d, hd⟩ : ∃ d, (chI l (9 * m + i + 1)).tmod 1001 = d := ⟨_, rfl⟩
  have w1 : IntKind.u32.wrap d = d := IntWalk.u32_in d (by omega)
  rw [hd] at hb ⊢
  refine PureC_of (fn := Try.f36) tabOK (by kernel_rfl) rfl (by kernel_rfl) (by simp [Try.f36]) (by simp [noids, noid, noidss, go_sem]) (by first | rfl | simp [noids, noid, noidss, go_sem]) ?_
  intro X hX0 hXs
  repeat' (first | (with_reducible refine sk ?_; intro K hK) | ((first | (with_reducible first | refine rg (h := ?_) | refine nx ?_) | refine pK (hc) ?_); try simp (disch := omega) only [hd, w1,go_sem, simprocAttr]) | (with_reducible refine bk ?_) | ((with_reducible refine' cE ?hv ?_ ?_); (case hv => first | rfl | (simp only [hd, w1,go_sem, simprocAttr]; rfl)); all_goals (intro hc; (try simp only [go_sem, simprocAttr] at hc); try (exfalso; omega))) | ((with_reducible refine fe ?_); refine ⟨_, (by simp only [Try.f36, hd, w1,go_sem, simprocAttr]; rfl), ?_⟩; first | rfl | (try simp only [hd, w1,go_sem, simprocAttr, seval])) | with_reducible intro (ep : Nat → Nat) | with_reducible apply_assumption -exfalso -symm only [*])
theorem findB_mem {b : Brc} {v : Brc → Val} : ∀ {l : List Brc} {i : Nat}, (∃ x ∈ l, sameL b x) → ∃ (j : Nat) (x : Brc), findB b v l i = some (j, v x)
  | [], i, h => by obtain ⟨x, hx, _⟩ := h; simp at hx
  | y :: l, i, h => by
    simp only [findB]
    by_cases hs : sameL b y
    · rw [if_pos hs]; exact ⟨_, _, rfl⟩
    · rw [if_neg hs]
      refine findB_mem (l := l) ?_
      obtain ⟨x, hx, h2⟩ := h
      rcases List.mem_cons.1 hx with rfl | hx
      · exact absurd h2 hs
      · exact ⟨x, hx, h2⟩
theorem kmap_get {v : Brc → Val} {l : List Brc} {i : Nat} : (kmap v l)[i]? = (l[i]?).map fun b => (limK b, v b) := by simp [kmap]
theorem kmap_len {v : Brc → Val} {l : List Brc} : (kmap v l).length = l.length := by simp [kmap]
theorem true_law (r : RunT) (u : RulesT) (l : List Int) (hl : By l) : PureC Try.prog 5 [encRun r, encRules u, .lst 1 (l.map c32)] (.bool true) := by
  by_cases hr : (!greatS r u && decide (checkE r u = 0)) = true
  · have hr2 : greatS r u = false ∧ checkE r u = 0 := by simpa using hr
    obtain ⟨hsm, hst⟩ := great_sm hr2.1
    obtain ⟨h1, h2⟩ := check0 hr2.2
    have hu : RulesB u := ⟨by omega⟩
    have hF := run_facts h1
    have hU := rules_facts h2
    have hrl := hF.rows
    have hL := Left_ok r u hsm.b hu
    rw [leftT, if_pos hr2.2] at hL
    have hpa : (leftS r u).Pairwise brLt := leftB_pair hF
    have hla : (leftS r u).length ≤ 1000 := by
      have := leftB_len (u := u) hF r.rows.length
      have : (leftS r u).length ≤ 11 * r.rows.length := this
      omega
    have hT : Tells (leftS r u) (brkB r u (truP l) r.rows.length) := tells_left hF (truP_bnd hl) r.rows.length (Nat.le_refl _)
    have hkn : ∀ b ∈ leftS r u, 1 ≤ b.known ∧ b.known ≤ 2 := fun b hb => oneB_known hb
    have hbr := fun H0 => broken_ok r h1 u hU 36 [.pim [.lst 1 (l.map c32)]] (by simp only [noids, noid, go_sem, simprocAttr, c32_noid]; try rfl) (truP l) (truP_bnd hl) (fun m i a b c d => true1_ok l hl m i ⟨a, b⟩ ⟨c, d⟩) H0
    obtain ⟨A, hA⟩ : ∃ A, leftS r u = A := ⟨_, rfl⟩
    obtain ⟨B, hB⟩ : ∃ B, brkB r u (truP l) r.rows.length = B := ⟨_, rfl⟩
    rw [hA] at hL hpa hla hT hkn
    rw [hB] at hT hbr
    simp only [encRun, cRun, encRules, cRules] at hL hbr
    clear hA hB
    refine PureC_of (fn := Try.f5) tabOK (by kernel_rfl) rfl (by kernel_rfl) (by simp [Try.f5]) (by simp [noids, noid, noidss, go_sem, encRun, cRun, encRules, cRules]) (by first | rfl | simp [noids, noid, noidss, go_sem, encRun, cRun, encRules, cRules]) ?_
    intro X hX0 hXs
    repeat' (first | (with_reducible refine sk ?_; intro K hK) | ((first | (with_reducible first | refine AW_regN (id := 20) tabOK { base := 0, own := [13, 14, 15, 36, 78], imp := [35] } [] [] (by rw [hXs]; decide +kernel) ?_ | refine AW_regN (id := 21) tabOK { base := 0, own := [13, 14, 15, 36, 78], imp := [35] } [] [] (by rw [hXs]; decide +kernel) ?_ | refine rg (md := { base := 0, own := [13, 14, 15, 36, 78], imp := [35] }) (h := ?_) | refine rgS [13, 14, 15] (md := { base := 0, own := [13, 14, 15, 36, 78], imp := [35] }) (h := ?_) | refine nx ?_) | refine pK (alive_run) ?_ | refine pK (ready_ok r u) ?_ | refine pK (hL) ?_ | refine pK (hbr _) ?_); try simp (disch := omega) only [encRun, cRun, encRules, cRules, hr,go_sem, simprocAttr]) | (with_reducible refine bk ?_) | ((with_reducible refine' cE ?hv ?_ ?_); (case hv => first | rfl | (simp only [encRun, cRun, encRules, cRules, hr,go_sem, simprocAttr]; rfl)); all_goals (intro hc; (try simp only [go_sem, simprocAttr] at hc); try (exfalso; omega))) | ((with_reducible first | refine grdS_split ?_ ?_ | refine lkG_split ?_ ?_) <;> intro hg <;> (try simp (disch := omega) only [hg, encRun, cRun, encRules, cRules, hr,go_sem, simprocAttr]) <;> (try simp only [go_sem, simprocAttr] at hg) <;> (try (exfalso; omega))) | (first | refine iK (alive_run) ?_ | refine iK (ready_ok r u) ?_ | refine iK (hL) ?_ | refine iK (hbr _) ?_) | ((with_reducible refine fe ?_); refine ⟨_, (by simp only [Try.f5, encRun, cRun, encRules, cRules, hr,go_sem, simprocAttr]; rfl), ?_⟩; first | rfl | (try simp only [encRun, cRun, encRules, cRules, hr,go_sem, simprocAttr, seval])) | with_reducible intro (ep : Nat → Nat) | with_reducible apply_assumption -exfalso -symm only [*])
    rintro v H3 ⟨hs3, e10, v10, rfl, hBm⟩
    have g78 : H3 78 = none := by rw [hs3 78 (by decide)]; rfl
    have g36 : H3 36 = none := by rw [hs3 36 (by decide)]; rfl
    have g15 : H3 15 = none := by rw [hs3 15 (by decide)]; rfl
    have g13 : H3 13 = none := by rw [hs3 13 (by decide)]; rfl
    have g14 : H3 14 = none := by rw [hs3 14 (by decide)]; rfl
    clear hs3
    simp only [go_sem, simprocAttr]
    repeat' (first | (with_reducible refine sk ?_; intro K hK) | ((with_reducible first | refine AW_regN (id := 20) tabOK { base := 0, own := [13, 14, 15, 36, 78] } [] [] (by rw [hXs]; decide +kernel) ?_ | refine AW_regN (id := 21) tabOK { base := 0, own := [13, 14, 15, 36, 78] } [] [] (by rw [hXs]; decide +kernel) ?_ | refine rg (md := { base := 0, own := [13, 14, 15, 36, 78] }) (h := ?_) | refine rgS [13, 14, 15] (md := { base := 0, own := [13, 14, 15, 36, 78] }) (h := ?_) | refine nx ?_); try simp (disch := omega) only [g36, hBm,go_sem, simprocAttr]) | (with_reducible refine bk ?_) | ((with_reducible refine' cE ?hv ?_ ?_); (case hv => first | rfl | (simp only [g36, hBm,go_sem, simprocAttr]; rfl)); all_goals (intro hc; (try simp only [go_sem, simprocAttr] at hc); try (exfalso; omega))) | ((with_reducible first | refine grdS_split ?_ ?_ | refine lkG_split ?_ ?_) <;> intro hg <;> (try simp (disch := omega) only [hg, g36, hBm,go_sem, simprocAttr]) <;> (try simp only [go_sem, simprocAttr] at hg) <;> (try (exfalso; omega))) | ((with_reducible refine fe ?_); refine ⟨_, (by simp only [Try.f5, g36, hBm,go_sem, simprocAttr]; rfl), ?_⟩; first | rfl | (try simp only [g36, hBm,go_sem, simprocAttr, seval])) | with_reducible intro (ep : Nat → Nat) | with_reducible apply_assumption -exfalso -symm only [*])
    refine AW_range tabOK A.length (fun k f H => (f 7 = .bool true ∧ f 37 = .lst 4 (A.map cBrc) ∧ f 10 = .map 725 e10) ∧ (H 725 = some (e10, .map v10 (kmap vTr B)) ∧ H 78 = none) ∧ ∃ e v, f 11 = .map 36 e ∧ H 36 = some (e, .map v (kmap vTr (A.take k)))) (by omega) (by rw [hXs]; decide) (by decide) (by (first | rfl | (simp only [go_sem, simprocAttr]; done) | (simp only [go_sem, simprocAttr]; rfl))) (by (first | rfl | (simp only [go_sem, simprocAttr]; done) | (simp only [go_sem, simprocAttr]; rfl)))
      ⟨by (and_intros <;> first | rfl | (simp only [go_sem, simprocAttr]; done) | (simp only [go_sem, simprocAttr]; rfl)), by (and_intros <;> first | rfl | (simp only [hBm, g78, go_sem, simprocAttr]; done) | (simp only [hBm, g78, go_sem, simprocAttr]; rfl)), _, _, by (first | rfl | (simp only [go_sem, simprocAttr]; done) | (simp only [go_sem, simprocAttr]; rfl)), by (first | rfl | (simp only [kmap, go_sem, simprocAttr]; done) | (simp only [kmap, go_sem, simprocAttr]; rfl))⟩ ?_ ?_
    · clear hBm g13 g14 g15 g36 g78
      rintro k f H hk h39 h38 ⟨⟨h7, h37, h10⟩, ⟨hBm, g78⟩, e, v, h11, hH⟩
      obtain ⟨b, hb⟩ : ∃ b, A[k]? = some b := ⟨_, List.getElem?_eq_getElem hk⟩
      have hfi := xfind_kmap (b := b) (v := vTr) (A.take k) 0
      rw [findB_none (not_same hpa hb)] at hfi
      have hfi2 := xfind_kmap (b := b) (v := vTr) B 0
      have hbk := hkn b (List.mem_of_getElem? hb)
      refine AW_keep [36, 725] ?_
      by_cases hk2 : b.known = 2
      · obtain ⟨j, x, hj⟩ := findB_mem (v := vTr) (i := 0) (hT.2 b (List.mem_of_getElem? hb) hk2)
        rw [hj] at hfi2
        simp only [limK, vTr] at hfi hfi2
        repeat' (first | (with_reducible refine sk ?_; intro K hK) | ((with_reducible first | refine AW_regN (id := 20) tabOK { base := 0, own := [13, 14, 15, 36, 78] } [] [] (by rw [hXs]; decide +kernel) ?_ | refine AW_regN (id := 21) tabOK { base := 0, own := [13, 14, 15, 36, 78] } [] [] (by rw [hXs]; decide +kernel) ?_ | refine rg (md := { base := 0, own := [13, 14, 15, 36, 78] }) (h := ?_) | refine rgS [13, 14, 15] (md := { base := 0, own := [13, 14, 15, 36, 78] }) (h := ?_) | refine nx ?_); try simp (disch := omega) only [h7, h10, h11, h37, h38, h39, hH, hBm, hb, hfi, hfi2, hk2, cBrc,go_sem, simprocAttr]) | (with_reducible refine bk ?_) | ((with_reducible refine' cE ?hv ?_ ?_); (case hv => first | rfl | (simp only [h7, h10, h11, h37, h38, h39, hH, hBm, hb, hfi, hfi2, hk2, cBrc,go_sem, simprocAttr]; rfl)); all_goals (intro hc; (try simp only [go_sem, simprocAttr] at hc); try (exfalso; omega))) | ((with_reducible first | refine grdS_split ?_ ?_ | refine lkG_split ?_ ?_) <;> intro hg <;> (try simp (disch := omega) only [hg, h7, h10, h11, h37, h38, h39, hH, hBm, hb, hfi, hfi2, hk2, cBrc,go_sem, simprocAttr]) <;> (try simp only [go_sem, simprocAttr] at hg) <;> (try (exfalso; omega))) | ((with_reducible refine fe ?_); refine ⟨_, (by simp only [Try.f5, h7, h10, h11, h37, h38, h39, hH, hBm, hb, hfi, hfi2, hk2, cBrc,go_sem, simprocAttr]; rfl), ?_⟩; first | rfl | (try simp only [h7, h10, h11, h37, h38, h39, hH, hBm, hb, hfi, hfi2, hk2, cBrc,go_sem, simprocAttr, seval])) | with_reducible intro (ep : Nat → Nat) | with_reducible apply_assumption -exfalso -symm only [*])
        exact ⟨_, _, rfl, by rw [take_snoc' hb, ← kmap_snoc]; rfl⟩
      · have hk1 : b.known = 1 := by omega
        simp only [limK, vTr] at hfi hfi2
        repeat' (first | (with_reducible refine sk ?_; intro K hK) | ((with_reducible first | refine AW_regN (id := 20) tabOK { base := 0, own := [13, 14, 15, 36, 78] } [] [] (by rw [hXs]; decide +kernel) ?_ | refine AW_regN (id := 21) tabOK { base := 0, own := [13, 14, 15, 36, 78] } [] [] (by rw [hXs]; decide +kernel) ?_ | refine rg (md := { base := 0, own := [13, 14, 15, 36, 78] }) (h := ?_) | refine rgS [13, 14, 15] (md := { base := 0, own := [13, 14, 15, 36, 78] }) (h := ?_) | refine nx ?_); try simp (disch := omega) only [h7, h10, h11, h37, h38, h39, hH, hBm, hb, hfi, hk1, hk2, cBrc,go_sem, simprocAttr]) | (with_reducible refine bk ?_) | ((with_reducible refine' cE ?hv ?_ ?_); (case hv => first | rfl | (simp only [h7, h10, h11, h37, h38, h39, hH, hBm, hb, hfi, hk1, hk2, cBrc,go_sem, simprocAttr]; rfl)); all_goals (intro hc; (try simp only [go_sem, simprocAttr] at hc); try (exfalso; omega))) | ((with_reducible first | refine grdS_split ?_ ?_ | refine lkG_split ?_ ?_) <;> intro hg <;> (try simp (disch := omega) only [hg, h7, h10, h11, h37, h38, h39, hH, hBm, hb, hfi, hk1, hk2, cBrc,go_sem, simprocAttr]) <;> (try simp only [go_sem, simprocAttr] at hg) <;> (try (exfalso; omega))) | ((with_reducible refine fe ?_); refine ⟨_, (by simp only [Try.f5, h7, h10, h11, h37, h38, h39, hH, hBm, hb, hfi, hk1, hk2, cBrc,go_sem, simprocAttr]; rfl), ?_⟩; first | rfl | (try simp only [h7, h10, h11, h37, h38, h39, hH, hBm, hb, hfi, hk1, hk2, cBrc,go_sem, simprocAttr, seval])) | with_reducible intro (ep : Nat → Nat) | with_reducible apply_assumption -exfalso -symm only [*])
        exact ⟨_, _, rfl, by rw [take_snoc' hb, ← kmap_snoc]; rfl⟩
    · clear hBm g13 g14 g15 g36 g78
      rintro f H h39 h38 ⟨⟨h7, h37, h10⟩, ⟨hBm, g78⟩, e, v, h11, hH⟩
      rw [List.take_of_length_le (Nat.le_refl _)] at hH
      have h36 : ¬ 36 = 78 := by decide
      repeat' (first | (with_reducible refine sk ?_; intro K hK) | ((with_reducible first | refine AW_regN (id := 20) tabOK { base := 0, own := [13, 14, 15, 36, 78] } [] [] (by rw [hXs]; decide +kernel) ?_ | refine AW_regN (id := 21) tabOK { base := 0, own := [13, 14, 15, 36, 78] } [] [] (by rw [hXs]; decide +kernel) ?_ | refine rg (md := { base := 0, own := [13, 14, 15, 36, 78] }) (h := ?_) | refine rgS [13, 14, 15] (md := { base := 0, own := [13, 14, 15, 36, 78] }) (h := ?_) | refine nx ?_); try simp (disch := omega) only [h7, h10, h11, hH, hBm, g78,go_sem, simprocAttr]) | (with_reducible refine bk ?_) | ((with_reducible refine' cE ?hv ?_ ?_); (case hv => first | rfl | (simp only [h7, h10, h11, hH, hBm, g78,go_sem, simprocAttr]; rfl)); all_goals (intro hc; (try simp only [go_sem, simprocAttr] at hc); try (exfalso; omega))) | ((with_reducible first | refine grdS_split ?_ ?_ | refine lkG_split ?_ ?_) <;> intro hg <;> (try simp (disch := omega) only [hg, h7, h10, h11, hH, hBm, g78,go_sem, simprocAttr]) <;> (try simp only [go_sem, simprocAttr] at hg) <;> (try (exfalso; omega))) | ((with_reducible refine fe ?_); refine ⟨_, (by simp only [Try.f5, h7, h10, h11, hH, hBm, g78,go_sem, simprocAttr]; rfl), ?_⟩; first | rfl | (try simp only [h7, h10, h11, hH, hBm, g78,go_sem, simprocAttr, seval])) | with_reducible intro (ep : Nat → Nat) | with_reducible apply_assumption -exfalso -symm only [*])
      refine AW_block (AW_loop (fun n f H => ∃ left : List Nat, n = left.length ∧ (∀ p ∈ left, p < B.length) ∧ (f 7 = .bool true ∧ f 11 = .map 36 e ∧ f 10 = .map 725 e10 ∧ H 36 = some (e, .map v (kmap vTr A)) ∧ H 725 = some (e10, .map v10 (kmap vTr B))) ∧ ∃ e78 cur, f 78 = .itr 78 e78 ∧ H 78 = some (e78, .itr 725 e10 v10 left cur)) B.length
        ⟨List.range B.length, by simp, by simp, by (and_intros <;> first | rfl | (simp only [h7, h10, h11, hH, hBm, go_sem, simprocAttr]; done) | (simp only [h7, h10, h11, hH, hBm, go_sem, simprocAttr]; rfl)), _, _, by (first | rfl | (simp only [go_sem, simprocAttr]; done) | (simp only [go_sem, simprocAttr]; rfl)), by simp only [go_sem, simprocAttr, kmap_len]; rfl⟩ ?_)
      clear h7 h10 h11 hH hBm g78 h37
      rintro n f H ⟨left, rfl, hlt, ⟨h7, h11, h10, hH, hBm⟩, e78, cur, h78, hH78⟩
      refine AW_keep [36, 725, 78] ?_
      repeat' (first | (with_reducible refine sk ?_; intro K hK) | ((with_reducible first | refine AW_regN (id := 20) tabOK { base := 0, own := [13, 14, 15, 36, 78] } [] [] (by rw [hXs]; decide +kernel) ?_ | refine AW_regN (id := 21) tabOK { base := 0, own := [13, 14, 15, 36, 78] } [] [] (by rw [hXs]; decide +kernel) ?_ | refine rg (md := { base := 0, own := [13, 14, 15, 36, 78] }) (h := ?_) | refine rgS [13, 14, 15] (md := { base := 0, own := [13, 14, 15, 36, 78] }) (h := ?_) | refine nx ?_); try simp (disch := omega) only [h7, h10, h11, h78, hH, hBm, hH78,go_sem, simprocAttr]) | (with_reducible refine bk ?_) | ((with_reducible refine' cE ?hv ?_ ?_); (case hv => first | rfl | (simp only [h7, h10, h11, h78, hH, hBm, hH78,go_sem, simprocAttr]; rfl)); all_goals (intro hc; (try simp only [go_sem, simprocAttr] at hc); try (exfalso; omega))) | ((with_reducible first | refine grdS_split ?_ ?_ | refine lkG_split ?_ ?_) <;> intro hg <;> (try simp (disch := omega) only [hg, h7, h10, h11, h78, hH, hBm, hH78,go_sem, simprocAttr]) <;> (try simp only [go_sem, simprocAttr] at hg) <;> (try (exfalso; omega))) | ((with_reducible refine fe ?_); refine ⟨_, (by simp only [Try.f5, h7, h10, h11, h78, hH, hBm, hH78,go_sem, simprocAttr]; rfl), ?_⟩; first | rfl | (try simp only [h7, h10, h11, h78, hH, hBm, hH78,go_sem, simprocAttr, seval])) | with_reducible intro (ep : Nat → Nat) | with_reducible apply_assumption -exfalso -symm only [*])
      refine ⟨fun hl => ?_, fun p hp a vv hav => ?_⟩
      · subst hl
        repeat' (first | (with_reducible refine sk ?_; intro K hK) | ((with_reducible first | refine AW_regN (id := 20) tabOK { base := 0, own := [13, 14, 15, 36, 78] } [] [] (by rw [hXs]; decide +kernel) ?_ | refine AW_regN (id := 21) tabOK { base := 0, own := [13, 14, 15, 36, 78] } [] [] (by rw [hXs]; decide +kernel) ?_ | refine rg (md := { base := 0, own := [13, 14, 15, 36, 78] }) (h := ?_) | refine rgS [13, 14, 15] (md := { base := 0, own := [13, 14, 15, 36, 78] }) (h := ?_) | refine nx ?_); try simp (disch := omega) only [h7, h10, h11, h78, hH, hBm, hH78,go_sem, simprocAttr]) | (with_reducible refine bk ?_) | ((with_reducible refine' cE ?hv ?_ ?_); (case hv => first | rfl | (simp only [h7, h10, h11, h78, hH, hBm, hH78,go_sem, simprocAttr]; rfl)); all_goals (intro hc; (try simp only [go_sem, simprocAttr] at hc); try (exfalso; omega))) | ((with_reducible first | refine grdS_split ?_ ?_ | refine lkG_split ?_ ?_) <;> intro hg <;> (try simp (disch := omega) only [hg, h7, h10, h11, h78, hH, hBm, hH78,go_sem, simprocAttr]) <;> (try simp only [go_sem, simprocAttr] at hg) <;> (try (exfalso; omega))) | ((with_reducible refine fe ?_); refine ⟨_, (by simp only [Try.f5, h7, h10, h11, h78, hH, hBm, hH78,go_sem, simprocAttr]; rfl), ?_⟩; first | rfl | (try simp only [h7, h10, h11, h78, hH, hBm, hH78,go_sem, simprocAttr, seval])) | with_reducible intro (ep : Nat → Nat) | with_reducible apply_assumption -exfalso -symm only [*])
      · have hpos := List.length_pos_of_mem hp
        have hle := List.length_erase_of_mem hp
        obtain ⟨x, hx⟩ : ∃ x, B[p]? = some x := ⟨_, List.getElem?_eq_getElem (hlt p hp)⟩
        rw [kmap_get, hx] at hav
        simp only [Option.map_some, Option.some.injEq, Prod.mk.injEq] at hav
        obtain ⟨rfl, rfl⟩ := hav
        have hg : (kmap vTr B)[p]? = some (limK x, vTr x) := by rw [kmap_get, hx]; rfl
        have hfi := xfind_kmap (b := x) (v := vTr) A 0
        obtain ⟨j, y, hj⟩ := findB_mem (v := vTr) (i := 0) (hT.1 x (List.mem_of_getElem? hx))
        rw [hj] at hfi
        simp only [limK, vTr] at hfi hg
        repeat' (first | (with_reducible refine sk ?_; intro K hK) | ((with_reducible first | refine AW_regN (id := 20) tabOK { base := 0, own := [13, 14, 15, 36, 78] } [] [] (by rw [hXs]; decide +kernel) ?_ | refine AW_regN (id := 21) tabOK { base := 0, own := [13, 14, 15, 36, 78] } [] [] (by rw [hXs]; decide +kernel) ?_ | refine rg (md := { base := 0, own := [13, 14, 15, 36, 78] }) (h := ?_) | refine rgS [13, 14, 15] (md := { base := 0, own := [13, 14, 15, 36, 78] }) (h := ?_) | refine nx ?_); try simp (disch := omega) only [h7, h10, h11, h78, hH, hBm, hH78, hg, hfi, limK, vTr,go_sem, simprocAttr]) | (with_reducible refine bk ?_) | ((with_reducible refine' cE ?hv ?_ ?_); (case hv => first | rfl | (simp only [h7, h10, h11, h78, hH, hBm, hH78, hg, hfi, limK, vTr,go_sem, simprocAttr]; rfl)); all_goals (intro hc; (try simp only [go_sem, simprocAttr] at hc); try (exfalso; omega))) | ((with_reducible first | refine grdS_split ?_ ?_ | refine lkG_split ?_ ?_) <;> intro hg <;> (try simp (disch := omega) only [hg, h7, h10, h11, h78, hH, hBm, hH78, hg, hfi, limK, vTr,go_sem, simprocAttr]) <;> (try simp only [go_sem, simprocAttr] at hg) <;> (try (exfalso; omega))) | ((with_reducible refine fe ?_); refine ⟨_, (by simp only [Try.f5, h7, h10, h11, h78, hH, hBm, hH78, hg, hfi, limK, vTr,go_sem, simprocAttr]; rfl), ?_⟩; first | rfl | (try simp only [h7, h10, h11, h78, hH, hBm, hH78, hg, hfi, limK, vTr,go_sem, simprocAttr, seval])) | with_reducible intro (ep : Nat → Nat) | with_reducible apply_assumption -exfalso -symm only [*])
        refine ⟨_, _, rfl, ?_⟩
        simp only [go_sem, simprocAttr]
        repeat' (first | (with_reducible refine sk ?_; intro K hK) | ((with_reducible first | refine AW_regN (id := 20) tabOK { base := 0, own := [13, 14, 15, 36, 78] } [] [] (by rw [hXs]; decide +kernel) ?_ | refine AW_regN (id := 21) tabOK { base := 0, own := [13, 14, 15, 36, 78] } [] [] (by rw [hXs]; decide +kernel) ?_ | refine rg (md := { base := 0, own := [13, 14, 15, 36, 78] }) (h := ?_) | refine rgS [13, 14, 15] (md := { base := 0, own := [13, 14, 15, 36, 78] }) (h := ?_) | refine nx ?_); try simp (disch := omega) only [h7, h10, h11, h78, hH, hBm, hH78, hg, hfi, limK, vTr,go_sem, simprocAttr]) | (with_reducible refine bk ?_) | ((with_reducible refine' cE ?hv ?_ ?_); (case hv => first | rfl | (simp only [h7, h10, h11, h78, hH, hBm, hH78, hg, hfi, limK, vTr,go_sem, simprocAttr]; rfl)); all_goals (intro hc; (try simp only [go_sem, simprocAttr] at hc); try (exfalso; omega))) | ((with_reducible first | refine grdS_split ?_ ?_ | refine lkG_split ?_ ?_) <;> intro hg <;> (try simp (disch := omega) only [hg, h7, h10, h11, h78, hH, hBm, hH78, hg, hfi, limK, vTr,go_sem, simprocAttr]) <;> (try simp only [go_sem, simprocAttr] at hg) <;> (try (exfalso; omega))) | ((with_reducible refine fe ?_); refine ⟨_, (by simp only [Try.f5, h7, h10, h11, h78, hH, hBm, hH78, hg, hfi, limK, vTr,go_sem, simprocAttr]; rfl), ?_⟩; first | rfl | (try simp only [h7, h10, h11, h78, hH, hBm, hH78, hg, hfi, limK, vTr,go_sem, simprocAttr, seval])) | with_reducible intro (ep : Nat → Nat) | with_reducible apply_assumption -exfalso -symm only [*])
        exact ⟨(left.erase p).length, by omega, left.erase p, rfl, fun q hq => hlt q (List.mem_of_mem_erase hq), _, _, rfl, rfl⟩
  · simp only [Bool.not_eq_true] at hr
    refine PureC_of (fn := Try.f5) tabOK (by kernel_rfl) rfl (by kernel_rfl) (by simp [Try.f5]) (by simp [noids, noid, noidss, go_sem, encRun, cRun, encRules, cRules]) (by first | rfl | simp [noids, noid, noidss, go_sem, encRun, cRun, encRules, cRules]) ?_
    intro X hX0 hXs
    repeat' (first | (with_reducible refine sk ?_; intro K hK) | ((first | (with_reducible first | refine AW_regN (id := 20) tabOK { base := 0, own := [] } [] [] (by rw [hXs]; decide +kernel) ?_ | refine AW_regN (id := 21) tabOK { base := 0, own := [] } [] [] (by rw [hXs]; decide +kernel) ?_ | refine rg (h := ?_) | refine rgS [13, 14, 15] (h := ?_) | refine nx ?_) | refine pK (alive_run) ?_ | refine pK (ready_ok r u) ?_); try simp (disch := omega) only [encRun, cRun, encRules, cRules, hr,go_sem, simprocAttr]) | (with_reducible refine bk ?_) | ((with_reducible refine' cE ?hv ?_ ?_); (case hv => first | rfl | (simp only [encRun, cRun, encRules, cRules, hr,go_sem, simprocAttr]; rfl)); all_goals (intro hc; (try simp only [go_sem, simprocAttr] at hc); try (exfalso; omega))) | ((with_reducible first | refine grdS_split ?_ ?_ | refine lkG_split ?_ ?_) <;> intro hg <;> (try simp (disch := omega) only [hg, encRun, cRun, encRules, cRules, hr,go_sem, simprocAttr]) <;> (try simp only [go_sem, simprocAttr] at hg) <;> (try (exfalso; omega))) | ((with_reducible refine fe ?_); refine ⟨_, (by simp only [Try.f5, encRun, cRun, encRules, cRules, hr,go_sem, simprocAttr]; rfl), ?_⟩; first | rfl | (try simp only [encRun, cRun, encRules, cRules, hr,go_sem, simprocAttr, seval])) | with_reducible intro (ep : Nat → Nat) | with_reducible apply_assumption -exfalso -symm only [*])
end Cp
namespace Cp
open Go
theorem fit_map2 {α : Type} {c : α → List Val} {p : α → Prop} : ∀ {xss : List (List Val)}, (∀ es ∈ xss, ∃ x, es = c x ∧ p x) → ∃ l : List α, xss = l.map c ∧ ∀ x ∈ l, p x
  | [], _ => ⟨[], rfl, fun x h => by simp at h⟩
  | es :: xss, h => by
    obtain ⟨x, rfl, hp⟩ := h es (by simp)
    obtain ⟨l, rfl, hl⟩ := fit_map2 fun es he => h es (List.mem_cons_of_mem _ he)
    exact ⟨x :: l, rfl, fun y hy => by rcases List.mem_cons.1 hy with rfl | hy; exact hp; exact hl y hy⟩
theorem arg_by {a : Val} (h : FitV tab 8 63 a) : ∃ l : List Int, a = .lst 1 (l.map c32) ∧ By l := by
  obtain ⟨ti, cs, e, h, _, rfl⟩ := h
  have hk : ∀ n, Fit tab (n + 1) 63 cs → ∃ sz xss, cs = [.lst sz xss] ∧ (tab 67).map (·.sz) = some sz ∧ xss.length ≤ maxLen ∧ ∀ es ∈ xss, es.length = sz ∧ Fit tab n 67 es := fun n h => by
    simp only [Fit, tab_63] at h; exact h
  obtain ⟨sz, xss, rfl, hs, _, hx⟩ := hk 7 h
  rw [tab_67] at hs; cases hs
  obtain ⟨l, rfl, hl⟩ := fit_map2 (c := c32) (p := fun m => 0 ≤ m ∧ m ≤ 4294967295) fun es hes => by
    obtain ⟨m, rfl, hw⟩ := fit_int tab_67 (hx es hes).2
    simp [Lit.wf, IntKind.min, IntKind.max, IntKind.signed, IntKind.bits] at hw
    exact ⟨m, rfl, by omega, by omega⟩
  rw [tab_63] at e; cases e; exact ⟨l, rfl, hl⟩
end Cp
