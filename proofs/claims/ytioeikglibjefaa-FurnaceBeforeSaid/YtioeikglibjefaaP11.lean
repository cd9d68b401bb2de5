/- Rules, facts and contracts that the statement's proof leans on. Conditions: none. -/
import Derived.Test.YtioeikglibjefaaP10
set_option linter.unusedVariables false
set_option linter.unusedSimpArgs false
set_option linter.unusedSectionVars false
namespace Cp
open Go Go.Proofs
set_option maxRecDepth 10000
set_option maxHeartbeats 4000000
theorem indexBrc_ok (xs : List Brc) (hx : xs.length ≤ 4611686018427387904) (g : FuncId) (caps : List Val) (hcp : noids caps = true) (p : Brc → Bool) (hp : ∀ x ∈ xs, PureC Try.prog g (.agg (cBrc x) :: caps) (.bool (p x))) :
    PureC Try.prog 59 [.lst 4 (xs.map cBrc), .fn g caps] (.int .i64 (idxFrom p xs 0)) := by
  simp only [cBrc] at hp
  refine PureC_of (fn := Try.f59) tabOK (by kernel_rfl) rfl (by kernel_rfl) (by simp [Try.f59]) (by simp [noids, noid, noidss, go_sem, hcp]) (by first | rfl | simp [noids, noid, noidss, go_sem, hcp]) ?_
  intro X hX0 hXs
  repeat' (first | (with_reducible refine sk ?_; intro K hK) | ((with_reducible first | refine rg (h := ?_) | refine nx ?_); try simp (disch := omega) only [go_sem, simprocAttr]) | (with_reducible refine bk ?_) | ((with_reducible refine' cE ?hv ?_ ?_); (case hv => first | rfl | (simp only [go_sem, simprocAttr]; rfl)); all_goals (intro hc; (try simp only [go_sem, simprocAttr] at hc); try (exfalso; omega))) | ((with_reducible refine fe ?_); refine ⟨_, (by simp only [Try.f59, go_sem, simprocAttr]; rfl), ?_⟩; first | rfl | (try simp only [go_sem, simprocAttr, seval])) | with_reducible intro (ep : Nat → Nat) | with_reducible apply_assumption -exfalso -symm only [*])
  refine AW_range tabOK xs.length (fun k f H => f 0 = .lst 4 (xs.map cBrc) ∧ f 1 = .fn g caps ∧ H = none0 ∧ idxFrom p xs 0 = idxFrom p (xs.drop k) k) hx (by rw [hXs]; decide) (by decide) (by simp only [go_sem, simprocAttr]) (by simp only [go_sem, simprocAttr]) ⟨by simp only [go_sem, simprocAttr], by simp only [go_sem, simprocAttr], rfl, by simp⟩ ?_ ?_
  · rintro k f H hk h8 h7 ⟨h0, h1, rfl, hr⟩
    obtain ⟨x, hx⟩ : ∃ x, xs[k]? = some x := ⟨_, List.getElem?_eq_getElem hk⟩
    repeat' (first | (with_reducible refine sk ?_; intro K hK) | ((first | (with_reducible first | refine rg (h := ?_) | refine nx ?_) | refine pK (hp x (List.mem_of_getElem? hx)) ?_); try simp (disch := omega) only [h0, h1, h8, h7, hx, cBrc,go_sem, simprocAttr]) | (with_reducible refine bk ?_) | ((with_reducible refine' cE ?hv ?_ ?_); (case hv => first | rfl | (simp only [h0, h1, h8, h7, hx, cBrc,go_sem, simprocAttr]; rfl)); all_goals (intro hc; (try simp only [go_sem, simprocAttr] at hc); try (exfalso; omega))) | ((with_reducible refine fe ?_); refine ⟨_, (by simp only [Try.f59, h0, h1, h8, h7, hx, cBrc,go_sem, simprocAttr]; rfl), ?_⟩; first | rfl | (try simp only [h0, h1, h8, h7, hx, cBrc,go_sem, simprocAttr, seval])) | with_reducible intro (ep : Nat → Nat) | with_reducible apply_assumption -exfalso -symm only [*])
    · rw [hr, drop_cons hx]; simp [idxFrom, hc]
    · rw [hr, drop_cons hx]; simp [idxFrom, hc]
  · rintro f H h8 h7 ⟨h0, h1, rfl, hr⟩
    repeat' (first | (with_reducible refine sk ?_; intro K hK) | ((with_reducible first | refine rg (h := ?_) | refine nx ?_); try simp (disch := omega) only [go_sem, simprocAttr]) | (with_reducible refine bk ?_) | ((with_reducible refine' cE ?hv ?_ ?_); (case hv => first | rfl | (simp only [go_sem, simprocAttr]; rfl)); all_goals (intro hc; (try simp only [go_sem, simprocAttr] at hc); try (exfalso; omega))) | ((with_reducible refine fe ?_); refine ⟨_, (by simp only [Try.f59, go_sem, simprocAttr]; rfl), ?_⟩; first | rfl | (try simp only [go_sem, simprocAttr, seval])) | with_reducible intro (ep : Nat → Nat) | with_reducible apply_assumption -exfalso -symm only [*])
    rw [hr]; simp [idxFrom]
theorem kept1_ok (b : Brc) : PureC Try.prog 60 [.agg (cBrc b)] (.bool (!p2 b)) := by
  refine PureC_of (fn := Try.f60) tabOK (by kernel_rfl) rfl (by kernel_rfl) (by simp [Try.f60]) (by simp [noids, noid, noidss, go_sem, cBrc]) (by first | rfl | simp [noids, noid, noidss, go_sem, cBrc]) ?_
  intro X hX0 hXs
  repeat' (first | (with_reducible refine sk ?_; intro K hK) | ((with_reducible first | refine rg (h := ?_) | refine nx ?_); try simp (disch := omega) only [cBrc,go_sem, simprocAttr]) | (with_reducible refine bk ?_) | ((with_reducible refine' cE ?hv ?_ ?_); (case hv => first | rfl | (simp only [cBrc,go_sem, simprocAttr]; rfl)); all_goals (intro hc; (try simp only [go_sem, simprocAttr] at hc); try (exfalso; omega))) | ((with_reducible refine fe ?_); refine ⟨_, (by simp only [Try.f60, cBrc,go_sem, simprocAttr]; rfl), ?_⟩; first | rfl | (try simp only [cBrc,go_sem, simprocAttr, seval])) | with_reducible intro (ep : Nat → Nat) | with_reducible apply_assumption -exfalso -symm only [*])
  simp [p2]
def keptT (r : RunT) (u : RulesT) (t : Int) : Val :=
  if checkE r u = 0 then (if 0 ≤ t ∧ t ≤ r.rows.length then .tup [.int .u8 (keptL (leftS r u) t).1, .int .i64 (keptL (leftS r u) t).2, .int .i64 0] else .tup [.int .u8 0, .int .i64 0, .int .i64 2]) else .tup [.int .u8 0, .int .i64 0, .int .i64 (checkE r u)]
theorem Kept_ok (r : RunT) (u : RulesT) (hb : RunB r) (hu : RulesB u) (t : Int) : PureC Try.prog 27 [encRun r, encRules u, .int .i64 t] (keptT r u t) := by
  by_cases hc0 : checkE r u = 0
  · obtain ⟨h1, h2⟩ := check0 hc0
    have hF := run_facts h1
    have hrl := hF.rows
    rw [keptT, if_pos hc0]
    by_cases ht : 0 ≤ t ∧ t ≤ r.rows.length
    · rw [if_pos ht]
      obtain ⟨l, hl⟩ : ∃ l, leftS r u = l := ⟨_, rfl⟩
      have hlk := leftl_ok r hF u (rules_facts h2)
      have hll : l.length ≤ 1000 := by
        have := leftB_len (u := u) hF r.rows.length
        have : (leftS r u).length ≤ 11 * r.rows.length := this
        rw [← hl]; omega
      rw [hl] at hlk ⊢
      have hix := indexBrc_ok l (by omega) 60 [] rfl (fun b => !p2 b) (fun b _ => kept1_ok b)
      rw [idx_take] at hix
      have hfl : (l.takeWhile p2).length = firstK l := rfl
      rw [hfl] at hix
      by_cases hk : firstK l < l.length
      · rw [if_pos hk, Int.zero_add] at hix
        obtain ⟨b, hbk⟩ : ∃ b, l[firstK l]? = some b := ⟨_, List.getElem?_eq_getElem hk⟩
        by_cases hbm : b.m ≤ t
        · have hs : keptL l t = (0, b.m) := by unfold keptL; rw [hbk]; simp only; rw [if_pos hbm]
          rw [hs]
          refine PureC_of (fn := Try.f27) tabOK (by kernel_rfl) rfl (by kernel_rfl) (by simp [Try.f27]) (by simp [noids, noid, noidss, go_sem, encRun, cRun, encRules, cRules]) (by first | rfl | simp [noids, noid, noidss, go_sem, encRun, cRun, encRules, cRules]) ?_
          intro X hX0 hXs
          repeat' (first | (with_reducible refine sk ?_; intro K hK) | ((first | (with_reducible first | refine rg (h := ?_) | refine nx ?_) | refine pK (check_ok r u hb hu) ?_ | refine pK (in_1 _ _ _) ?_ | refine pK (hlk) ?_ | refine pK (hix) ?_); try simp (disch := omega) only [encRun, cRun, encRules, cRules, hc0, ht.1, ht.2, hbk, hbm, cBrc,go_sem, simprocAttr]) | (with_reducible refine bk ?_) | ((with_reducible refine' cE ?hv ?_ ?_); (case hv => first | rfl | (simp only [encRun, cRun, encRules, cRules, hc0, ht.1, ht.2, hbk, hbm, cBrc,go_sem, simprocAttr]; rfl)); all_goals (intro hc; (try simp only [go_sem, simprocAttr] at hc); try (exfalso; omega))) | ((with_reducible first | refine grdS_split ?_ ?_ | refine lkG_split ?_ ?_) <;> intro hg <;> (try simp (disch := omega) only [hg, encRun, cRun, encRules, cRules, hc0, ht.1, ht.2, hbk, hbm, cBrc,go_sem, simprocAttr]) <;> (try simp only [go_sem, simprocAttr] at hg) <;> (try (exfalso; omega))) | ((with_reducible refine fe ?_); refine ⟨_, (by simp only [Try.f27, encRun, cRun, encRules, cRules, hc0, ht.1, ht.2, hbk, hbm, cBrc,go_sem, simprocAttr]; rfl), ?_⟩; first | rfl | (try simp only [encRun, cRun, encRules, cRules, hc0, ht.1, ht.2, hbk, hbm, cBrc,go_sem, simprocAttr, seval])) | with_reducible intro (ep : Nat → Nat) | with_reducible apply_assumption -exfalso -symm only [*])
        · have hs : keptL l t = firstS l t := by unfold keptL; rw [hbk]; simp only; rw [if_neg hbm]
          rw [hs]
          obtain ⟨a, hak⟩ : ∃ a, l[0]? = some a := ⟨_, List.getElem?_eq_getElem (by omega)⟩
          have hpos : (0 : Int) < (l.length : Int) := by omega
          by_cases ham : a.m ≤ t
          · have hf : firstS l t = (1, a.m) := by unfold firstS; rw [hak]; simp only; rw [if_pos ham]
            rw [hf]
            refine PureC_of (fn := Try.f27) tabOK (by kernel_rfl) rfl (by kernel_rfl) (by simp [Try.f27]) (by simp [noids, noid, noidss, go_sem, encRun, cRun, encRules, cRules]) (by first | rfl | simp [noids, noid, noidss, go_sem, encRun, cRun, encRules, cRules]) ?_
            intro X hX0 hXs
            repeat' (first | (with_reducible refine sk ?_; intro K hK) | ((first | (with_reducible first | refine rg (h := ?_) | refine nx ?_) | refine pK (check_ok r u hb hu) ?_ | refine pK (in_1 _ _ _) ?_ | refine pK (hlk) ?_ | refine pK (hix) ?_); try simp (disch := omega) only [encRun, cRun, encRules, cRules, hc0, ht.1, ht.2, hbk, hbm, hak, ham, hpos, cBrc,go_sem, simprocAttr]) | (with_reducible refine bk ?_) | ((with_reducible refine' cE ?hv ?_ ?_); (case hv => first | rfl | (simp only [encRun, cRun, encRules, cRules, hc0, ht.1, ht.2, hbk, hbm, hak, ham, hpos, cBrc,go_sem, simprocAttr]; rfl)); all_goals (intro hc; (try simp only [go_sem, simprocAttr] at hc); try (exfalso; omega))) | ((with_reducible first | refine grdS_split ?_ ?_ | refine lkG_split ?_ ?_) <;> intro hg <;> (try simp (disch := omega) only [hg, encRun, cRun, encRules, cRules, hc0, ht.1, ht.2, hbk, hbm, hak, ham, hpos, cBrc,go_sem, simprocAttr]) <;> (try simp only [go_sem, simprocAttr] at hg) <;> (try (exfalso; omega))) | ((with_reducible refine fe ?_); refine ⟨_, (by simp only [Try.f27, encRun, cRun, encRules, cRules, hc0, ht.1, ht.2, hbk, hbm, hak, ham, hpos, cBrc,go_sem, simprocAttr]; rfl), ?_⟩; first | rfl | (try simp only [encRun, cRun, encRules, cRules, hc0, ht.1, ht.2, hbk, hbm, hak, ham, hpos, cBrc,go_sem, simprocAttr, seval])) | with_reducible intro (ep : Nat → Nat) | with_reducible apply_assumption -exfalso -symm only [*])
          · have hf : firstS l t = (2, 0) := by unfold firstS; rw [hak]; simp only; rw [if_neg ham]
            rw [hf]
            refine PureC_of (fn := Try.f27) tabOK (by kernel_rfl) rfl (by kernel_rfl) (by simp [Try.f27]) (by simp [noids, noid, noidss, go_sem, encRun, cRun, encRules, cRules]) (by first | rfl | simp [noids, noid, noidss, go_sem, encRun, cRun, encRules, cRules]) ?_
            intro X hX0 hXs
            repeat' (first | (with_reducible refine sk ?_; intro K hK) | ((first | (with_reducible first | refine rg (h := ?_) | refine nx ?_) | refine pK (check_ok r u hb hu) ?_ | refine pK (in_1 _ _ _) ?_ | refine pK (hlk) ?_ | refine pK (hix) ?_); try simp (disch := omega) only [encRun, cRun, encRules, cRules, hc0, ht.1, ht.2, hbk, hbm, hak, ham, hpos, cBrc,go_sem, simprocAttr]) | (with_reducible refine bk ?_) | ((with_reducible refine' cE ?hv ?_ ?_); (case hv => first | rfl | (simp only [encRun, cRun, encRules, cRules, hc0, ht.1, ht.2, hbk, hbm, hak, ham, hpos, cBrc,go_sem, simprocAttr]; rfl)); all_goals (intro hc; (try simp only [go_sem, simprocAttr] at hc); try (exfalso; omega))) | ((with_reducible first | refine grdS_split ?_ ?_ | refine lkG_split ?_ ?_) <;> intro hg <;> (try simp (disch := omega) only [hg, encRun, cRun, encRules, cRules, hc0, ht.1, ht.2, hbk, hbm, hak, ham, hpos, cBrc,go_sem, simprocAttr]) <;> (try simp only [go_sem, simprocAttr] at hg) <;> (try (exfalso; omega))) | ((with_reducible refine fe ?_); refine ⟨_, (by simp only [Try.f27, encRun, cRun, encRules, cRules, hc0, ht.1, ht.2, hbk, hbm, hak, ham, hpos, cBrc,go_sem, simprocAttr]; rfl), ?_⟩; first | rfl | (try simp only [encRun, cRun, encRules, cRules, hc0, ht.1, ht.2, hbk, hbm, hak, ham, hpos, cBrc,go_sem, simprocAttr, seval])) | with_reducible intro (ep : Nat → Nat) | with_reducible apply_assumption -exfalso -symm only [*])
      · rw [if_neg hk] at hix
        have hs : keptL l t = firstS l t := by unfold keptL; rw [List.getElem?_eq_none (by omega)]
        rw [hs]
        by_cases hpos : (0 : Int) < (l.length : Int)
        · obtain ⟨a, hak⟩ : ∃ a, l[0]? = some a := ⟨_, List.getElem?_eq_getElem (by omega)⟩
          by_cases ham : a.m ≤ t
          · have hf : firstS l t = (1, a.m) := by unfold firstS; rw [hak]; simp only; rw [if_pos ham]
            rw [hf]
            refine PureC_of (fn := Try.f27) tabOK (by kernel_rfl) rfl (by kernel_rfl) (by simp [Try.f27]) (by simp [noids, noid, noidss, go_sem, encRun, cRun, encRules, cRules]) (by first | rfl | simp [noids, noid, noidss, go_sem, encRun, cRun, encRules, cRules]) ?_
            intro X hX0 hXs
            repeat' (first | (with_reducible refine sk ?_; intro K hK) | ((first | (with_reducible first | refine rg (h := ?_) | refine nx ?_) | refine pK (check_ok r u hb hu) ?_ | refine pK (in_1 _ _ _) ?_ | refine pK (hlk) ?_ | refine pK (hix) ?_); try simp (disch := omega) only [encRun, cRun, encRules, cRules, hc0, ht.1, ht.2, hak, ham, hpos, cBrc,go_sem, simprocAttr]) | (with_reducible refine bk ?_) | ((with_reducible refine' cE ?hv ?_ ?_); (case hv => first | rfl | (simp only [encRun, cRun, encRules, cRules, hc0, ht.1, ht.2, hak, ham, hpos, cBrc,go_sem, simprocAttr]; rfl)); all_goals (intro hc; (try simp only [go_sem, simprocAttr] at hc); try (exfalso; omega))) | ((with_reducible first | refine grdS_split ?_ ?_ | refine lkG_split ?_ ?_) <;> intro hg <;> (try simp (disch := omega) only [hg, encRun, cRun, encRules, cRules, hc0, ht.1, ht.2, hak, ham, hpos, cBrc,go_sem, simprocAttr]) <;> (try simp only [go_sem, simprocAttr] at hg) <;> (try (exfalso; omega))) | ((with_reducible refine fe ?_); refine ⟨_, (by simp only [Try.f27, encRun, cRun, encRules, cRules, hc0, ht.1, ht.2, hak, ham, hpos, cBrc,go_sem, simprocAttr]; rfl), ?_⟩; first | rfl | (try simp only [encRun, cRun, encRules, cRules, hc0, ht.1, ht.2, hak, ham, hpos, cBrc,go_sem, simprocAttr, seval])) | with_reducible intro (ep : Nat → Nat) | with_reducible apply_assumption -exfalso -symm only [*])
          · have hf : firstS l t = (2, 0) := by unfold firstS; rw [hak]; simp only; rw [if_neg ham]
            rw [hf]
            refine PureC_of (fn := Try.f27) tabOK (by kernel_rfl) rfl (by kernel_rfl) (by simp [Try.f27]) (by simp [noids, noid, noidss, go_sem, encRun, cRun, encRules, cRules]) (by first | rfl | simp [noids, noid, noidss, go_sem, encRun, cRun, encRules, cRules]) ?_
            intro X hX0 hXs
            repeat' (first | (with_reducible refine sk ?_; intro K hK) | ((first | (with_reducible first | refine rg (h := ?_) | refine nx ?_) | refine pK (check_ok r u hb hu) ?_ | refine pK (in_1 _ _ _) ?_ | refine pK (hlk) ?_ | refine pK (hix) ?_); try simp (disch := omega) only [encRun, cRun, encRules, cRules, hc0, ht.1, ht.2, hak, ham, hpos, cBrc,go_sem, simprocAttr]) | (with_reducible refine bk ?_) | ((with_reducible refine' cE ?hv ?_ ?_); (case hv => first | rfl | (simp only [encRun, cRun, encRules, cRules, hc0, ht.1, ht.2, hak, ham, hpos, cBrc,go_sem, simprocAttr]; rfl)); all_goals (intro hc; (try simp only [go_sem, simprocAttr] at hc); try (exfalso; omega))) | ((with_reducible first | refine grdS_split ?_ ?_ | refine lkG_split ?_ ?_) <;> intro hg <;> (try simp (disch := omega) only [hg, encRun, cRun, encRules, cRules, hc0, ht.1, ht.2, hak, ham, hpos, cBrc,go_sem, simprocAttr]) <;> (try simp only [go_sem, simprocAttr] at hg) <;> (try (exfalso; omega))) | ((with_reducible refine fe ?_); refine ⟨_, (by simp only [Try.f27, encRun, cRun, encRules, cRules, hc0, ht.1, ht.2, hak, ham, hpos, cBrc,go_sem, simprocAttr]; rfl), ?_⟩; first | rfl | (try simp only [encRun, cRun, encRules, cRules, hc0, ht.1, ht.2, hak, ham, hpos, cBrc,go_sem, simprocAttr, seval])) | with_reducible intro (ep : Nat → Nat) | with_reducible apply_assumption -exfalso -symm only [*])
        · have hf : firstS l t = (2, 0) := by unfold firstS; rw [List.getElem?_eq_none (by omega)]
          rw [hf]
          refine PureC_of (fn := Try.f27) tabOK (by kernel_rfl) rfl (by kernel_rfl) (by simp [Try.f27]) (by simp [noids, noid, noidss, go_sem, encRun, cRun, encRules, cRules]) (by first | rfl | simp [noids, noid, noidss, go_sem, encRun, cRun, encRules, cRules]) ?_
          intro X hX0 hXs
          repeat' (first | (with_reducible refine sk ?_; intro K hK) | ((first | (with_reducible first | refine rg (h := ?_) | refine nx ?_) | refine pK (check_ok r u hb hu) ?_ | refine pK (in_1 _ _ _) ?_ | refine pK (hlk) ?_ | refine pK (hix) ?_); try simp (disch := omega) only [encRun, cRun, encRules, cRules, hc0, ht.1, ht.2, hpos, cBrc,go_sem, simprocAttr]) | (with_reducible refine bk ?_) | ((with_reducible refine' cE ?hv ?_ ?_); (case hv => first | rfl | (simp only [encRun, cRun, encRules, cRules, hc0, ht.1, ht.2, hpos, cBrc,go_sem, simprocAttr]; rfl)); all_goals (intro hc; (try simp only [go_sem, simprocAttr] at hc); try (exfalso; omega))) | ((with_reducible first | refine grdS_split ?_ ?_ | refine lkG_split ?_ ?_) <;> intro hg <;> (try simp (disch := omega) only [hg, encRun, cRun, encRules, cRules, hc0, ht.1, ht.2, hpos, cBrc,go_sem, simprocAttr]) <;> (try simp only [go_sem, simprocAttr] at hg) <;> (try (exfalso; omega))) | ((with_reducible refine fe ?_); refine ⟨_, (by simp only [Try.f27, encRun, cRun, encRules, cRules, hc0, ht.1, ht.2, hpos, cBrc,go_sem, simprocAttr]; rfl), ?_⟩; first | rfl | (try simp only [encRun, cRun, encRules, cRules, hc0, ht.1, ht.2, hpos, cBrc,go_sem, simprocAttr, seval])) | with_reducible intro (ep : Nat → Nat) | with_reducible apply_assumption -exfalso -symm only [*])
    · rw [if_neg ht]
      refine PureC_of (fn := Try.f27) tabOK (by kernel_rfl) rfl (by kernel_rfl) (by simp [Try.f27]) (by simp [noids, noid, noidss, go_sem, encRun, cRun, encRules, cRules]) (by first | rfl | simp [noids, noid, noidss, go_sem, encRun, cRun, encRules, cRules]) ?_
      intro X hX0 hXs
      repeat' (first | (with_reducible refine sk ?_; intro K hK) | ((first | (with_reducible first | refine rg (h := ?_) | refine nx ?_) | refine pK (check_ok r u hb hu) ?_ | refine pK (in_1 _ _ _) ?_); try simp (disch := omega) only [encRun, cRun, encRules, cRules, hc0,go_sem, simprocAttr]) | (with_reducible refine bk ?_) | ((with_reducible refine' cE ?hv ?_ ?_); (case hv => first | rfl | (simp only [encRun, cRun, encRules, cRules, hc0,go_sem, simprocAttr]; rfl)); all_goals (intro hc; (try simp only [go_sem, simprocAttr] at hc); try (exfalso; omega))) | ((with_reducible first | refine grdS_split ?_ ?_ | refine lkG_split ?_ ?_) <;> intro hg <;> (try simp (disch := omega) only [hg, encRun, cRun, encRules, cRules, hc0,go_sem, simprocAttr]) <;> (try simp only [go_sem, simprocAttr] at hg) <;> (try (exfalso; omega))) | ((with_reducible refine fe ?_); refine ⟨_, (by simp only [Try.f27, encRun, cRun, encRules, cRules, hc0,go_sem, simprocAttr]; rfl), ?_⟩; first | rfl | (try simp only [encRun, cRun, encRules, cRules, hc0,go_sem, simprocAttr, seval])) | with_reducible intro (ep : Nat → Nat) | with_reducible apply_assumption -exfalso -symm only [*])
  · rw [keptT, if_neg hc0]
    refine PureC_of (fn := Try.f27) tabOK (by kernel_rfl) rfl (by kernel_rfl) (by simp [Try.f27]) (by simp [noids, noid, noidss, go_sem, encRun, cRun, encRules, cRules]) (by first | rfl | simp [noids, noid, noidss, go_sem, encRun, cRun, encRules, cRules]) ?_
    intro X hX0 hXs
    repeat' (first | (with_reducible refine sk ?_; intro K hK) | ((first | (with_reducible first | refine rg (h := ?_) | refine nx ?_) | refine pK (check_ok r u hb hu) ?_); try simp (disch := omega) only [encRun, cRun, encRules, cRules, hc0,go_sem, simprocAttr]) | (with_reducible refine bk ?_) | ((with_reducible refine' cE ?hv ?_ ?_); (case hv => first | rfl | (simp only [encRun, cRun, encRules, cRules, hc0,go_sem, simprocAttr]; rfl)); all_goals (intro hc; (try simp only [go_sem, simprocAttr] at hc); try (exfalso; omega))) | ((with_reducible first | refine grdS_split ?_ ?_ | refine lkG_split ?_ ?_) <;> intro hg <;> (try simp (disch := omega) only [hg, encRun, cRun, encRules, cRules, hc0,go_sem, simprocAttr]) <;> (try simp only [go_sem, simprocAttr] at hg) <;> (try (exfalso; omega))) | ((with_reducible refine fe ?_); refine ⟨_, (by simp only [Try.f27, encRun, cRun, encRules, cRules, hc0,go_sem, simprocAttr]; rfl), ?_⟩; first | rfl | (try simp only [encRun, cRun, encRules, cRules, hc0,go_sem, simprocAttr, seval])) | with_reducible intro (ep : Nat → Nat) | with_reducible apply_assumption -exfalso -symm only [*])
end Cp
namespace Cp
open Go Go.Proofs
set_option maxRecDepth 10000
theorem twin_ok (r : RunT) (hr : RunSm r) : PureC Try.prog 15 [encRun r] (encRun r) := by
  have hb := hr.b
  have hb1 : r.curve.length ≤ 1073741824 := by have := hr.curve; omega
  have hb2 : r.cpls.length ≤ 1073741824 := by have := hr.cpls; omega
  have hb3 : r.rows.length ≤ 1073741824 := by have := hr.rows; omega
  refine PureC_of (fn := Try.f15) tabOK (by kernel_rfl) rfl (by kernel_rfl) (by simp [Try.f15]) (by simp [noids, noid, noidss, go_sem, encRun, cRun]) (by first | rfl | simp [noids, noid, noidss, go_sem, encRun, cRun]) ?_
  intro X hX0 hXs
  by_cases hne : r.rows.length = 0
  · have hnil : r.rows = [] := List.eq_nil_of_length_eq_zero hne
    repeat' (first | (with_reducible refine sk ?_; intro K hK) | ((with_reducible first | refine rg (md := { base := 0, own := [1] }) (h := ?_) | refine rgS [2] (md := { base := 0, own := [1] }) (h := ?_) | refine nx ?_); try simp (disch := omega) only [encRun, cRun, hb1, hb2, hnil,go_sem, simprocAttr]) | (with_reducible refine bk ?_) | ((with_reducible refine' cE ?hv ?_ ?_); (case hv => first | rfl | (simp only [encRun, cRun, hb1, hb2, hnil,go_sem, simprocAttr]; rfl)); all_goals (intro hc; (try simp only [go_sem, simprocAttr] at hc); try (exfalso; omega))) | ((with_reducible refine fe ?_); refine ⟨_, (by simp only [Try.f15, encRun, cRun, hb1, hb2, hnil,go_sem, simprocAttr]; rfl), ?_⟩; first | rfl | (try simp only [encRun, cRun, hb1, hb2, hnil,go_sem, simprocAttr, seval])) | with_reducible intro (ep : Nat → Nat) | with_reducible apply_assumption -exfalso -symm only [*])
    refine AW_block (AW_loop (fun n f H => (f 3 = .int .i64 0) ∧ ∃ e1 e2 x, f 1 = .ptr 1 e1 6 0 0 ∧ H 1 = some (e1, .arr 6 [[.int .i64 r.id, .lst 2 (r.curve.map cPt), .lst 6 (r.cpls.map cCpl), .lst 2 [], .int .i64 r.gauge.lo, .int .i64 r.gauge.hi]]) ∧ f 2 = .ptr 2 e2 6 0 0 ∧ H 2 = some (e2, .arr 6 [x]) ∧ x.length = 6) 0
      ⟨by (first | rfl | (simp only [go_sem, simprocAttr]; done) | (simp only [go_sem, simprocAttr]; rfl)), _, _, _, by (first | rfl | (simp only [go_sem, simprocAttr]; done) | (simp only [go_sem, simprocAttr]; rfl)), by (first | rfl | (simp only [go_sem, simprocAttr]; done) | (simp only [go_sem, simprocAttr]; rfl)), by (first | rfl | (simp only [go_sem, simprocAttr]; done) | (simp only [go_sem, simprocAttr]; rfl)), by (first | rfl | (simp only [go_sem, simprocAttr]; done) | (simp only [go_sem, simprocAttr]; rfl)), rfl⟩ ?_)
    rintro n f H ⟨h3, e1, e2, x, h1, hH1, h2, hH2, hx⟩
    match x, hx with
    | [x0, x1, x2, x3, x4, x5], _ =>
    repeat' (first | (with_reducible refine sk ?_; intro K hK) | ((with_reducible first | refine rg (md := { base := 0, own := [1] }) (h := ?_) | refine rgS [2] (md := { base := 0, own := [1] }) (h := ?_) | refine nx ?_); try simp (disch := omega) only [h1, h2, h3, hH1, hH2, hnil, encRun, cRun,go_sem, simprocAttr]) | (with_reducible refine bk ?_) | ((with_reducible refine' cE ?hv ?_ ?_); (case hv => first | rfl | (simp only [h1, h2, h3, hH1, hH2, hnil, encRun, cRun,go_sem, simprocAttr]; rfl)); all_goals (intro hc; (try simp only [go_sem, simprocAttr] at hc); try (exfalso; omega))) | ((with_reducible refine fe ?_); refine ⟨_, (by simp only [Try.f15, h1, h2, h3, hH1, hH2, hnil, encRun, cRun,go_sem, simprocAttr]; rfl), ?_⟩; first | rfl | (try simp only [h1, h2, h3, hH1, hH2, hnil, encRun, cRun,go_sem, simprocAttr, seval])) | with_reducible intro (ep : Nat → Nat) | with_reducible apply_assumption -exfalso -symm only [*])
  · have hpos : 0 < r.rows.length := by omega
    repeat' (first | (with_reducible refine sk ?_; intro K hK) | ((with_reducible first | refine rg (md := { base := 0, own := [1, 17] }) (h := ?_) | refine rgS [2] (md := { base := 0, own := [1, 17] }) (h := ?_) | refine nx ?_); try simp (disch := omega) only [encRun, cRun, hb1, hb2, hb3, hne,go_sem, simprocAttr]) | (with_reducible refine bk ?_) | ((with_reducible refine' cE ?hv ?_ ?_); (case hv => first | rfl | (simp only [encRun, cRun, hb1, hb2, hb3, hne,go_sem, simprocAttr]; rfl)); all_goals (intro hc; (try simp only [go_sem, simprocAttr] at hc); try (exfalso; omega))) | ((with_reducible refine fe ?_); refine ⟨_, (by simp only [Try.f15, encRun, cRun, hb1, hb2, hb3, hne,go_sem, simprocAttr]; rfl), ?_⟩; first | rfl | (try simp only [encRun, cRun, hb1, hb2, hb3, hne,go_sem, simprocAttr, seval])) | with_reducible intro (ep : Nat → Nat) | with_reducible apply_assumption -exfalso -symm only [*])
    refine AW_block (AW_loop (fun n f H => ∃ k : Nat, n = r.rows.length - k ∧ k ≤ r.rows.length ∧ (f 3 = .int .i64 k) ∧ ∃ e1 e2 e17 x, f 1 = .ptr 1 e1 6 0 0 ∧ H 1 = some (e1, .arr 6 [[.int .i64 r.id, .lst 2 (r.curve.map cPt), .lst 6 (r.cpls.map cCpl), .gr 17 e17 r.rows.length, .int .i64 r.gauge.lo, .int .i64 r.gauge.hi]]) ∧ f 2 = .ptr 2 e2 6 0 0 ∧ H 2 = some (e2, .arr 6 [x]) ∧ x.length = 6 ∧ H 17 = some (e17, .arr 2 (r.rows.map cRow))) r.rows.length
      ⟨0, by simp, Nat.zero_le _, by (first | rfl | (simp only [go_sem, simprocAttr]; done) | (simp only [go_sem, simprocAttr]; rfl)), _, _, _, _, by (first | rfl | (simp only [go_sem, simprocAttr]; done) | (simp only [go_sem, simprocAttr]; rfl)), by (first | rfl | (simp only [go_sem, simprocAttr]; done) | (simp only [go_sem, simprocAttr]; rfl)), by (first | rfl | (simp only [go_sem, simprocAttr]; done) | (simp only [go_sem, simprocAttr]; rfl)), by (first | rfl | (simp only [go_sem, simprocAttr]; done) | (simp only [go_sem, simprocAttr]; rfl)), rfl, by (first | rfl | (simp only [go_sem, simprocAttr]; done) | (simp only [go_sem, simprocAttr]; rfl))⟩ ?_)
    rintro n f H ⟨k, rfl, hk, h3, e1, e2, e17, x, h1, hH1, h2, hH2, hx, hH17⟩
    match x, hx with
    | [x0, x1, x2, x3, x4, x5], _ =>
    by_cases hlt : k < r.rows.length
    · obtain ⟨y, hy⟩ : ∃ y, r.rows[k]? = some y := ⟨_, List.getElem?_eq_getElem hlt⟩
      have hyd : y.deg.length ≤ 1073741824 := by have := hr.degs y (List.mem_of_getElem? hy); omega
      have hset := map_set_self (g := cRow) hy
      simp only [cRow] at hset
      repeat' (first | (with_reducible refine sk ?_; intro K hK) | ((with_reducible first | refine rg (md := { base := 0, own := [1, 17] }) (h := ?_) | refine rgS [2] (md := { base := 0, own := [1, 17] }) (h := ?_) | refine nx ?_); try simp (disch := omega) only [h1, h2, h3, hH1, hH2, hH17, hy, hyd, hlt, cRow,go_sem, simprocAttr]) | (with_reducible refine bk ?_) | ((with_reducible refine' cE ?hv ?_ ?_); (case hv => first | rfl | (simp only [h1, h2, h3, hH1, hH2, hH17, hy, hyd, hlt, cRow,go_sem, simprocAttr]; rfl)); all_goals (intro hc; (try simp only [go_sem, simprocAttr] at hc); try (exfalso; omega))) | ((with_reducible refine fe ?_); refine ⟨_, (by simp only [Try.f15, h1, h2, h3, hH1, hH2, hH17, hy, hyd, hlt, cRow,go_sem, simprocAttr]; rfl), ?_⟩; first | rfl | (try simp only [h1, h2, h3, hH1, hH2, hH17, hy, hyd, hlt, cRow,go_sem, simprocAttr, seval])) | with_reducible intro (ep : Nat → Nat) | with_reducible apply_assumption -exfalso -symm only [*])
      exact ⟨r.rows.length - (k + 1), by omega, k + 1, rfl, by omega, rfl, _, _, _, _, rfl, rfl, rfl, rfl, rfl, by rw [hset]⟩
    · repeat' (first | (with_reducible refine sk ?_; intro K hK) | ((with_reducible first | refine rg (md := { base := 0, own := [1, 17] }) (h := ?_) | refine rgS [2] (md := { base := 0, own := [1, 17] }) (h := ?_) | refine nx ?_); try simp (disch := omega) only [h1, h2, h3, hH1, hH2, hH17,go_sem, simprocAttr]) | (with_reducible refine bk ?_) | ((with_reducible refine' cE ?hv ?_ ?_); (case hv => first | rfl | (simp only [h1, h2, h3, hH1, hH2, hH17,go_sem, simprocAttr]; rfl)); all_goals (intro hc; (try simp only [go_sem, simprocAttr] at hc); try (exfalso; omega))) | with_reducible intro (ep : Nat → Nat) | with_reducible apply_assumption -exfalso -symm only [*])
      refine FnP_frz 17 (Or.inl rfl) (by simp only [go_sem, simprocAttr, hH17]; rfl) ⟨_, (by simp only [Try.f15, go_sem, simprocAttr, h1, h2, hH1, hH2]; rfl), ?_⟩
      simp only [go_sem, simprocAttr, encRun, cRun]
end Cp
namespace Cp
open Go
def FirstAt (l : List Brc) (t : Int) (j : Nat) (x : Int) : Prop := (x = 0 ∧ ∀ i b, i < j → l[i]? = some b → ¬ b.m ≤ t) ∨ (1 ≤ j ∧ ∃ b, l[0]? = some b ∧ b.m ≤ t ∧ x = b.m ∧ 1 ≤ b.m)
def SureAt (l : List Brc) (t : Int) (j : Nat) (x : Int) : Prop := (x = 0 ∧ ∀ i b, i < j → l[i]? = some b → b.m ≤ t → ¬ b.known = 2) ∨ (∃ i b, i < j ∧ l[i]? = some b ∧ b.m ≤ t ∧ b.known = 2 ∧ x = b.m ∧ 1 ≤ b.m ∧ ∀ k c, k < i → l[k]? = some c → ¬ c.known = 2)
variable {l : List Brc} {t x : Int} {j : Nat} {b : Brc}
theorem FirstAt.over (h : FirstAt l t j x) (hb : l[j]? = some b) (hm : ¬ b.m ≤ t) : FirstAt l t (j + 1) x := by
  rcases h with ⟨rfl, h⟩ | ⟨h1, c, h2⟩
  · refine .inl ⟨rfl, fun i c hi hc => ?_⟩
    by_cases hij : i = j
    · subst hij; rw [hb] at hc; cases hc; exact hm
    · exact h i c (by omega) hc
  · exact .inr ⟨by omega, c, h2⟩
theorem FirstAt.new (hs : l.Pairwise brLt) (h : FirstAt l t j 0) (hb : l[j]? = some b) (hm : b.m ≤ t) (h1 : 1 ≤ b.m) : FirstAt l t (j + 1) b.m := by
  rcases h with ⟨_, h⟩ | ⟨_, c, _, _, hc, h1⟩
  · cases j with
    | zero => exact .inr ⟨by omega, b, hb, hm, rfl, h1⟩
    | succ j =>
      exfalso
      obtain ⟨a, ha⟩ : ∃ a, l[0]? = some a := ⟨_, List.getElem?_eq_getElem (by have := (List.getElem?_eq_some_iff.1 hb).1; omega)⟩
      have h0 := h 0 a (by omega) ha
      have := sorted_m hs (Nat.zero_le _) ha hb
      omega
  · omega
theorem FirstAt.old (h : FirstAt l t j x) (hx : ¬ x = 0) : FirstAt l t (j + 1) x := by
  rcases h with ⟨rfl, _⟩ | ⟨h1, c, h2⟩
  · exact absurd rfl hx
  · exact .inr ⟨by omega, c, h2⟩
theorem SureAt.over (h : SureAt l t j x) (hb : l[j]? = some b) (hm : b.m ≤ t → ¬ b.known = 2) : SureAt l t (j + 1) x := by
  rcases h with ⟨rfl, h⟩ | ⟨i, c, h1, h2⟩
  · refine .inl ⟨rfl, fun i c hi hc => ?_⟩
    by_cases hij : i = j
    · subst hij; rw [hb] at hc; cases hc; exact hm
    · exact h i c (by omega) hc
  · exact .inr ⟨i, c, by omega, h2⟩
theorem SureAt.new (hs : l.Pairwise brLt) (h : SureAt l t j 0) (hb : l[j]? = some b) (hm : b.m ≤ t) (h1 : 1 ≤ b.m) (hk : b.known = 2) : SureAt l t (j + 1) b.m := by
  rcases h with ⟨_, h⟩ | ⟨i, c, _, _, _, _, hc, h1, _⟩
  · exact .inr ⟨j, b, by omega, hb, hm, hk, rfl, h1, fun k c hkj hc => h k c hkj hc (by have := sorted_m hs (Nat.le_of_lt hkj) hc hb; omega)⟩
  · omega
theorem SureAt.old (h : SureAt l t j x) (hx : ¬ x = 0) : SureAt l t (j + 1) x := by
  rcases h with ⟨rfl, _⟩ | ⟨i, c, h1, h2⟩
  · exact absurd rfl hx
  · exact .inr ⟨i, c, by omega, h2⟩
end Cp
namespace Cp
open Go
def cutR (r : RunT) (n : Nat) : RunT := ⟨r.id, r.curve, r.cpls, r.rows.take n, r.gauge⟩
theorem ext_congr {g g' : Int → Int} {lo : Int} : ∀ (k : Nat), (∀ j : Nat, j ≤ k → g (lo + j) = g' (lo + j)) → extLo g lo k = extLo g' lo k ∧ extHi g lo k = extHi g' lo k
  | 0, h => by have := h 0 (Nat.le_refl _); simpa [extLo, extHi] using this
  | k + 1, h => by
    obtain ⟨h1, h2⟩ := ext_congr k fun j hj => h j (by omega)
    have h3 := h (k + 1) (Nat.le_refl _)
    simp only [extLo, extHi]
    rw [h1, h2, h3]; exact ⟨rfl, rfl⟩
section
variable {r : RunT} {u : RulesT} {n : Nat}
theorem readAt_cut {i : Nat} {x : Int} (h : x ≤ n) (hn : 1 ≤ n) : readAt (cutR r n) i x = readAt r i x := by
  have : (r.rows.take n)[(x - 1).toNat]? = r.rows[(x - 1).toNat]? := by rw [List.getElem?_take, if_pos (by omega)]
  unfold readAt
  simp only [cutR, this]
theorem readLag_cut {c : Cpl} {i : Nat} {m lag : Int} (hn : 1 ≤ n) (hl : n ≤ r.rows.length) (h : m + lag ≤ n) : readLag (cutR r n) c i m lag = readLag r c i m lag := by
  have hlen : (cutR r n).rows.length = n := by simp only [cutR, List.length_take]; omega
  have : min (m + lag) (lastRow (cutR r n) c) = min (m + lag) (lastRow r c) := by
    unfold lastRow; rw [hlen]; split <;> omega
  unfold readLag
  rw [this, readAt_cut (by omega) hn]
theorem truth_cut (hF : RunF r) {c : Cpl} {i : Nat} (hc : r.cpls[i]? = some c) {m : Int} (hn : 1 ≤ n) (hl : n ≤ r.rows.length) (h : m + 3 ≤ n) : truth (cutR r n) c i m = truth r c i m := by
  have hcf := hF.cpl i c hc
  obtain ⟨h1, h2⟩ := ext_congr (g := readLag (cutR r n) c i m) (g' := readLag r c i m) (lo := c.lag.lo) (c.lag.hi - c.lag.lo).toNat fun j hj => readLag_cut hn hl (by omega)
  unfold truth
  rw [h1, h2]
theorem sum_cut (hF : RunF r) {m : Int} (hn : 1 ≤ n) (hl : n ≤ r.rows.length) (h : m + 3 ≤ n) : ∀ (l : List Nat), sumLo (cutR r n) m l = sumLo r m l ∧ sumHi (cutR r n) m l = sumHi r m l
  | [] => ⟨rfl, rfl⟩
  | i :: l => by
    obtain ⟨h1, h2⟩ := sum_cut hF hn hl h l
    simp only [sumLo, sumHi]
    rw [h1, h2]
    have : (cutR r n).cpls = r.cpls := rfl
    rw [this]
    cases hq : r.cpls[i]? with
    | none => exact ⟨rfl, rfl⟩
    | some c => simp only; rw [truth_cut hF hq hn hl h]; exact ⟨rfl, rfl⟩
theorem wk_cut {m : Int} : wk (cutR r n) m = wk r m := rfl
theorem meanS_cut (hF : RunF r) {m : Int} (hn : 1 ≤ n) (hl : n ≤ r.rows.length) (h : m + 3 ≤ n) : meanS (cutR r n) m = meanS r m := by
  unfold meanS
  rw [wk_cut, (sum_cut hF hn hl h _).1, (sum_cut hF hn hl h _).2]
theorem cum_cut (hF : RunF r) (hn : 1 ≤ n) (hl : n ≤ r.rows.length) : ∀ (k : Nat), k + 3 ≤ n → cumLo (cutR r n) k = cumLo r k ∧ cumHi (cutR r n) k = cumHi r k ∧ cumC (cutR r n) k = cumC r k
  | 0, _ => ⟨rfl, rfl, rfl⟩
  | k + 1, h => by
    obtain ⟨h1, h2, h3⟩ := cum_cut hF hn hl k (by omega)
    simp only [cumLo, cumHi, cumC]
    rw [h1, h2, h3, wk_cut, meanS_cut hF hn hl (by omega)]
    exact ⟨rfl, rfl, rfl⟩
theorem singL_cut (hF : RunF r) {m : Int} (hn : 1 ≤ n) (hl : n ≤ r.rows.length) (h : m + 3 ≤ n) : ∀ (l : List Nat), singL (cutR r n) u m l = singL r u m l
  | [] => rfl
  | i :: l => by
    simp only [singL]
    rw [singL_cut hF hn hl h l]
    unfold singI
    have : (cutR r n).cpls = r.cpls := rfl
    rw [this]
    cases hq : r.cpls[i]? with
    | none => rfl
    | some c => simp only [singS]; rw [truth_cut hF hq hn hl h]; rfl
theorem minB_cut (hF : RunF r) {k : Nat} (hn : 1 ≤ n) (hl : n ≤ r.rows.length) (h : k + 3 ≤ n) : minB (cutR r n) u k = minB r u k := by
  obtain ⟨h1, h2, h3⟩ := cum_cut hF hn hl k h
  have ha : areaS (cutR r n) u k = areaS r u k := by unfold areaS; rw [h1, h2, h3]
  have hs : singB (cutR r n) u (k : Int) = singB r u (k : Int) := by unfold singB; rw [wk_cut, singL_cut hF hn hl (by omega)]
  have hp : pressS (cutR r n) u (k : Int) = pressS r u (k : Int) := by
    have : (r.rows.take n)[((k : Int) - 1).toNat]? = r.rows[((k : Int) - 1).toNat]? := by rw [List.getElem?_take, if_pos (by omega)]
    unfold pressS pressAt; simp only [cutR, this]
  unfold minB pressB
  rw [ha, hs, hp]; rfl
theorem leftB_cut (hF : RunF r) (hn : 1 ≤ n) (hl : n ≤ r.rows.length) : ∀ (k : Nat), k + 3 ≤ n → leftB (cutR r n) u k = leftB r u k
  | 0, _ => rfl
  | k + 1, h => by simp only [leftB]; rw [leftB_cut hF hn hl k (by omega), minB_cut hF hn hl h]
theorem leftB_split (k : Nat) : ∀ (d : Nat), ∃ rest, leftB r u (k + d) = leftB r u k ++ rest ∧ ∀ b ∈ rest, (k : Int) < b.m
  | 0 => ⟨[], by simp, by simp⟩
  | d + 1 => by
    obtain ⟨rest, h1, h2⟩ := leftB_split k d
    refine ⟨rest ++ minB r u (k + d + 1), ?_, fun b hb => ?_⟩
    · show leftB r u (k + d + 1) = _
      simp only [leftB, h1, List.append_assoc]
    · rcases List.mem_append.1 hb with hb | hb
      · exact h2 b hb
      · have := (minB_mem hb).1; omega
theorem leftB_le {k : Nat} {b : Brc} (h : b ∈ leftB r u k) : b.m ≤ k := by
  obtain ⟨j, _, h2, h3⟩ := leftB_mem h
  have := (minB_mem h3).1; omega
theorem left_cut (hF : RunF r) (hn : 1 ≤ n) (hl : n ≤ r.rows.length) : ∃ p a b, leftS r u = p ++ a ∧ leftS (cutR r n) u = p ++ b ∧ (∀ x ∈ p, x.m ≤ (n : Int) - 3) ∧ (∀ x ∈ a, ¬ x.m ≤ (n : Int) - 3) ∧ ∀ x ∈ b, ¬ x.m ≤ (n : Int) - 3 := by
  have hlen : (cutR r n).rows.length = n := by simp only [cutR, List.length_take]; omega
  by_cases h3 : 3 ≤ n
  · obtain ⟨a, h1, h2⟩ := leftB_split (r := r) (u := u) (n - 3) (r.rows.length - (n - 3))
    obtain ⟨b, g1, g2⟩ := leftB_split (r := cutR r n) (u := u) (n - 3) (n - (n - 3))
    rw [show n - 3 + (r.rows.length - (n - 3)) = r.rows.length by omega] at h1
    rw [show n - 3 + (n - (n - 3)) = n by omega, leftB_cut hF hn hl (n - 3) (by omega)] at g1
    refine ⟨leftB r u (n - 3), a, b, h1, by unfold leftS; rw [hlen]; exact g1, fun x hx => ?_, fun x hx => ?_, fun x hx => ?_⟩
    · have := leftB_le hx; omega
    · have := h2 x hx; omega
    · have := g2 x hx; omega
  · have pos : ∀ {r : RunT} {x : Brc}, x ∈ leftS r u → 1 ≤ x.m := fun hx => by
      obtain ⟨j, h1, _, h3⟩ := leftB_mem hx
      have := (minB_mem h3).1; omega
    exact ⟨[], leftS r u, leftS (cutR r n) u, rfl, rfl, by simp, fun x hx => by have := pos hx; omega, fun x hx => by have := pos hx; omega⟩
end
theorem firstS_app {p a : List Brc} {t : Int} (ha : ∀ x ∈ a, ¬ x.m ≤ t) : firstS (p ++ a) t = firstS p t := by
  unfold firstS
  cases p with
  | cons x p => rfl
  | nil =>
    simp only [List.nil_append]
    cases a with
    | nil => rfl
    | cons x a => simp only [List.getElem?_cons_zero, List.getElem?_nil]; rw [if_neg (ha x (by simp))]
theorem keptL_app {p a : List Brc} {t : Int} (ha : ∀ x ∈ a, ¬ x.m ≤ t) : keptL (p ++ a) t = keptL p t := by
  unfold keptL
  rw [firstS_app ha]
  have hw := List.takeWhile_append (p := p2) (xs := p) (ys := a)
  by_cases hp : (p.takeWhile p2).length = p.length
  · have h1 : p[firstK p]? = none := List.getElem?_eq_none (by unfold firstK; omega)
    have h2 : firstK (p ++ a) = p.length + firstK a := by unfold firstK; rw [hw, if_pos hp, List.length_append]
    rw [h1, h2, List.getElem?_append_right (by omega), Nat.add_sub_cancel_left]
    cases hq : a[firstK a]? with
    | none => rfl
    | some x => simp only; rw [if_neg (ha x (List.mem_of_getElem? hq))]
  · have h2 : firstK (p ++ a) = firstK p := by unfold firstK; rw [hw, if_neg hp]
    have h3 : firstK p < p.length := by have := firstK_le (l := p); unfold firstK at *; omega
    rw [h2, List.getElem?_append_left h3]
theorem cutR_ok {r : RunT} {n : Nat} (hn : 1 ≤ n) (hl : n ≤ r.rows.length) (h : runOK r = true) : runOK (cutR r n) = true := by
  have hlen : (r.rows.take n).length = n := by simp only [List.length_take]; omega
  simp only [runOK, headOK, cutR, Bool.and_eq_true, decide_eq_true_eq, List.all_eq_true, hlen] at h ⊢
  obtain ⟨⟨⟨h1, h2⟩, h3⟩, h4⟩ := h
  exact ⟨⟨⟨h1, by omega⟩, h3⟩, fun x hx => h4 x (List.mem_of_mem_take hx)⟩
theorem cut_sm {r : RunT} {n : Nat} (hl : n ≤ r.rows.length) (h : RunSm r) : RunSm (cutR r n) :=
  ⟨h.curve, h.cpls, by have := h.rows; simp only [cutR, List.length_take]; omega, fun x hx => h.degs x (List.mem_of_mem_take hx)⟩
theorem enc_cut {r : RunT} {n : Nat} : encRun (cutR r n) = .agg [.int .i64 r.id, .lst 2 (r.curve.map cPt), .lst 6 (r.cpls.map cCpl), .lst 2 ((r.rows.map cRow).take n), .int .i64 r.gauge.lo, .int .i64 r.gauge.hi] := by
  simp only [encRun, cRun, cutR, List.map_take]
end Cp
namespace Cp
theorem scan_at {p a : List Brc} {t : Int} (hp : ∀ x ∈ p, x.m ≤ t) (ha : ∀ x ∈ a, ¬ x.m ≤ t) {k : Nat} (hk : k ≤ p.length) :
    (k < p.length ∧ ∃ x, (p ++ a)[k]? = some x ∧ x.m ≤ t) ∨ (k = p.length ∧ ((p ++ a).length = k ∨ ∃ x, (p ++ a)[k]? = some x ∧ ¬ x.m ≤ t)) := by
  rcases Nat.lt_or_ge k p.length with h | h
  · have hx : p[k]? = some p[k] := List.getElem?_eq_getElem h
    exact .inl ⟨h, p[k], by rw [List.getElem?_append_left h]; exact hx, hp _ (List.mem_of_getElem? hx)⟩
  · obtain rfl : k = p.length := by omega
    refine .inr ⟨rfl, ?_⟩
    cases a with
    | nil => exact .inl (by simp)
    | cons x a => exact .inr ⟨x, by simp, ha x (by simp)⟩
theorem take_pre {p a : List Brc} : List.take p.length (List.map cBrc (p ++ a)) = List.map cBrc p := by simp
end Cp
namespace Cp
open Go Go.Proofs
set_option maxRecDepth 10000
end Cp
namespace Cp
open Go Go.Proofs
set_option maxRecDepth 10000
theorem ready_ok (r : RunT) (u : RulesT) : PureC Try.prog 34 [encRun r, encRules u] (.bool (!greatS r u && decide (checkE r u = 0))) := by
  by_cases hg : greatS r u = true
  · refine PureC_of (fn := Try.f34) tabOK (by kernel_rfl) rfl (by kernel_rfl) (by simp [Try.f34]) (by simp [noids, noid, noidss, go_sem, encRun, cRun, encRules, cRules]) (by first | rfl | simp [noids, noid, noidss, go_sem, encRun, cRun, encRules, cRules]) ?_
    intro X hX0 hXs
    repeat' (first | (with_reducible refine sk ?_; intro K hK) | ((first | (with_reducible first | refine rg (h := ?_) | refine nx ?_) | refine pK (great_ok r u) ?_); try simp (disch := omega) only [encRun, cRun, encRules, cRules, hg,go_sem, simprocAttr]) | (with_reducible refine bk ?_) | ((with_reducible refine' cE ?hv ?_ ?_); (case hv => first | rfl | (simp only [encRun, cRun, encRules, cRules, hg,go_sem, simprocAttr]; rfl)); all_goals (intro hc; (try simp only [go_sem, simprocAttr] at hc); try (exfalso; omega))) | ((with_reducible first | refine grdS_split ?_ ?_ | refine lkG_split ?_ ?_) <;> intro hg <;> (try simp (disch := omega) only [hg, encRun, cRun, encRules, cRules, hg,go_sem, simprocAttr]) <;> (try simp only [go_sem, simprocAttr] at hg) <;> (try (exfalso; omega))) | ((with_reducible refine fe ?_); refine ⟨_, (by simp only [Try.f34, encRun, cRun, encRules, cRules, hg,go_sem, simprocAttr]; rfl), ?_⟩; first | rfl | (try simp only [encRun, cRun, encRules, cRules, hg,go_sem, simprocAttr, seval])) | with_reducible intro (ep : Nat → Nat) | with_reducible apply_assumption -exfalso -symm only [*])
    try simp [hg]
  · simp only [Bool.not_eq_true] at hg
    obtain ⟨hsm, hst⟩ := great_sm hg
    refine PureC_of (fn := Try.f34) tabOK (by kernel_rfl) rfl (by kernel_rfl) (by simp [Try.f34]) (by simp [noids, noid, noidss, go_sem, encRun, cRun, encRules, cRules]) (by first | rfl | simp [noids, noid, noidss, go_sem, encRun, cRun, encRules, cRules]) ?_
    intro X hX0 hXs
    repeat' (first | (with_reducible refine sk ?_; intro K hK) | ((first | (with_reducible first | refine rg (h := ?_) | refine nx ?_) | refine pK (great_ok r u) ?_ | refine pK (rcheck_ok r u hsm.b ⟨by omega⟩) ?_); try simp (disch := omega) only [encRun, cRun, encRules, cRules, hg,go_sem, simprocAttr]) | (with_reducible refine bk ?_) | ((with_reducible refine' cE ?hv ?_ ?_); (case hv => first | rfl | (simp only [encRun, cRun, encRules, cRules, hg,go_sem, simprocAttr]; rfl)); all_goals (intro hc; (try simp only [go_sem, simprocAttr] at hc); try (exfalso; omega))) | ((with_reducible first | refine grdS_split ?_ ?_ | refine lkG_split ?_ ?_) <;> intro hg <;> (try simp (disch := omega) only [hg, encRun, cRun, encRules, cRules, hg,go_sem, simprocAttr]) <;> (try simp only [go_sem, simprocAttr] at hg) <;> (try (exfalso; omega))) | ((with_reducible refine fe ?_); refine ⟨_, (by simp only [Try.f34, encRun, cRun, encRules, cRules, hg,go_sem, simprocAttr]; rfl), ?_⟩; first | rfl | (try simp only [encRun, cRun, encRules, cRules, hg,go_sem, simprocAttr, seval])) | with_reducible intro (ep : Nat → Nat) | with_reducible apply_assumption -exfalso -symm only [*])
    all_goals try simp [hg]
end Cp
namespace Cp
open Go
theorem fit_map {α : Type} {c : α → List Val} : ∀ {xss : List (List Val)}, (∀ es ∈ xss, ∃ x, es = c x) → ∃ l : List α, xss = l.map c
  | [], _ => ⟨[], rfl⟩
  | es :: xss, h => by
    obtain ⟨x, rfl⟩ := h es (by simp)
    obtain ⟨l, rfl⟩ := fit_map fun es he => h es (List.mem_cons_of_mem _ he)
    exact ⟨x :: l, rfl⟩
theorem fit_slice {T : Tab} {n : Nat} {t e sz : Nat} {vs : List Val} {b b2 s1 : Nat} {z z2 : Val} {p p2 : Bool} {k2 : TK} {α : Type} {c : α → List Val} (ht : T t = some { kind := .slice e, sz := s1, bytes := b, zero := z, plain := p })
    (he : T e = some { kind := k2, sz := sz, bytes := b2, zero := z2, plain := p2 }) (h : Fit T (n + 1) t vs) (hc : ∀ es, Fit T n e es → ∃ x, es = c x) : ∃ l : List α, vs = [.lst sz (l.map c)] := by
  simp only [Fit, ht] at h
  obtain ⟨sz', xss, rfl, hs, _, hx⟩ := h
  rw [he] at hs
  cases hs
  obtain ⟨l, rfl⟩ := fit_map (c := c) fun es hes => hc es (hx es hes).2
  exact ⟨l, rfl⟩
theorem fit_struct {T : Tab} {n : Nat} {t sz : Nat} {vs : List Val} {b : Nat} {z : Val} {p : Bool} {fs : List (Nat × Nat)} (ht : T t = some { kind := .struct fs, sz := sz, bytes := b, zero := z, plain := p }) (h : Fit T (n + 1) t vs) :
    vs.length = sz ∧ ∀ q ∈ fs, ∃ fi, T q.2 = some fi ∧ Fit T n q.2 ((vs.drop q.1).take fi.sz) := by
  simp only [Fit, ht] at h
  exact h
theorem fit_int {T : Tab} {n : Nat} {t : Nat} {vs : List Val} {s b : Nat} {z : Val} {p : Bool} {k : IntKind} (ht : T t = some { kind := .int k, sz := s, bytes := b, zero := z, plain := p }) (h : Fit T (n + 1) t vs) : ∃ m, vs = [.int k m] ∧ (Lit.int k m).wf = true := by
  simp only [Fit, ht] at h
  exact h
theorem fit3 {n : Nat} {vs : List Val} (h : Fit tab (n + 1) 3 vs) : ∃ m, vs = [.int .i64 m] := by
  obtain ⟨m, h, _⟩ := fit_int tab_3 h; exact ⟨m, h⟩
theorem fit_ints {n : Nat} {vs : List Val} {t b s1 : Nat} {z : Val} {p : Bool} (ht : tab t = some { kind := .slice 3, sz := s1, bytes := b, zero := z, plain := p }) (h : Fit tab (n + 2) t vs) : ∃ l : List Int, vs = [.lst 1 (ints l)] := by
  obtain ⟨l, rfl⟩ := fit_slice (c := fun m : Int => [Val.int .i64 m]) ht tab_3 h fun es he => fit3 he
  exact ⟨l, rfl⟩
theorem fit_two {n : Nat} {vs : List Val} {t b : Nat} {z : Val} {p : Bool} (ht : tab t = some { kind := .struct [(0, 3), (1, 3)], sz := 2, bytes := b, zero := z, plain := p }) (h : Fit tab (n + 2) t vs) : ∃ x y : Int, vs = [.int .i64 x, .int .i64 y] := by
  obtain ⟨hl, hq⟩ := fit_struct ht h
  match vs, hl with
  | [a, b], _ =>
    obtain ⟨fi, e, h0⟩ := hq (0, 3) (by simp)
    rw [tab_3] at e; cases e
    obtain ⟨fi, e, h1⟩ := hq (1, 3) (by simp)
    rw [tab_3] at e; cases e
    obtain ⟨x, hx⟩ := fit3 h0
    obtain ⟨y, hy⟩ := fit3 h1
    simp at hx hy
    exact ⟨x, y, by rw [hx, hy]⟩
theorem fit_span {n : Nat} {vs : List Val} (h : Fit tab (n + 2) 26 vs) : ∃ s : Span, vs = [.int .i64 s.lo, .int .i64 s.hi] := by
  obtain ⟨x, y, h⟩ := fit_two tab_26 h; exact ⟨⟨x, y⟩, h⟩
theorem fit_pt {n : Nat} {vs : List Val} (h : Fit tab (n + 2) 93 vs) : ∃ x : Pt, vs = cPt x := by
  obtain ⟨x, y, h⟩ := fit_two tab_93 h; exact ⟨⟨x, y⟩, h⟩
theorem fit_step {n : Nat} {vs : List Val} (h : Fit tab (n + 2) 85 vs) : ∃ x : StepT, vs = cStep x := by
  obtain ⟨x, y, h⟩ := fit_two tab_85 h; exact ⟨⟨x, y⟩, h⟩
theorem fit_cpl {n : Nat} {vs : List Val} (h : Fit tab (n + 3) 76 vs) : ∃ x : Cpl, vs = cCpl x := by
  obtain ⟨hl, hq⟩ := fit_struct tab_76 h
  match vs, hl with
  | [a, b, c, d, e, f], _ =>
    obtain ⟨fi, e0, h0⟩ := hq (0, 3) (by simp)
    rw [tab_3] at e0; cases e0
    obtain ⟨fi, e1, h1⟩ := hq (1, 26) (by simp)
    rw [tab_26] at e1; cases e1
    obtain ⟨fi, e2, h2⟩ := hq (3, 26) (by simp)
    rw [tab_26] at e2; cases e2
    obtain ⟨fi, e3, h3⟩ := hq (5, 3) (by simp)
    rw [tab_3] at e3; cases e3
    obtain ⟨x0, h0⟩ := fit3 h0
    obtain ⟨x1, h1⟩ := fit_span h1
    obtain ⟨x2, h2⟩ := fit_span h2
    obtain ⟨x3, h3⟩ := fit3 h3
    simp at h0 h1 h2 h3
    obtain ⟨h1, h1'⟩ := h1
    obtain ⟨h2, h2'⟩ := h2
    exact ⟨⟨x0, x1, x2, x3⟩, by rw [h0, h1, h1', h2, h2', h3]; rfl⟩
theorem fit_row {n : Nat} {vs : List Val} (h : Fit tab (n + 3) 89 vs) : ∃ x : RowT, vs = cRow x := by
  obtain ⟨hl, hq⟩ := fit_struct tab_89 h
  match vs, hl with
  | [a, b], _ =>
    obtain ⟨fi, e0, h0⟩ := hq (0, 87) (by simp)
    rw [tab_87] at e0; cases e0
    obtain ⟨fi, e1, h1⟩ := hq (1, 3) (by simp)
    rw [tab_3] at e1; cases e1
    obtain ⟨x0, h0⟩ := fit_ints tab_87 h0
    obtain ⟨x1, h1⟩ := fit3 h1
    simp at h0 h1
    exact ⟨⟨x0, x1⟩, by rw [h0, h1]; rfl⟩
theorem fit_pts {n : Nat} {vs : List Val} (h : Fit tab (n + 3) 22 vs) : ∃ l : List Pt, vs = [.lst 2 (l.map cPt)] := fit_slice tab_22 tab_93 h fun es he => fit_pt he
theorem fit_run {n : Nat} {vs : List Val} (h : Fit tab (n + 5) 28 vs) : ∃ r : RunT, vs = cRun r := by
  obtain ⟨hl, hq⟩ := fit_struct tab_28 h
  match vs, hl with
  | [a, b, c, d, e, f], _ =>
    obtain ⟨fi, e0, h0⟩ := hq (0, 3) (by simp)
    rw [tab_3] at e0; cases e0
    obtain ⟨fi, e1, h1⟩ := hq (1, 22) (by simp)
    rw [tab_22] at e1; cases e1
    obtain ⟨fi, e2, h2⟩ := hq (2, 23) (by simp)
    rw [tab_23] at e2; cases e2
    obtain ⟨fi, e3, h3⟩ := hq (3, 24) (by simp)
    rw [tab_24] at e3; cases e3
    obtain ⟨fi, e4, h4⟩ := hq (4, 26) (by simp)
    rw [tab_26] at e4; cases e4
    obtain ⟨x0, h0⟩ := fit3 h0
    obtain ⟨x1, h1⟩ := fit_pts h1
    obtain ⟨x2, h2⟩ := fit_slice tab_23 tab_76 h2 fun es he => fit_cpl he
    obtain ⟨x3, h3⟩ := fit_slice tab_24 tab_89 h3 fun es he => fit_row he
    obtain ⟨x4, h4⟩ := fit_span h4
    simp at h0 h1 h2 h3 h4
    obtain ⟨h4, h4'⟩ := h4
    exact ⟨⟨x0, x1, x2, x3, x4⟩, by rw [h0, h1, h2, h3, h4, h4']; rfl⟩
theorem fit_rules {n : Nat} {vs : List Val} (h : Fit tab (n + 5) 31 vs) : ∃ u : RulesT, vs = cRules u := by
  obtain ⟨hl, hq⟩ := fit_struct tab_31 h
  match vs, hl with
  | [a, b, c, d, e, f], _ =>
    obtain ⟨fi, e0, h0⟩ := hq (0, 29) (by simp)
    rw [tab_29] at e0; cases e0
    obtain ⟨fi, e1, h1⟩ := hq (1, 3) (by simp)
    rw [tab_3] at e1; cases e1
    obtain ⟨fi, e2, h2⟩ := hq (2, 3) (by simp)
    rw [tab_3] at e2; cases e2
    obtain ⟨fi, e3, h3⟩ := hq (3, 26) (by simp)
    rw [tab_26] at e3; cases e3
    obtain ⟨fi, e4, h4⟩ := hq (5, 3) (by simp)
    rw [tab_3] at e4; cases e4
    obtain ⟨x0, h0⟩ := fit_slice tab_29 tab_85 h0 fun es he => fit_step he
    obtain ⟨x1, h1⟩ := fit3 h1
    obtain ⟨x2, h2⟩ := fit3 h2
    obtain ⟨x3, h3⟩ := fit_span h3
    obtain ⟨x4, h4⟩ := fit3 h4
    simp at h0 h1 h2 h3 h4
    obtain ⟨h3, h3'⟩ := h3
    exact ⟨⟨x0, x1, x2, x3, x4⟩, by rw [h0, h1, h2, h3, h3', h4]; rfl⟩
theorem arg_byte {a : Val} (h : FitV tab 8 5 a) : ∃ m, a = .int .u8 m ∧ 0 ≤ m ∧ m ≤ 255 := by
  obtain ⟨ti, cs, e, h, _, rfl⟩ := h
  obtain ⟨m, rfl, hw⟩ := fit_int tab_5 h
  rw [tab_5] at e; cases e
  simp [Lit.wf, IntKind.min, IntKind.max, IntKind.signed, IntKind.bits] at hw
  exact ⟨m, rfl, by omega, by omega⟩
theorem arg_run {a : Val} (h : FitV tab 8 28 a) : ∃ r : RunT, a = encRun r := by
  obtain ⟨ti, cs, e, h, _, rfl⟩ := h
  obtain ⟨l, rfl⟩ := fit_run h
  rw [tab_28] at e; cases e; exact ⟨l, rfl⟩
theorem arg_rules {a : Val} (h : FitV tab 8 31 a) : ∃ r : RulesT, a = encRules r := by
  obtain ⟨ti, cs, e, h, _, rfl⟩ := h
  obtain ⟨l, rfl⟩ := fit_rules h
  rw [tab_31] at e; cases e; exact ⟨l, rfl⟩
end Cp
namespace Cp
open Go Go.Proofs
set_option maxRecDepth 10000
set_option maxHeartbeats 4000000
def BefI (r : RunT) (u : RulesT) (n : Nat) (t : Int) (l l' : List Brc) (f : Fr) (H : Hp) : Prop :=
  (f 3 = .pim (cRun r) ∧ f 4 = .pim (cRules u) ∧ f 7 = .bool true ∧ f 10 = .lst 4 (l.map cBrc) ∧ f 12 = .lst 4 (l'.map cBrc) ∧ f 14 = .int .i64 t) ∧
    ∃ e, f 9 = .ptr 9 e 6 0 0 ∧ H 9 = some (e, .arr 6 [[.int .i64 r.id, .lst 2 (r.curve.map cPt), .lst 6 (r.cpls.map cCpl), .lst 2 ((r.rows.map cRow).take n), .int .i64 r.gauge.lo, .int .i64 r.gauge.hi]])
theorem before_law (r : RunT) (u : RulesT) (b : Int) (hb0 : 0 ≤ b) (hb1 : b ≤ 255) : PureC Try.prog 9 [encRun r, encRules u, .int .u8 b] (.bool true) := by
  by_cases hr : (!greatS r u && decide (checkE r u = 0)) = true
  · have hr2 : greatS r u = false ∧ checkE r u = 0 := by simpa using hr
    obtain ⟨hsm, hst⟩ := great_sm hr2.1
    obtain ⟨h1, h2⟩ := check0 hr2.2
    have hu : RulesB u := ⟨by omega⟩
    have hF := run_facts h1
    have hrl := hF.rows
    have hn0 : ¬ (r.rows.length : Int) = 0 := by omega
    have ht0 : 0 ≤ b.tmod r.rows.length := Int.tmod_nonneg _ hb0
    have ht1 : b.tmod r.rows.length < r.rows.length := Int.tmod_lt_of_pos _ (by omega)
    obtain ⟨n, hn⟩ : ∃ n : Nat, 1 + b.tmod r.rows.length = n := ⟨(1 + b.tmod r.rows.length).toNat, by omega⟩
    have hn1 : 1 ≤ n := by omega
    have hnl : n ≤ r.rows.length := by omega
    have hnl2 : (n : Int) ≤ r.rows.length := by omega
    obtain ⟨t, ht⟩ : ∃ t, (n : Int) - 3 = t := ⟨_, rfl⟩
    obtain ⟨p, a, b', hl, hl', hp, ha, hb'⟩ := left_cut (u := u) hF hn1 hnl
    rw [ht] at hp ha hb'
    have hsm' := cut_sm hnl hsm
    have h1' := cutR_ok hn1 hnl h1
    have hF' := run_facts h1'
    have hlen' : (cutR r n).rows.length = n := by simp only [cutR, List.length_take]; omega
    have hc' : checkE (cutR r n) u = 0 := by unfold checkE; rw [if_pos h1', if_pos h2]
    have hL := Left_ok r u hsm.b hu
    have hL' := Left_ok (cutR r n) u hsm'.b hu
    rw [leftT, if_pos hr2.2, hl] at hL
    rw [leftT, if_pos hc', hl', enc_cut] at hL'
    have hll : (p ++ a).length ≤ 1000 := by
      have := leftB_len (u := u) hF r.rows.length
      have : (leftS r u).length ≤ 11 * r.rows.length := this
      rw [← hl]; omega
    have hll' : (p ++ b').length ≤ 1000 := by
      have := leftB_len (u := u) hF' (cutR r n).rows.length
      have : (leftS (cutR r n) u).length ≤ 11 * (cutR r n).rows.length := this
      rw [← hl']; omega
    have hpl : p.length ≤ (p ++ a).length := by simp
    have hpl' : p.length ≤ (p ++ b').length := by simp
    have kp : 1 ≤ t → ∃ kk mm, PureC Try.prog 27 [encRun r, encRules u, .int .i64 t] (.tup [.int .u8 kk, .int .i64 mm, .int .i64 0]) ∧ PureC Try.prog 27 [.agg [.int .i64 r.id, .lst 2 (r.curve.map cPt), .lst 6 (r.cpls.map cCpl), .lst 2 ((r.rows.map cRow).take n), .int .i64 r.gauge.lo, .int .i64 r.gauge.hi], encRules u, .int .i64 t] (.tup [.int .u8 kk, .int .i64 mm, .int .i64 0]) := fun h => by
      have k1 := Kept_ok r u hsm.b hu t
      have k2 := Kept_ok (cutR r n) u hsm'.b hu t
      rw [keptT, if_pos hr2.2, if_pos (by omega), hl, keptL_app ha] at k1
      rw [keptT, if_pos hc', if_pos (by omega), hl', keptL_app hb', enc_cut] at k2
      exact ⟨_, _, k1, k2⟩
    have hsc := fun k => scan_at (k := k) hp ha
    have hsc' := fun k => scan_at (k := k) hp hb'
    have htk := take_pre (p := p) (a := a)
    have htk' := take_pre (p := p) (a := b')
    clear hl hl' hp ha hb'
    obtain ⟨l, hl⟩ : ∃ l, p ++ a = l := ⟨_, rfl⟩
    obtain ⟨l', hl'⟩ : ∃ l, p ++ b' = l := ⟨_, rfl⟩
    rw [hl] at hL hll hpl htk
    rw [hl'] at hL' hll' hpl' htk'
    simp only [hl] at hsc
    simp only [hl'] at hsc'
    refine PureC_of (fn := Try.f9) tabOK (by kernel_rfl) rfl (by kernel_rfl) (by simp [Try.f9]) (by simp [noids, noid, noidss, go_sem, encRun, cRun, encRules, cRules]) (by first | rfl | simp [noids, noid, noidss, go_sem, encRun, cRun, encRules, cRules]) ?_
    intro X hX0 hXs
    repeat' (first | (with_reducible refine sk ?_; intro K hK) | ((first | (with_reducible first | refine rg (md := { base := 0, own := [9] }) (h := ?_) | refine rgS [9] (md := { base := 0, own := [9] }) (h := ?_) | refine nx ?_) | refine pK (alive_run) ?_ | refine pK (ready_ok r u) ?_ | refine pK (twin_ok r hsm) ?_ | refine pK (hL) ?_ | refine pK (hL') ?_); try simp (disch := omega) only [encRun, cRun, encRules, cRules, hr, hn0, hn, ht, hnl2,go_sem, simprocAttr]) | (with_reducible refine bk ?_) | ((with_reducible refine' cE ?hv ?_ ?_); (case hv => first | rfl | (simp only [encRun, cRun, encRules, cRules, hr, hn0, hn, ht, hnl2,go_sem, simprocAttr]; rfl)); all_goals (intro hc; (try simp only [go_sem, simprocAttr] at hc); try (exfalso; omega))) | ((with_reducible first | refine grdS_split ?_ ?_ | refine lkG_split ?_ ?_) <;> intro hg <;> (try simp (disch := omega) only [hg, encRun, cRun, encRules, cRules, hr, hn0, hn, ht, hnl2,go_sem, simprocAttr]) <;> (try simp only [go_sem, simprocAttr] at hg) <;> (try (exfalso; omega))) | ((with_reducible refine fe ?_); refine ⟨_, (by simp only [Try.f9, encRun, cRun, encRules, cRules, hr, hn0, hn, ht, hnl2,go_sem, simprocAttr]; rfl), ?_⟩; first | rfl | (try simp only [encRun, cRun, encRules, cRules, hr, hn0, hn, ht, hnl2,go_sem, simprocAttr, seval])) | with_reducible intro (ep : Nat → Nat) | with_reducible apply_assumption -exfalso -symm only [*])
    have hcut1 : ∀ f H, BefI r u n t l l' f H ∧ f 15 = .int .i64 p.length ∧ f 16 = .int .i64 (0 : Nat) → K f H := by
      rintro f H ⟨⟨⟨h3, h4, h7, h10, h12, h14⟩, e, h9, hH9⟩, h15, h16⟩
      refine hK f H ?_
      clear hK
      repeat' (first | ((fail_if_success (with_reducible refine AW_at (id := 17) ?_)); with_reducible refine sk ?_; intro K hK) | ((with_reducible first | refine rg (md := { base := 0, own := [9] }) (h := ?_) | refine rgS [9] (md := { base := 0, own := [9] }) (h := ?_) | refine nx ?_); try simp (disch := omega) only [h3, h4, h7, h10, h12, h14, h15, h16, h9, hH9,go_sem, simprocAttr]) | (with_reducible refine bk ?_) | ((with_reducible refine' cE ?hv ?_ ?_); (case hv => first | rfl | (simp only [h3, h4, h7, h10, h12, h14, h15, h16, h9, hH9,go_sem, simprocAttr]; rfl)); all_goals (intro hc; (try simp only [go_sem, simprocAttr] at hc); try (exfalso; omega))) | ((with_reducible first | refine grdS_split ?_ ?_ | refine lkG_split ?_ ?_) <;> intro hg <;> (try simp (disch := omega) only [hg, h3, h4, h7, h10, h12, h14, h15, h16, h9, hH9,go_sem, simprocAttr]) <;> (try simp only [go_sem, simprocAttr] at hg) <;> (try (exfalso; omega))) | ((with_reducible refine fe ?_); refine ⟨_, (by simp only [Try.f9, h3, h4, h7, h10, h12, h14, h15, h16, h9, hH9,go_sem, simprocAttr]; rfl), ?_⟩; first | rfl | (try simp only [h3, h4, h7, h10, h12, h14, h15, h16, h9, hH9,go_sem, simprocAttr, seval])) | with_reducible intro (ep : Nat → Nat) | with_reducible apply_assumption -exfalso -symm only [*])
      have hcut2 : ∀ f H, BefI r u n t l l' f H ∧ f 15 = .int .i64 p.length ∧ f 16 = .int .i64 p.length → K f H := by
        rintro f H ⟨⟨⟨h3, h4, h7, h10, h12, h14⟩, e, h9, hH9⟩, h15, h16⟩
        refine hK f H ?_
        clear hK hsc hsc'
        have hpz : (p.length : Int) ≤ l.length := by omega
        have hpz' : (p.length : Int) ≤ l'.length := by omega
        by_cases ht1 : 1 ≤ t
        · obtain ⟨kk, mm, k1, k2⟩ := kp ht1
          repeat' (first | (with_reducible refine sk ?_; intro K hK) | ((first | (with_reducible first | refine rg (md := { base := 0, own := [9] }) (h := ?_) | refine rgS [9] (md := { base := 0, own := [9] }) (h := ?_) | refine nx ?_) | refine pK (sameBreaches_ok p p (by omega)) ?_ | refine pK (k1) ?_ | refine pK (k2) ?_); try simp (disch := omega) only [h3, h4, h7, h10, h12, h14, h15, h16, h9, hH9, htk, htk', hpz, hpz', cRun, cRules,go_sem, simprocAttr]) | (with_reducible refine bk ?_) | ((with_reducible refine' cE ?hv ?_ ?_); (case hv => first | rfl | (simp only [h3, h4, h7, h10, h12, h14, h15, h16, h9, hH9, htk, htk', hpz, hpz', cRun, cRules,go_sem, simprocAttr]; rfl)); all_goals (intro hc; (try simp only [go_sem, simprocAttr] at hc); try (exfalso; omega))) | ((with_reducible first | refine grdS_split ?_ ?_ | refine lkG_split ?_ ?_) <;> intro hg <;> (try simp (disch := omega) only [hg, h3, h4, h7, h10, h12, h14, h15, h16, h9, hH9, htk, htk', hpz, hpz', cRun, cRules,go_sem, simprocAttr]) <;> (try simp only [go_sem, simprocAttr] at hg) <;> (try (exfalso; omega))) | ((with_reducible refine fe ?_); refine ⟨_, (by simp only [Try.f9, h3, h4, h7, h10, h12, h14, h15, h16, h9, hH9, htk, htk', hpz, hpz', cRun, cRules,go_sem, simprocAttr]; rfl), ?_⟩; first | rfl | (try simp only [h3, h4, h7, h10, h12, h14, h15, h16, h9, hH9, htk, htk', hpz, hpz', cRun, cRules,go_sem, simprocAttr, seval])) | with_reducible intro (ep : Nat → Nat) | with_reducible apply_assumption -exfalso -symm only [*])
        · repeat' (first | (with_reducible refine sk ?_; intro K hK) | ((first | (with_reducible first | refine rg (md := { base := 0, own := [9] }) (h := ?_) | refine rgS [9] (md := { base := 0, own := [9] }) (h := ?_) | refine nx ?_) | refine pK (sameBreaches_ok p p (by omega)) ?_); try simp (disch := omega) only [h3, h4, h7, h10, h12, h14, h15, h16, h9, hH9, htk, htk', hpz, hpz', cRun, cRules,go_sem, simprocAttr]) | (with_reducible refine bk ?_) | ((with_reducible refine' cE ?hv ?_ ?_); (case hv => first | rfl | (simp only [h3, h4, h7, h10, h12, h14, h15, h16, h9, hH9, htk, htk', hpz, hpz', cRun, cRules,go_sem, simprocAttr]; rfl)); all_goals (intro hc; (try simp only [go_sem, simprocAttr] at hc); try (exfalso; omega))) | ((with_reducible first | refine grdS_split ?_ ?_ | refine lkG_split ?_ ?_) <;> intro hg <;> (try simp (disch := omega) only [hg, h3, h4, h7, h10, h12, h14, h15, h16, h9, hH9, htk, htk', hpz, hpz', cRun, cRules,go_sem, simprocAttr]) <;> (try simp only [go_sem, simprocAttr] at hg) <;> (try (exfalso; omega))) | ((with_reducible refine fe ?_); refine ⟨_, (by simp only [Try.f9, h3, h4, h7, h10, h12, h14, h15, h16, h9, hH9, htk, htk', hpz, hpz', cRun, cRules,go_sem, simprocAttr]; rfl), ?_⟩; first | rfl | (try simp only [h3, h4, h7, h10, h12, h14, h15, h16, h9, hH9, htk, htk', hpz, hpz', cRun, cRules,go_sem, simprocAttr, seval])) | with_reducible intro (ep : Nat → Nat) | with_reducible apply_assumption -exfalso -symm only [*])
      clear hK
      refine AW_block (AW_loop (fun m f H => ∃ k : Nat, m = l'.length - k ∧ k ≤ p.length ∧ BefI r u n t l l' f H ∧ f 16 = .int .i64 k ∧ f 15 = .int .i64 p.length) l'.length
        ⟨0, by simp, Nat.zero_le _, ⟨by (and_intros <;> first | rfl | (simp only [h3, h4, h7, h10, h12, h14, h15, h16, h9, hH9, go_sem, simprocAttr]; done) | (simp only [h3, h4, h7, h10, h12, h14, h15, h16, h9, hH9, go_sem, simprocAttr]; rfl)), _, by (first | rfl | (simp only [h3, h4, h7, h10, h12, h14, h15, h16, h9, hH9, go_sem, simprocAttr]; done) | (simp only [h3, h4, h7, h10, h12, h14, h15, h16, h9, hH9, go_sem, simprocAttr]; rfl)), by (first | rfl | (simp only [h3, h4, h7, h10, h12, h14, h15, h16, h9, hH9, go_sem, simprocAttr]; done) | (simp only [h3, h4, h7, h10, h12, h14, h15, h16, h9, hH9, go_sem, simprocAttr]; rfl))⟩, by (first | rfl | (simp only [h3, h4, h7, h10, h12, h14, h15, h16, h9, hH9, go_sem, simprocAttr]; done) | (simp only [h3, h4, h7, h10, h12, h14, h15, h16, h9, hH9, go_sem, simprocAttr]; rfl)), by (first | rfl | (simp only [h3, h4, h7, h10, h12, h14, h15, h16, h9, hH9, go_sem, simprocAttr]; done) | (simp only [h3, h4, h7, h10, h12, h14, h15, h16, h9, hH9, go_sem, simprocAttr]; rfl))⟩ ?_)
      rintro m f H ⟨k, rfl, hk, ⟨⟨h3, h4, h7, h10, h12, h14⟩, e, h9, hH9⟩, h16, h15⟩
      refine AW_keep [9] ?_
      rcases hsc' k hk with ⟨hlt, x, hx, hm⟩ | ⟨rfl, he | ⟨x, hx, hm⟩⟩
      · have hlt2 : (k : Int) < l'.length := by omega
        repeat' (first | (with_reducible refine sk ?_; intro K hK) | ((with_reducible first | refine rg (md := { base := 0, own := [9] }) (h := ?_) | refine rgS [9] (md := { base := 0, own := [9] }) (h := ?_) | refine nx ?_); try simp (disch := omega) only [h3, h4, h7, h10, h12, h14, h15, h16, h9, hH9, hlt2, hx, hm, cBrc,go_sem, simprocAttr]) | (with_reducible refine bk ?_) | ((with_reducible refine' cE ?hv ?_ ?_); (case hv => first | rfl | (simp only [h3, h4, h7, h10, h12, h14, h15, h16, h9, hH9, hlt2, hx, hm, cBrc,go_sem, simprocAttr]; rfl)); all_goals (intro hc; (try simp only [go_sem, simprocAttr] at hc); try (exfalso; omega))) | ((with_reducible first | refine grdS_split ?_ ?_ | refine lkG_split ?_ ?_) <;> intro hg <;> (try simp (disch := omega) only [hg, h3, h4, h7, h10, h12, h14, h15, h16, h9, hH9, hlt2, hx, hm, cBrc,go_sem, simprocAttr]) <;> (try simp only [go_sem, simprocAttr] at hg) <;> (try (exfalso; omega))) | ((with_reducible refine fe ?_); refine ⟨_, (by simp only [Try.f9, h3, h4, h7, h10, h12, h14, h15, h16, h9, hH9, hlt2, hx, hm, cBrc,go_sem, simprocAttr]; rfl), ?_⟩; first | rfl | (try simp only [h3, h4, h7, h10, h12, h14, h15, h16, h9, hH9, hlt2, hx, hm, cBrc,go_sem, simprocAttr, seval])) | with_reducible intro (ep : Nat → Nat) | with_reducible apply_assumption -exfalso -symm only [*])
        exact ⟨_, by omega, k + 1, rfl, by omega, ⟨by (and_intros <;> first | rfl | (simp only [h3, h4, h7, h10, h12, h14, go_sem, simprocAttr]; done) | (simp only [h3, h4, h7, h10, h12, h14, go_sem, simprocAttr]; rfl)), _, by (first | rfl | (simp only [h9, go_sem, simprocAttr]; done) | (simp only [h9, go_sem, simprocAttr]; rfl)), by (first | rfl | (simp only [hH9, go_sem, simprocAttr]; done) | (simp only [hH9, go_sem, simprocAttr]; rfl))⟩, rfl⟩
      · have hlt2 : ¬ (p.length : Int) < l'.length := by omega
        repeat' (first | (with_reducible refine sk ?_; intro K hK) | ((with_reducible first | refine rg (md := { base := 0, own := [9] }) (h := ?_) | refine rgS [9] (md := { base := 0, own := [9] }) (h := ?_) | refine nx ?_); try simp (disch := omega) only [h3, h4, h7, h10, h12, h14, h15, h16, h9, hH9, hlt2,go_sem, simprocAttr]) | (with_reducible refine bk ?_) | ((with_reducible refine' cE ?hv ?_ ?_); (case hv => first | rfl | (simp only [h3, h4, h7, h10, h12, h14, h15, h16, h9, hH9, hlt2,go_sem, simprocAttr]; rfl)); all_goals (intro hc; (try simp only [go_sem, simprocAttr] at hc); try (exfalso; omega))) | ((with_reducible first | refine grdS_split ?_ ?_ | refine lkG_split ?_ ?_) <;> intro hg <;> (try simp (disch := omega) only [hg, h3, h4, h7, h10, h12, h14, h15, h16, h9, hH9, hlt2,go_sem, simprocAttr]) <;> (try simp only [go_sem, simprocAttr] at hg) <;> (try (exfalso; omega))) | ((with_reducible refine fe ?_); refine ⟨_, (by simp only [Try.f9, h3, h4, h7, h10, h12, h14, h15, h16, h9, hH9, hlt2,go_sem, simprocAttr]; rfl), ?_⟩; first | rfl | (try simp only [h3, h4, h7, h10, h12, h14, h15, h16, h9, hH9, hlt2,go_sem, simprocAttr, seval])) | with_reducible intro (ep : Nat → Nat) | with_reducible apply_assumption -exfalso -symm only [*])
        exact ⟨⟨by (and_intros <;> first | rfl | (simp only [h3, h4, h7, h10, h12, h14, go_sem, simprocAttr]; done) | (simp only [h3, h4, h7, h10, h12, h14, go_sem, simprocAttr]; rfl)), _, by (first | rfl | (simp only [h9, go_sem, simprocAttr]; done) | (simp only [h9, go_sem, simprocAttr]; rfl)), by (first | rfl | (simp only [hH9, go_sem, simprocAttr]; done) | (simp only [hH9, go_sem, simprocAttr]; rfl))⟩, by (first | rfl | (simp only [h15, h16, go_sem, simprocAttr]; done) | (simp only [h15, h16, go_sem, simprocAttr]; rfl)), by (first | rfl | (simp only [h16, h15, go_sem, simprocAttr]; done) | (simp only [h16, h15, go_sem, simprocAttr]; rfl))⟩
      · have hlt2 : (p.length : Int) < l'.length := by have := (List.getElem?_eq_some_iff.1 hx).1; omega
        repeat' (first | (with_reducible refine sk ?_; intro K hK) | ((with_reducible first | refine rg (md := { base := 0, own := [9] }) (h := ?_) | refine rgS [9] (md := { base := 0, own := [9] }) (h := ?_) | refine nx ?_); try simp (disch := omega) only [h3, h4, h7, h10, h12, h14, h15, h16, h9, hH9, hlt2, hx, hm, cBrc,go_sem, simprocAttr]) | (with_reducible refine bk ?_) | ((with_reducible refine' cE ?hv ?_ ?_); (case hv => first | rfl | (simp only [h3, h4, h7, h10, h12, h14, h15, h16, h9, hH9, hlt2, hx, hm, cBrc,go_sem, simprocAttr]; rfl)); all_goals (intro hc; (try simp only [go_sem, simprocAttr] at hc); try (exfalso; omega))) | ((with_reducible first | refine grdS_split ?_ ?_ | refine lkG_split ?_ ?_) <;> intro hg <;> (try simp (disch := omega) only [hg, h3, h4, h7, h10, h12, h14, h15, h16, h9, hH9, hlt2, hx, hm, cBrc,go_sem, simprocAttr]) <;> (try simp only [go_sem, simprocAttr] at hg) <;> (try (exfalso; omega))) | ((with_reducible refine fe ?_); refine ⟨_, (by simp only [Try.f9, h3, h4, h7, h10, h12, h14, h15, h16, h9, hH9, hlt2, hx, hm, cBrc,go_sem, simprocAttr]; rfl), ?_⟩; first | rfl | (try simp only [h3, h4, h7, h10, h12, h14, h15, h16, h9, hH9, hlt2, hx, hm, cBrc,go_sem, simprocAttr, seval])) | with_reducible intro (ep : Nat → Nat) | with_reducible apply_assumption -exfalso -symm only [*])
        exact ⟨⟨by (and_intros <;> first | rfl | (simp only [h3, h4, h7, h10, h12, h14, go_sem, simprocAttr]; done) | (simp only [h3, h4, h7, h10, h12, h14, go_sem, simprocAttr]; rfl)), _, by (first | rfl | (simp only [h9, go_sem, simprocAttr]; done) | (simp only [h9, go_sem, simprocAttr]; rfl)), by (first | rfl | (simp only [hH9, go_sem, simprocAttr]; done) | (simp only [hH9, go_sem, simprocAttr]; rfl))⟩, by (first | rfl | (simp only [h15, h16, go_sem, simprocAttr]; done) | (simp only [h15, h16, go_sem, simprocAttr]; rfl)), by (first | rfl | (simp only [h16, h15, go_sem, simprocAttr]; done) | (simp only [h16, h15, go_sem, simprocAttr]; rfl))⟩
    clear hK
    refine AW_block (AW_loop (fun m f H => ∃ k : Nat, m = l.length - k ∧ k ≤ p.length ∧ BefI r u n t l l' f H ∧ f 15 = .int .i64 k ∧ f 16 = .int .i64 (0 : Nat)) l.length
      ⟨0, by simp, Nat.zero_le _, ⟨by (and_intros <;> first | rfl | (simp only [go_sem, simprocAttr]; done) | (simp only [go_sem, simprocAttr]; rfl)), _, by (first | rfl | (simp only [go_sem, simprocAttr]; done) | (simp only [go_sem, simprocAttr]; rfl)), by (first | rfl | (simp only [go_sem, simprocAttr]; done) | (simp only [go_sem, simprocAttr]; rfl))⟩, by (first | rfl | (simp only [go_sem, simprocAttr]; done) | (simp only [go_sem, simprocAttr]; rfl)), by (first | rfl | (simp only [go_sem, simprocAttr]; done) | (simp only [go_sem, simprocAttr]; rfl))⟩ ?_)
    rintro m f H ⟨k, rfl, hk, ⟨⟨h3, h4, h7, h10, h12, h14⟩, e, h9, hH9⟩, h15, h16⟩
    refine AW_keep [9] ?_
    rcases hsc k hk with ⟨hlt, x, hx, hm⟩ | ⟨rfl, he | ⟨x, hx, hm⟩⟩
    · have hlt2 : (k : Int) < l.length := by omega
      repeat' (first | (with_reducible refine sk ?_; intro K hK) | ((with_reducible first | refine rg (md := { base := 0, own := [9] }) (h := ?_) | refine rgS [9] (md := { base := 0, own := [9] }) (h := ?_) | refine nx ?_); try simp (disch := omega) only [h3, h4, h7, h10, h12, h14, h15, h16, h9, hH9, hlt2, hx, hm, cBrc,go_sem, simprocAttr]) | (with_reducible refine bk ?_) | ((with_reducible refine' cE ?hv ?_ ?_); (case hv => first | rfl | (simp only [h3, h4, h7, h10, h12, h14, h15, h16, h9, hH9, hlt2, hx, hm, cBrc,go_sem, simprocAttr]; rfl)); all_goals (intro hc; (try simp only [go_sem, simprocAttr] at hc); try (exfalso; omega))) | ((with_reducible first | refine grdS_split ?_ ?_ | refine lkG_split ?_ ?_) <;> intro hg <;> (try simp (disch := omega) only [hg, h3, h4, h7, h10, h12, h14, h15, h16, h9, hH9, hlt2, hx, hm, cBrc,go_sem, simprocAttr]) <;> (try simp only [go_sem, simprocAttr] at hg) <;> (try (exfalso; omega))) | ((with_reducible refine fe ?_); refine ⟨_, (by simp only [Try.f9, h3, h4, h7, h10, h12, h14, h15, h16, h9, hH9, hlt2, hx, hm, cBrc,go_sem, simprocAttr]; rfl), ?_⟩; first | rfl | (try simp only [h3, h4, h7, h10, h12, h14, h15, h16, h9, hH9, hlt2, hx, hm, cBrc,go_sem, simprocAttr, seval])) | with_reducible intro (ep : Nat → Nat) | with_reducible apply_assumption -exfalso -symm only [*])
      exact ⟨_, by omega, k + 1, rfl, by omega, ⟨by (and_intros <;> first | rfl | (simp only [h3, h4, h7, h10, h12, h14, go_sem, simprocAttr]; done) | (simp only [h3, h4, h7, h10, h12, h14, go_sem, simprocAttr]; rfl)), _, by (first | rfl | (simp only [h9, go_sem, simprocAttr]; done) | (simp only [h9, go_sem, simprocAttr]; rfl)), by (first | rfl | (simp only [hH9, go_sem, simprocAttr]; done) | (simp only [hH9, go_sem, simprocAttr]; rfl))⟩, rfl⟩
    · have hlt2 : ¬ (p.length : Int) < l.length := by omega
      repeat' (first | (with_reducible refine sk ?_; intro K hK) | ((with_reducible first | refine rg (md := { base := 0, own := [9] }) (h := ?_) | refine rgS [9] (md := { base := 0, own := [9] }) (h := ?_) | refine nx ?_); try simp (disch := omega) only [h3, h4, h7, h10, h12, h14, h15, h16, h9, hH9, hlt2,go_sem, simprocAttr]) | (with_reducible refine bk ?_) | ((with_reducible refine' cE ?hv ?_ ?_); (case hv => first | rfl | (simp only [h3, h4, h7, h10, h12, h14, h15, h16, h9, hH9, hlt2,go_sem, simprocAttr]; rfl)); all_goals (intro hc; (try simp only [go_sem, simprocAttr] at hc); try (exfalso; omega))) | ((with_reducible first | refine grdS_split ?_ ?_ | refine lkG_split ?_ ?_) <;> intro hg <;> (try simp (disch := omega) only [hg, h3, h4, h7, h10, h12, h14, h15, h16, h9, hH9, hlt2,go_sem, simprocAttr]) <;> (try simp only [go_sem, simprocAttr] at hg) <;> (try (exfalso; omega))) | ((with_reducible refine fe ?_); refine ⟨_, (by simp only [Try.f9, h3, h4, h7, h10, h12, h14, h15, h16, h9, hH9, hlt2,go_sem, simprocAttr]; rfl), ?_⟩; first | rfl | (try simp only [h3, h4, h7, h10, h12, h14, h15, h16, h9, hH9, hlt2,go_sem, simprocAttr, seval])) | with_reducible intro (ep : Nat → Nat) | with_reducible apply_assumption -exfalso -symm only [*])
      exact ⟨⟨by (and_intros <;> first | rfl | (simp only [h3, h4, h7, h10, h12, h14, go_sem, simprocAttr]; done) | (simp only [h3, h4, h7, h10, h12, h14, go_sem, simprocAttr]; rfl)), _, by (first | rfl | (simp only [h9, go_sem, simprocAttr]; done) | (simp only [h9, go_sem, simprocAttr]; rfl)), by (first | rfl | (simp only [hH9, go_sem, simprocAttr]; done) | (simp only [hH9, go_sem, simprocAttr]; rfl))⟩, by (first | rfl | (simp only [h15, h16, go_sem, simprocAttr]; done) | (simp only [h15, h16, go_sem, simprocAttr]; rfl)), by (first | rfl | (simp only [h16, h15, go_sem, simprocAttr]; done) | (simp only [h16, h15, go_sem, simprocAttr]; rfl))⟩
    · have hlt2 : (p.length : Int) < l.length := by have := (List.getElem?_eq_some_iff.1 hx).1; omega
      repeat' (first | (with_reducible refine sk ?_; intro K hK) | ((with_reducible first | refine rg (md := { base := 0, own := [9] }) (h := ?_) | refine rgS [9] (md := { base := 0, own := [9] }) (h := ?_) | refine nx ?_); try simp (disch := omega) only [h3, h4, h7, h10, h12, h14, h15, h16, h9, hH9, hlt2, hx, hm, cBrc,go_sem, simprocAttr]) | (with_reducible refine bk ?_) | ((with_reducible refine' cE ?hv ?_ ?_); (case hv => first | rfl | (simp only [h3, h4, h7, h10, h12, h14, h15, h16, h9, hH9, hlt2, hx, hm, cBrc,go_sem, simprocAttr]; rfl)); all_goals (intro hc; (try simp only [go_sem, simprocAttr] at hc); try (exfalso; omega))) | ((with_reducible first | refine grdS_split ?_ ?_ | refine lkG_split ?_ ?_) <;> intro hg <;> (try simp (disch := omega) only [hg, h3, h4, h7, h10, h12, h14, h15, h16, h9, hH9, hlt2, hx, hm, cBrc,go_sem, simprocAttr]) <;> (try simp only [go_sem, simprocAttr] at hg) <;> (try (exfalso; omega))) | ((with_reducible refine fe ?_); refine ⟨_, (by simp only [Try.f9, h3, h4, h7, h10, h12, h14, h15, h16, h9, hH9, hlt2, hx, hm, cBrc,go_sem, simprocAttr]; rfl), ?_⟩; first | rfl | (try simp only [h3, h4, h7, h10, h12, h14, h15, h16, h9, hH9, hlt2, hx, hm, cBrc,go_sem, simprocAttr, seval])) | with_reducible intro (ep : Nat → Nat) | with_reducible apply_assumption -exfalso -symm only [*])
      exact ⟨⟨by (and_intros <;> first | rfl | (simp only [h3, h4, h7, h10, h12, h14, go_sem, simprocAttr]; done) | (simp only [h3, h4, h7, h10, h12, h14, go_sem, simprocAttr]; rfl)), _, by (first | rfl | (simp only [h9, go_sem, simprocAttr]; done) | (simp only [h9, go_sem, simprocAttr]; rfl)), by (first | rfl | (simp only [hH9, go_sem, simprocAttr]; done) | (simp only [hH9, go_sem, simprocAttr]; rfl))⟩, by (first | rfl | (simp only [h15, h16, go_sem, simprocAttr]; done) | (simp only [h15, h16, go_sem, simprocAttr]; rfl)), by (first | rfl | (simp only [h16, h15, go_sem, simprocAttr]; done) | (simp only [h16, h15, go_sem, simprocAttr]; rfl))⟩
  · simp only [Bool.not_eq_true] at hr
    refine PureC_of (fn := Try.f9) tabOK (by kernel_rfl) rfl (by kernel_rfl) (by simp [Try.f9]) (by simp [noids, noid, noidss, go_sem, encRun, cRun, encRules, cRules]) (by first | rfl | simp [noids, noid, noidss, go_sem, encRun, cRun, encRules, cRules]) ?_
    intro X hX0 hXs
    repeat' (first | (with_reducible refine sk ?_; intro K hK) | ((first | (with_reducible first | refine rg (md := { base := 0, own := [9] }) (h := ?_) | refine rgS [9] (md := { base := 0, own := [9] }) (h := ?_) | refine nx ?_) | refine pK (alive_run) ?_ | refine pK (ready_ok r u) ?_); try simp (disch := omega) only [encRun, cRun, encRules, cRules, hr,go_sem, simprocAttr]) | (with_reducible refine bk ?_) | ((with_reducible refine' cE ?hv ?_ ?_); (case hv => first | rfl | (simp only [encRun, cRun, encRules, cRules, hr,go_sem, simprocAttr]; rfl)); all_goals (intro hc; (try simp only [go_sem, simprocAttr] at hc); try (exfalso; omega))) | ((with_reducible first | refine grdS_split ?_ ?_ | refine lkG_split ?_ ?_) <;> intro hg <;> (try simp (disch := omega) only [hg, encRun, cRun, encRules, cRules, hr,go_sem, simprocAttr]) <;> (try simp only [go_sem, simprocAttr] at hg) <;> (try (exfalso; omega))) | ((with_reducible refine fe ?_); refine ⟨_, (by simp only [Try.f9, encRun, cRun, encRules, cRules, hr,go_sem, simprocAttr]; rfl), ?_⟩; first | rfl | (try simp only [encRun, cRun, encRules, cRules, hr,go_sem, simprocAttr, seval])) | with_reducible intro (ep : Nat → Nat) | with_reducible apply_assumption -exfalso -symm only [*])
end Cp
