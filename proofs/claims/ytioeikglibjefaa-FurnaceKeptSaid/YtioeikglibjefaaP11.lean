/- Rules, facts and contracts that the statement's proof leans on. Conditions: none. -/
import Derived.Test.YtioeikglibjefaaP10
set_option linter.unusedVariables false
set_option linter.unusedSimpArgs false
set_option linter.unusedSectionVars false
namespace Cp
open Go Go.Proofs
set_option maxRecDepth 10000
set_option maxHeartbeats 4000000
theorem indexBrc_ok (xs : List Brc) (hx : xs.length ≤ 4611686018427387904) (g : FuncId) (caps : List Val) (hcp : noids caps = true) (p : Brc → Bool) (hp : ∀ x ∈ xs, PureC Try.prog g (.agg (cBrc x) :: caps) (.bool (p x))) :
    PureC Try.prog 59 [.lst 4 (xs.map cBrc), .fn g caps] (.int .i64 (idxFrom p xs 0)) := by
  simp only [cBrc] at hp
  refine PureC_of (fn := Try.f59) tabOK (by kernel_rfl) rfl (by kernel_rfl) (by simp [Try.f59]) (by simp [noids, noid, noidss, go_sem, hcp]) (by first | rfl | simp [noids, noid, noidss, go_sem, hcp]) ?_
  intro X hX0 hXs
  repeat' (first | (with_reducible refine sk ?_; intro K hK) | ((with_reducible first | refine rg (h := ?_) | refine nx ?_); try simp (disch := omega) only [go_sem, simprocAttr]) | (with_reducible refine bk ?_) | ((with_reducible refine' cE ?hv ?_ ?_); (case hv => first | rfl | (simp only [go_sem, simprocAttr]; rfl)); all_goals (intro hc; (try simp only [go_sem, simprocAttr] at hc); try (exfalso; omega))) | ((with_reducible refine fe ?_); refine ⟨_, (by simp only [Try.f59, go_sem, simprocAttr]; rfl), ?_⟩; first | rfl | (try simp only [go_sem, simprocAttr, seval])) | with_reducible intro (ep : Nat → Nat) | with_reducible apply_assumption -exfalso -symm only [*])
  refine AW_range tabOK xs.length (fun k f H => f 0 = .lst 4 (xs.map cBrc) ∧ f 1 = .fn g caps ∧ H = none0 ∧ idxFrom p xs 0 = idxFrom p (xs.drop k) k) hx (by rw [hXs]; decide) (by decide) (by simp only [go_sem, simprocAttr]) (by simp only [go_sem, simprocAttr]) ⟨by simp only [go_sem, simprocAttr], by simp only [go_sem, simprocAttr], rfl, by simp⟩ ?_ ?_
  · rintro k f H hk h8 h7 ⟨h0, h1, rfl, hr⟩
    obtain ⟨x, hx⟩ : ∃ x, xs[k]? = some x := ⟨_, List.getElem?_eq_getElem hk⟩
    repeat' (first | (with_reducible refine sk ?_; intro K hK) | ((first | (with_reducible first | refine rg (h := ?_) | refine nx ?_) | refine pK (hp x (List.mem_of_getElem? hx)) ?_); try simp (disch := omega) only [h0, h1, h8, h7, hx, cBrc,go_sem, simprocAttr]) | (with_reducible refine bk ?_) | ((with_reducible refine' cE ?hv ?_ ?_); (case hv => first | rfl | (simp only [h0, h1, h8, h7, hx, cBrc,go_sem, simprocAttr]; rfl)); all_goals (intro hc; (try simp only [go_sem, simprocAttr] at hc); try (exfalso; omega))) | ((with_reducible refine fe ?_); refine ⟨_, (by simp only [Try.f59, h0, h1, h8, h7, hx, cBrc,go_sem, simprocAttr]; rfl), ?_⟩; first | rfl | (try simp only [h0, h1, h8, h7, hx, cBrc,go_sem, simprocAttr, seval])) | with_reducible intro (ep : Nat → Nat) | with_reducible apply_assumption -exfalso -symm only [*])
    · rw [hr, drop_cons hx]; simp [idxFrom, hc]
    · rw [hr, drop_cons hx]; simp [idxFrom, hc]
  · rintro f H h8 h7 ⟨h0, h1, rfl, hr⟩
    repeat' (first | (with_reducible refine sk ?_; intro K hK) | ((with_reducible first | refine rg (h := ?_) | refine nx ?_); try simp (disch := omega) only [go_sem, simprocAttr]) | (with_reducible refine bk ?_) | ((with_reducible refine' cE ?hv ?_ ?_); (case hv => first | rfl | (simp only [go_sem, simprocAttr]; rfl)); all_goals (intro hc; (try simp only [go_sem, simprocAttr] at hc); try (exfalso; omega))) | ((with_reducible refine fe ?_); refine ⟨_, (by simp only [Try.f59, go_sem, simprocAttr]; rfl), ?_⟩; first | rfl | (try simp only [go_sem, simprocAttr, seval])) | with_reducible intro (ep : Nat → Nat) | with_reducible apply_assumption -exfalso -symm only [*])
    rw [hr]; simp [idxFrom]
theorem kept1_ok (b : Brc) : PureC Try.prog 60 [.agg (cBrc b)] (.bool (!p2 b)) := by
  refine PureC_of (fn := Try.f60) tabOK (by kernel_rfl) rfl (by kernel_rfl) (by simp [Try.f60]) (by simp [noids, noid, noidss, go_sem, cBrc]) (by first | rfl | simp [noids, noid, noidss, go_sem, cBrc]) ?_
  intro X hX0 hXs
  repeat' (first | (with_reducible refine sk ?_; intro K hK) | ((with_reducible first | refine rg (h := ?_) | refine nx ?_); try simp (disch := omega) only [cBrc,go_sem, simprocAttr]) | (with_reducible refine bk ?_) | ((with_reducible refine' cE ?hv ?_ ?_); (case hv => first | rfl | (simp only [cBrc,go_sem, simprocAttr]; rfl)); all_goals (intro hc; (try simp only [go_sem, simprocAttr] at hc); try (exfalso; omega))) | ((with_reducible refine fe ?_); refine ⟨_, (by simp only [Try.f60, cBrc,go_sem, simprocAttr]; rfl), ?_⟩; first | rfl | (try simp only [cBrc,go_sem, simprocAttr, seval])) | with_reducible intro (ep : Nat → Nat) | with_reducible apply_assumption -exfalso -symm only [*])
  simp [p2]
def keptT (r : RunT) (u : RulesT) (t : Int) : Val :=
  if checkE r u = 0 then (if 0 ≤ t ∧ t ≤ r.rows.length then .tup [.int .u8 (keptL (leftS r u) t).1, .int .i64 (keptL (leftS r u) t).2, .int .i64 0] else .tup [.int .u8 0, .int .i64 0, .int .i64 2]) else .tup [.int .u8 0, .int .i64 0, .int .i64 (checkE r u)]
theorem Kept_ok (r : RunT) (u : RulesT) (hb : RunB r) (hu : RulesB u) (t : Int) : PureC Try.prog 27 [encRun r, encRules u, .int .i64 t] (keptT r u t) := by
  by_cases hc0 : checkE r u = 0
  · obtain ⟨h1, h2⟩ := check0 hc0
    have hF := run_facts h1
    have hrl := hF.rows
    rw [keptT, if_pos hc0]
    by_cases ht : 0 ≤ t ∧ t ≤ r.rows.length
    · rw [if_pos ht]
      obtain ⟨l, hl⟩ : ∃ l, leftS r u = l := ⟨_, rfl⟩
      have hlk := leftl_ok r hF u (rules_facts h2)
      have hll : l.length ≤ 1000 := by
        have := leftB_len (u := u) hF r.rows.length
        have : (leftS r u).length ≤ 11 * r.rows.length := this
        rw [← hl]; omega
      rw [hl] at hlk ⊢
      have hix := indexBrc_ok l (by omega) 60 [] rfl (fun b => !p2 b) (fun b _ => kept1_ok b)
      rw [idx_take] at hix
      have hfl : (l.takeWhile p2).length = firstK l := rfl
      rw [hfl] at hix
      by_cases hk : firstK l < l.length
      · rw [if_pos hk, Int.zero_add] at hix
        obtain ⟨b, hbk⟩ : ∃ b, l[firstK l]? = some b := ⟨_, List.getElem?_eq_getElem hk⟩
        by_cases hbm : b.m ≤ t
        · have hs : keptL l t = (0, b.m) := by unfold keptL; rw [hbk]; simp only; rw [if_pos hbm]
          rw [hs]
          refine PureC_of (fn := Try.f27) tabOK (by kernel_rfl) rfl (by kernel_rfl) (by simp [Try.f27]) (by simp [noids, noid, noidss, go_sem, encRun, cRun, encRules, cRules]) (by first | rfl | simp [noids, noid, noidss, go_sem, encRun, cRun, encRules, cRules]) ?_
          intro X hX0 hXs
          repeat' (first | (with_reducible refine sk ?_; intro K hK) | ((first | (with_reducible first | refine rg (h := ?_) | refine nx ?_) | refine pK (check_ok r u hb hu) ?_ | refine pK (in_1 _ _ _) ?_ | refine pK (hlk) ?_ | refine pK (hix) ?_); try simp (disch := omega) only [encRun, cRun, encRules, cRules, hc0, ht.1, ht.2, hbk, hbm, cBrc,go_sem, simprocAttr]) | (with_reducible refine bk ?_) | ((with_reducible refine' cE ?hv ?_ ?_); (case hv => first | rfl | (simp only [encRun, cRun, encRules, cRules, hc0, ht.1, ht.2, hbk, hbm, cBrc,go_sem, simprocAttr]; rfl)); all_goals (intro hc; (try simp only [go_sem, simprocAttr] at hc); try (exfalso; omega))) | ((with_reducible first | refine grdS_split ?_ ?_ | refine lkG_split ?_ ?_) <;> intro hg <;> (try simp (disch := omega) only [hg, encRun, cRun, encRules, cRules, hc0, ht.1, ht.2, hbk, hbm, cBrc,go_sem, simprocAttr]) <;> (try simp only [go_sem, simprocAttr] at hg) <;> (try (exfalso; omega))) | ((with_reducible refine fe ?_); refine ⟨_, (by simp only [Try.f27, encRun, cRun, encRules, cRules, hc0, ht.1, ht.2, hbk, hbm, cBrc,go_sem, simprocAttr]; rfl), ?_⟩; first | rfl | (try simp only [encRun, cRun, encRules, cRules, hc0, ht.1, ht.2, hbk, hbm, cBrc,go_sem, simprocAttr, seval])) | with_reducible intro (ep : Nat → Nat) | with_reducible apply_assumption -exfalso -symm only [*])
        · have hs : keptL l t = firstS l t := by unfold keptL; rw [hbk]; simp only; rw [if_neg hbm]
          rw [hs]
          obtain ⟨a, hak⟩ : ∃ a, l[0]? = some a := ⟨_, List.getElem?_eq_getElem (by omega)⟩
          have hpos : (0 : Int) < (l.length : Int) := by omega
          by_cases ham : a.m ≤ t
          · have hf : firstS l t = (1, a.m) := by unfold firstS; rw [hak]; simp only; rw [if_pos ham]
            rw [hf]
            refine PureC_of (fn := Try.f27) tabOK (by kernel_rfl) rfl (by kernel_rfl) (by simp [Try.f27]) (by simp [noids, noid, noidss, go_sem, encRun, cRun, encRules, cRules]) (by first | rfl | simp [noids, noid, noidss, go_sem, encRun, cRun, encRules, cRules]) ?_
            intro X hX0 hXs
            repeat' (first | (with_reducible refine sk ?_; intro K hK) | ((first | (with_reducible first | refine rg (h := ?_) | refine nx ?_) | refine pK (check_ok r u hb hu) ?_ | refine pK (in_1 _ _ _) ?_ | refine pK (hlk) ?_ | refine pK (hix) ?_); try simp (disch := omega) only [encRun, cRun, encRules, cRules, hc0, ht.1, ht.2, hbk, hbm, hak, ham, hpos, cBrc,go_sem, simprocAttr]) | (with_reducible refine bk ?_) | ((with_reducible refine' cE ?hv ?_ ?_); (case hv => first | rfl | (simp only [encRun, cRun, encRules, cRules, hc0, ht.1, ht.2, hbk, hbm, hak, ham, hpos, cBrc,go_sem, simprocAttr]; rfl)); all_goals (intro hc; (try simp only [go_sem, simprocAttr] at hc); try (exfalso; omega))) | ((with_reducible first | refine grdS_split ?_ ?_ | refine lkG_split ?_ ?_) <;> intro hg <;> (try simp (disch := omega) only [hg, encRun, cRun, encRules, cRules, hc0, ht.1, ht.2, hbk, hbm, hak, ham, hpos, cBrc,go_sem, simprocAttr]) <;> (try simp only [go_sem, simprocAttr] at hg) <;> (try (exfalso; omega))) | ((with_reducible refine fe ?_); refine ⟨_, (by simp only [Try.f27, encRun, cRun, encRules, cRules, hc0, ht.1, ht.2, hbk, hbm, hak, ham, hpos, cBrc,go_sem, simprocAttr]; rfl), ?_⟩; first | rfl | (try simp only [encRun, cRun, encRules, cRules, hc0, ht.1, ht.2, hbk, hbm, hak, ham, hpos, cBrc,go_sem, simprocAttr, seval])) | with_reducible intro (ep : Nat → Nat) | with_reducible apply_assumption -exfalso -symm only [*])
          · have hf : firstS l t = (2, 0) := by unfold firstS; rw [hak]; simp only; rw [if_neg ham]
            rw [hf]
            refine PureC_of (fn := Try.f27) tabOK (by kernel_rfl) rfl (by kernel_rfl) (by simp [Try.f27]) (by simp [noids, noid, noidss, go_sem, encRun, cRun, encRules, cRules]) (by first | rfl | simp [noids, noid, noidss, go_sem, encRun, cRun, encRules, cRules]) ?_
            intro X hX0 hXs
            repeat' (first | (with_reducible refine sk ?_; intro K hK) | ((first | (with_reducible first | refine rg (h := ?_) | refine nx ?_) | refine pK (check_ok r u hb hu) ?_ | refine pK (in_1 _ _ _) ?_ | refine pK (hlk) ?_ | refine pK (hix) ?_); try simp (disch := omega) only [encRun, cRun, encRules, cRules, hc0, ht.1, ht.2, hbk, hbm, hak, ham, hpos, cBrc,go_sem, simprocAttr]) | (with_reducible refine bk ?_) | ((with_reducible refine' cE ?hv ?_ ?_); (case hv => first | rfl | (simp only [encRun, cRun, encRules, cRules, hc0, ht.1, ht.2, hbk, hbm, hak, ham, hpos, cBrc,go_sem, simprocAttr]; rfl)); all_goals (intro hc; (try simp only [go_sem, simprocAttr] at hc); try (exfalso; omega))) | ((with_reducible first | refine grdS_split ?_ ?_ | refine lkG_split ?_ ?_) <;> intro hg <;> (try simp (disch := omega) only [hg, encRun, cRun, encRules, cRules, hc0, ht.1, ht.2, hbk, hbm, hak, ham, hpos, cBrc,go_sem, simprocAttr]) <;> (try simp only [go_sem, simprocAttr] at hg) <;> (try (exfalso; omega))) | ((with_reducible refine fe ?_); refine ⟨_, (by simp only [Try.f27, encRun, cRun, encRules, cRules, hc0, ht.1, ht.2, hbk, hbm, hak, ham, hpos, cBrc,go_sem, simprocAttr]; rfl), ?_⟩; first | rfl | (try simp only [encRun, cRun, encRules, cRules, hc0, ht.1, ht.2, hbk, hbm, hak, ham, hpos, cBrc,go_sem, simprocAttr, seval])) | with_reducible intro (ep : Nat → Nat) | with_reducible apply_assumption -exfalso -symm only [*])
      · rw [if_neg hk] at hix
        have hs : keptL l t = firstS l t := by unfold keptL; rw [List.getElem?_eq_none (by omega)]
        rw [hs]
        by_cases hpos : (0 : Int) < (l.length : Int)
        · obtain ⟨a, hak⟩ : ∃ a, l[0]? = some a := ⟨_, List.getElem?_eq_getElem (by omega)⟩
          by_cases ham : a.m ≤ t
          · have hf : firstS l t = (1, a.m) := by unfold firstS; rw [hak]; simp only; rw [if_pos ham]
            rw [hf]
            refine PureC_of (fn := Try.f27) tabOK (by kernel_rfl) rfl (by kernel_rfl) (by simp [Try.f27]) (by simp [noids, noid, noidss, go_sem, encRun, cRun, encRules, cRules]) (by first | rfl | simp [noids, noid, noidss, go_sem, encRun, cRun, encRules, cRules]) ?_
            intro X hX0 hXs
            repeat' (first | (with_reducible refine sk ?_; intro K hK) | ((first | (with_reducible first | refine rg (h := ?_) | refine nx ?_) | refine pK (check_ok r u hb hu) ?_ | refine pK (in_1 _ _ _) ?_ | refine pK (hlk) ?_ | refine pK (hix) ?_); try simp (disch := omega) only [encRun, cRun, encRules, cRules, hc0, ht.1, ht.2, hak, ham, hpos, cBrc,go_sem, simprocAttr]) | (with_reducible refine bk ?_) | ((with_reducible refine' cE ?hv ?_ ?_); (case hv => first | rfl | (simp only [encRun, cRun, encRules, cRules, hc0, ht.1, ht.2, hak, ham, hpos, cBrc,go_sem, simprocAttr]; rfl)); all_goals (intro hc; (try simp only [go_sem, simprocAttr] at hc); try (exfalso; omega))) | ((with_reducible first | refine grdS_split ?_ ?_ | refine lkG_split ?_ ?_) <;> intro hg <;> (try simp (disch := omega) only [hg, encRun, cRun, encRules, cRules, hc0, ht.1, ht.2, hak, ham, hpos, cBrc,go_sem, simprocAttr]) <;> (try simp only [go_sem, simprocAttr] at hg) <;> (try (exfalso; omega))) | ((with_reducible refine fe ?_); refine ⟨_, (by simp only [Try.f27, encRun, cRun, encRules, cRules, hc0, ht.1, ht.2, hak, ham, hpos, cBrc,go_sem, simprocAttr]; rfl), ?_⟩; first | rfl | (try simp only [encRun, cRun, encRules, cRules, hc0, ht.1, ht.2, hak, ham, hpos, cBrc,go_sem, simprocAttr, seval])) | with_reducible intro (ep : Nat → Nat) | with_reducible apply_assumption -exfalso -symm only [*])
          · have hf : firstS l t = (2, 0) := by unfold firstS; rw [hak]; simp only; rw [if_neg ham]
            rw [hf]
            refine PureC_of (fn := Try.f27) tabOK (by kernel_rfl) rfl (by kernel_rfl) (by simp [Try.f27]) (by simp [noids, noid, noidss, go_sem, encRun, cRun, encRules, cRules]) (by first | rfl | simp [noids, noid, noidss, go_sem, encRun, cRun, encRules, cRules]) ?_
            intro X hX0 hXs
            repeat' (first | (with_reducible refine sk ?_; intro K hK) | ((first | (with_reducible first | refine rg (h := ?_) | refine nx ?_) | refine pK (check_ok r u hb hu) ?_ | refine pK (in_1 _ _ _) ?_ | refine pK (hlk) ?_ | refine pK (hix) ?_); try simp (disch := omega) only [encRun, cRun, encRules, cRules, hc0, ht.1, ht.2, hak, ham, hpos, cBrc,go_sem, simprocAttr]) | (with_reducible refine bk ?_) | ((with_reducible refine' cE ?hv ?_ ?_); (case hv => first | rfl | (simp only [encRun, cRun, encRules, cRules, hc0, ht.1, ht.2, hak, ham, hpos, cBrc,go_sem, simprocAttr]; rfl)); all_goals (intro hc; (try simp only [go_sem, simprocAttr] at hc); try (exfalso; omega))) | ((with_reducible first | refine grdS_split ?_ ?_ | refine lkG_split ?_ ?_) <;> intro hg <;> (try simp (disch := omega) only [hg, encRun, cRun, encRules, cRules, hc0, ht.1, ht.2, hak, ham, hpos, cBrc,go_sem, simprocAttr]) <;> (try simp only [go_sem, simprocAttr] at hg) <;> (try (exfalso; omega))) | ((with_reducible refine fe ?_); refine ⟨_, (by simp only [Try.f27, encRun, cRun, encRules, cRules, hc0, ht.1, ht.2, hak, ham, hpos, cBrc,go_sem, simprocAttr]; rfl), ?_⟩; first | rfl | (try simp only [encRun, cRun, encRules, cRules, hc0, ht.1, ht.2, hak, ham, hpos, cBrc,go_sem, simprocAttr, seval])) | with_reducible intro (ep : Nat → Nat) | with_reducible apply_assumption -exfalso -symm only [*])
        · have hf : firstS l t = (2, 0) := by unfold firstS; rw [List.getElem?_eq_none (by omega)]
          rw [hf]
          refine PureC_of (fn := Try.f27) tabOK (by kernel_rfl) rfl (by kernel_rfl) (by simp [Try.f27]) (by simp [noids, noid, noidss, go_sem, encRun, cRun, encRules, cRules]) (by first | rfl | simp [noids, noid, noidss, go_sem, encRun, cRun, encRules, cRules]) ?_
          intro X hX0 hXs
          repeat' (first | (with_reducible refine sk ?_; intro K hK) | ((first | (with_reducible first | refine rg (h := ?_) | refine nx ?_) | refine pK (check_ok r u hb hu) ?_ | refine pK (in_1 _ _ _) ?_ | refine pK (hlk) ?_ | refine pK (hix) ?_); try simp (disch := omega) only [encRun, cRun, encRules, cRules, hc0, ht.1, ht.2, hpos, cBrc,go_sem, simprocAttr]) | (with_reducible refine bk ?_) | ((with_reducible refine' cE ?hv ?_ ?_); (case hv => first | rfl | (simp only [encRun, cRun, encRules, cRules, hc0, ht.1, ht.2, hpos, cBrc,go_sem, simprocAttr]; rfl)); all_goals (intro hc; (try simp only [go_sem, simprocAttr] at hc); try (exfalso; omega))) | ((with_reducible first | refine grdS_split ?_ ?_ | refine lkG_split ?_ ?_) <;> intro hg <;> (try simp (disch := omega) only [hg, encRun, cRun, encRules, cRules, hc0, ht.1, ht.2, hpos, cBrc,go_sem, simprocAttr]) <;> (try simp only [go_sem, simprocAttr] at hg) <;> (try (exfalso; omega))) | ((with_reducible refine fe ?_); refine ⟨_, (by simp only [Try.f27, encRun, cRun, encRules, cRules, hc0, ht.1, ht.2, hpos, cBrc,go_sem, simprocAttr]; rfl), ?_⟩; first | rfl | (try simp only [encRun, cRun, encRules, cRules, hc0, ht.1, ht.2, hpos, cBrc,go_sem, simprocAttr, seval])) | with_reducible intro (ep : Nat → Nat) | with_reducible apply_assumption -exfalso -symm only [*])
    · rw [if_neg ht]
      refine PureC_of (fn := Try.f27) tabOK (by kernel_rfl) rfl (by kernel_rfl) (by simp [Try.f27]) (by simp [noids, noid, noidss, go_sem, encRun, cRun, encRules, cRules]) (by first | rfl | simp [noids, noid, noidss, go_sem, encRun, cRun, encRules, cRules]) ?_
      intro X hX0 hXs
      repeat' (first | (with_reducible refine sk ?_; intro K hK) | ((first | (with_reducible first | refine rg (h := ?_) | refine nx ?_) | refine pK (check_ok r u hb hu) ?_ | refine pK (in_1 _ _ _) ?_); try simp (disch := omega) only [encRun, cRun, encRules, cRules, hc0,go_sem, simprocAttr]) | (with_reducible refine bk ?_) | ((with_reducible refine' cE ?hv ?_ ?_); (case hv => first | rfl | (simp only [encRun, cRun, encRules, cRules, hc0,go_sem, simprocAttr]; rfl)); all_goals (intro hc; (try simp only [go_sem, simprocAttr] at hc); try (exfalso; omega))) | ((with_reducible first | refine grdS_split ?_ ?_ | refine lkG_split ?_ ?_) <;> intro hg <;> (try simp (disch := omega) only [hg, encRun, cRun, encRules, cRules, hc0,go_sem, simprocAttr]) <;> (try simp only [go_sem, simprocAttr] at hg) <;> (try (exfalso; omega))) | ((with_reducible refine fe ?_); refine ⟨_, (by simp only [Try.f27, encRun, cRun, encRules, cRules, hc0,go_sem, simprocAttr]; rfl), ?_⟩; first | rfl | (try simp only [encRun, cRun, encRules, cRules, hc0,go_sem, simprocAttr, seval])) | with_reducible intro (ep : Nat → Nat) | with_reducible apply_assumption -exfalso -symm only [*])
  · rw [keptT, if_neg hc0]
    refine PureC_of (fn := Try.f27) tabOK (by kernel_rfl) rfl (by kernel_rfl) (by simp [Try.f27]) (by simp [noids, noid, noidss, go_sem, encRun, cRun, encRules, cRules]) (by first | rfl | simp [noids, noid, noidss, go_sem, encRun, cRun, encRules, cRules]) ?_
    intro X hX0 hXs
    repeat' (first | (with_reducible refine sk ?_; intro K hK) | ((first | (with_reducible first | refine rg (h := ?_) | refine nx ?_) | refine pK (check_ok r u hb hu) ?_); try simp (disch := omega) only [encRun, cRun, encRules, cRules, hc0,go_sem, simprocAttr]) | (with_reducible refine bk ?_) | ((with_reducible refine' cE ?hv ?_ ?_); (case hv => first | rfl | (simp only [encRun, cRun, encRules, cRules, hc0,go_sem, simprocAttr]; rfl)); all_goals (intro hc; (try simp only [go_sem, simprocAttr] at hc); try (exfalso; omega))) | ((with_reducible first | refine grdS_split ?_ ?_ | refine lkG_split ?_ ?_) <;> intro hg <;> (try simp (disch := omega) only [hg, encRun, cRun, encRules, cRules, hc0,go_sem, simprocAttr]) <;> (try simp only [go_sem, simprocAttr] at hg) <;> (try (exfalso; omega))) | ((with_reducible refine fe ?_); refine ⟨_, (by simp only [Try.f27, encRun, cRun, encRules, cRules, hc0,go_sem, simprocAttr]; rfl), ?_⟩; first | rfl | (try simp only [encRun, cRun, encRules, cRules, hc0,go_sem, simprocAttr, seval])) | with_reducible intro (ep : Nat → Nat) | with_reducible apply_assumption -exfalso -symm only [*])
end Cp
namespace Cp
open Go
def FirstAt (l : List Brc) (t : Int) (j : Nat) (x : Int) : Prop := (x = 0 ∧ ∀ i b, i < j → l[i]? = some b → ¬ b.m ≤ t) ∨ (1 ≤ j ∧ ∃ b, l[0]? = some b ∧ b.m ≤ t ∧ x = b.m ∧ 1 ≤ b.m)
def SureAt (l : List Brc) (t : Int) (j : Nat) (x : Int) : Prop := (x = 0 ∧ ∀ i b, i < j → l[i]? = some b → b.m ≤ t → ¬ b.known = 2) ∨ (∃ i b, i < j ∧ l[i]? = some b ∧ b.m ≤ t ∧ b.known = 2 ∧ x = b.m ∧ 1 ≤ b.m ∧ ∀ k c, k < i → l[k]? = some c → ¬ c.known = 2)
variable {l : List Brc} {t x : Int} {j : Nat} {b : Brc}
theorem FirstAt.over (h : FirstAt l t j x) (hb : l[j]? = some b) (hm : ¬ b.m ≤ t) : FirstAt l t (j + 1) x := by
  rcases h with ⟨rfl, h⟩ | ⟨h1, c, h2⟩
  · refine .inl ⟨rfl, fun i c hi hc => ?_⟩
    by_cases hij : i = j
    · subst hij; rw [hb] at hc; cases hc; exact hm
    · exact h i c (by omega) hc
  · exact .inr ⟨by omega, c, h2⟩
theorem FirstAt.new (hs : l.Pairwise brLt) (h : FirstAt l t j 0) (hb : l[j]? = some b) (hm : b.m ≤ t) (h1 : 1 ≤ b.m) : FirstAt l t (j + 1) b.m := by
  rcases h with ⟨_, h⟩ | ⟨_, c, _, _, hc, h1⟩
  · cases j with
    | zero => exact .inr ⟨by omega, b, hb, hm, rfl, h1⟩
    | succ j =>
      exfalso
      obtain ⟨a, ha⟩ : ∃ a, l[0]? = some a := ⟨_, List.getElem?_eq_getElem (by have := (List.getElem?_eq_some_iff.1 hb).1; omega)⟩
      have h0 := h 0 a (by omega) ha
      have := sorted_m hs (Nat.zero_le _) ha hb
      omega
  · omega
theorem FirstAt.old (h : FirstAt l t j x) (hx : ¬ x = 0) : FirstAt l t (j + 1) x := by
  rcases h with ⟨rfl, _⟩ | ⟨h1, c, h2⟩
  · exact absurd rfl hx
  · exact .inr ⟨by omega, c, h2⟩
theorem SureAt.over (h : SureAt l t j x) (hb : l[j]? = some b) (hm : b.m ≤ t → ¬ b.known = 2) : SureAt l t (j + 1) x := by
  rcases h with ⟨rfl, h⟩ | ⟨i, c, h1, h2⟩
  · refine .inl ⟨rfl, fun i c hi hc => ?_⟩
    by_cases hij : i = j
    · subst hij; rw [hb] at hc; cases hc; exact hm
    · exact h i c (by omega) hc
  · exact .inr ⟨i, c, by omega, h2⟩
theorem SureAt.new (hs : l.Pairwise brLt) (h : SureAt l t j 0) (hb : l[j]? = some b) (hm : b.m ≤ t) (h1 : 1 ≤ b.m) (hk : b.known = 2) : SureAt l t (j + 1) b.m := by
  rcases h with ⟨_, h⟩ | ⟨i, c, _, _, _, _, hc, h1, _⟩
  · exact .inr ⟨j, b, by omega, hb, hm, hk, rfl, h1, fun k c hkj hc => h k c hkj hc (by have := sorted_m hs (Nat.le_of_lt hkj) hc hb; omega)⟩
  · omega
theorem SureAt.old (h : SureAt l t j x) (hx : ¬ x = 0) : SureAt l t (j + 1) x := by
  rcases h with ⟨rfl, _⟩ | ⟨i, c, h1, h2⟩
  · exact absurd rfl hx
  · exact .inr ⟨i, c, by omega, h2⟩
theorem keptL_cases (hs : l.Pairwise brLt) (hm : ∀ b ∈ l, 1 ≤ b.m) (n : Int) (hn : t ≤ n) {x y : Int} (hx : FirstAt l t l.length x) (hy : SureAt l t l.length y) :
    (0 < y ∧ 0 < x ∧ keptL l t = (0, y) ∧ ¬ t ≤ countL l n) ∨ (y = 0 ∧ 0 < x ∧ keptL l t = (1, x) ∧ ¬ t ≤ countL l n) ∨ (y = 0 ∧ x = 0 ∧ keptL l t = (2, 0) ∧ t ≤ countL l n) := by
  rcases hy with ⟨rfl, hy⟩ | ⟨i, b, hi, hb, hbm, hk, rfl, h1, hno⟩
  · have hf : keptL l t = firstS l t := by
      unfold keptL
      cases hq : l[firstK l]? with
      | none => rfl
      | some c =>
        simp only
        rw [if_neg (fun h => hy _ c (List.getElem?_eq_some_iff.1 hq).1 hq h (firstK_at hq))]
    rcases hx with ⟨rfl, hx⟩ | ⟨_, c, hc, hcm, rfl, h1⟩
    · refine .inr (.inr ⟨rfl, rfl, ?_, ?_⟩)
      · rw [hf]; unfold firstS
        cases hq : l[0]? with
        | none => rfl
        | some c => simp only; rw [if_neg (hx 0 c (List.getElem?_eq_some_iff.1 hq).1 hq)]
      · unfold countL
        cases hq : l[0]? with
        | none => exact hn
        | some c => have := hx 0 c (List.getElem?_eq_some_iff.1 hq).1 hq; simp only; omega
    · refine .inr (.inl ⟨rfl, by omega, ?_, ?_⟩)
      · rw [hf]; unfold firstS; rw [hc]; simp only; rw [if_pos hcm]
      · unfold countL; rw [hc]; simp only; omega
  · have hx0 : 0 < x := by
      rcases hx with ⟨rfl, hx⟩ | ⟨_, c, _, _, rfl, h1⟩
      · exact absurd hbm (hx i b hi hb)
      · omega
    refine .inl ⟨by omega, hx0, keptL_sure hno hb hk hbm, ?_⟩
    obtain ⟨a, ha⟩ : ∃ a, l[0]? = some a := ⟨_, List.getElem?_eq_getElem (by omega)⟩
    have := sorted_m hs (Nat.zero_le _) ha hb
    unfold countL; rw [ha]; simp only; omega
theorem keptL_mono {t t' : Int} (h : t ≤ t') : (keptL l t').1 ≤ (keptL l t).1 ∧ 0 ≤ (keptL l t').1 ∧ (keptL l t).1 ≤ 2 := by
  have hF : ∀ s, firstS l s = (1, (firstS l s).2) ∨ firstS l s = (2, (firstS l s).2) := fun s => by
    unfold firstS; split
    · split
      · exact .inl rfl
      · exact .inr rfl
    · exact .inr rfl
  have hF2 : (firstS l t').1 ≤ (firstS l t).1 := by
    unfold firstS; split
    · split <;> split <;> first | omega | simp
    · simp
  have e1 := hF t
  have e2 := hF t'
  have h1 : (firstS l t).1 = 1 ∨ (firstS l t).1 = 2 := by rcases e1 with e | e <;> rw [e] <;> simp
  have h2 : (firstS l t').1 = 1 ∨ (firstS l t').1 = 2 := by rcases e2 with e | e <;> rw [e] <;> simp
  unfold keptL
  split
  · split <;> split <;> first | (exfalso; omega) | (refine ⟨?_, ?_, ?_⟩ <;> (try simp only) <;> omega)
  · omega
theorem countL_bounds {n : Int} (hm : ∀ b ∈ l, 1 ≤ b.m ∧ b.m ≤ n) (hn : (0:Int) ≤ n) : 0 ≤ countL l n ∧ countL l n ≤ n := by
  unfold countL
  split
  · rename_i b hb; have := hm b (List.mem_of_getElem? hb); omega
  · omega
end Cp
namespace Cp
open Go Go.Proofs
set_option maxRecDepth 10000
end Cp
namespace Cp
open Go Go.Proofs
set_option maxRecDepth 10000
theorem ready_ok (r : RunT) (u : RulesT) : PureC Try.prog 34 [encRun r, encRules u] (.bool (!greatS r u && decide (checkE r u = 0))) := by
  by_cases hg : greatS r u = true
  · refine PureC_of (fn := Try.f34) tabOK (by kernel_rfl) rfl (by kernel_rfl) (by simp [Try.f34]) (by simp [noids, noid, noidss, go_sem, encRun, cRun, encRules, cRules]) (by first | rfl | simp [noids, noid, noidss, go_sem, encRun, cRun, encRules, cRules]) ?_
    intro X hX0 hXs
    repeat' (first | (with_reducible refine sk ?_; intro K hK) | ((first | (with_reducible first | refine rg (h := ?_) | refine nx ?_) | refine pK (great_ok r u) ?_); try simp (disch := omega) only [encRun, cRun, encRules, cRules, hg,go_sem, simprocAttr]) | (with_reducible refine bk ?_) | ((with_reducible refine' cE ?hv ?_ ?_); (case hv => first | rfl | (simp only [encRun, cRun, encRules, cRules, hg,go_sem, simprocAttr]; rfl)); all_goals (intro hc; (try simp only [go_sem, simprocAttr] at hc); try (exfalso; omega))) | ((with_reducible first | refine grdS_split ?_ ?_ | refine lkG_split ?_ ?_) <;> intro hg <;> (try simp (disch := omega) only [hg, encRun, cRun, encRules, cRules, hg,go_sem, simprocAttr]) <;> (try simp only [go_sem, simprocAttr] at hg) <;> (try (exfalso; omega))) | ((with_reducible refine fe ?_); refine ⟨_, (by simp only [Try.f34, encRun, cRun, encRules, cRules, hg,go_sem, simprocAttr]; rfl), ?_⟩; first | rfl | (try simp only [encRun, cRun, encRules, cRules, hg,go_sem, simprocAttr, seval])) | with_reducible intro (ep : Nat → Nat) | with_reducible apply_assumption -exfalso -symm only [*])
    try simp [hg]
  · simp only [Bool.not_eq_true] at hg
    obtain ⟨hsm, hst⟩ := great_sm hg
    refine PureC_of (fn := Try.f34) tabOK (by kernel_rfl) rfl (by kernel_rfl) (by simp [Try.f34]) (by simp [noids, noid, noidss, go_sem, encRun, cRun, encRules, cRules]) (by first | rfl | simp [noids, noid, noidss, go_sem, encRun, cRun, encRules, cRules]) ?_
    intro X hX0 hXs
    repeat' (first | (with_reducible refine sk ?_; intro K hK) | ((first | (with_reducible first | refine rg (h := ?_) | refine nx ?_) | refine pK (great_ok r u) ?_ | refine pK (rcheck_ok r u hsm.b ⟨by omega⟩) ?_); try simp (disch := omega) only [encRun, cRun, encRules, cRules, hg,go_sem, simprocAttr]) | (with_reducible refine bk ?_) | ((with_reducible refine' cE ?hv ?_ ?_); (case hv => first | rfl | (simp only [encRun, cRun, encRules, cRules, hg,go_sem, simprocAttr]; rfl)); all_goals (intro hc; (try simp only [go_sem, simprocAttr] at hc); try (exfalso; omega))) | ((with_reducible first | refine grdS_split ?_ ?_ | refine lkG_split ?_ ?_) <;> intro hg <;> (try simp (disch := omega) only [hg, encRun, cRun, encRules, cRules, hg,go_sem, simprocAttr]) <;> (try simp only [go_sem, simprocAttr] at hg) <;> (try (exfalso; omega))) | ((with_reducible refine fe ?_); refine ⟨_, (by simp only [Try.f34, encRun, cRun, encRules, cRules, hg,go_sem, simprocAttr]; rfl), ?_⟩; first | rfl | (try simp only [encRun, cRun, encRules, cRules, hg,go_sem, simprocAttr, seval])) | with_reducible intro (ep : Nat → Nat) | with_reducible apply_assumption -exfalso -symm only [*])
    all_goals try simp [hg]
end Cp
namespace Cp
open Go
theorem fit_map {α : Type} {c : α → List Val} : ∀ {xss : List (List Val)}, (∀ es ∈ xss, ∃ x, es = c x) → ∃ l : List α, xss = l.map c
  | [], _ => ⟨[], rfl⟩
  | es :: xss, h => by
    obtain ⟨x, rfl⟩ := h es (by simp)
    obtain ⟨l, rfl⟩ := fit_map fun es he => h es (List.mem_cons_of_mem _ he)
    exact ⟨x :: l, rfl⟩
theorem fit_slice {T : Tab} {n : Nat} {t e sz : Nat} {vs : List Val} {b b2 s1 : Nat} {z z2 : Val} {p p2 : Bool} {k2 : TK} {α : Type} {c : α → List Val} (ht : T t = some { kind := .slice e, sz := s1, bytes := b, zero := z, plain := p })
    (he : T e = some { kind := k2, sz := sz, bytes := b2, zero := z2, plain := p2 }) (h : Fit T (n + 1) t vs) (hc : ∀ es, Fit T n e es → ∃ x, es = c x) : ∃ l : List α, vs = [.lst sz (l.map c)] := by
  simp only [Fit, ht] at h
  obtain ⟨sz', xss, rfl, hs, _, hx⟩ := h
  rw [he] at hs
  cases hs
  obtain ⟨l, rfl⟩ := fit_map (c := c) fun es hes => hc es (hx es hes).2
  exact ⟨l, rfl⟩
theorem fit_struct {T : Tab} {n : Nat} {t sz : Nat} {vs : List Val} {b : Nat} {z : Val} {p : Bool} {fs : List (Nat × Nat)} (ht : T t = some { kind := .struct fs, sz := sz, bytes := b, zero := z, plain := p }) (h : Fit T (n + 1) t vs) :
    vs.length = sz ∧ ∀ q ∈ fs, ∃ fi, T q.2 = some fi ∧ Fit T n q.2 ((vs.drop q.1).take fi.sz) := by
  simp only [Fit, ht] at h
  exact h
theorem fit_int {T : Tab} {n : Nat} {t : Nat} {vs : List Val} {s b : Nat} {z : Val} {p : Bool} {k : IntKind} (ht : T t = some { kind := .int k, sz := s, bytes := b, zero := z, plain := p }) (h : Fit T (n + 1) t vs) : ∃ m, vs = [.int k m] ∧ (Lit.int k m).wf = true := by
  simp only [Fit, ht] at h
  exact h
theorem fit3 {n : Nat} {vs : List Val} (h : Fit tab (n + 1) 3 vs) : ∃ m, vs = [.int .i64 m] := by
  obtain ⟨m, h, _⟩ := fit_int tab_3 h; exact ⟨m, h⟩
theorem fit_ints {n : Nat} {vs : List Val} {t b s1 : Nat} {z : Val} {p : Bool} (ht : tab t = some { kind := .slice 3, sz := s1, bytes := b, zero := z, plain := p }) (h : Fit tab (n + 2) t vs) : ∃ l : List Int, vs = [.lst 1 (ints l)] := by
  obtain ⟨l, rfl⟩ := fit_slice (c := fun m : Int => [Val.int .i64 m]) ht tab_3 h fun es he => fit3 he
  exact ⟨l, rfl⟩
theorem fit_two {n : Nat} {vs : List Val} {t b : Nat} {z : Val} {p : Bool} (ht : tab t = some { kind := .struct [(0, 3), (1, 3)], sz := 2, bytes := b, zero := z, plain := p }) (h : Fit tab (n + 2) t vs) : ∃ x y : Int, vs = [.int .i64 x, .int .i64 y] := by
  obtain ⟨hl, hq⟩ := fit_struct ht h
  match vs, hl with
  | [a, b], _ =>
    obtain ⟨fi, e, h0⟩ := hq (0, 3) (by simp)
    rw [tab_3] at e; cases e
    obtain ⟨fi, e, h1⟩ := hq (1, 3) (by simp)
    rw [tab_3] at e; cases e
    obtain ⟨x, hx⟩ := fit3 h0
    obtain ⟨y, hy⟩ := fit3 h1
    simp at hx hy
    exact ⟨x, y, by rw [hx, hy]⟩
theorem fit_span {n : Nat} {vs : List Val} (h : Fit tab (n + 2) 26 vs) : ∃ s : Span, vs = [.int .i64 s.lo, .int .i64 s.hi] := by
  obtain ⟨x, y, h⟩ := fit_two tab_26 h; exact ⟨⟨x, y⟩, h⟩
theorem fit_pt {n : Nat} {vs : List Val} (h : Fit tab (n + 2) 93 vs) : ∃ x : Pt, vs = cPt x := by
  obtain ⟨x, y, h⟩ := fit_two tab_93 h; exact ⟨⟨x, y⟩, h⟩
theorem fit_step {n : Nat} {vs : List Val} (h : Fit tab (n + 2) 85 vs) : ∃ x : StepT, vs = cStep x := by
  obtain ⟨x, y, h⟩ := fit_two tab_85 h; exact ⟨⟨x, y⟩, h⟩
theorem fit_cpl {n : Nat} {vs : List Val} (h : Fit tab (n + 3) 76 vs) : ∃ x : Cpl, vs = cCpl x := by
  obtain ⟨hl, hq⟩ := fit_struct tab_76 h
  match vs, hl with
  | [a, b, c, d, e, f], _ =>
    obtain ⟨fi, e0, h0⟩ := hq (0, 3) (by simp)
    rw [tab_3] at e0; cases e0
    obtain ⟨fi, e1, h1⟩ := hq (1, 26) (by simp)
    rw [tab_26] at e1; cases e1
    obtain ⟨fi, e2, h2⟩ := hq (3, 26) (by simp)
    rw [tab_26] at e2; cases e2
    obtain ⟨fi, e3, h3⟩ := hq (5, 3) (by simp)
    rw [tab_3] at e3; cases e3
    obtain ⟨x0, h0⟩ := fit3 h0
    obtain ⟨x1, h1⟩ := fit_span h1
    obtain ⟨x2, h2⟩ := fit_span h2
    obtain ⟨x3, h3⟩ := fit3 h3
    simp at h0 h1 h2 h3
    obtain ⟨h1, h1'⟩ := h1
    obtain ⟨h2, h2'⟩ := h2
    exact ⟨⟨x0, x1, x2, x3⟩, by rw [h0, h1, h1', h2, h2', h3]; rfl⟩
theorem fit_row {n : Nat} {vs : List Val} (h : Fit tab (n + 3) 89 vs) : ∃ x : RowT, vs = cRow x := by
  obtain ⟨hl, hq⟩ := fit_struct tab_89 h
  match vs, hl with
  | [a, b], _ =>
    obtain ⟨fi, e0, h0⟩ := hq (0, 87) (by simp)
    rw [tab_87] at e0; cases e0
    obtain ⟨fi, e1, h1⟩ := hq (1, 3) (by simp)
    rw [tab_3] at e1; cases e1
    obtain ⟨x0, h0⟩ := fit_ints tab_87 h0
    obtain ⟨x1, h1⟩ := fit3 h1
    simp at h0 h1
    exact ⟨⟨x0, x1⟩, by rw [h0, h1]; rfl⟩
theorem fit_pts {n : Nat} {vs : List Val} (h : Fit tab (n + 3) 22 vs) : ∃ l : List Pt, vs = [.lst 2 (l.map cPt)] := fit_slice tab_22 tab_93 h fun es he => fit_pt he
theorem fit_run {n : Nat} {vs : List Val} (h : Fit tab (n + 5) 28 vs) : ∃ r : RunT, vs = cRun r := by
  obtain ⟨hl, hq⟩ := fit_struct tab_28 h
  match vs, hl with
  | [a, b, c, d, e, f], _ =>
    obtain ⟨fi, e0, h0⟩ := hq (0, 3) (by simp)
    rw [tab_3] at e0; cases e0
    obtain ⟨fi, e1, h1⟩ := hq (1, 22) (by simp)
    rw [tab_22] at e1; cases e1
    obtain ⟨fi, e2, h2⟩ := hq (2, 23) (by simp)
    rw [tab_23] at e2; cases e2
    obtain ⟨fi, e3, h3⟩ := hq (3, 24) (by simp)
    rw [tab_24] at e3; cases e3
    obtain ⟨fi, e4, h4⟩ := hq (4, 26) (by simp)
    rw [tab_26] at e4; cases e4
    obtain ⟨x0, h0⟩ := fit3 h0
    obtain ⟨x1, h1⟩ := fit_pts h1
    obtain ⟨x2, h2⟩ := fit_slice tab_23 tab_76 h2 fun es he => fit_cpl he
    obtain ⟨x3, h3⟩ := fit_slice tab_24 tab_89 h3 fun es he => fit_row he
    obtain ⟨x4, h4⟩ := fit_span h4
    simp at h0 h1 h2 h3 h4
    obtain ⟨h4, h4'⟩ := h4
    exact ⟨⟨x0, x1, x2, x3, x4⟩, by rw [h0, h1, h2, h3, h4, h4']; rfl⟩
theorem fit_rules {n : Nat} {vs : List Val} (h : Fit tab (n + 5) 31 vs) : ∃ u : RulesT, vs = cRules u := by
  obtain ⟨hl, hq⟩ := fit_struct tab_31 h
  match vs, hl with
  | [a, b, c, d, e, f], _ =>
    obtain ⟨fi, e0, h0⟩ := hq (0, 29) (by simp)
    rw [tab_29] at e0; cases e0
    obtain ⟨fi, e1, h1⟩ := hq (1, 3) (by simp)
    rw [tab_3] at e1; cases e1
    obtain ⟨fi, e2, h2⟩ := hq (2, 3) (by simp)
    rw [tab_3] at e2; cases e2
    obtain ⟨fi, e3, h3⟩ := hq (3, 26) (by simp)
    rw [tab_26] at e3; cases e3
    obtain ⟨fi, e4, h4⟩ := hq (5, 3) (by simp)
    rw [tab_3] at e4; cases e4
    obtain ⟨x0, h0⟩ := fit_slice tab_29 tab_85 h0 fun es he => fit_step he
    obtain ⟨x1, h1⟩ := fit3 h1
    obtain ⟨x2, h2⟩ := fit3 h2
    obtain ⟨x3, h3⟩ := fit_span h3
    obtain ⟨x4, h4⟩ := fit3 h4
    simp at h0 h1 h2 h3 h4
    obtain ⟨h3, h3'⟩ := h3
    exact ⟨⟨x0, x1, x2, x3, x4⟩, by rw [h0, h1, h2, h3, h3', h4]; rfl⟩
theorem arg_byte {a : Val} (h : FitV tab 8 5 a) : ∃ m, a = .int .u8 m ∧ 0 ≤ m ∧ m ≤ 255 := by
  obtain ⟨ti, cs, e, h, _, rfl⟩ := h
  obtain ⟨m, rfl, hw⟩ := fit_int tab_5 h
  rw [tab_5] at e; cases e
  simp [Lit.wf, IntKind.min, IntKind.max, IntKind.signed, IntKind.bits] at hw
  exact ⟨m, rfl, by omega, by omega⟩
theorem arg_run {a : Val} (h : FitV tab 8 28 a) : ∃ r : RunT, a = encRun r := by
  obtain ⟨ti, cs, e, h, _, rfl⟩ := h
  obtain ⟨l, rfl⟩ := fit_run h
  rw [tab_28] at e; cases e; exact ⟨l, rfl⟩
theorem arg_rules {a : Val} (h : FitV tab 8 31 a) : ∃ r : RulesT, a = encRules r := by
  obtain ⟨ti, cs, e, h, _, rfl⟩ := h
  obtain ⟨l, rfl⟩ := fit_rules h
  rw [tab_31] at e; cases e; exact ⟨l, rfl⟩
end Cp
namespace Cp
open Go Go.Proofs
set_option maxRecDepth 10000
set_option maxHeartbeats 4000000
theorem kept_law (r : RunT) (u : RulesT) (b1 : Int) (hb0 : 0 ≤ b1) (hb1 : b1 ≤ 255) (b2 : Int) (hc0 : 0 ≤ b2) (hc1 : b2 ≤ 255) : PureC Try.prog 8 [encRun r, encRules u, .int .u8 b1, .int .u8 b2] (.bool true) := by
  by_cases hr : (!greatS r u && decide (checkE r u = 0)) = true
  · have hr2 : greatS r u = false ∧ checkE r u = 0 := by simpa using hr
    obtain ⟨hsm, hst⟩ := great_sm hr2.1
    obtain ⟨h1, h2⟩ := check0 hr2.2
    have hu : RulesB u := ⟨by omega⟩
    have hF := run_facts h1
    have hrl := hF.rows
    have hn0 : ¬ ((r.rows.length + 1 : Nat) : Int) = 0 := by omega
    have ht0 : 0 ≤ b1.tmod ((r.rows.length + 1 : Nat) : Int) := Int.tmod_nonneg _ hb0
    have ht1 : b1.tmod ((r.rows.length + 1 : Nat) : Int) < ((r.rows.length + 1 : Nat) : Int) := Int.tmod_lt_of_pos _ (by omega)
    obtain ⟨t, ht⟩ : ∃ t, b1.tmod ((r.rows.length + 1 : Nat) : Int) = t := ⟨_, rfl⟩
    rw [ht] at ht0 ht1
    have hn1 : ¬ (r.rows.length : Int) - t + 1 = 0 := by omega
    have hs0 : 0 ≤ b2.tmod ((r.rows.length : Int) - t + 1) := Int.tmod_nonneg _ hc0
    have hs1 : b2.tmod ((r.rows.length : Int) - t + 1) < (r.rows.length : Int) - t + 1 := Int.tmod_lt_of_pos _ (by omega)
    obtain ⟨s, hs⟩ : ∃ s, b2.tmod ((r.rows.length : Int) - t + 1) = s := ⟨_, rfl⟩
    rw [hs] at hs0 hs1
    have hsort : (leftS r u).Pairwise brLt := leftB_pair hF
    have hmem : ∀ b ∈ leftS r u, 1 ≤ b.m ∧ b.m ≤ r.rows.length := fun b hb => left_m hb
    have hL := Left_ok r u hsm.b hu
    have hC := Counts_ok r u hsm.b hu
    have kp1 := Kept_ok r u hsm.b hu t
    have kp2 := Kept_ok r u hsm.b hu (t + s)
    rw [leftT, if_pos hr2.2] at hL
    rw [countT, if_pos hr2.2] at hC
    rw [keptT, if_pos hr2.2, if_pos (by omega)] at kp1 kp2
    have hll : (leftS r u).length ≤ 1000 := by
      have := leftB_len (u := u) hF r.rows.length
      have : (leftS r u).length ≤ 11 * r.rows.length := this
      omega
    obtain ⟨l, hl⟩ : ∃ l, leftS r u = l := ⟨_, rfl⟩
    rw [hl] at hL hC kp1 kp2 hsort hmem hll
    obtain ⟨n, hn⟩ : ∃ n, countL l r.rows.length = n := ⟨_, rfl⟩
    have hnb := countL_bounds (l := l) hmem (by omega : (0:Int) ≤ r.rows.length)
    have hmo := keptL_mono (l := l) (t := t) (t' := t + s) (by omega)
    have hcas := fun x y => keptL_cases (x := x) (y := y) (t := t) hsort (fun b hb => (hmem b hb).1) r.rows.length (by omega)
    rw [hn] at hnb hC hcas
    refine PureC_of (fn := Try.f8) tabOK (by kernel_rfl) rfl (by kernel_rfl) (by simp [Try.f8]) (by simp [noids, noid, noidss, go_sem, encRun, cRun, encRules, cRules]) (by first | rfl | simp [noids, noid, noidss, go_sem, encRun, cRun, encRules, cRules]) ?_
    intro X hX0 hXs
    repeat' (first | (with_reducible refine sk ?_; intro K hK) | ((first | (with_reducible first | refine rg (md := { base := 0, own := [18] }) (h := ?_) | refine rgS [18] (md := { base := 0, own := [18] }) (h := ?_) | refine nx ?_) | refine pK (alive_run) ?_ | refine pK (ready_ok r u) ?_ | refine pK (hL) ?_ | refine pK (hC) ?_); try simp (disch := omega) only [encRun, cRun, encRules, cRules, hr, hn0, ht, hnb.1, hnb.2,go_sem, simprocAttr]) | (with_reducible refine bk ?_) | ((with_reducible refine' cE ?hv ?_ ?_); (case hv => first | rfl | (simp only [encRun, cRun, encRules, cRules, hr, hn0, ht, hnb.1, hnb.2,go_sem, simprocAttr]; rfl)); all_goals (intro hc; (try simp only [go_sem, simprocAttr] at hc); try (exfalso; omega))) | ((with_reducible first | refine grdS_split ?_ ?_ | refine lkG_split ?_ ?_) <;> intro hg <;> (try simp (disch := omega) only [hg, encRun, cRun, encRules, cRules, hr, hn0, ht, hnb.1, hnb.2,go_sem, simprocAttr]) <;> (try simp only [go_sem, simprocAttr] at hg) <;> (try (exfalso; omega))) | ((with_reducible refine fe ?_); refine ⟨_, (by simp only [Try.f8, encRun, cRun, encRules, cRules, hr, hn0, ht, hnb.1, hnb.2,go_sem, simprocAttr]; rfl), ?_⟩; first | rfl | (try simp only [encRun, cRun, encRules, cRules, hr, hn0, ht, hnb.1, hnb.2,go_sem, simprocAttr, seval])) | with_reducible intro (ep : Nat → Nat) | with_reducible apply_assumption -exfalso -symm only [*])
    refine AW_range tabOK l.length (fun k f H => (f 4 = .pim (cRun r) ∧ f 5 = .pim (cRules u) ∧ f 9 = .bool true ∧ f 12 = .int .i64 n ∧ f 14 = .int .i64 t ∧ f 3 = .int .u8 b2 ∧ f 69 = .lst 4 (l.map cBrc)) ∧ ∃ x y, f 15 = .int .i64 x ∧ f 16 = .int .i64 y ∧ FirstAt l t k x ∧ SureAt l t k y) (by omega) (by rw [hXs]; decide) (by decide) (by (first | rfl | (simp only [go_sem, simprocAttr]; done) | (simp only [go_sem, simprocAttr]; rfl))) (by (first | rfl | (simp only [go_sem, simprocAttr]; done) | (simp only [go_sem, simprocAttr]; rfl)))
      ⟨by (and_intros <;> first | rfl | (simp only [cRun, cRules, go_sem, simprocAttr]; done) | (simp only [cRun, cRules, go_sem, simprocAttr]; rfl)), 0, 0, by (first | rfl | (simp only [go_sem, simprocAttr]; done) | (simp only [go_sem, simprocAttr]; rfl)), by (first | rfl | (simp only [go_sem, simprocAttr]; done) | (simp only [go_sem, simprocAttr]; rfl)), .inl ⟨rfl, fun i b h => by omega⟩, .inl ⟨rfl, fun i b h => by omega⟩⟩ ?_ ?_
    · rintro k f H hk h71 h70 ⟨⟨h4, h5, h9, h12, h14, h3, h69⟩, x, y, h15, h16, hx, hy⟩
      obtain ⟨b, hb⟩ : ∃ b, l[k]? = some b := ⟨_, List.getElem?_eq_getElem hk⟩
      have hbm := hmem b (List.mem_of_getElem? hb)
      refine AW_keep [] ?_
      by_cases hm : b.m ≤ t
      · have e1 : x = 0 → FirstAt l t (k + 1) b.m := fun h => by subst h; exact hx.new hsort hb hm hbm.1
        have e2 : ¬ x = 0 → FirstAt l t (k + 1) x := hx.old
        have g1 : y = 0 → b.known = 2 → SureAt l t (k + 1) b.m := fun h hk => by subst h; exact hy.new hsort hb hm hbm.1 hk
        have g2 : ¬ y = 0 → SureAt l t (k + 1) y := hy.old
        have g3 : ¬ b.known = 2 → SureAt l t (k + 1) y := fun h => hy.over hb (fun _ => h)
        clear hx hy hcas
        repeat' (first | (with_reducible refine sk ?_; intro K hK) | ((with_reducible first | refine rg (md := { base := 0, own := [18] }) (h := ?_) | refine rgS [18] (md := { base := 0, own := [18] }) (h := ?_) | refine nx ?_); try simp (disch := omega) only [h3, h4, h5, h9, h12, h14, h15, h16, h69, h70, h71, hb, hm, cBrc,go_sem, simprocAttr]) | (with_reducible refine bk ?_) | ((with_reducible refine' cE ?hv ?_ ?_); (case hv => first | rfl | (simp only [h3, h4, h5, h9, h12, h14, h15, h16, h69, h70, h71, hb, hm, cBrc,go_sem, simprocAttr]; rfl)); all_goals (intro hc; (try simp only [go_sem, simprocAttr] at hc); try (exfalso; omega))) | ((with_reducible first | refine grdS_split ?_ ?_ | refine lkG_split ?_ ?_) <;> intro hg <;> (try simp (disch := omega) only [hg, h3, h4, h5, h9, h12, h14, h15, h16, h69, h70, h71, hb, hm, cBrc,go_sem, simprocAttr]) <;> (try simp only [go_sem, simprocAttr] at hg) <;> (try (exfalso; omega))) | ((with_reducible refine fe ?_); refine ⟨_, (by simp only [Try.f8, h3, h4, h5, h9, h12, h14, h15, h16, h69, h70, h71, hb, hm, cBrc,go_sem, simprocAttr]; rfl), ?_⟩; first | rfl | (try simp only [h3, h4, h5, h9, h12, h14, h15, h16, h69, h70, h71, hb, hm, cBrc,go_sem, simprocAttr, seval])) | with_reducible intro (ep : Nat → Nat) | with_reducible apply_assumption -exfalso -symm only [*])
        all_goals exact ⟨_, _, rfl, rfl, by first | exact e1 (by omega) | exact e2 (by omega), by first | exact g1 (by omega) (by omega) | exact g2 (by omega) | exact g3 (by omega)⟩
      · have e1 := hx.over hb hm
        have e2 := hy.over hb (fun h => absurd h hm)
        clear hx hy hcas
        repeat' (first | (with_reducible refine sk ?_; intro K hK) | ((with_reducible first | refine rg (md := { base := 0, own := [18] }) (h := ?_) | refine rgS [18] (md := { base := 0, own := [18] }) (h := ?_) | refine nx ?_); try simp (disch := omega) only [h3, h4, h5, h9, h12, h14, h15, h16, h69, h70, h71, hb, hm, cBrc,go_sem, simprocAttr]) | (with_reducible refine bk ?_) | ((with_reducible refine' cE ?hv ?_ ?_); (case hv => first | rfl | (simp only [h3, h4, h5, h9, h12, h14, h15, h16, h69, h70, h71, hb, hm, cBrc,go_sem, simprocAttr]; rfl)); all_goals (intro hc; (try simp only [go_sem, simprocAttr] at hc); try (exfalso; omega))) | ((with_reducible first | refine grdS_split ?_ ?_ | refine lkG_split ?_ ?_) <;> intro hg <;> (try simp (disch := omega) only [hg, h3, h4, h5, h9, h12, h14, h15, h16, h69, h70, h71, hb, hm, cBrc,go_sem, simprocAttr]) <;> (try simp only [go_sem, simprocAttr] at hg) <;> (try (exfalso; omega))) | ((with_reducible refine fe ?_); refine ⟨_, (by simp only [Try.f8, h3, h4, h5, h9, h12, h14, h15, h16, h69, h70, h71, hb, hm, cBrc,go_sem, simprocAttr]; rfl), ?_⟩; first | rfl | (try simp only [h3, h4, h5, h9, h12, h14, h15, h16, h69, h70, h71, hb, hm, cBrc,go_sem, simprocAttr, seval])) | with_reducible intro (ep : Nat → Nat) | with_reducible apply_assumption -exfalso -symm only [*])
        exact ⟨_, _, rfl, rfl, e1, e2⟩
    · rintro f H h71 h70 ⟨⟨h4, h5, h9, h12, h14, h3, h69⟩, x, y, h15, h16, hx, hy⟩
      rcases hcas x y hx hy with ⟨hp, hp2, e, he⟩ | ⟨rfl, hp, e, he⟩ | ⟨rfl, rfl, e, he⟩
      · rw [e] at kp1 hmo
        have hy0 : ¬ y = 0 := by omega
        have hx0 : ¬ x = 0 := by omega
        clear hx hy hcas
        repeat' (first | (with_reducible refine sk ?_; intro K hK) | ((first | (with_reducible first | refine rg (md := { base := 0, own := [18] }) (h := ?_) | refine rgS [18] (md := { base := 0, own := [18] }) (h := ?_) | refine nx ?_) | refine pK (kp1) ?_ | refine pK (kp2) ?_); try simp (disch := omega) only [h3, h4, h5, h9, h12, h14, h15, h16, h69, h70, h71, hp, hy0, hx0, he, hs, hn1, hmo.1, beq_self_eq_true, cRun, cRules,go_sem, simprocAttr]) | (with_reducible refine bk ?_) | ((with_reducible refine' cE ?hv ?_ ?_); (case hv => first | rfl | (simp only [h3, h4, h5, h9, h12, h14, h15, h16, h69, h70, h71, hp, hy0, hx0, he, hs, hn1, hmo.1, beq_self_eq_true, cRun, cRules,go_sem, simprocAttr]; rfl)); all_goals (intro hc; (try simp only [go_sem, simprocAttr] at hc); try (exfalso; omega))) | ((with_reducible first | refine grdS_split ?_ ?_ | refine lkG_split ?_ ?_) <;> intro hg <;> (try simp (disch := omega) only [hg, h3, h4, h5, h9, h12, h14, h15, h16, h69, h70, h71, hp, hy0, hx0, he, hs, hn1, hmo.1, beq_self_eq_true, cRun, cRules,go_sem, simprocAttr]) <;> (try simp only [go_sem, simprocAttr] at hg) <;> (try (exfalso; omega))) | ((with_reducible refine fe ?_); refine ⟨_, (by simp only [Try.f8, h3, h4, h5, h9, h12, h14, h15, h16, h69, h70, h71, hp, hy0, hx0, he, hs, hn1, hmo.1, beq_self_eq_true, cRun, cRules,go_sem, simprocAttr]; rfl), ?_⟩; first | rfl | (try simp only [h3, h4, h5, h9, h12, h14, h15, h16, h69, h70, h71, hp, hy0, hx0, he, hs, hn1, hmo.1, beq_self_eq_true, cRun, cRules,go_sem, simprocAttr, seval])) | with_reducible intro (ep : Nat → Nat) | with_reducible apply_assumption -exfalso -symm only [*])
      · rw [e] at kp1 hmo
        have hx0 : ¬ x = 0 := by omega
        clear hx hy hcas
        repeat' (first | (with_reducible refine sk ?_; intro K hK) | ((first | (with_reducible first | refine rg (md := { base := 0, own := [18] }) (h := ?_) | refine rgS [18] (md := { base := 0, own := [18] }) (h := ?_) | refine nx ?_) | refine pK (kp1) ?_ | refine pK (kp2) ?_); try simp (disch := omega) only [h3, h4, h5, h9, h12, h14, h15, h16, h69, h70, h71, hp, hx0, he, hs, hn1, hmo.1, beq_self_eq_true, cRun, cRules,go_sem, simprocAttr]) | (with_reducible refine bk ?_) | ((with_reducible refine' cE ?hv ?_ ?_); (case hv => first | rfl | (simp only [h3, h4, h5, h9, h12, h14, h15, h16, h69, h70, h71, hp, hx0, he, hs, hn1, hmo.1, beq_self_eq_true, cRun, cRules,go_sem, simprocAttr]; rfl)); all_goals (intro hc; (try simp only [go_sem, simprocAttr] at hc); try (exfalso; omega))) | ((with_reducible first | refine grdS_split ?_ ?_ | refine lkG_split ?_ ?_) <;> intro hg <;> (try simp (disch := omega) only [hg, h3, h4, h5, h9, h12, h14, h15, h16, h69, h70, h71, hp, hx0, he, hs, hn1, hmo.1, beq_self_eq_true, cRun, cRules,go_sem, simprocAttr]) <;> (try simp only [go_sem, simprocAttr] at hg) <;> (try (exfalso; omega))) | ((with_reducible refine fe ?_); refine ⟨_, (by simp only [Try.f8, h3, h4, h5, h9, h12, h14, h15, h16, h69, h70, h71, hp, hx0, he, hs, hn1, hmo.1, beq_self_eq_true, cRun, cRules,go_sem, simprocAttr]; rfl), ?_⟩; first | rfl | (try simp only [h3, h4, h5, h9, h12, h14, h15, h16, h69, h70, h71, hp, hx0, he, hs, hn1, hmo.1, beq_self_eq_true, cRun, cRules,go_sem, simprocAttr, seval])) | with_reducible intro (ep : Nat → Nat) | with_reducible apply_assumption -exfalso -symm only [*])
      · rw [e] at kp1 hmo
        repeat' (first | (with_reducible refine sk ?_; intro K hK) | ((first | (with_reducible first | refine rg (md := { base := 0, own := [18] }) (h := ?_) | refine rgS [18] (md := { base := 0, own := [18] }) (h := ?_) | refine nx ?_) | refine pK (kp1) ?_ | refine pK (kp2) ?_); try simp (disch := omega) only [h3, h4, h5, h9, h12, h14, h15, h16, h69, h70, h71, he, hs, hn1, hmo.1, beq_self_eq_true, cRun, cRules,go_sem, simprocAttr]) | (with_reducible refine bk ?_) | ((with_reducible refine' cE ?hv ?_ ?_); (case hv => first | rfl | (simp only [h3, h4, h5, h9, h12, h14, h15, h16, h69, h70, h71, he, hs, hn1, hmo.1, beq_self_eq_true, cRun, cRules,go_sem, simprocAttr]; rfl)); all_goals (intro hc; (try simp only [go_sem, simprocAttr] at hc); try (exfalso; omega))) | ((with_reducible first | refine grdS_split ?_ ?_ | refine lkG_split ?_ ?_) <;> intro hg <;> (try simp (disch := omega) only [hg, h3, h4, h5, h9, h12, h14, h15, h16, h69, h70, h71, he, hs, hn1, hmo.1, beq_self_eq_true, cRun, cRules,go_sem, simprocAttr]) <;> (try simp only [go_sem, simprocAttr] at hg) <;> (try (exfalso; omega))) | ((with_reducible refine fe ?_); refine ⟨_, (by simp only [Try.f8, h3, h4, h5, h9, h12, h14, h15, h16, h69, h70, h71, he, hs, hn1, hmo.1, beq_self_eq_true, cRun, cRules,go_sem, simprocAttr]; rfl), ?_⟩; first | rfl | (try simp only [h3, h4, h5, h9, h12, h14, h15, h16, h69, h70, h71, he, hs, hn1, hmo.1, beq_self_eq_true, cRun, cRules,go_sem, simprocAttr, seval])) | with_reducible intro (ep : Nat → Nat) | with_reducible apply_assumption -exfalso -symm only [*])
  · simp only [Bool.not_eq_true] at hr
    refine PureC_of (fn := Try.f8) tabOK (by kernel_rfl) rfl (by kernel_rfl) (by simp [Try.f8]) (by simp [noids, noid, noidss, go_sem, encRun, cRun, encRules, cRules]) (by first | rfl | simp [noids, noid, noidss, go_sem, encRun, cRun, encRules, cRules]) ?_
    intro X hX0 hXs
    repeat' (first | (with_reducible refine sk ?_; intro K hK) | ((first | (with_reducible first | refine rg (md := { base := 0, own := [18] }) (h := ?_) | refine rgS [18] (md := { base := 0, own := [18] }) (h := ?_) | refine nx ?_) | refine pK (alive_run) ?_ | refine pK (ready_ok r u) ?_); try simp (disch := omega) only [encRun, cRun, encRules, cRules, hr,go_sem, simprocAttr]) | (with_reducible refine bk ?_) | ((with_reducible refine' cE ?hv ?_ ?_); (case hv => first | rfl | (simp only [encRun, cRun, encRules, cRules, hr,go_sem, simprocAttr]; rfl)); all_goals (intro hc; (try simp only [go_sem, simprocAttr] at hc); try (exfalso; omega))) | ((with_reducible first | refine grdS_split ?_ ?_ | refine lkG_split ?_ ?_) <;> intro hg <;> (try simp (disch := omega) only [hg, encRun, cRun, encRules, cRules, hr,go_sem, simprocAttr]) <;> (try simp only [go_sem, simprocAttr] at hg) <;> (try (exfalso; omega))) | ((with_reducible refine fe ?_); refine ⟨_, (by simp only [Try.f8, encRun, cRun, encRules, cRules, hr,go_sem, simprocAttr]; rfl), ?_⟩; first | rfl | (try simp only [encRun, cRun, encRules, cRules, hr,go_sem, simprocAttr, seval])) | with_reducible intro (ep : Nat → Nat) | with_reducible apply_assumption -exfalso -symm only [*])
end Cp
