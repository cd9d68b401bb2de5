/- Rules, facts and contracts that the statement's proof leans on. Conditions: none. -/
import Derived.Test.YtopgldaekcmekaaGreatDoorP9
set_option linter.unusedVariables false
set_option linter.unusedSimpArgs false
set_option linter.unusedSectionVars false
namespace Cp
open Go Go.Proofs
set_option maxRecDepth 10000
set_option maxHeartbeats 4000000
theorem indexBrc_ok (xs : List Brc) (hx : xs.length ≤ 4611686018427387904) (g : FuncId) (caps : List Val) (hcp : noids caps = true) (p : Brc → Bool) (hp : ∀ x ∈ xs, PureC Tryz.prog g (.agg (cBrc x) :: caps) (.bool (p x))) :
  PureC Tryz.prog 61 [.lst 4 (xs.map cBrc), .fn g caps] (.int .i64 (idxFrom p xs 0)) := by
 simp only [cBrc] at hp
 refine PureC_of (fn := Tryz.f61) tabOK (by kernel_rfl) rfl (by kernel_rfl) (by simp [Tryz.f61]) (by simp [noids, noid, noidss, go_sem, hcp]) (by first | rfl | simp [noids, noid, noidss, go_sem, hcp]) ?_
 intro X hX0 hXs
 repeat' (first | with_reducible (first | (refine sk ?_; intro K hK) | apply_assumption -exfalso -symm only [*]) | ((with_reducible refine rg (h := ?_)); try simp (disch := omega) only [go_sem, simprocAttr]) | fail)
 refine AW_range tabOK xs.length (fun k f H => f 0 = .lst 4 (xs.map cBrc) ∧ f 1 = .fn g caps ∧ H = none0 ∧ idxFrom p xs 0 = idxFrom p (xs.drop k) k) hx (by rw [hXs]; decide) (by decide) (by simp only [go_sem, simprocAttr]) (by simp only [go_sem, simprocAttr]) ⟨by simp only [go_sem, simprocAttr], by simp only [go_sem, simprocAttr], rfl, by simp⟩ ?_ ?_
 ·rintro k f H hk h8 h7 ⟨h0, h1, rfl, hr⟩
  obtain ⟨x, hx⟩ : ∃ x, xs[k]? = some x := ⟨_, List.getElem?_eq_getElem hk⟩
  repeat' (first | with_reducible (first | (refine sk ?_; intro K hK) | apply_assumption -exfalso -symm only [*]) | ((first | (with_reducible first | refine rg (h := ?_) | refine nx ?_) | refine pK (hp x (List.mem_of_getElem? hx)) ?_); try simp (disch := omega) only [h0, h1, h8, h7, hx, cBrc,go_sem, simprocAttr]) | ((with_reducible refine' cE ?hv ?_ ?_); (case hv => rfl); all_goals (intro hc)) | ((with_reducible refine fe ?_); refine ⟨_, (by simp only [Tryz.f61, h0, h1, h8, h7, hx, cBrc,go_sem, simprocAttr]; rfl), ?_⟩; (try simp only [h0, h1, h8, h7, hx, cBrc,go_sem, simprocAttr, seval])) | fail)
  ·rw [hr, drop_cons hx]; simp [idxFrom, hc]
  ·rw [hr, drop_cons hx]; simp [idxFrom, hc]
 ·rintro f H h8 h7 ⟨h0, h1, rfl, hr⟩
  repeat' (first | with_reducible (first | (refine sk ?_; intro K hK) | apply_assumption -exfalso -symm only [*]) | ((with_reducible first | refine rg (h := ?_) | refine nx ?_); try simp (disch := omega) only [go_sem, simprocAttr]) | ((with_reducible refine fe ?_); refine ⟨_, (by simp only [Tryz.f61, go_sem, simprocAttr]; rfl), ?_⟩; (try simp only [go_sem, simprocAttr, seval])) | fail)
  rw [hr]; simp [idxFrom]
theorem kept1_ok (b : Brc) : PureC Tryz.prog 62 [.agg (cBrc b)] (.bool (!p2 b)) := by
 refine PureC_of (fn := Tryz.f62) tabOK (by kernel_rfl) rfl (by kernel_rfl) (by simp [Tryz.f62]) (by simp [noids, noid, noidss, go_sem, cBrc]) (by first | rfl | simp [noids, noid, noidss, go_sem, cBrc]) ?_
 intro X hX0 hXs
 repeat' (first | with_reducible (first | (refine sk ?_; intro K hK) | apply_assumption -exfalso -symm only [*]) | ((with_reducible first | refine rg (h := ?_) | refine nx ?_); try simp (disch := omega) only [cBrc,go_sem, simprocAttr]) | ((with_reducible refine fe ?_); refine ⟨_, (by simp only [Tryz.f62, cBrc,go_sem, simprocAttr]; rfl), ?_⟩; (try simp only [cBrc,go_sem, simprocAttr, seval])) | fail)
 simp [p2]
def keptT (r : RunT) (u : RulesT) (t : Int) : Val :=
 if checkE r u = 0 then (if 0 ≤ t ∧ t ≤ r.rows.length then .tup [.int .u8 (keptL (leftS r u) t).1, .int .i64 (keptL (leftS r u) t).2, .int .i64 0] else .tup [.int .u8 0, .int .i64 0, .int .i64 2]) else .tup [.int .u8 0, .int .i64 0, .int .i64 (checkE r u)]
theorem Kept_ok (r : RunT) (u : RulesT) (hb : RunB r) (hu : RulesB u) (t : Int) : PureC Tryz.prog 25 [encRun r, encRules u, .int .i64 t] (keptT r u t) := by
 by_cases hc0 : checkE r u = 0
 ·obtain ⟨h1, h2⟩ := check0 hc0
  have hF := run_facts h1
  have hrl := hF.rows
  rw [keptT, if_pos hc0]
  by_cases ht : 0 ≤ t ∧ t ≤ r.rows.length
  ·rw [if_pos ht]
   obtain ⟨l, hl⟩ : ∃ l, leftS r u = l := ⟨_, rfl⟩
   have hlk := leftl_ok r hF u (rules_facts h2)
   have hll : l.length ≤ 1000 := by
    have := leftB_len (u := u) hF r.rows.length
    have : (leftS r u).length ≤ 11 * r.rows.length := this
    rw [← hl]; omega
   rw [hl] at hlk ⊢
   have hix := indexBrc_ok l (by omega) 62 [] rfl (fun b => !p2 b) (fun b _ => kept1_ok b)
   rw [idx_take] at hix
   have hfl : (l.takeWhile p2).length = firstK l := rfl
   rw [hfl] at hix
   by_cases hk : firstK l < l.length
   ·rw [if_pos hk, Int.zero_add] at hix
    obtain ⟨b, hbk⟩ : ∃ b, l[firstK l]? = some b := ⟨_, List.getElem?_eq_getElem hk⟩
    by_cases hbm : b.m ≤ t
    ·have hs : keptL l t = (0, b.m) := by unfold keptL; rw [hbk]; simp only; rw [if_pos hbm]
     rw [hs]
     refine PureC_of (fn := Tryz.f25) tabOK (by kernel_rfl) rfl (by kernel_rfl) (by simp [Tryz.f25]) (by simp [noids, noid, noidss, go_sem, encRun, cRun, encRules, cRules]) (by first | rfl | simp [noids, noid, noidss, go_sem, encRun, cRun, encRules, cRules]) ?_
     intro X hX0 hXs
     repeat' (first | with_reducible (first | (refine sk ?_; intro K hK) | apply_assumption -exfalso -symm only [*]) | ((first | (with_reducible first | refine rg (h := ?_) | refine nx ?_) | refine pK (check_ok r u hb hu) ?_ | refine pK (in_1 _ _ _) ?_ | refine pK (hlk) ?_ | refine pK (hix) ?_); try simp (disch := omega) only [encRun, cRun, encRules, cRules, hc0, ht.1, ht.2, hbk, hbm, cBrc,go_sem, simprocAttr]) | ((with_reducible refine' cE ?hv ?_ ?_); (case hv => rfl); all_goals (intro hc; (try simp only [go_sem, simprocAttr] at hc))) | ((with_reducible refine fe ?_); refine ⟨_, (by simp only [Tryz.f25, encRun, cRun, encRules, cRules, hc0, ht.1, ht.2, hbk, hbm, cBrc,go_sem, simprocAttr]; rfl), ?_⟩; rfl) | fail)
    ·have hs : keptL l t = firstS l t := by unfold keptL; rw [hbk]; simp only; rw [if_neg hbm]
     rw [hs]
     obtain ⟨a, hak⟩ : ∃ a, l[0]? = some a := ⟨_, List.getElem?_eq_getElem (by omega)⟩
     have hpos : (0 : Int) < (l.length : Int) := by omega
     by_cases ham : a.m ≤ t
     ·have hf : firstS l t = (1, a.m) := by unfold firstS; rw [hak]; simp only; rw [if_pos ham]
      rw [hf]
      refine PureC_of (fn := Tryz.f25) tabOK (by kernel_rfl) rfl (by kernel_rfl) (by simp [Tryz.f25]) (by simp [noids, noid, noidss, go_sem, encRun, cRun, encRules, cRules]) (by first | rfl | simp [noids, noid, noidss, go_sem, encRun, cRun, encRules, cRules]) ?_
      intro X hX0 hXs
      repeat' (first | with_reducible (first | (refine sk ?_; intro K hK) | apply_assumption -exfalso -symm only [*]) | ((first | (with_reducible first | refine rg (h := ?_) | refine nx ?_) | refine pK (check_ok r u hb hu) ?_ | refine pK (in_1 _ _ _) ?_ | refine pK (hlk) ?_ | refine pK (hix) ?_); try simp (disch := omega) only [encRun, cRun, encRules, cRules, hc0, ht.1, ht.2, hbk, hbm, hak, ham, hpos, cBrc,go_sem, simprocAttr]) | ((with_reducible refine' cE ?hv ?_ ?_); (case hv => rfl); all_goals (intro hc; (try simp only [go_sem, simprocAttr] at hc))) | ((with_reducible refine fe ?_); refine ⟨_, (by simp only [Tryz.f25, encRun, cRun, encRules, cRules, hc0, ht.1, ht.2, hbk, hbm, hak, ham, hpos, cBrc,go_sem, simprocAttr]; rfl), ?_⟩; rfl) | fail)
     ·have hf : firstS l t = (2, 0) := by unfold firstS; rw [hak]; simp only; rw [if_neg ham]
      rw [hf]
      refine PureC_of (fn := Tryz.f25) tabOK (by kernel_rfl) rfl (by kernel_rfl) (by simp [Tryz.f25]) (by simp [noids, noid, noidss, go_sem, encRun, cRun, encRules, cRules]) (by first | rfl | simp [noids, noid, noidss, go_sem, encRun, cRun, encRules, cRules]) ?_
      intro X hX0 hXs
      repeat' (first | with_reducible (first | (refine sk ?_; intro K hK) | apply_assumption -exfalso -symm only [*]) | ((first | (with_reducible first | refine rg (h := ?_) | refine nx ?_) | refine pK (check_ok r u hb hu) ?_ | refine pK (in_1 _ _ _) ?_ | refine pK (hlk) ?_ | refine pK (hix) ?_); try simp (disch := omega) only [encRun, cRun, encRules, cRules, hc0, ht.1, ht.2, hbk, hbm, hak, ham, hpos, cBrc,go_sem, simprocAttr]) | ((with_reducible refine' cE ?hv ?_ ?_); (case hv => rfl); all_goals (intro hc; (try simp only [go_sem, simprocAttr] at hc))) | ((with_reducible refine fe ?_); refine ⟨_, (by simp only [Tryz.f25, encRun, cRun, encRules, cRules, hc0, ht.1, ht.2, hbk, hbm, hak, ham, hpos, cBrc,go_sem, simprocAttr]; rfl), ?_⟩; rfl) | fail)
   ·rw [if_neg hk] at hix
    have hs : keptL l t = firstS l t := by unfold keptL; rw [List.getElem?_eq_none (by omega)]
    rw [hs]
    by_cases hpos : (0 : Int) < (l.length : Int)
    ·obtain ⟨a, hak⟩ : ∃ a, l[0]? = some a := ⟨_, List.getElem?_eq_getElem (by omega)⟩
     by_cases ham : a.m ≤ t
     ·have hf : firstS l t = (1, a.m) := by unfold firstS; rw [hak]; simp only; rw [if_pos ham]
      rw [hf]
      refine PureC_of (fn := Tryz.f25) tabOK (by kernel_rfl) rfl (by kernel_rfl) (by simp [Tryz.f25]) (by simp [noids, noid, noidss, go_sem, encRun, cRun, encRules, cRules]) (by first | rfl | simp [noids, noid, noidss, go_sem, encRun, cRun, encRules, cRules]) ?_
      intro X hX0 hXs
      repeat' (first | with_reducible (first | (refine sk ?_; intro K hK) | apply_assumption -exfalso -symm only [*]) | ((first | (with_reducible first | refine rg (h := ?_) | refine nx ?_) | refine pK (check_ok r u hb hu) ?_ | refine pK (in_1 _ _ _) ?_ | refine pK (hlk) ?_ | refine pK (hix) ?_); try simp (disch := omega) only [encRun, cRun, encRules, cRules, hc0, ht.1, ht.2, hak, ham, hpos, cBrc,go_sem, simprocAttr]) | ((with_reducible refine' cE ?hv ?_ ?_); (case hv => rfl); all_goals (intro hc; (try simp only [go_sem, simprocAttr] at hc))) | ((with_reducible refine fe ?_); refine ⟨_, (by simp only [Tryz.f25, encRun, cRun, encRules, cRules, hc0, ht.1, ht.2, hak, ham, hpos, cBrc,go_sem, simprocAttr]; rfl), ?_⟩; rfl) | fail)
     ·have hf : firstS l t = (2, 0) := by unfold firstS; rw [hak]; simp only; rw [if_neg ham]
      rw [hf]
      refine PureC_of (fn := Tryz.f25) tabOK (by kernel_rfl) rfl (by kernel_rfl) (by simp [Tryz.f25]) (by simp [noids, noid, noidss, go_sem, encRun, cRun, encRules, cRules]) (by first | rfl | simp [noids, noid, noidss, go_sem, encRun, cRun, encRules, cRules]) ?_
      intro X hX0 hXs
      repeat' (first | with_reducible (first | (refine sk ?_; intro K hK) | apply_assumption -exfalso -symm only [*]) | ((first | (with_reducible first | refine rg (h := ?_) | refine nx ?_) | refine pK (check_ok r u hb hu) ?_ | refine pK (in_1 _ _ _) ?_ | refine pK (hlk) ?_ | refine pK (hix) ?_); try simp (disch := omega) only [encRun, cRun, encRules, cRules, hc0, ht.1, ht.2, hak, ham, hpos, cBrc,go_sem, simprocAttr]) | ((with_reducible refine' cE ?hv ?_ ?_); (case hv => rfl); all_goals (intro hc; (try simp only [go_sem, simprocAttr] at hc))) | ((with_reducible refine fe ?_); refine ⟨_, (by simp only [Tryz.f25, encRun, cRun, encRules, cRules, hc0, ht.1, ht.2, hak, ham, hpos, cBrc,go_sem, simprocAttr]; rfl), ?_⟩; rfl) | fail)
    ·have hf : firstS l t = (2, 0) := by unfold firstS; rw [List.getElem?_eq_none (by omega)]
     rw [hf]
     refine PureC_of (fn := Tryz.f25) tabOK (by kernel_rfl) rfl (by kernel_rfl) (by simp [Tryz.f25]) (by simp [noids, noid, noidss, go_sem, encRun, cRun, encRules, cRules]) (by first | rfl | simp [noids, noid, noidss, go_sem, encRun, cRun, encRules, cRules]) ?_
     intro X hX0 hXs
     repeat' (first | with_reducible (first | (refine sk ?_; intro K hK) | apply_assumption -exfalso -symm only [*]) | ((first | (with_reducible first | refine rg (h := ?_) | refine nx ?_) | refine pK (check_ok r u hb hu) ?_ | refine pK (in_1 _ _ _) ?_ | refine pK (hlk) ?_ | refine pK (hix) ?_); try simp (disch := omega) only [encRun, cRun, encRules, cRules, hc0, ht.1, ht.2, hpos, cBrc,go_sem, simprocAttr]) | ((with_reducible refine' cE ?hv ?_ ?_); (case hv => rfl); all_goals (intro hc; (try simp only [go_sem, simprocAttr] at hc))) | ((with_reducible refine fe ?_); refine ⟨_, (by simp only [Tryz.f25, encRun, cRun, encRules, cRules, hc0, ht.1, ht.2, hpos, cBrc,go_sem, simprocAttr]; rfl), ?_⟩; rfl) | fail)
  ·rw [if_neg ht]
   refine PureC_of (fn := Tryz.f25) tabOK (by kernel_rfl) rfl (by kernel_rfl) (by simp [Tryz.f25]) (by simp [noids, noid, noidss, go_sem, encRun, cRun, encRules, cRules]) (by first | rfl | simp [noids, noid, noidss, go_sem, encRun, cRun, encRules, cRules]) ?_
   intro X hX0 hXs
   repeat' (first | with_reducible (first | (refine sk ?_; intro K hK) | apply_assumption -exfalso -symm only [*]) | ((first | (with_reducible first | refine rg (h := ?_) | refine nx ?_) | refine pK (check_ok r u hb hu) ?_ | refine pK (in_1 _ _ _) ?_); try simp (disch := omega) only [encRun, cRun, encRules, cRules, hc0,go_sem, simprocAttr]) | ((with_reducible refine' cE ?hv ?_ ?_); (case hv => rfl); all_goals (intro hc; (try simp only [go_sem, simprocAttr] at hc); try (exfalso; omega))) | ((with_reducible refine fe ?_); refine ⟨_, (by simp only [Tryz.f25, encRun, cRun, encRules, cRules, hc0,go_sem, simprocAttr]; rfl), ?_⟩; rfl) | fail)
 ·rw [keptT, if_neg hc0]
  refine PureC_of (fn := Tryz.f25) tabOK (by kernel_rfl) rfl (by kernel_rfl) (by simp [Tryz.f25]) (by simp [noids, noid, noidss, go_sem, encRun, cRun, encRules, cRules]) (by first | rfl | simp [noids, noid, noidss, go_sem, encRun, cRun, encRules, cRules]) ?_
  intro X hX0 hXs
  repeat' (first | with_reducible (first | (refine sk ?_; intro K hK) | apply_assumption -exfalso -symm only [*]) | ((first | (with_reducible first | refine rg (h := ?_) | refine nx ?_) | refine pK (check_ok r u hb hu) ?_); try simp (disch := omega) only [encRun, cRun, encRules, cRules, hc0,go_sem, simprocAttr]) | ((with_reducible refine' cE ?hv ?_ ?_); (case hv => rfl); all_goals (intro hc; (try simp only [go_sem, simprocAttr] at hc))) | ((with_reducible refine fe ?_); refine ⟨_, (by simp only [Tryz.f25, encRun, cRun, encRules, cRules, hc0,go_sem, simprocAttr]; rfl), ?_⟩; rfl) | fail)
theorem rKept_ok (r : RunT) (u : RulesT) (hb : RunB r) (hu : RulesB u) (t : Int) : PureC Tryz.prog 52 [encRun r, encRules u, .int .i64 t] (keptT r u t) := by
 by_cases hc0 : checkE r u = 0
 ·obtain ⟨h1, h2⟩ := check0 hc0
  have hF := run_facts h1
  have hrl := hF.rows
  rw [keptT, if_pos hc0]
  by_cases ht : 0 ≤ t ∧ t ≤ r.rows.length
  ·rw [if_pos ht]
   have hlk := rleft_ok r hF u (rules_facts h2)
   have hsort : (leftS r u).Pairwise brLt := leftB_pair hF
   obtain ⟨l, hl⟩ : ∃ l, leftS r u = l := ⟨_, rfl⟩
   have hll : l.length ≤ 1000 := by
    have := leftB_len (u := u) hF r.rows.length
    have : (leftS r u).length ≤ 11 * r.rows.length := this
    rw [← hl]; omega
   rw [hl] at hlk hsort ⊢
   refine PureC_of (fn := Tryz.f52) tabOK (by kernel_rfl) rfl (by kernel_rfl) (by simp [Tryz.f52]) (by simp [noids, noid, noidss, go_sem, encRun, cRun, encRules, cRules]) (by first | rfl | simp [noids, noid, noidss, go_sem, encRun, cRun, encRules, cRules]) ?_
   intro X hX0 hXs
   repeat' (first | with_reducible (first | (refine sk ?_; intro K hK) | apply_assumption -exfalso -symm only [*]) | ((first | (with_reducible first | refine rg (h := ?_) | refine nx ?_) | refine pK (rcheck_ok r u hb hu) ?_ | refine pK (rwithin_ok _ _ _) ?_ | refine pK (hlk) ?_); try simp (disch := omega) only [encRun, cRun, encRules, cRules, hc0, ht.1, ht.2,go_sem, simprocAttr]) | ((with_reducible refine' cE ?hv ?_ ?_); (case hv => rfl); all_goals (intro hc; (try simp only [go_sem, simprocAttr] at hc))) | fail)
   refine AW_block (AW_loop (fun n f H => ∃ j : Nat, n = l.length - j ∧ j ≤ l.length ∧ (f 2 = .int .i64 t ∧ f 12 = .lst 4 (l.map cBrc) ∧ f 13 = .int .i64 j) ∧ (∀ i b, i < j → l[i]? = some b → ¬ b.known = 2) ∧ ∃ kk mm, f 10 = .int .u8 kk ∧ f 11 = .int .i64 mm ∧ ((j = 0 ∧ kk = 2 ∧ mm = 0) ∨ (0 < j ∧ kk = 1 ∧ ∃ a, l[0]? = some a ∧ a.m ≤ t ∧ mm = a.m))) l.length
    ⟨0, by simp, Nat.zero_le _, by (and_intros <;> first | rfl | (simp only [go_sem, simprocAttr]; done) | (simp only [go_sem, simprocAttr]; rfl)), fun i b h => by omega, 2, 0, by (first | rfl | (simp only [go_sem, simprocAttr]; done) | (simp only [go_sem, simprocAttr]; rfl)), by (first | rfl | (simp only [go_sem, simprocAttr]; done) | (simp only [go_sem, simprocAttr]; rfl)), .inl ⟨rfl, rfl, rfl⟩⟩ ?_)
   rintro n f H ⟨j, rfl, hj, ⟨g2, g12, g13⟩, hno, kk, mm, g10, g11, hst⟩
   refine AW_keep [] ?_
   by_cases hjl : j < l.length
   ·obtain ⟨b, hbj⟩ : ∃ b, l[j]? = some b := ⟨_, List.getElem?_eq_getElem hjl⟩
    by_cases hm : b.m ≤ t
    ·by_cases hk2 : b.known = 2
     ·have hs := keptL_sure hno hbj hk2 hm
      rw [hs]
      rcases hst with ⟨rfl, rfl, rfl⟩ | ⟨hj0, rfl, a, ha, ham, rfl⟩
      ·repeat' (first | with_reducible (first | (refine sk ?_; intro K hK) | refine bk ?_ | apply_assumption -exfalso -symm only [*]) | ((with_reducible first | refine rg (h := ?_) | refine nx ?_); try simp (disch := omega) only [g2, g10, g11, g12, g13, hbj, hm, hk2, cBrc,go_sem, simprocAttr]) | ((with_reducible refine' cE ?hv ?_ ?_); (case hv => rfl); all_goals (intro hc; (try simp only [go_sem, simprocAttr] at hc); try (exfalso; omega))) | ((with_reducible refine fe ?_); refine ⟨_, (by simp only [Tryz.f52, g2, g10, g11, g12, g13, hbj, hm, hk2, cBrc,go_sem, simprocAttr]; rfl), ?_⟩; rfl) | fail)
      ·repeat' (first | with_reducible (first | (refine sk ?_; intro K hK) | refine bk ?_ | apply_assumption -exfalso -symm only [*]) | ((with_reducible first | refine rg (h := ?_) | refine nx ?_); try simp (disch := omega) only [g2, g10, g11, g12, g13, hbj, hm, hk2, cBrc,go_sem, simprocAttr]) | ((with_reducible refine' cE ?hv ?_ ?_); (case hv => rfl); all_goals (intro hc; (try simp only [go_sem, simprocAttr] at hc); try (exfalso; omega))) | ((with_reducible refine fe ?_); refine ⟨_, (by simp only [Tryz.f52, g2, g10, g11, g12, g13, hbj, hm, hk2, cBrc,go_sem, simprocAttr]; rfl), ?_⟩; rfl) | fail)
     ·have hno' : ∀ i c, i < j + 1 → l[i]? = some c → ¬ c.known = 2 := fun i c hi hc => by
       by_cases hij : i = j
       ·subst hij; rw [hbj] at hc; cases hc; exact hk2
       ·exact hno i c (by omega) hc
      rcases hst with ⟨rfl, rfl, rfl⟩ | ⟨hj0, rfl, a, ha, ham, rfl⟩
      ·repeat' (first | with_reducible (first | (refine sk ?_; intro K hK) | refine bk ?_ | apply_assumption -exfalso -symm only [*]) | ((with_reducible first | refine rg (h := ?_) | refine nx ?_); try simp (disch := omega) only [g2, g10, g11, g12, g13, hbj, hm, hk2, cBrc,go_sem, simprocAttr]) | ((with_reducible refine' cE ?hv ?_ ?_); (case hv => rfl); all_goals (intro hc; (try simp only [go_sem, simprocAttr] at hc); try (exfalso; omega))) | fail)
       exact ⟨l.length - (0 + 1), by omega, 0 + 1, rfl, by omega, rfl, hno', _, _, rfl, rfl, .inr ⟨by omega, rfl, b, rfl, hm, rfl⟩⟩
      ·repeat' (first | with_reducible (first | (refine sk ?_; intro K hK) | refine bk ?_ | apply_assumption -exfalso -symm only [*]) | ((with_reducible first | refine rg (h := ?_) | refine nx ?_); try simp (disch := omega) only [g2, g10, g11, g12, g13, hbj, hm, hk2, cBrc,go_sem, simprocAttr]) | ((with_reducible refine' cE ?hv ?_ ?_); (case hv => rfl); all_goals (intro hc; (try simp only [go_sem, simprocAttr] at hc); try (exfalso; omega))) | fail)
       exact ⟨l.length - (j + 1), by omega, j + 1, rfl, by omega, rfl, hno', _, _, rfl, rfl, .inr ⟨by omega, rfl, a, ha, ham, rfl⟩⟩
    ·have hs := keptL_stop hsort hno hbj (t := t) (by omega)
     have hf : firstS l t = (kk, mm) := by
      unfold firstS
      rcases hst with ⟨rfl, rfl, rfl⟩ | ⟨hj0, rfl, a, ha, ham, rfl⟩
      ·rw [hbj]; simp only; rw [if_neg hm]
      ·rw [ha]; simp only; rw [if_pos ham]
     clear hst
     repeat' (first | with_reducible (first | (refine sk ?_; intro K hK) | refine bk ?_ | apply_assumption -exfalso -symm only [*]) | ((with_reducible first | refine rg (h := ?_) | refine nx ?_); try simp (disch := omega) only [g2, g10, g11, g12, g13, hbj, hm, cBrc,go_sem, simprocAttr]) | ((with_reducible refine' cE ?hv ?_ ?_); (case hv => rfl); all_goals (intro hc; (try simp only [go_sem, simprocAttr] at hc); try (exfalso; omega))) | ((with_reducible refine fe ?_); refine ⟨_, (by simp only [Tryz.f52, g2, g10, g11, g12, g13, hbj, hm, cBrc,go_sem, simprocAttr]; rfl), ?_⟩; (try simp only [g2, g10, g11, g12, g13, hbj, hm, cBrc,go_sem, simprocAttr, seval])) | fail)
     rw [hs, hf]; exact ⟨rfl, rfl⟩
   ·obtain rfl : j = l.length := by omega
    have hs := keptL_end (t := t) hno
    have hf : firstS l t = (kk, mm) := by
     unfold firstS
     rcases hst with ⟨h0, rfl, rfl⟩ | ⟨hj0, rfl, a, ha, ham, rfl⟩
     ·rw [List.getElem?_eq_none (by omega)]
     ·rw [ha]; simp only; rw [if_pos ham]
    clear hst
    repeat' (first | with_reducible (first | (refine sk ?_; intro K hK) | apply_assumption -exfalso -symm only [*]) | ((with_reducible first | refine rg (h := ?_) | refine nx ?_); try simp (disch := omega) only [g2, g10, g11, g12, g13, cBrc,go_sem, simprocAttr]) | ((with_reducible refine' cE ?hv ?_ ?_); (case hv => rfl); all_goals (intro hc; (try simp only [go_sem, simprocAttr] at hc); try (exfalso; omega))) | ((with_reducible refine fe ?_); refine ⟨_, (by simp only [Tryz.f52, g2, g10, g11, g12, g13, cBrc,go_sem, simprocAttr]; rfl), ?_⟩; (try simp only [g2, g10, g11, g12, g13, cBrc,go_sem, simprocAttr, seval])) | fail)
    rw [hs, hf]; exact ⟨rfl, rfl⟩
  ·rw [if_neg ht]
   refine PureC_of (fn := Tryz.f52) tabOK (by kernel_rfl) rfl (by kernel_rfl) (by simp [Tryz.f52]) (by simp [noids, noid, noidss, go_sem, encRun, cRun, encRules, cRules]) (by first | rfl | simp [noids, noid, noidss, go_sem, encRun, cRun, encRules, cRules]) ?_
   intro X hX0 hXs
   repeat' (first | with_reducible (first | (refine sk ?_; intro K hK) | apply_assumption -exfalso -symm only [*]) | ((first | (with_reducible first | refine rg (h := ?_) | refine nx ?_) | refine pK (rcheck_ok r u hb hu) ?_ | refine pK (rwithin_ok _ _ _) ?_); try simp (disch := omega) only [encRun, cRun, encRules, cRules, hc0,go_sem, simprocAttr]) | ((with_reducible refine' cE ?hv ?_ ?_); (case hv => rfl); all_goals (intro hc; (try simp only [go_sem, simprocAttr] at hc); try (exfalso; omega))) | ((with_reducible refine fe ?_); refine ⟨_, (by simp only [Tryz.f52, encRun, cRun, encRules, cRules, hc0,go_sem, simprocAttr]; rfl), ?_⟩; rfl) | fail)
 ·rw [keptT, if_neg hc0]
  refine PureC_of (fn := Tryz.f52) tabOK (by kernel_rfl) rfl (by kernel_rfl) (by simp [Tryz.f52]) (by simp [noids, noid, noidss, go_sem, encRun, cRun, encRules, cRules]) (by first | rfl | simp [noids, noid, noidss, go_sem, encRun, cRun, encRules, cRules]) ?_
  intro X hX0 hXs
  repeat' (first | with_reducible (first | (refine sk ?_; intro K hK) | apply_assumption -exfalso -symm only [*]) | ((first | (with_reducible first | refine rg (h := ?_) | refine nx ?_) | refine pK (rcheck_ok r u hb hu) ?_); try simp (disch := omega) only [encRun, cRun, encRules, cRules, hc0,go_sem, simprocAttr]) | ((with_reducible refine' cE ?hv ?_ ?_); (case hv => rfl); all_goals (intro hc; (try simp only [go_sem, simprocAttr] at hc))) | ((with_reducible refine fe ?_); refine ⟨_, (by simp only [Tryz.f52, encRun, cRun, encRules, cRules, hc0,go_sem, simprocAttr]; rfl), ?_⟩; rfl) | fail)
end Cp
namespace Cp
open Go Go.Proofs
set_option maxRecDepth 10000
set_option maxHeartbeats 1000000
theorem frzH_idem (H : Hp) : frzH (frzH H) = frzH H := by
 funext k
 unfold frzH
 cases H k with
 | none => rfl
 | some p => obtain ⟨e, o⟩ := p; cases o <;> rfl
theorem LookC.frz {P : Program} {fid : FuncId} {args : List Val} {H : Hp} {v : Val} (h : LookC P fid args H v) : LookC P fid args (frzH H) v :=
 ⟨h.1, h.2.1, fun G w xs hR hv => h.2.2 G w xs (by rw [frzH_idem] at hR; exact hR) hv⟩
theorem classes_ok : PureC Tryz.prog 41 [] (.lst 1 (ints clsL)) := by
 refine PureC_of (fn := Tryz.f41) tabOK (by kernel_rfl) rfl (by kernel_rfl) (by simp [Tryz.f41]) (by simp [noids, noid, noidss, go_sem, clsL, ints]) (by first | rfl | simp [noids, noid, noidss, go_sem, clsL, ints]) ?_
 intro X hX0 hXs
 repeat' (first | with_reducible (first | (refine sk ?_; intro K hK) | apply_assumption -exfalso -symm only [*]) | ((with_reducible first | refine rg (h := ?_) | refine nx ?_); try simp (disch := omega) only [clsL, ints,go_sem, simprocAttr]) | ((with_reducible refine fe ?_); refine ⟨_, (by simp only [Tryz.f41, clsL, ints,go_sem, simprocAttr]; rfl), ?_⟩; rfl) | fail)
theorem ints_at {l : List Int} {k : Nat} {x : Int} (h : l[k]? = some x) : (ints l)[k]? = some [.int .i64 x] := by rw [ints, List.getElem?_map, h]; rfl
def tw (p : Int → Bool) (l : List Int) : Bool := !(l.takeWhile p).isEmpty
theorem tw_t {p : Int → Bool} {x : Int} {l : List Int} (h : p x = true) : tw p (x :: l) = true := by simp [tw, List.takeWhile_cons, h]
theorem tw_f {p : Int → Bool} {x : Int} {l : List Int} (h : p x = false) : tw p (x :: l) = false := by simp [tw, List.takeWhile_cons, h]
theorem greatest_look (xs : List Int) (hx : xs.length ≤ 1000) (g : FuncId) (caps : List Val) (p : Int → Bool) (H : Hp) (hp : ∀ x ∈ xs, LookC Tryz.prog g (.int .i64 x :: caps) H (.bool (p x))) :
  LookC Tryz.prog 40 [.lst 1 (ints xs), .fn g caps] H (.tup [.int .i64 (grt p xs 0), .bool (tw p xs)]) := by
 refine LookC_of (fn := Tryz.f40) tabOK (by kernel_rfl) rfl (by kernel_rfl) (by simp [Tryz.f40]) rfl ?_
 intro X hX0 hXs
 have hil : (ints xs).length = xs.length := by simp [ints]
 repeat' (first | with_reducible (first | (refine sk ?_; intro K hK) | apply_assumption -exfalso -symm only [*]) | ((with_reducible refine rgL [] [18] (h := ?_)); try simp (disch := omega) only [hil,go_sem, simprocAttr]) | fail)
 refine AW_range tabOK xs.length (fun k f H1 => (f 1 = .fn g caps ∧ f 10 = .lst 1 (ints xs) ∧ H1 = frzH H) ∧ ∃ b fd, f 6 = .int .i64 b ∧ f 7 = .bool fd ∧ grt p xs 0 = grt p (xs.drop k) b ∧ tw p xs = (fd || tw p (xs.drop k))) (by omega) (by rw [hXs]; decide) (by decide) (by (first | rfl | (simp only [go_sem, simprocAttr]; done) | (simp only [go_sem, simprocAttr]; rfl))) (by (first | rfl | (simp only [hil, go_sem, simprocAttr]; done) | (simp only [hil, go_sem, simprocAttr]; rfl)))
  ⟨⟨by (first | rfl | (simp only [go_sem, simprocAttr]; done) | (simp only [go_sem, simprocAttr]; rfl)), by (first | rfl | (simp only [go_sem, simprocAttr]; done) | (simp only [go_sem, simprocAttr]; rfl)), rfl⟩, 0, false, by (first | rfl | (simp only [go_sem, simprocAttr]; done) | (simp only [go_sem, simprocAttr]; rfl)), by (first | rfl | (simp only [go_sem, simprocAttr]; done) | (simp only [go_sem, simprocAttr]; rfl)), rfl, rfl⟩ ?_ ?_
 ·rintro k f H1 hk h12 h11 ⟨⟨h1, h10, rfl⟩, b, fd, h6, h7, hg, hf⟩
  obtain ⟨x, hx⟩ : ∃ x, xs[k]? = some x := ⟨_, List.getElem?_eq_getElem hk⟩
  have hxa := ints_at hx
  have hpx := (hp x (List.mem_of_getElem? hx)).frz
  rw [drop_cons hx] at hg hf
  simp only [grt] at hg
  cases hb : p x with
  | true =>
   rw [hb] at hpx hg
   rw [tw_t hb] at hf
   simp only [if_true, Bool.or_true] at hg hf
   repeat' (first | with_reducible (first | (refine sk ?_; intro K hK) | apply_assumption -exfalso -symm only [*]) | ((first | (with_reducible first | refine rgL [] [18] (h := ?_) | refine nx ?_) | refine lK (hpx) ?_); try simp (disch := omega) only [h1, h6, h7, h10, h11, h12, hxa,go_sem, simprocAttr]) | ((with_reducible refine' cE ?hv ?_ ?_); (case hv => rfl); all_goals (intro hc; (try simp only [go_sem, simprocAttr] at hc))) | fail)
   exact ⟨x, true, rfl, rfl, hg, by rw [hf]; rfl⟩
  | false =>
   rw [hb] at hpx hg
   rw [tw_f hb] at hf
   simp only [Bool.false_eq_true, if_false, Bool.or_false] at hg hf
   repeat' (first | with_reducible (first | (refine sk ?_; intro K hK) | apply_assumption -exfalso -symm only [*]) | ((first | (with_reducible first | refine rgL [] [18] (h := ?_) | refine nx ?_) | refine lK (hpx) ?_); try simp (disch := omega) only [h1, h6, h7, h10, h11, h12, hxa,go_sem, simprocAttr]) | ((with_reducible refine' cE ?hv ?_ ?_); (case hv => rfl); all_goals (intro hc; (try simp only [go_sem, simprocAttr] at hc))) | ((with_reducible refine fe ?_); refine ⟨_, (by simp only [Tryz.f40, h1, h6, h7, h10, h11, h12, hxa,go_sem, simprocAttr]; rfl), ?_⟩; (try simp only [h1, h6, h7, h10, h11, h12, hxa,go_sem, simprocAttr, seval])) | fail)
   rw [hg, hf]; exact ⟨rfl, rfl⟩
 ·rintro f H1 h12 h11 ⟨⟨h1, h10, rfl⟩, b, fd, h6, h7, hg, hf⟩
  rw [drop_none (Nat.le_refl _)] at hg hf
  have e0 : tw p [] = false := rfl
  rw [e0] at hf
  simp only [grt, Bool.or_false] at hg hf
  repeat' (first | with_reducible (first | (refine sk ?_; intro K hK) | apply_assumption -exfalso -symm only [*]) | ((with_reducible first | refine rgL [] [18] (h := ?_) | refine nx ?_); try simp (disch := omega) only [h6, h7,go_sem, simprocAttr]) | ((with_reducible refine fe ?_); refine ⟨_, (by simp only [Tryz.f40, h6, h7,go_sem, simprocAttr]; rfl), ?_⟩; (try simp only [h6, h7,go_sem, simprocAttr, seval])) | fail)
  rw [hg, hf]; exact ⟨rfl, rfl⟩
theorem cfurnace_look (t : TestT) (hF : TestF t) (hb : TestB t) (c : Int) (hc : 1 ≤ c ∧ c ≤ 60) (eb em ver : Nat) (m : List SeenT) (H : Hp) (hL : TriL t eb em ver m H) :
  LookC Tryz.prog 43 [.ptr 2204 eb 24 0 0, .int .i64 c] H (.int .u8 (knownAt t c)) := by
 have h4 := frzH_arr hL.1
 have hk := Kept_ok t.run t.rules hb.run hb.rules c
 have hrl := hF.rows
 refine LookC_of (fn := Tryz.f43) tabOK (by kernel_rfl) rfl (by kernel_rfl) (by simp [Tryz.f43]) rfl ?_
 intro X hX0 hXs
 unfold knownAt
 by_cases hlt : (t.run.rows.length : Int) < c
 ·rw [if_pos hlt]
  repeat' (first | with_reducible (first | (refine sk ?_; intro K hK) | apply_assumption -exfalso -symm only [*]) | ((with_reducible first | refine rg (md := { base := 2900, own := [] }) (h := ?_) | refine nx ?_); try simp (disch := omega) only [h4, trialV, cTest, hlt,go_sem, simprocAttr]) | ((with_reducible refine' cE ?hv ?_ ?_); (case hv => rfl); all_goals (intro hc; (try simp only [go_sem, simprocAttr] at hc))) | ((with_reducible refine fe ?_); refine ⟨_, (by simp only [Tryz.f43, h4, trialV, cTest, hlt,go_sem, simprocAttr]; rfl), ?_⟩; rfl) | fail)
 ·rw [if_neg hlt]
  rw [keptT, if_pos hF.check, if_pos (by omega)] at hk
  simp only [encRun, cRun, encRules, cRules] at hk
  repeat' (first | with_reducible (first | (refine sk ?_; intro K hK) | apply_assumption -exfalso -symm only [*]) | ((first | (with_reducible first | refine rg (md := { base := 2900, own := [] }) (h := ?_) | refine nx ?_) | refine pK (hk) ?_); try simp (disch := omega) only [h4, trialV, cTest, hlt, encRun, cRun, encRules, cRules,go_sem, simprocAttr]) | ((with_reducible refine' cE ?hv ?_ ?_); (case hv => rfl); all_goals (intro hc; (try simp only [go_sem, simprocAttr] at hc))) | ((with_reducible refine fe ?_); refine ⟨_, (by simp only [Tryz.f43, h4, trialV, cTest, hlt, encRun, cRun, encRules, cRules,go_sem, simprocAttr]; rfl), ?_⟩; rfl) | fail)
theorem knownAt_bnd {t : TestT} {c : Int} : 0 ≤ knownAt t c ∧ knownAt t c ≤ 2 := by
 have := knownAt_mono (t := t) (Int.le_refl c); omega
theorem sure1_look (t : TestT) (hF : TestF t) (hb : TestB t) (F : FailT) (c : Int) (hc : 1 ≤ c ∧ c ≤ 60) (eb em ver : Nat) (m : List SeenT) (H : Hp) (hL : TriL t eb em ver m H) (kf ef : Nat) (hf : H kf = some (ef, .arr 3 [cFail F])) :
  LookC Tryz.prog 67 [.int .i64 c, .ptr kf ef 3 0 0, .pim [.ptr 2204 eb 24 0 0]] H (.bool (sureF2 t F c)) := by
 refine LookC_of (fn := Tryz.f67) tabOK (by kernel_rfl) rfl (by kernel_rfl) (by simp [Tryz.f67]) rfl ?_
 unfold sureF2
 have h4 := frzH_arr hL.1
 have h5 := frzH_arr hf
 have hkn := (cfurnace_look t hF hb c hc eb em ver m H hL).frz
 have hfin := hF.fin
 have hck := hF.clock
 have hkb := @knownAt_bnd t c
 intro X hX0 hXs
 generalize knownAt t c = kn at *
 simp only [trialV, cTest, cFail] at h4 h5
 by_cases h2 : F.held = 2
 ·by_cases h3 : 60 * c ≤ t.fin - t.clock.hi
  ·repeat' (first | with_reducible (first | (refine sk ?_; intro K hK) | apply_assumption -exfalso -symm only [*]) | ((first | (with_reducible first | refine rgL [] [36] (md := { base := 2950, own := [] }) (h := ?_) | refine nx ?_) | refine lK (hkn) ?_); try simp (disch := omega) only [h4, h5, h2, h3,go_sem, simprocAttr]) | ((with_reducible refine fe ?_); refine ⟨_, (by simp only [Tryz.f67, h4, h5, h2, h3,go_sem, simprocAttr]; rfl), ?_⟩; rfl) | fail)
  ·repeat' (first | with_reducible (first | (refine sk ?_; intro K hK) | apply_assumption -exfalso -symm only [*]) | ((with_reducible first | refine rgL [] [36] (md := { base := 2950, own := [] }) (h := ?_) | refine nx ?_); try simp (disch := omega) only [h4, h5, h2, h3,go_sem, simprocAttr]) | ((with_reducible refine fe ?_); refine ⟨_, (by simp only [Tryz.f67, h4, h5, h2, h3,go_sem, simprocAttr]; rfl), ?_⟩; rfl) | fail)
 ·by_cases hlo : 60 * c < F.at1.lo
  ·by_cases h3 : 60 * c ≤ t.fin - t.clock.hi
   ·repeat' (first | with_reducible (first | (refine sk ?_; intro K hK) | apply_assumption -exfalso -symm only [*]) | ((first | (with_reducible first | refine rgL [] [36] (md := { base := 2950, own := [] }) (h := ?_) | refine nx ?_) | refine lK (hkn) ?_); try simp (disch := omega) only [h4, h5, h2, hlo, h3,go_sem, simprocAttr]) | ((with_reducible refine fe ?_); refine ⟨_, (by simp only [Tryz.f67, h4, h5, h2, hlo, h3,go_sem, simprocAttr]; rfl), ?_⟩; rfl) | fail)
   ·repeat' (first | with_reducible (first | (refine sk ?_; intro K hK) | apply_assumption -exfalso -symm only [*]) | ((with_reducible first | refine rgL [] [36] (md := { base := 2950, own := [] }) (h := ?_) | refine nx ?_); try simp (disch := omega) only [h4, h5, h2, hlo, h3,go_sem, simprocAttr]) | ((with_reducible refine fe ?_); refine ⟨_, (by simp only [Tryz.f67, h4, h5, h2, hlo, h3,go_sem, simprocAttr]; rfl), ?_⟩; rfl) | fail)
  ·repeat' (first | with_reducible (first | (refine sk ?_; intro K hK) | apply_assumption -exfalso -symm only [*]) | ((with_reducible first | refine rgL [] [36] (md := { base := 2950, own := [] }) (h := ?_) | refine nx ?_); try simp (disch := omega) only [h4, h5, h2, hlo,go_sem, simprocAttr]) | ((with_reducible refine fe ?_); refine ⟨_, (by simp only [Tryz.f67, h4, h5, h2, hlo,go_sem, simprocAttr]; rfl), ?_⟩; rfl) | fail)
theorem class1_look (t : TestT) (hF : TestF t) (hb : TestB t) (F : FailT) (c : Int) (hc : 1 ≤ c ∧ c ≤ 60) (eb em ver : Nat) (m : List SeenT) (H : Hp) (hL : TriL t eb em ver m H) (kf ef : Nat) (hf : H kf = some (ef, .arr 3 [cFail F])) (kx ex : Nat) (hx : H kx = some (ex, .arr 1 [[.ptr 2204 eb 24 0 0]])) :
  LookC Tryz.prog 42 [.int .i64 c, .ptr kf ef 3 0 0, .ptr kx ex 1 0 0] H (.bool (mayF2 t F c)) := by
 refine LookC_of (fn := Tryz.f42) tabOK (by kernel_rfl) rfl (by kernel_rfl) (by simp [Tryz.f42]) rfl ?_
 unfold mayF2
 have h6 := frzH_arr hx
 have h4 := frzH_arr hL.1
 have h5 := frzH_arr hf
 have hkn := (cfurnace_look t hF hb c hc eb em ver m H hL).frz
 have hfin := hF.fin
 have hck := hF.clock
 have hkb := @knownAt_bnd t c
 intro X hX0 hXs
 generalize knownAt t c = kn at *
 simp only [trialV, cTest, cFail] at h4 h5
 by_cases h2 : F.held = 0
 ·by_cases hlo : 60 * c < F.at1.hi
  ·by_cases h3 : 60 * c ≤ t.fin - t.clock.lo
   ·repeat' (first | with_reducible (first | (refine sk ?_; intro K hK) | apply_assumption -exfalso -symm only [*]) | ((first | (with_reducible first | refine rgL [] [36] (md := { base := 2950, own := [] }) (h := ?_) | refine nx ?_) | refine lK (hkn) ?_); try simp (disch := omega) only [h4, h5, h6, h2, hlo, h3,go_sem, simprocAttr]) | ((with_reducible refine fe ?_); refine ⟨_, (by simp only [Tryz.f42, h4, h5, h6, h2, hlo, h3,go_sem, simprocAttr]; rfl), ?_⟩; rfl) | fail)
   ·repeat' (first | with_reducible (first | (refine sk ?_; intro K hK) | apply_assumption -exfalso -symm only [*]) | ((with_reducible first | refine rgL [] [36] (md := { base := 2950, own := [] }) (h := ?_) | refine nx ?_); try simp (disch := omega) only [h4, h5, h6, h2, hlo, h3,go_sem, simprocAttr]) | ((with_reducible refine fe ?_); refine ⟨_, (by simp only [Tryz.f42, h4, h5, h6, h2, hlo, h3,go_sem, simprocAttr]; rfl), ?_⟩; rfl) | fail)
  ·repeat' (first | with_reducible (first | (refine sk ?_; intro K hK) | apply_assumption -exfalso -symm only [*]) | ((with_reducible first | refine rgL [] [36] (md := { base := 2950, own := [] }) (h := ?_) | refine nx ?_); try simp (disch := omega) only [h4, h5, h6, h2, hlo,go_sem, simprocAttr]) | ((with_reducible refine fe ?_); refine ⟨_, (by simp only [Tryz.f42, h4, h5, h6, h2, hlo,go_sem, simprocAttr]; rfl), ?_⟩; rfl) | fail)
 ·by_cases h3 : 60 * c ≤ t.fin - t.clock.lo
  ·repeat' (first | with_reducible (first | (refine sk ?_; intro K hK) | apply_assumption -exfalso -symm only [*]) | ((first | (with_reducible first | refine rgL [] [36] (md := { base := 2950, own := [] }) (h := ?_) | refine nx ?_) | refine lK (hkn) ?_); try simp (disch := omega) only [h4, h5, h6, h2, h3,go_sem, simprocAttr]) | ((with_reducible refine fe ?_); refine ⟨_, (by simp only [Tryz.f42, h4, h5, h6, h2, h3,go_sem, simprocAttr]; rfl), ?_⟩; rfl) | fail)
  ·repeat' (first | with_reducible (first | (refine sk ?_; intro K hK) | apply_assumption -exfalso -symm only [*]) | ((with_reducible first | refine rgL [] [36] (md := { base := 2950, own := [] }) (h := ?_) | refine nx ?_); try simp (disch := omega) only [h4, h5, h6, h2, h3,go_sem, simprocAttr]) | ((with_reducible refine fe ?_); refine ⟨_, (by simp only [Tryz.f42, h4, h5, h6, h2, h3,go_sem, simprocAttr]; rfl), ?_⟩; rfl) | fail)
end Cp
namespace Cp
open Go
def nextC (s : Int) : Int := (clsL.find? fun c => decide (s < c)).getD 0
def stopsC (t : TestT) (next : Int) (c : Nat) : Bool := !decide ((failC t c).held = 2) && decide ((failC t c).at1.lo ≤ 60 * next)
def critsL (t : TestT) (next : Int) (n : Nat) : List Int := ((List.range n).filter (stopsC t next)).map fun c => ((c + 1 : Nat) : Int)
def endL (t : TestT) (next : Int) : List Int := if t.fin - t.clock.hi < 60 * next then [7] else []
def furnL (t : TestT) (next : Int) : List Int := if knownAt t next = 2 then [] else [8]
def stopsS (t : TestT) (l : Nat) : List Int := if nextC (sureS t l) = 0 then [] else critsL t (nextC (sureS t l)) (2 * l) ++ endL t (nextC (sureS t l)) ++ furnL t (nextC (sureS t l))
theorem critsL_succ {t : TestT} {next : Int} {n : Nat} : critsL t next (n + 1) = critsL t next n ++ (if stopsC t next n = true then [((n + 1 : Nat) : Int)] else []) := by
 unfold critsL
 rw [List.range_succ, List.filter_append, List.map_append]
 by_cases h : stopsC t next n = true <;> simp [h]
theorem critsL_len {t : TestT} {next : Int} {n : Nat} : (critsL t next n).length ≤ n := by
 unfold critsL
 rw [List.length_map]
 have := List.length_filter_le (stopsC t next) (List.range n)
 rwa [List.length_range] at this
theorem nextC_cases (s : Int) : (nextC s = 0 ∧ ∀ c ∈ clsL, c ≤ s) ∨ (nextC s ∈ clsL ∧ s < nextC s ∧ ∀ c ∈ clsL, s < c → nextC s ≤ c) := by
 have gen : ∀ (l : List Int), l.Pairwise (· ≤ ·) → ((l.find? fun c => decide (s < c)) = none ∧ ∀ c ∈ l, c ≤ s) ∨ ∃ x, (l.find? fun c => decide (s < c)) = some x ∧ x ∈ l ∧ s < x ∧ ∀ c ∈ l, s < c → x ≤ c := by
  intro l
  induction l with
  | nil => intro _; exact .inl ⟨rfl, by simp⟩
  | cons a l ih =>
   intro hs
   obtain ⟨s1, s2⟩ := List.pairwise_cons.1 hs
   rw [List.find?_cons]
   by_cases h : s < a
   ·rw [decide_eq_true h]
    refine .inr ⟨a, rfl, by simp, h, fun c hc _ => ?_⟩
    rcases List.mem_cons.1 hc with rfl | hc
    ·exact Int.le_refl _
    ·exact s1 c hc
   ·rw [decide_eq_false h]
    rcases ih s2 with ⟨q1, q2⟩ | ⟨x, q1, q2, q3, q4⟩
    ·refine .inl ⟨q1, fun c hc => ?_⟩
     rcases List.mem_cons.1 hc with rfl | hc
     ·omega
     ·exact q2 c hc
    ·refine .inr ⟨x, q1, by simp [q2], q3, fun c hc hlt => ?_⟩
     rcases List.mem_cons.1 hc with rfl | hc
     ·exact absurd hlt h
     ·exact q4 c hc hlt
 unfold nextC
 rcases gen clsL clsL_up with ⟨q1, q2⟩ | ⟨x, q1, q2⟩
 ·rw [q1]; exact .inl ⟨rfl, q2⟩
 ·rw [q1]; exact .inr q2
theorem nextC_idx (s : Int) : nextC s = 0 ∧ idxFrom (fun c => decide (s < c)) clsL 0 = -1 ∨ ∃ k : Nat, k < 7 ∧ idxFrom (fun c => decide (s < c)) clsL 0 = (k : Int) ∧ clsL[k]? = some (nextC s) ∧ nextC s ≠ 0 := by
 unfold nextC clsL
 simp only [idxFrom, List.find?]
 by_cases h5 : s < 5
 ·exact .inr ⟨0, by decide, by simp [h5], by simp [h5], by simp [h5]⟩
 by_cases h10 : s < 10
 ·exact .inr ⟨1, by decide, by simp [h5, h10], by simp [h5, h10], by simp [h5, h10]⟩
 by_cases h15 : s < 15
 ·exact .inr ⟨2, by decide, by simp [h5, h10, h15], by simp [h5, h10, h15], by simp [h5, h10, h15]⟩
 by_cases h20 : s < 20
 ·exact .inr ⟨3, by decide, by simp [h5, h10, h15, h20], by simp [h5, h10, h15, h20], by simp [h5, h10, h15, h20]⟩
 by_cases h30 : s < 30
 ·exact .inr ⟨4, by decide, by simp [h5, h10, h15, h20, h30], by simp [h5, h10, h15, h20, h30], by simp [h5, h10, h15, h20, h30]⟩
 by_cases h45 : s < 45
 ·exact .inr ⟨5, by decide, by simp [h5, h10, h15, h20, h30, h45], by simp [h5, h10, h15, h20, h30, h45], by simp [h5, h10, h15, h20, h30, h45]⟩
 by_cases h60 : s < 60
 ·exact .inr ⟨6, by decide, by simp [h5, h10, h15, h20, h30, h45, h60], by simp [h5, h10, h15, h20, h30, h45, h60], by simp [h5, h10, h15, h20, h30, h45, h60]⟩
 exact .inl ⟨by simp [h5, h10, h15, h20, h30, h45, h60], by simp [h5, h10, h15, h20, h30, h45, h60]⟩
end Cp
namespace Cp
open Go Go.Proofs
set_option maxRecDepth 10000
set_option maxHeartbeats 1000000
theorem told_any {F : FailT} (h : F.held = 0 ∨ F.held = 1 ∨ F = ⟨2, ⟨0, 0⟩⟩) : ∃ ty v fid, encI F = .iface ty v ∧ Meth Tryz.prog ty "cottonpad/class.told" fid ∧ PureC Tryz.prog fid [v] (encFail F) := by
 rcases h with h | h | rfl
 ·refine ⟨_, _, _, if_neg (by omega), meth_b, ?_⟩
  have := btold_ok F.at1.lo F.at1.hi (decide (F.held = 0))
  simp only [h, decide_true, if_true] at this ⊢
  obtain ⟨a, b, c⟩ := F
  simp only at h; subst h
  exact this
 ·refine ⟨_, _, _, if_neg (by omega), meth_b, ?_⟩
  have := btold_ok F.at1.lo F.at1.hi (decide (F.held = 0))
  obtain ⟨a, b, c⟩ := F
  simp only at h; subst h
  simpa using this
 ·exact ⟨_, _, _, if_pos rfl, meth_k, ktold_ok⟩
theorem cls_r {c : Int} (h : c ∈ clsL) : 1 ≤ c ∧ c ≤ 60 := by have := clsL_pos h; omega
theorem csure_ok (t : TestT) (hF : TestF t) (hb : TestB t) (l : Nat) (hl : 1 ≤ l ∧ l ≤ 3) (eb em ver : Nat) (m : List SeenT) (hS : SeenM t 6 m) (H0 : Hp) (hL : TriL t eb em ver m H0) :
  ACall Tryz.prog 44 [.ptr 2204 eb 24 0 0, .int .u8 (l : Int)] H0 fun v H' => v = .int .i64 (sureS t l) ∧ ∀ j, j < 2440 → H' j = H0 j := by
 refine ACall_of (fn := Tryz.f44) tabOK (by kernel_rfl) rfl (by kernel_rfl) (by simp [Tryz.f44]) ?_
 intro X hX0 hXs
 obtain ⟨ty, fv, fid, he, hm, hp⟩ := told_any (fstS_held (failsL t (2 * l)))
 have hle : letterS t l = fstS (failsL t (2 * l)) := rfl
 rw [← hle] at he hp
 have hsu : sureS t l = grt (sureF2 t (letterS t l)) clsL 0 := rfl
 rw [hsu]
 have cl := letter_ok t hF.ok hF.rows.2 l hl eb em ver m hS
 generalize letterS t l = F at *
 refine AW_lose 2445 fun H1 g5 hs1 => ?_
 have hL1 : TriL t eb em ver m H1 := ⟨(hs1 2204 (by decide)).trans hL.1, (hs1 2202 (by decide)).trans hL.2⟩
 have hlo1 : ∃ _ : Unit, ∀ j, j < 2440 → H1 j = H0 j := ⟨(), fun j hj => hs1 j (by omega)⟩
 clear hs1 hL hle hsu
 repeat' (first | with_reducible (first | (refine sk ?_; intro K hK) | apply_assumption -exfalso -symm only [*]) | ((with_reducible first | refine AW_regG (id := 1) tabOK { base := 2440, own := [], imp := [10] } [] [15] (by rw [hXs]; decide +kernel) ?_ | refine rgL [] [15] (md := { base := 2440, own := [], imp := [10] }) (h := ?_)); try simp (disch := omega) only [go_sem, simprocAttr]) | fail)
 refine iK (cl _ hL1) ?_
 rintro v H3 ⟨rfl, hlo⟩
 have g5' := (hlo 2445 (by decide)).trans g5
 have hL3 : TriL t eb em ver m H3 := ⟨(hlo 2204 (by decide)).trans hL1.1, (hlo 2202 (by decide)).trans hL1.2⟩
 have hlo3 : ∃ _ : Unit, ∀ j, j < 2440 → H3 j = H0 j := by obtain ⟨_, h⟩ := hlo1; exact ⟨(), fun j hj => (hlo j (by omega)).trans (h j hj)⟩
 clear hlo hlo1 cl hL1 g5
 rw [he]
 simp only [go_sem, simprocAttr]
 refine ⟨_, hm, pK hp ?_⟩
 simp only [go_sem, simprocAttr, encFail, cFail, g5']
 repeat' (first | with_reducible (first | (refine sk ?_; intro K hK) | intro (ep : Nat → Nat) | apply_assumption -exfalso -symm only [*]) | ((first | (with_reducible refine rgL [] [15] (md := { base := 2440, own := [], imp := [10] }) (h := ?_)) | refine pK (classes_ok) ?_); try simp (disch := omega) only [encFail, cFail, g5',go_sem, simprocAttr]) | fail)
 refine lK (greatest_look clsL (by decide) _ _ (sureF2 t F) _ fun x hx => sure1_look t hF hb F x (cls_r hx) eb em ver m _ ⟨?_, ?_⟩ _ _ ?_) ?_
 ·exact (upd_ne _ _ (by decide)).trans hL3.1
 ·exact (upd_ne _ _ (by decide)).trans hL3.2
 ·exact upd_same _ _ _
 simp only [go_sem, simprocAttr]
 repeat' (first | with_reducible (first | (refine sk ?_; intro K hK) | apply_assumption -exfalso -symm only [*]) | ((with_reducible first | refine rgL [] [15] (md := { base := 2440, own := [], imp := [10] }) (h := ?_) | refine nx ?_); try simp (disch := omega) only [go_sem, simprocAttr]) | fail)
 refine FnQ_end (Or.inl rfl) (.refl _) (by simp only [Tryz.f44, go_sem, simprocAttr]; rfl) ?_
 obtain ⟨_, hlo3⟩ := hlo3
 exact ⟨rfl, fun j hj => by first | exact hlo3 j hj | (simp only [upd]; (repeat rw [if_neg (by omega)]); exact hlo3 j hj)⟩
end Cp
namespace Cp
open Go Go.Proofs
set_option maxRecDepth 10000
set_option maxHeartbeats 1000000
def classV (t : TestT) (l : Int) : Val := if checkT t = 0 then (if 1 ≤ l ∧ l ≤ 3 then .tup [encSpan ⟨sureS t l.toNat, mayS t l.toNat⟩, .int .i64 0] else .tup [encSpan ⟨0, 0⟩, .int .i64 2]) else .tup [encSpan ⟨0, 0⟩, .int .i64 (checkT t)]
theorem cClass_ok (t : TestT) (hb : TestB t) (l : Int) (hl : 0 ≤ l ∧ l ≤ 255) : PureC Tryz.prog 14 [encTest t, .int .u8 l] (classV t l) := by
 have hnv : noid (classV t l) = true := by unfold classV; (repeat' split) <;> rfl
 have ho := lettered_ok t hb l hl
 simp only [encTest, cTest] at ho
 refine PureC_of (fn := Tryz.f14) tabOK (by kernel_rfl) rfl (by kernel_rfl) (by simp [Tryz.f14]) (by simp [noids, noid, noidss, go_sem, encTest, cTest, hnv]) (by first | rfl | simp [noids, noid, noidss, go_sem, encTest, cTest, hnv]) ?_
 intro X hX0 hXs
 unfold classV at hnv ⊢
 by_cases h : checkT t = 0
 ·rw [if_pos h] at hnv ⊢
  have hF := testF h
  by_cases hcr : 1 ≤ l ∧ l ≤ 3
  ·rw [if_pos hcr] at hnv ⊢
   obtain ⟨k, rfl⟩ : ∃ k : Nat, l = (k : Int) := ⟨l.toNat, by omega⟩
   have hk3 : 1 ≤ k ∧ k ≤ 3 := by omega
   rw [Int.toNat_natCast] at hnv ⊢
   obtain ⟨ty, fv, fid, he, hm, hp⟩ := told_any (fstS_held (failsL t (2 * k)))
   have hle : letterS t k = fstS (failsL t (2 * k)) := rfl
   rw [← hle] at he hp
   have hsu : mayS t k = grt (mayF2 t (letterS t k)) clsL 0 := rfl
   rw [hsu] at hnv ⊢
   have cs := fun eb em ver m hS H h => csure_ok t hF hb k hk3 eb em ver m hS H h
   generalize sureS t k = sr at *
   have cl := fun eb em ver m hS H h => letter_ok t hF.ok hF.rows.2 k hk3 eb em ver m hS H h
   generalize letterS t k = F at *
   clear hsu hle
   repeat' (first | with_reducible (first | (refine sk ?_; intro K hK) | intro (ep : Nat → Nat) | apply_assumption -exfalso -symm only [*]) | ((with_reducible refine rgL [] [28] (md := { base := 0, own := [4], imp := [14, 23, 33] }) (h := ?_)); try simp (disch := omega) only [encTest, cTest,go_sem, simprocAttr]) | fail)
   refine iK (ho _) ?_
   rintro v H2 ⟨hlow, hv⟩
   rw [if_pos h, if_pos hcr] at hv
   obtain ⟨eb, em, ver, m, rfl, hTL, hS⟩ := hv
   have H24 := hlow 4 (by decide)
   have H26 := hlow 6 (by decide)
   have H28 := hlow 8 (by decide)
   clear hlow
   simp only [go_sem, simprocAttr] at H24 H26 H28
   simp only [go_sem, simprocAttr, H26]
   repeat' (first | with_reducible (first | (refine sk ?_; intro K hK) | intro (ep : Nat → Nat) | apply_assumption -exfalso -symm only [*]) | ((with_reducible first | refine AW_regG (id := 4) tabOK { base := 0, own := [4], imp := [14, 23, 33] } [] [28] (by rw [hXs]; decide +kernel) ?_ | refine rgL [] [28] (md := { base := 0, own := [4], imp := [14, 23, 33] }) (h := ?_) | refine nx ?_); try simp (disch := omega) only [H24, H26,go_sem, simprocAttr]) | ((with_reducible refine' cE ?hv ?_ ?_); (case hv => rfl); all_goals (intro hc; (try simp only [go_sem, simprocAttr] at hc))) | fail)
   refine iK (cl eb em ver m hS _ ⟨(upd_ne _ _ (by decide)).trans hTL.1, (upd_ne _ _ (by decide)).trans hTL.2⟩) ?_
   rintro v H3 ⟨rfl, hlo⟩
   have H34 := hlo 4 (by decide)
   have H36 := hlo 6 (by decide)
   have H38 := hlo 8 (by decide)
   have hTL3 : TriL t eb em ver m H3 := ⟨(hlo 2204 (by decide)).trans ((upd_ne _ _ (by decide)).trans hTL.1), (hlo 2202 (by decide)).trans ((upd_ne _ _ (by decide)).trans hTL.2)⟩
   clear hlo
   simp only [go_sem, simprocAttr, H24, H28] at H34 H36 H38
   rw [he]
   simp only [go_sem, simprocAttr]
   refine ⟨_, hm, pK hp ?_⟩
   simp only [go_sem, simprocAttr, encFail, cFail, H38]
   repeat' (first | with_reducible (first | (refine sk ?_; intro K hK) | intro (ep : Nat → Nat) | apply_assumption -exfalso -symm only [*]) | ((first | (with_reducible refine rgL [] [28] (md := { base := 0, own := [4], imp := [14, 23, 33] }) (h := ?_)) | refine pK (classes_ok) ?_); try simp (disch := omega) only [encFail, cFail, H34, H36, H38,go_sem, simprocAttr]) | fail)
   refine lK (greatest_look clsL (by decide) _ _ (mayF2 t F) _ fun x hx => class1_look t hF hb F x (cls_r hx) eb em ver m _ ⟨?_, ?_⟩ _ _ ?_ _ _ ?_) ?_
   ·exact (upd_ne _ _ (by decide)).trans hTL3.1
   ·exact (upd_ne _ _ (by decide)).trans hTL3.2
   ·exact upd_same _ _ _
   ·exact (upd_ne _ _ (by decide)).trans H36
   simp only [go_sem, simprocAttr]
   repeat' (first | with_reducible (first | (refine sk ?_; intro K hK) | apply_assumption -exfalso -symm only [*]) | ((with_reducible refine rgL [] [28] (md := { base := 0, own := [4], imp := [14, 23, 33] }) (h := ?_)); try simp (disch := omega) only [H34, H36, H38,go_sem, simprocAttr]) | fail)
   refine iK (cs eb em ver m hS _ ⟨(upd_ne _ _ (by decide)).trans hTL3.1, (upd_ne _ _ (by decide)).trans hTL3.2⟩) ?_
   rintro v H5 ⟨rfl, hlo⟩
   have H54 := hlo 4 (by decide)
   simp only [go_sem, simprocAttr, H34] at H54
   clear hlo
   simp only [go_sem, simprocAttr, H54]
   repeat' (first | with_reducible apply_assumption -exfalso -symm only [*] | ((with_reducible refine nx ?_); try simp (disch := omega) only [encSpan, H54,go_sem, simprocAttr]) | ((with_reducible refine fe ?_); refine ⟨_, (by simp only [Tryz.f14, encSpan, H54,go_sem, simprocAttr]; rfl), ?_⟩; rfl) | fail)
  ·rw [if_neg hcr] at hnv ⊢
   repeat' (first | with_reducible (first | (refine sk ?_; intro K hK) | intro (ep : Nat → Nat) | apply_assumption -exfalso -symm only [*]) | ((with_reducible refine rgL [] [28] (md := { base := 0, own := [4], imp := [14, 23, 33] }) (h := ?_)); try simp (disch := omega) only [encTest, cTest,go_sem, simprocAttr]) | fail)
   refine iK (ho _) ?_
   rintro v H2 ⟨hlow, hv⟩
   rw [if_pos h, if_neg hcr] at hv
   subst hv
   have H24 := hlow 4 (by decide)
   have H26 := hlow 6 (by decide)
   simp only [go_sem, simprocAttr] at H24 H26
   simp only [go_sem, simprocAttr, H26]
   repeat' (first | with_reducible (first | (refine sk ?_; intro K hK) | intro (ep : Nat → Nat) | apply_assumption -exfalso -symm only [*]) | ((with_reducible first | refine rgL [] [28] (md := { base := 0, own := [4], imp := [14, 23, 33] }) (h := ?_) | refine nx ?_); try simp (disch := omega) only [h, H24, H26, encSpan,go_sem, simprocAttr]) | ((with_reducible refine' cE ?hv ?_ ?_); (case hv => rfl); all_goals (intro hc; (try simp only [go_sem, simprocAttr] at hc))) | ((with_reducible refine fe ?_); refine ⟨_, (by simp only [Tryz.f14, h, H24, H26, encSpan,go_sem, simprocAttr]; rfl), ?_⟩; rfl) | fail)
 ·rw [if_neg h] at hnv ⊢
  repeat' (first | with_reducible (first | (refine sk ?_; intro K hK) | intro (ep : Nat → Nat) | apply_assumption -exfalso -symm only [*]) | ((with_reducible refine rgL [] [28] (md := { base := 0, own := [4], imp := [14, 23, 33] }) (h := ?_)); try simp (disch := omega) only [encTest, cTest,go_sem, simprocAttr]) | fail)
  refine iK (ho _) ?_
  rintro v H2 ⟨hlow, hv⟩
  rw [if_neg h] at hv
  subst hv
  have H24 := hlow 4 (by decide)
  have H26 := hlow 6 (by decide)
  simp only [go_sem, simprocAttr] at H24 H26
  simp only [go_sem, simprocAttr, H26]
  repeat' (first | with_reducible (first | (refine sk ?_; intro K hK) | intro (ep : Nat → Nat) | apply_assumption -exfalso -symm only [*]) | ((with_reducible first | refine rgL [] [28] (md := { base := 0, own := [4], imp := [14, 23, 33] }) (h := ?_) | refine nx ?_); try simp (disch := omega) only [h, H24, H26, encSpan,go_sem, simprocAttr]) | ((with_reducible refine' cE ?hv ?_ ?_); (case hv => rfl); all_goals (intro hc; (try simp only [go_sem, simprocAttr] at hc))) | ((with_reducible refine fe ?_); refine ⟨_, (by simp only [Tryz.f14, h, H24, H26, encSpan,go_sem, simprocAttr]; rfl), ?_⟩; rfl) | fail)
end Cp
namespace Cp
open Go
section
variable {P : Program} {T : Tab} {md : Me} {os : List Oper} {K : Fr → Hp → Prop} {f : Fr} {H : Hp} {d : Option Tmp} {ty : TypeId} {pos : String} {af : Array Edge} {g : Option (Nat × Bool)} {ss lk : List Nat}
@[go_sem] theorem stpL_typeAssert {t u : TypeId} {x : Operand} {c : Bool} : stpL P T md os ss lk { dst := d, op := .typeAssert x t u c, type := ty, pos := pos, after := af, guard := g } K f H = xstep P T md os { dst := d, op := .typeAssert x t u c, type := ty, pos := pos, after := af, guard := g } K f H :=
 propext ⟨fun h => h.2, fun h => ⟨trivial, h⟩⟩
@[go_sem] theorem stpL_makeInterface {t : TypeId} {x : Operand} : stpL P T md os ss lk { dst := d, op := .makeInterface t x, type := ty, pos := pos, after := af, guard := g } K f H = xstep P T md os { dst := d, op := .makeInterface t x, type := ty, pos := pos, after := af, guard := g } K f H :=
 propext ⟨fun h => h.2, fun h => ⟨trivial, h⟩⟩
end
section
variable {P : Program} {ro : Option Nat} {X : Cx} {Q : Exit → Fr → Hp → Prop} {f : Fr} {H : Hp} {c : Code}
theorem AW_lstMv (k' t : Nat) {k sz : Nat} {L : List (List Val)} (h : LstC k sz L (f t) H) (hk' : H k' = none) (hne : k ≠ k')
  (hc : ∀ f' H', LstC k' sz L (f' t) H' → (∀ j, ¬ j = t → f' j = f j) → (∀ j, ¬ j = k → ¬ j = k' → H' j = H j) → AW P ro X c Q f' H') : AW P ro X c Q f H := by
 rcases h with ⟨rfl, h⟩ | ⟨h0, ea, h, hk⟩
 ·exact hc f H (.inl ⟨rfl, h⟩) (fun _ _ => rfl) fun _ _ _ => rfl
 ·refine AW_mvArr k k' t h hk hk' hne fun e' => ?_
  exact hc _ _ (.inr ⟨h0, e', upd_same _ _ _, upd_same _ _ _⟩) (fun j hj => upd_ne _ _ hj) fun j hj hj' => (upd_ne _ _ hj').trans (upd_ne _ _ hj)
end
end Cp
namespace Cp
open Go Go.Proofs
set_option maxRecDepth 10000
set_option maxHeartbeats 1000000
def c8 (m : Int) : List Val := [.int .u8 m]
@[go_sem] theorem c8_noid {l : List Int} : noidss (l.map c8) = true := noidss_map fun _ => rfl
@[go_sem] theorem fzd_c8 {H : Hp} {n : Nat} {l : List Int} : ((l.map c8).map fun es => es.map (fzd H (n + 1))) = l.map c8 := map_id2 (fun _ => rfl) l
def stopsV (t : TestT) (l : Int) : Val := if checkT t = 0 then (if 1 ≤ l ∧ l ≤ 3 then .tup [.lst 1 ((stopsS t l.toNat).map c8), .int .i64 0] else .tup [.lst 1 [], .int .i64 2]) else .tup [.lst 1 [], .int .i64 (checkT t)]
theorem stops1_ok (s c : Int) : PureC Tryz.prog 49 [.int .i64 c, .pim [.int .i64 s]] (.bool (decide (s < c))) := by
 refine PureC_of (fn := Tryz.f49) tabOK (by kernel_rfl) rfl (by kernel_rfl) (by simp [Tryz.f49]) (by simp [noids, noid, noidss, go_sem]) (by first | rfl | simp [noids, noid, noidss, go_sem]) ?_
 intro X hX0 hXs
 repeat' (first | with_reducible (first | (refine sk ?_; intro K hK) | apply_assumption -exfalso -symm only [*]) | ((with_reducible first | refine rg (h := ?_) | refine nx ?_); try simp (disch := omega) only [go_sem, simprocAttr]) | ((with_reducible refine fe ?_); refine ⟨_, (by simp only [Tryz.f49, go_sem, simprocAttr]; rfl), ?_⟩; rfl) | fail)
theorem stopsS_next {t : TestT} {l : Nat} (h : nextC (sureS t l) ≠ 0) : stopsS t l = critsL t (nextC (sureS t l)) (2 * l) ++ endL t (nextC (sureS t l)) ++ furnL t (nextC (sureS t l)) := by
 unfold stopsS; rw [if_neg h]
theorem stopsS_none {t : TestT} {l : Nat} (h : nextC (sureS t l) = 0) : stopsS t l = [] := by
 unfold stopsS; rw [if_pos h]
theorem nextC_cls {s : Int} (h : nextC s ≠ 0) : 1 ≤ nextC s ∧ nextC s ≤ 60 := by
 rcases nextC_cases s with ⟨q, _⟩ | ⟨q, _⟩
 ·exact absurd q h
 ·exact cls_r q
theorem cStops_ok (t : TestT) (hb : TestB t) (l : Int) (hl : 0 ≤ l ∧ l ≤ 255) : PureC Tryz.prog 16 [encTest t, .int .u8 l] (stopsV t l) := by
 have ho := lettered_ok t hb l hl
 simp only [encTest, cTest] at ho
 unfold stopsV
 by_cases h : checkT t = 0
 ·rw [if_pos h]
  have hF := testF h
  by_cases hcr : 1 ≤ l ∧ l ≤ 3
  ·rw [if_pos hcr]
   obtain ⟨k, rfl⟩ : ∃ k : Nat, l = (k : Int) := ⟨l.toNat, by omega⟩
   have hk3 : 1 ≤ k ∧ k ≤ 3 := by omega
   rw [Int.toNat_natCast]
   have cs := fun eb em ver m hS H h => csure_ok t hF hb k hk3 eb em ver m hS H h
   have hix := nextC_idx (sureS t k)
   have hnn := @stopsS_none t k
   have hns := @stopsS_next t k
   have hnb := @nextC_cls (sureS t k)
   generalize stopsS t k = st at *
   generalize sureS t k = sr at *
   have h2k : (2 : Int) * (k : Int) = ((2 * k : Nat) : Int) := by omega
   have ci := indexInt_ok clsL (by decide) 49 [.pim [.int .i64 sr]] rfl (fun c => decide (sr < c)) (fun c _ => stops1_ok sr c)
   rcases hix with ⟨hn0, hi⟩ | ⟨j, hj, hi, hjx, hn0⟩
   ·rw [hnn hn0]
    rw [hi] at ci
    refine PureC.weak (v := .tup [.nils, .int .i64 0]) ?_ rfl fun G w x h => h.tup_nils
    refine PureC_of (fn := Tryz.f16) tabOK (by kernel_rfl) rfl (by kernel_rfl) (by simp [Tryz.f16]) (by simp [noids, noid, noidss, go_sem, encTest, cTest]) (by first | rfl | simp [noids, noid, noidss, go_sem, encTest, cTest]) ?_
    intro X hX0 hXs
    repeat' (first | with_reducible (first | (refine sk ?_; intro K hK) | apply_assumption -exfalso -symm only [*]) | ((with_reducible refine rgL [] [47, 87] (md := { base := 0, own := [65, 84, 91], imp := [18, 26] }) (h := ?_)); try simp (disch := omega) only [encTest, cTest,go_sem, simprocAttr]) | fail)
    refine iK (ho _) ?_
    rintro v H2 ⟨hlow, hv⟩
    rw [if_pos h, if_pos hcr] at hv
    obtain ⟨eb, em, ver, m, rfl, hTL, hS⟩ := hv
    have H28 := hlow 8 (by decide)
    clear hlow
    simp only [go_sem, simprocAttr] at H28 ⊢
    repeat' (first | with_reducible (first | (refine sk ?_; intro K hK) | apply_assumption -exfalso -symm only [*]) | ((with_reducible first | refine rgL [] [47, 87] (md := { base := 0, own := [65, 84, 91], imp := [18, 26] }) (h := ?_) | refine nx ?_); try simp (disch := omega) only [go_sem, simprocAttr]) | ((with_reducible refine' cE ?hv ?_ ?_); (case hv => rfl); all_goals (intro hc; (try simp only [go_sem, simprocAttr] at hc))) | fail)
    refine iK (cs eb em ver m hS _ hTL) ?_
    rintro v H3 ⟨rfl, hlo⟩
    have H38 := hlo 8 (by decide)
    clear hlo
    simp only [go_sem, simprocAttr, H28] at H38
    simp only [go_sem, simprocAttr, H38]
    repeat' (first | with_reducible (first | intro (ep : Nat → Nat) | apply_assumption -exfalso -symm only [*]) | fail)
    refine AW_freeze 8 (by (first | rfl | (simp only [go_sem, simprocAttr]; done) | (simp only [go_sem, simprocAttr]; rfl))) ?_
    refine AW_retell8 8 8 (v := .pim [.int .i64 sr]) (by (first | rfl | (simp only [go_sem, simprocAttr]; done) | (simp only [go_sem, simprocAttr]; rfl))) ?_
    repeat' (first | with_reducible (first | (refine sk ?_; intro K hK) | apply_assumption -exfalso -symm only [*]) | ((first | (with_reducible first | refine rgL [] [47, 87] (md := { base := 0, own := [65, 84, 91], imp := [18, 26] }) (h := ?_) | refine nx ?_) | refine pK (classes_ok) ?_ | refine pK (ci) ?_); try simp (disch := omega) only [go_sem, simprocAttr]) | ((with_reducible refine' cE ?hv ?_ ?_); (case hv => rfl); all_goals (intro hc; (try simp only [go_sem, simprocAttr] at hc))) | ((with_reducible refine fe ?_); refine ⟨_, (by simp only [Tryz.f16, go_sem, simprocAttr]; rfl), ?_⟩; rfl) | fail)
   ·have hns' := hns hn0
    have hnb' := hnb hn0
    have hja := ints_at hjx
    rw [hi] at ci
    generalize nextC sr = nx' at *
    have hcl := @critsL_len t nx' (2 * k)
    clear hnn hns hnb hjx
    refine PureC_of (fn := Tryz.f16) tabOK (by kernel_rfl) rfl (by kernel_rfl) (by simp [Tryz.f16]) (by simp [noids, noid, noidss, go_sem, encTest, cTest]) (by first | rfl | simp [noids, noid, noidss, go_sem, encTest, cTest]) ?_
    intro X hX0 hXs
    repeat' (first | with_reducible (first | (refine sk ?_; intro K hK) | apply_assumption -exfalso -symm only [*]) | ((with_reducible refine rgL [] [47, 87] (md := { base := 0, own := [65, 84, 91], imp := [18, 26] }) (h := ?_)); try simp (disch := omega) only [encTest, cTest,go_sem, simprocAttr]) | fail)
    refine iK (ho _) ?_
    rintro v H2 ⟨hlow, hv⟩
    rw [if_pos h, if_pos hcr] at hv
    obtain ⟨eb, em, ver, m, rfl, hTL, hS⟩ := hv
    have H28 := hlow 8 (by decide)
    clear hlow
    simp only [go_sem, simprocAttr] at H28 ⊢
    repeat' (first | with_reducible (first | (refine sk ?_; intro K hK) | apply_assumption -exfalso -symm only [*]) | ((with_reducible first | refine rgL [] [47, 87] (md := { base := 0, own := [65, 84, 91], imp := [18, 26] }) (h := ?_) | refine nx ?_); try simp (disch := omega) only [go_sem, simprocAttr]) | ((with_reducible refine' cE ?hv ?_ ?_); (case hv => rfl); all_goals (intro hc; (try simp only [go_sem, simprocAttr] at hc))) | fail)
    refine iK (cs eb em ver m hS _ hTL) ?_
    rintro v H3 ⟨rfl, hlo⟩
    have H38 := hlo 8 (by decide)
    have hTL3 : TriL t eb em ver m H3 := ⟨(hlo 2204 (by decide)).trans hTL.1, (hlo 2202 (by decide)).trans hTL.2⟩
    clear hlo hTL
    simp only [go_sem, simprocAttr, H28] at H38
    simp only [go_sem, simprocAttr, H38]
    repeat' (first | with_reducible (first | intro (ep : Nat → Nat) | apply_assumption -exfalso -symm only [*]) | fail)
    refine AW_freeze 8 (by (first | rfl | (simp only [go_sem, simprocAttr]; done) | (simp only [go_sem, simprocAttr]; rfl))) ?_
    refine AW_retell8 8 8 (v := .pim [.int .i64 sr]) (by (first | rfl | (simp only [go_sem, simprocAttr]; done) | (simp only [go_sem, simprocAttr]; rfl))) ?_
    refine AW_keep [2204, 2202] ?_
    generalize hHq : (keep _ _ : Hp) = H4
    have hTL4 : TriL t eb em ver m H4 := ⟨by rw [← hHq]; exact hTL3.1, by rw [← hHq]; exact hTL3.2⟩
    clear hHq hTL3 H38 H28
    repeat' (first | with_reducible (first | ((fail_if_success (refine AW_at (id := 10) ?_)); refine sk ?_; intro K hK) | apply_assumption -exfalso -symm only [*]) | ((first | (with_reducible first | refine rgL [] [47, 87] (md := { base := 0, own := [65, 84, 91], imp := [18, 26] }) (h := ?_) | refine nx ?_) | refine pK (classes_ok) ?_ | refine pK (ci) ?_); try simp (disch := omega) only [hja,go_sem, simprocAttr]) | ((with_reducible refine' cE ?hv ?_ ?_); (case hv => rfl); all_goals (intro hc; (try simp only [go_sem, simprocAttr] at hc); try (exfalso; omega))) | fail)
    have hfin := hF.fin
    have hck := hF.clock
    have hcut : ∀ f H, (f 6 = .ptr 2204 eb 24 0 0 ∧ f 10 = .int .i64 nx') ∧ TriL t eb em ver m H ∧ LstC 65 1 ((critsL t nx' (2 * k)).map c8) (f 11) H → K f H := by
     rintro f H ⟨⟨h6, h10⟩, hT, hL⟩
     refine hK f H ?_
     clear hK hTL4 ci hja hc
     refine AW_keep [65, 2204, 2202] ?_
     have k84 : keep H [65, 2204, 2202] 84 = none := rfl
     have kT : TriL t eb em ver m (keep H [65, 2204, 2202]) := ⟨hT.1, hT.2⟩
     have kL : LstC 65 1 ((critsL t nx' (2 * k)).map c8) (f 11) (keep H [65, 2204, 2202]) := hL.same rfl
     generalize keep H [65, 2204, 2202] = H5 at *
     clear hT hL
     refine AW_lstMv 84 11 kL k84 (by decide) fun f6 H6 hL6 hf6 hH6 => ?_
     have g6 := (hf6 6 (by decide)).trans h6
     have g10 := (hf6 10 (by decide)).trans h10
     have hT6 : TriL t eb em ver m H6 := ⟨(hH6 2204 (by decide) (by decide)).trans kT.1, (hH6 2202 (by decide) (by decide)).trans kT.2⟩
     clear hf6 hH6 kL kT k84 h6 h10
     repeat' (first | with_reducible ((fail_if_success (refine AW_at (id := 17) ?_)); refine sk ?_; intro K hK) | fail)
     have hcut2 : ∀ f H, (f 6 = .ptr 2204 eb 24 0 0 ∧ f 10 = .int .i64 nx') ∧ TriL t eb em ver m H ∧ LstC 84 1 ((critsL t nx' (2 * k) ++ endL t nx').map c8) (f 11) H → K f H := by
      clear g6 g10 hT6 hL6
      rintro f H ⟨⟨h6, h10⟩, hT, hL⟩
      refine hK f H ?_
      clear hK
      have hel : (endL t nx').length ≤ 1 := by unfold endL; split <;> simp
      refine AW_keep [84, 2204, 2202] ?_
      have k91 : keep H [84, 2204, 2202] 91 = none := rfl
      have kT : TriL t eb em ver m (keep H [84, 2204, 2202]) := ⟨hT.1, hT.2⟩
      have kL : LstC 84 1 ((critsL t nx' (2 * k) ++ endL t nx').map c8) (f 11) (keep H [84, 2204, 2202]) := hL.same rfl
      generalize keep H [84, 2204, 2202] = H5 at *
      clear hT hL
      refine AW_lstMv 91 11 kL k91 (by decide) fun f6 H6 hL6 hf6 hH6 => ?_
      have g6 := (hf6 6 (by decide)).trans h6
      have g10 := (hf6 10 (by decide)).trans h10
      have hT6 : TriL t eb em ver m H6 := ⟨(hH6 2204 (by decide) (by decide)).trans kT.1, (hH6 2202 (by decide) (by decide)).trans kT.2⟩
      clear hf6 hH6 kL kT k91 h6 h10
      have hfu := cfurnace_look t hF hb nx' hnb' eb em ver m
      have hkb := @knownAt_bnd t nx'
      have hfl : furnL t nx' = if knownAt t nx' = 2 then [] else [8] := rfl
      generalize knownAt t nx' = kn at *
      repeat' (first | with_reducible ((fail_if_success (refine AW_at (id := 19) ?_)); refine sk ?_; intro K hK) | fail)
      have hcut3 : ∀ f H, LstC 91 1 (st.map c8) (f 11) H → K f H := by
       clear g6 g10 hT6 hL6 hfu
       intro f H hL
       refine hK f H ?_
       clear hK
       have hz : ∀ H : Hp, ((st.map c8).map fun es => es.map (fzd H 5)) = st.map c8 := fun H => map_id2 (fun _ => rfl) _
       refine AW_lstC (t := 11) hz hL fun f2 H2 h3 hf2 hH2 => ?_
       clear hf2 hH2 hL hz
       repeat' (first | with_reducible (first | (refine sk ?_; intro K hK) | apply_assumption -exfalso -symm only [*]) | ((with_reducible first | refine rgL [] [47, 87] (md := { base := 0, own := [65, 84, 91], imp := [18, 26] }) (h := ?_) | refine nx ?_); try simp (disch := omega) only [h3,go_sem, simprocAttr]) | ((with_reducible refine fe ?_); refine ⟨_, (by simp only [Tryz.f16, h3,go_sem, simprocAttr]; rfl), ?_⟩; (try simp only [h3,go_sem, simprocAttr, seval])) | fail)
      clear hK
      have hcutE : ∃ _ : Unit, _ := ⟨(), hcut3⟩
      clear hcut3
      by_cases hk2 : kn = 2
      ·rw [if_pos hk2] at hfl
       have hst : st = critsL t nx' (2 * k) ++ endL t nx' := by rw [hns', hfl, List.append_nil]
       clear hns'
       repeat' (first | with_reducible (first | (refine sk ?_; intro K hK) | apply_assumption -exfalso -symm only [*]) | ((first | (with_reducible first | refine rgL [] [47, 87] (md := { base := 0, own := [65, 84, 91], imp := [18, 26] }) (h := ?_) | refine nx ?_) | refine lK (hfu _ hT6) ?_); try simp (disch := omega) only [g6, g10, hk2,go_sem, simprocAttr]) | ((with_reducible refine' cE ?hv ?_ ?_); (case hv => rfl); all_goals (intro hc; (try simp only [go_sem, simprocAttr] at hc))) | fail)
       obtain ⟨_, hcut3⟩ := hcutE
       refine hcut3 _ _ ?_
       simp only [go_sem, simprocAttr]
       rw [hst]; exact hL6
      ·rw [if_neg hk2] at hfl
       have hst : st = (critsL t nx' (2 * k) ++ endL t nx') ++ [8] := by rw [hns', hfl]
       clear hns'
       have hcl2 : (critsL t nx' (2 * k) ++ endL t nx').length ≤ 2 * k + 1 := by rw [List.length_append]; omega
       generalize critsL t nx' (2 * k) ++ endL t nx' = L at *
       rcases hL6 with ⟨hC, h11⟩ | ⟨hne, ea, h11, k91⟩
       ·refine AW_lose 91 fun H7 g91 hs3 => ?_
        have hT7 : TriL t eb em ver m H7 := ⟨(hs3 2204 (by decide)).trans hT6.1, (hs3 2202 (by decide)).trans hT6.2⟩
        clear hs3 hT6
        repeat' (first | with_reducible (first | (refine sk ?_; intro K hK) | intro (ep : Nat → Nat) | apply_assumption -exfalso -symm only [*]) | ((first | (with_reducible refine rgL [] [47, 87] (md := { base := 0, own := [65, 84, 91], imp := [18, 26] }) (h := ?_)) | refine lK (hfu _ hT7) ?_); try simp (disch := omega) only [g6, g10, h11, g91, hk2,go_sem, simprocAttr]) | ((with_reducible refine' cE ?hv ?_ ?_); (case hv => rfl); all_goals (intro hc; (try simp only [go_sem, simprocAttr] at hc))) | fail)
        obtain ⟨_, hcut3⟩ := hcutE
        refine hcut3 _ _ ?_
        rw [hst, List.map_append, hC]; exact .one (by (first | rfl | (simp only [c8, go_sem, simprocAttr]; done) | (simp only [c8, go_sem, simprocAttr]; rfl)))
       ·rw [List.length_map] at h11
        have hkb2 : L.length ≤ 1073741823 := by omega
        repeat' (first | with_reducible (first | (refine sk ?_; intro K hK) | intro (ep : Nat → Nat) | apply_assumption -exfalso -symm only [*]) | ((first | (with_reducible refine rgL [] [47, 87] (md := { base := 0, own := [65, 84, 91], imp := [18, 26] }) (h := ?_)) | refine lK (hfu _ hT6) ?_); try simp (disch := omega) only [g6, g10, h11, k91, hkb2, hk2,go_sem, simprocAttr]) | ((with_reducible refine' cE ?hv ?_ ?_); (case hv => rfl); all_goals (intro hc; (try simp only [go_sem, simprocAttr] at hc))) | fail)
        obtain ⟨_, hcut3⟩ := hcutE
        refine hcut3 _ _ ?_
        rw [hst, List.map_append, List.map_cons, List.map_nil, ← List.length_map (f := c8)]; exact .snoc (by (first | rfl | (simp only [c8, go_sem, simprocAttr]; done) | (simp only [c8, go_sem, simprocAttr]; rfl)))
     clear hK
     have hcutE : ∃ _ : Unit, _ := ⟨(), hcut2⟩
     clear hcut2 hns'
     have g4 := hT6.1
     have hel : endL t nx' = if t.fin - t.clock.hi < 60 * nx' then [7] else [] := rfl
     by_cases hlt : t.fin - t.clock.hi < 60 * nx'
     ·rw [if_pos hlt] at hel
      rw [hel] at hcutE
      generalize critsL t nx' (2 * k) = L at *
      rcases hL6 with ⟨hC, h11⟩ | ⟨hne, ea, h11, k84⟩
      ·refine AW_lose 84 fun H7 g84 hs3 => ?_
       have hT7 : TriL t eb em ver m H7 := ⟨(hs3 2204 (by decide)).trans hT6.1, (hs3 2202 (by decide)).trans hT6.2⟩
       have g5 := hT7.1
       clear hs3 hT6 g4
       repeat' (first | with_reducible (first | (refine sk ?_; intro K hK) | intro (ep : Nat → Nat) | apply_assumption -exfalso -symm only [*]) | ((with_reducible refine rgL [] [47, 87] (md := { base := 0, own := [65, 84, 91], imp := [18, 26] }) (h := ?_)); try simp (disch := omega) only [g6, g10, g5, h11, g84, hlt, trialV, cTest,go_sem, simprocAttr]) | ((with_reducible refine' cE ?hv ?_ ?_); (case hv => rfl); all_goals (intro hc; (try simp only [go_sem, simprocAttr] at hc))) | fail)
       obtain ⟨_, hcut2⟩ := hcutE
       refine hcut2 _ _ ⟨by (and_intros <;> first | rfl | (simp only [g6, g10, go_sem, simprocAttr]; done) | (simp only [g6, g10, go_sem, simprocAttr]; rfl)), ⟨(upd_ne _ _ (by decide)).trans hT7.1, (upd_ne _ _ (by decide)).trans hT7.2⟩, ?_⟩
       rw [List.map_append, hC]; exact .one (by (first | rfl | (simp only [c8, go_sem, simprocAttr]; done) | (simp only [c8, go_sem, simprocAttr]; rfl)))
      ·rw [List.length_map] at h11
       have hkb2 : L.length ≤ 1073741823 := by omega
       repeat' (first | with_reducible (first | (refine sk ?_; intro K hK) | intro (ep : Nat → Nat) | apply_assumption -exfalso -symm only [*]) | ((with_reducible refine rgL [] [47, 87] (md := { base := 0, own := [65, 84, 91], imp := [18, 26] }) (h := ?_)); try simp (disch := omega) only [g6, g10, g4, h11, k84, hkb2, hlt, trialV, cTest,go_sem, simprocAttr]) | ((with_reducible refine' cE ?hv ?_ ?_); (case hv => rfl); all_goals (intro hc; (try simp only [go_sem, simprocAttr] at hc))) | fail)
       obtain ⟨_, hcut2⟩ := hcutE
       refine hcut2 _ _ ⟨by (and_intros <;> first | rfl | (simp only [g6, g10, go_sem, simprocAttr]; done) | (simp only [g6, g10, go_sem, simprocAttr]; rfl)), ⟨(upd_ne _ _ (by decide)).trans hT6.1, (upd_ne _ _ (by decide)).trans hT6.2⟩, ?_⟩
       rw [List.map_append, List.map_cons, List.map_nil, ← List.length_map (f := c8)]; exact .snoc (by (first | rfl | (simp only [c8, go_sem, simprocAttr]; done) | (simp only [c8, go_sem, simprocAttr]; rfl)))
     ·rw [if_neg hlt] at hel
      rw [hel] at hcutE
      repeat' (first | with_reducible (first | (refine sk ?_; intro K hK) | apply_assumption -exfalso -symm only [*]) | ((with_reducible first | refine rgL [] [47, 87] (md := { base := 0, own := [65, 84, 91], imp := [18, 26] }) (h := ?_) | refine nx ?_); try simp (disch := omega) only [g6, g10, g4, hlt, trialV, cTest,go_sem, simprocAttr]) | ((with_reducible refine' cE ?hv ?_ ?_); (case hv => rfl); all_goals (intro hc; (try simp only [go_sem, simprocAttr] at hc))) | fail)
      obtain ⟨_, hcut2⟩ := hcutE
      refine hcut2 _ _ ⟨by (and_intros <;> first | rfl | (simp only [g6, g10, go_sem, simprocAttr]; done) | (simp only [g6, g10, go_sem, simprocAttr]; rfl)), hT6, ?_⟩
      rw [List.append_nil]; simp only [go_sem, simprocAttr]; exact hL6
    clear hK
    have hcutE : ∃ _ : Unit, _ := ⟨(), hcut⟩
    clear hcut
    repeat' (first | with_reducible (first | (refine sk ?_; intro K hK) | apply_assumption -exfalso -symm only [*]) | ((with_reducible refine rgL [] [47, 87] (md := { base := 0, own := [65, 84, 91], imp := [18, 26] }) (h := ?_)); try simp (disch := omega) only [h2k,go_sem, simprocAttr]) | fail)
    refine AW_range tabOK (2 * k) (fun i f H => (f 6 = .ptr 2204 eb 24 0 0 ∧ f 10 = .int .i64 nx') ∧ TriL t eb em ver m H ∧ LstC 65 1 ((critsL t nx' i).map c8) (f 11) H) (by omega) (by rw [hXs]; decide) (by decide) (by (first | rfl | (simp only [go_sem, simprocAttr]; done) | (simp only [go_sem, simprocAttr]; rfl))) (by (first | rfl | (simp only [go_sem, simprocAttr]; done) | (simp only [go_sem, simprocAttr]; rfl)))
     ⟨by (and_intros <;> first | rfl | (simp only [go_sem, simprocAttr]; done) | (simp only [go_sem, simprocAttr]; rfl)), hTL4, .inl ⟨rfl, by (first | rfl | (simp only [go_sem, simprocAttr]; done) | (simp only [go_sem, simprocAttr]; rfl))⟩⟩ ?_ ?_
    ·clear hcutE hTL4 ci hja hns'
     rintro i f H hi39 h39 h38 ⟨⟨h6, h10⟩, hT, hL⟩
     have hw : IntKind.u8.wrap ((i + 1 : Nat) : Int) = ((i + 1 : Nat) : Int) := IntWalk.u8_in _ (by omega)
     have hsu := @critsL_succ t nx' i
     have hcl3 := @critsL_len t nx' i
     have cl := fun H h => cfails_look t hF.ok hF.rows.2 i (by omega) eb em ver m hS H h
     have hsc : stopsC t nx' i = (!decide ((failC t i).held = 2) && decide ((failC t i).at1.lo ≤ 60 * nx')) := rfl
     refine AW_keep [65, 2204, 2202] ?_
     have k13 : keep H [65, 2204, 2202] 13 = none := rfl
     have kT : TriL t eb em ver m (keep H [65, 2204, 2202]) := ⟨hT.1, hT.2⟩
     have kL : LstC 65 1 ((critsL t nx' i).map c8) (f 11) (keep H [65, 2204, 2202]) := hL.same rfl
     generalize keep H [65, 2204, 2202] = H5 at *
     clear hT hL
     rw [hsc] at hsu
     rw [hsu]
     clear hsu hsc
     generalize critsL t nx' i = L at *
     by_cases hF2 : (failC t i).held = 2
     ·have he : encI (failC t i) = .iface 133 (.agg []) := if_pos hF2
      rw [he] at cl
      simp only [hF2, decide_true, Bool.not_true, Bool.false_and, Bool.false_eq_true, if_false, List.append_nil]
      repeat' (first | with_reducible (first | (refine sk ?_; intro K hK) | intro (ep : Nat → Nat) | apply_assumption -exfalso -symm only [*]) | ((first | (with_reducible first | refine rgL [] [47, 87] (md := { base := 0, own := [65, 84, 91], imp := [18, 26] }) (h := ?_) | refine nx ?_) | refine lK (cl _ kT) ?_); try simp (disch := omega) only [h6, h10, h38, h39, hw, k13,go_sem, simprocAttr]) | ((with_reducible refine' cE ?hv ?_ ?_); (case hv => rfl); all_goals (intro hc; (try simp only [go_sem, simprocAttr] at hc))) | fail)
      exact ⟨⟨by (repeat rw [upd_ne _ _ (by decide)]); exact kT.1, by (repeat rw [upd_ne _ _ (by decide)]); exact kT.2⟩, kL.same (by (repeat rw [upd_ne _ _ (by decide)]))⟩
     ·have he : encI (failC t i) = .iface 104 (.agg [.int .i64 (failC t i).at1.lo, .int .i64 (failC t i).at1.hi, .bool (decide ((failC t i).held = 0))]) := if_neg hF2
      rw [he] at cl
      simp only [decide_eq_false hF2, Bool.not_false, Bool.true_and]
      generalize (failC t i).at1.lo = lo at *
      generalize (failC t i).at1.hi = hi9 at *
      generalize (failC t i).held = hd at *
      by_cases hlo : lo ≤ 60 * nx'
      ·simp only [decide_eq_true hlo, if_true]
       rcases kL with ⟨hC, h11⟩ | ⟨hne, ea, h11, k65⟩
       ·refine AW_lose 65 fun H7 g65 hs3 => ?_
        have hT7 : TriL t eb em ver m H7 := ⟨(hs3 2204 (by decide)).trans kT.1, (hs3 2202 (by decide)).trans kT.2⟩
        have g13 := (hs3 13 (by decide)).trans k13
        clear hs3 kT k13
        repeat' (first | with_reducible (first | (refine sk ?_; intro K hK) | intro (ep : Nat → Nat) | apply_assumption -exfalso -symm only [*]) | ((first | (with_reducible refine rgL [] [47, 87] (md := { base := 0, own := [65, 84, 91], imp := [18, 26] }) (h := ?_)) | refine lK (cl _ hT7) ?_); try simp (disch := omega) only [h6, h10, h11, h38, h39, hw, g13, g65, hlo,go_sem, simprocAttr]) | ((with_reducible refine' cE ?hv ?_ ?_); (case hv => rfl); all_goals (intro hc; (try simp only [go_sem, simprocAttr] at hc))) | fail)
        exact ⟨⟨by (repeat rw [upd_ne _ _ (by decide)]); exact hT7.1, by (repeat rw [upd_ne _ _ (by decide)]); exact hT7.2⟩, by rw [List.map_append, hC]; exact .one (by (first | rfl | (simp only [c8, go_sem, simprocAttr]; done) | (simp only [c8, go_sem, simprocAttr]; rfl)))⟩
       ·rw [List.length_map] at h11
        have hkb2 : L.length ≤ 1073741823 := by omega
        repeat' (first | with_reducible (first | (refine sk ?_; intro K hK) | intro (ep : Nat → Nat) | apply_assumption -exfalso -symm only [*]) | ((first | (with_reducible refine rgL [] [47, 87] (md := { base := 0, own := [65, 84, 91], imp := [18, 26] }) (h := ?_)) | refine lK (cl _ kT) ?_); try simp (disch := omega) only [h6, h10, h11, h38, h39, hw, k13, k65, hkb2, hlo,go_sem, simprocAttr]) | ((with_reducible refine' cE ?hv ?_ ?_); (case hv => rfl); all_goals (intro hc; (try simp only [go_sem, simprocAttr] at hc))) | fail)
        exact ⟨⟨by (repeat rw [upd_ne _ _ (by decide)]); exact kT.1, by (repeat rw [upd_ne _ _ (by decide)]); exact kT.2⟩, by rw [List.map_append, List.map_cons, List.map_nil, ← List.length_map (f := c8)]; exact .snoc (by (first | rfl | (simp only [c8, go_sem, simprocAttr]; done) | (simp only [c8, go_sem, simprocAttr]; rfl)))⟩
      ·simp only [decide_eq_false hlo, Bool.false_eq_true, if_false, List.append_nil]
       repeat' (first | with_reducible (first | (refine sk ?_; intro K hK) | intro (ep : Nat → Nat) | apply_assumption -exfalso -symm only [*]) | ((first | (with_reducible first | refine rgL [] [47, 87] (md := { base := 0, own := [65, 84, 91], imp := [18, 26] }) (h := ?_) | refine nx ?_) | refine lK (cl _ kT) ?_); try simp (disch := omega) only [h6, h10, h38, h39, hw, k13, hlo,go_sem, simprocAttr]) | ((with_reducible refine' cE ?hv ?_ ?_); (case hv => rfl); all_goals (intro hc; (try simp only [go_sem, simprocAttr] at hc))) | fail)
       exact ⟨⟨by (repeat rw [upd_ne _ _ (by decide)]); exact kT.1, by (repeat rw [upd_ne _ _ (by decide)]); exact kT.2⟩, kL.same (by (repeat rw [upd_ne _ _ (by decide)]))⟩
    ·rintro f H h39 h38 ⟨⟨h6, h10⟩, hT, hL⟩
     obtain ⟨_, hcut⟩ := hcutE
     repeat' (first | with_reducible apply_assumption -exfalso -symm only [*] | fail)
     exact ⟨by (and_intros <;> first | rfl | (simp only [h6, h10, go_sem, simprocAttr]; done) | (simp only [h6, h10, go_sem, simprocAttr]; rfl)), hT, hL⟩
  ·rw [if_neg hcr]
   refine PureC.weak (v := .tup [.nils, .int .i64 2]) ?_ rfl fun G w x h => h.tup_nils
   refine PureC_of (fn := Tryz.f16) tabOK (by kernel_rfl) rfl (by kernel_rfl) (by simp [Tryz.f16]) (by simp [noids, noid, noidss, go_sem, encTest, cTest]) (by first | rfl | simp [noids, noid, noidss, go_sem, encTest, cTest]) ?_
   intro X hX0 hXs
   repeat' (first | with_reducible (first | (refine sk ?_; intro K hK) | apply_assumption -exfalso -symm only [*]) | ((with_reducible refine rgL [] [47, 87] (md := { base := 0, own := [65, 84, 91], imp := [18, 26] }) (h := ?_)); try simp (disch := omega) only [encTest, cTest,go_sem, simprocAttr]) | fail)
   refine iK (ho _) ?_
   rintro v H2 ⟨hlow, hv⟩
   rw [if_pos h, if_neg hcr] at hv
   subst hv
   simp only [go_sem, simprocAttr]
   repeat' (first | with_reducible (first | (refine sk ?_; intro K hK) | apply_assumption -exfalso -symm only [*]) | ((with_reducible first | refine rgL [] [47, 87] (md := { base := 0, own := [65, 84, 91], imp := [18, 26] }) (h := ?_) | refine nx ?_); try simp (disch := omega) only [h,go_sem, simprocAttr]) | ((with_reducible refine' cE ?hv ?_ ?_); (case hv => rfl); all_goals (intro hc; (try simp only [go_sem, simprocAttr] at hc))) | ((with_reducible refine fe ?_); refine ⟨_, (by simp only [Tryz.f16, h,go_sem, simprocAttr]; rfl), ?_⟩; rfl) | fail)
 ·rw [if_neg h]
  refine PureC.weak (v := .tup [.nils, .int .i64 (checkT t)]) ?_ rfl fun G w x h => h.tup_nils
  refine PureC_of (fn := Tryz.f16) tabOK (by kernel_rfl) rfl (by kernel_rfl) (by simp [Tryz.f16]) (by simp [noids, noid, noidss, go_sem, encTest, cTest]) (by first | rfl | simp [noids, noid, noidss, go_sem, encTest, cTest]) ?_
  intro X hX0 hXs
  repeat' (first | with_reducible (first | (refine sk ?_; intro K hK) | apply_assumption -exfalso -symm only [*]) | ((with_reducible refine rgL [] [47, 87] (md := { base := 0, own := [65, 84, 91], imp := [18, 26] }) (h := ?_)); try simp (disch := omega) only [encTest, cTest,go_sem, simprocAttr]) | fail)
  refine iK (ho _) ?_
  rintro v H2 ⟨hlow, hv⟩
  rw [if_neg h] at hv
  subst hv
  simp only [go_sem, simprocAttr]
  repeat' (first | with_reducible (first | (refine sk ?_; intro K hK) | apply_assumption -exfalso -symm only [*]) | ((with_reducible first | refine rgL [] [47, 87] (md := { base := 0, own := [65, 84, 91], imp := [18, 26] }) (h := ?_) | refine nx ?_); try simp (disch := omega) only [h,go_sem, simprocAttr]) | ((with_reducible refine' cE ?hv ?_ ?_); (case hv => rfl); all_goals (intro hc; (try simp only [go_sem, simprocAttr] at hc))) | ((with_reducible refine fe ?_); refine ⟨_, (by simp only [Tryz.f16, h,go_sem, simprocAttr]; rfl), ?_⟩; rfl) | fail)
end Cp
namespace Cp
open Go Go.Proofs
set_option maxRecDepth 10000
set_option maxHeartbeats 1000000
theorem r2Test_ok (t : TestT) (hl : t.notes.length ≤ 100000) (hR : t.run.rows.length ≤ 60) (hkd : ∀ n ∈ t.notes, 0 ≤ n.kind ∧ n.kind ≤ 255) : PureC Tryz.prog 29 [encTest t] (.bool (testOK t)) := by
 have bad : headT t = false → false = testOK t := fun h => by rw [testOK, h]; rfl
 have hcs := r2spanned_ok t.clock (-120) 120
 simp only [encSpan] at hcs
 simp only [headT, decide_eq_false_iff_not] at bad
 refine PureC_of (fn := Tryz.f29) tabOK (by kernel_rfl) rfl (by kernel_rfl) (by simp [Tryz.f29]) (by simp [noids, noid, noidss, go_sem, encTest, cTest]) (by first | rfl | simp [noids, noid, noidss, go_sem, encTest, cTest]) ?_
 intro X hX0 hXs
 repeat' (first | with_reducible (first | (refine sk ?_; intro K hK) | apply_assumption -exfalso -symm only [*]) | ((first | (with_reducible first | refine rg (h := ?_) | refine nx ?_) | refine pK (r2within_ok _ _ _) ?_ | refine pK (hcs) ?_); try simp (disch := omega) only [encTest, cTest,go_sem, simprocAttr]) | ((with_reducible refine' cE ?hv ?_ ?_); (case hv => rfl); all_goals (intro hc; (try simp only [go_sem, simprocAttr] at hc))) | ((with_reducible refine grdS_split ?_ ?_) <;> intro hg <;> (try simp (disch := omega) only [hg, encTest, cTest,go_sem, simprocAttr]) <;> (try simp only [go_sem, simprocAttr] at hg) <;> (try (exfalso; omega))) | ((with_reducible refine fe ?_); refine ⟨_, (by simp only [Tryz.f29, encTest, cTest,go_sem, simprocAttr]; rfl), ?_⟩; (try simp only [encTest, cTest,go_sem, simprocAttr, seval])) | fail)
 iterate 4 (first | exact bad (by omega) | omega)
 refine AW_block (AW_loop (fun m f H => ∃ i : Nat, m = 6 - i ∧ i ≤ 6 ∧ (f 1 = .pim (cTest t) ∧ f 3 = .int .i64 (i : Int)) ∧ ∀ j, j < i → 0 ≤ limC t j ∧ limC t j ≤ 10000) 6
  ⟨0, rfl, Nat.zero_le _, by (and_intros <;> first | rfl | (simp only [cTest, go_sem, simprocAttr]; done) | (simp only [cTest, go_sem, simprocAttr]; rfl)), fun j hj => by omega⟩ ?_)
 rintro m f H ⟨i, rfl, hi, ⟨h1, h3⟩, hlm⟩
 by_cases hlt : i < 6
 ·have hlim := lim_at t hlt
  by_cases hg : 0 ≤ limC t i ∧ limC t i ≤ 10000
  ·repeat' (first | with_reducible (first | (refine sk ?_; intro K hK) | refine bk ?_ | apply_assumption -exfalso -symm only [*]) | ((first | (with_reducible first | refine rg (h := ?_) | refine nx ?_) | refine pK (r2within_ok _ _ _) ?_); try simp (disch := omega) only [h1, h3, hlim, hlt, hg, cTest,go_sem, simprocAttr]) | ((with_reducible refine' cE ?hv ?_ ?_); (case hv => rfl); all_goals (intro hc; (try simp only [go_sem, simprocAttr] at hc); try (exfalso; omega))) | fail)
   exact ⟨6 - (i + 1), by omega, i + 1, rfl, by omega, rfl, fun j hj => by
    by_cases hji : j = i
    ·subst hji; exact hg
    ·exact hlm j (by omega)⟩
  ·have hb : false = testOK t := bad (by
    intro hh
    obtain ⟨-, -, -, ⟨q0, q1, q2, q3, q4, q5⟩, -⟩ := hh
    refine hg ?_
    match i, hlt with
    | 0, _ => exact q0
    | 1, _ => exact q1
    | 2, _ => exact q2
    | 3, _ => exact q3
    | 4, _ => exact q4
    | 5, _ => exact q5)
   clear bad
   repeat' (first | with_reducible (first | (refine sk ?_; intro K hK) | refine bk ?_ | apply_assumption -exfalso -symm only [*]) | ((first | (with_reducible first | refine rg (h := ?_) | refine nx ?_) | refine pK (r2within_ok _ _ _) ?_); try simp (disch := omega) only [h1, h3, hlim, hlt, hg, cTest,go_sem, simprocAttr]) | ((with_reducible refine' cE ?hv ?_ ?_); (case hv => rfl); all_goals (intro hc; (try simp only [go_sem, simprocAttr] at hc); try (exfalso; omega))) | ((with_reducible refine fe ?_); refine ⟨_, (by simp only [Tryz.f29, h1, h3, hlim, hlt, hg, cTest,go_sem, simprocAttr]; rfl), ?_⟩; (try simp only [h1, h3, hlim, hlt, hg, cTest,go_sem, simprocAttr, seval])) | fail)
   all_goals exact hb
 ·obtain rfl : i = 6 := by omega
  have hh : headT t = true := by
   have l0 := hlm 0 (by omega)
   have l1 := hlm 1 (by omega)
   have l2 := hlm 2 (by omega)
   have l3 := hlm 3 (by omega)
   have l4 := hlm 4 (by omega)
   have l5 := hlm 5 (by omega)
   simp only [limC] at l0 l1 l2 l3 l4 l5
   simp only [headT, decide_eq_true_eq]; omega
  have hT : testOK t = notesFrom t.fin 0 t.notes := by rw [testOK, hh, Bool.true_and]
  clear bad hlm hcs
  repeat' (first | with_reducible (first | (refine sk ?_; intro K hK) | apply_assumption -exfalso -symm only [*]) | ((with_reducible first | refine rg (h := ?_) | refine nx ?_); try simp (disch := omega) only [h1, h3, cTest,go_sem, simprocAttr]) | ((with_reducible refine' cE ?hv ?_ ?_); (case hv => rfl); all_goals (intro hc; (try simp only [go_sem, simprocAttr] at hc))) | fail)
  refine AW_block (AW_loop (fun m f H => ∃ i : Nat, m = t.notes.length - i ∧ i ≤ t.notes.length ∧ (f 1 = .pim (cTest t) ∧ f 4 = .int .i64 (i : Int)) ∧ ∃ last, 0 ≤ last ∧ last ≤ 3600 ∧ (∀ j p, i = j + 1 → t.notes[j]? = some p → p.sec = last) ∧ (i = 0 → last = 0) ∧ notesFrom t.fin 0 t.notes = notesFrom t.fin last (t.notes.drop i)) t.notes.length
   ⟨0, rfl, Nat.zero_le _, by (and_intros <;> first | rfl | (simp only [h1, go_sem, simprocAttr]; done) | (simp only [h1, go_sem, simprocAttr]; rfl)), 0, by omega, by omega, fun j p h => by omega, fun _ => rfl, rfl⟩ ?_)
  have hfin : t.fin ≤ 3600 := by
   simp only [headT, decide_eq_true_eq] at hh; omega
  clear h1 h3
  rintro m f H ⟨i, rfl, hi, ⟨h1, h4⟩, last, hl1, hl2, hp, h0, hr⟩
  by_cases hlt : i < t.notes.length
  ·obtain ⟨n, hn⟩ : ∃ x, t.notes[i]? = some x := ⟨_, List.getElem?_eq_getElem hlt⟩
   have hna := note_at hn
   have hkb := hkd n (List.mem_of_getElem? hn)
   have hcs := r2spanned_ok n.off (-200) 200
   simp only [encSpan] at hcs
   rw [drop_cons hn] at hr
   simp only [notesFrom] at hr
   have bad : noteOK last t.fin n = false → false = testOK t := fun h => by rw [hT, hr, h]; rfl
   have good : noteOK last t.fin n = true → ∃ m', m' < t.notes.length - i ∧ ∃ i', m' = t.notes.length - i' ∧ i' ≤ t.notes.length ∧ Val.int .i64 ((i + 1 : Nat) : Int) = .int .i64 (i' : Int) ∧ ∃ last, 0 ≤ last ∧ last ≤ 3600 ∧ (∀ j p, i' = j + 1 → t.notes[j]? = some p → p.sec = last) ∧ (i' = 0 → last = 0) ∧ notesFrom t.fin 0 t.notes = notesFrom t.fin last (t.notes.drop i') := fun h => by
    have hs := noteOK_sec h
    refine ⟨t.notes.length - (i + 1), by omega, i + 1, rfl, by omega, rfl, n.sec, by omega, by omega, fun j p hj hp9 => ?_, fun h => by omega, by rw [hr, h, Bool.true_and]⟩
    have hji : j = i := by omega
    rw [hji, hn] at hp9; cases hp9; rfl
   simp only [cNote] at hna
   simp only [noteOK, offOK, Bool.and_eq_false_iff, decide_eq_false_iff_not] at bad
   simp only [noteOK, offOK, Bool.and_eq_true, decide_eq_true_eq] at good
   refine AW_keep [] ?_
   cases i with
   | zero =>
    have := h0 rfl
    subst this
    repeat' (first | with_reducible (first | (refine sk ?_; intro K hK) | refine bk ?_ | intro (ep : Nat → Nat) | apply_assumption -exfalso -symm only [*]) | ((first | (with_reducible first | refine rg (h := ?_) | refine nx ?_) | refine pK (r2within_ok _ _ _) ?_ | refine pK (hcs) ?_); try simp (disch := omega) only [h1, h4, hna, hlt, cTest,go_sem, simprocAttr]) | ((with_reducible refine' cE ?hv ?_ ?_); (case hv => rfl); all_goals (intro hc; (try simp only [go_sem, simprocAttr] at hc); try (exfalso; omega))) | ((with_reducible refine grdS_split ?_ ?_) <;> intro hg <;> (try simp (disch := omega) only [hg, h1, h4, hna, hlt, cTest,go_sem, simprocAttr]) <;> (try simp only [go_sem, simprocAttr] at hg) <;> (try (exfalso; omega))) | ((with_reducible refine fe ?_); refine ⟨_, (by simp only [Tryz.f29, h1, h4, hna, hlt, cTest,go_sem, simprocAttr]; rfl), ?_⟩; (try simp only [h1, h4, hna, hlt, cTest,go_sem, simprocAttr, seval])) | fail)
    all_goals omega
   | succ j =>
    obtain ⟨p, hpj⟩ : ∃ x, t.notes[j]? = some x := ⟨_, List.getElem?_eq_getElem (by omega)⟩
    have hps := hp j p rfl hpj
    have hpa := note_at hpj
    simp only [cNote] at hpa
    have hjl : j < t.notes.length := by omega
    repeat' (first | with_reducible (first | (refine sk ?_; intro K hK) | refine bk ?_ | intro (ep : Nat → Nat) | apply_assumption -exfalso -symm only [*]) | ((first | (with_reducible first | refine rg (h := ?_) | refine nx ?_) | refine pK (r2within_ok _ _ _) ?_ | refine pK (hcs) ?_); try simp (disch := omega) only [h1, h4, hna, hlt, hpa, hjl, cTest,go_sem, simprocAttr]) | ((with_reducible refine' cE ?hv ?_ ?_); (case hv => rfl); all_goals (intro hc; (try simp only [go_sem, simprocAttr] at hc); try (exfalso; omega))) | ((with_reducible refine grdS_split ?_ ?_) <;> intro hg <;> (try simp (disch := omega) only [hg, h1, h4, hna, hlt, hpa, hjl, cTest,go_sem, simprocAttr]) <;> (try simp only [go_sem, simprocAttr] at hg) <;> (try (exfalso; omega))) | ((with_reducible refine fe ?_); refine ⟨_, (by simp only [Tryz.f29, h1, h4, hna, hlt, hpa, hjl, cTest,go_sem, simprocAttr]; rfl), ?_⟩; (try simp only [h1, h4, hna, hlt, hpa, hjl, cTest,go_sem, simprocAttr, seval])) | fail)
    all_goals omega
  ·obtain rfl : i = t.notes.length := by omega
   have hOK : true = testOK t := by rw [hT, hr, drop_none (Nat.le_refl _)]; rfl
   repeat' (first | with_reducible (first | (refine sk ?_; intro K hK) | apply_assumption -exfalso -symm only [*]) | ((with_reducible first | refine rg (h := ?_) | refine nx ?_); try simp (disch := omega) only [h1, h4, cTest,go_sem, simprocAttr]) | ((with_reducible refine' cE ?hv ?_ ?_); (case hv => rfl); all_goals (intro hc; (try simp only [go_sem, simprocAttr] at hc); try (exfalso; omega))) | ((with_reducible refine fe ?_); refine ⟨_, (by simp only [Tryz.f29, h1, h4, cTest,go_sem, simprocAttr]; rfl), ?_⟩; (try simp only [h1, h4, cTest,go_sem, simprocAttr, seval])) | fail)
   all_goals exact hOK
end Cp
namespace Cp
open Go Go.Proofs
set_option maxRecDepth 10000
set_option maxHeartbeats 1000000
theorem r2Check_ok (t : TestT) (hb : TestB t) : PureC Tryz.prog 45 [encTest t] (.int .i64 (checkT t)) := by
 have hnl := hb.notes
 have hck := rcheck_ok t.run t.rules hb.run hb.rules
 simp only [encRun, cRun, encRules, cRules] at hck
 unfold checkT
 by_cases hE : checkE t.run t.rules = 0
 ·rw [if_pos hE]
  rw [hE] at hck
  have hR : t.run.rows.length ≤ 60 := by
   have h1 : runOK t.run = true := by unfold checkE at hE; split at hE <;> simp_all
   exact (run_facts h1).rows.2.1
  have hTs := r2Test_ok t hnl hR hb.kinds
  simp only [encTest, cTest] at hTs
  by_cases hT : testOK t = true
  ·rw [if_pos hT]
   rw [hT] at hTs
   simp only [testOK, headT, Bool.and_eq_true, decide_eq_true_eq] at hT
   obtain ⟨hH, hN⟩ := hT
   have hse := fun k hk => r2seconds_ok t hnl hN (by omega) k hk
   simp only [secF_all hN, encTest, cTest] at hse
   obtain ⟨res, hres⟩ : ∃ res : Int, (if twistT t = true then 21 else 0) = res := ⟨_, rfl⟩
   rw [hres]
   refine PureC_of (fn := Tryz.f45) tabOK (by kernel_rfl) rfl (by kernel_rfl) (by simp [Tryz.f45]) (by simp [noids, noid, noidss, go_sem, encTest, cTest]) (by first | rfl | simp [noids, noid, noidss, go_sem, encTest, cTest]) ?_
   intro X hX0 hXs
   repeat' (first | with_reducible (first | (refine sk ?_; intro K hK) | apply_assumption -exfalso -symm only [*]) | ((first | (with_reducible first | refine rg (h := ?_) | refine nx ?_) | refine pK (hck) ?_ | refine pK (hTs) ?_); try simp (disch := omega) only [encTest, cTest, encRun, cRun, encRules, cRules,go_sem, simprocAttr]) | ((with_reducible refine' cE ?hv ?_ ?_); (case hv => rfl); all_goals (intro hc; (try simp only [go_sem, simprocAttr] at hc))) | fail)
   refine AW_block (AW_loop (fun m f H => ∃ i : Nat, m = 6 - i ∧ i ≤ 6 ∧ (f 1 = .pim (cTest t) ∧ f 4 = .int .u8 ((i + 1 : Nat) : Int)) ∧ ∀ c, c < i → twistC t c = false) 6
    ⟨0, rfl, Nat.zero_le _, by (and_intros <;> first | rfl | (simp only [cTest, go_sem, simprocAttr]; done) | (simp only [cTest, go_sem, simprocAttr]; rfl)), fun c hc => by omega⟩ ?_)
   clear hck hTs
   rintro m f H ⟨i, rfl, hi, ⟨h1, h4⟩, hlm⟩
   by_cases hlt : i < 6
   ·have hs := hse i hlt
    have htw := twist_eq i hN
    have hw : IntKind.u8.wrap ((i + 1 + 1 : Nat) : Int) = ((i + 1 + 1 : Nat) : Int) := IntWalk.u8_in _ (by omega)
    have r21 : twistC t i = true → 21 = res := fun h => by
     rw [← hres, if_pos]
     rw [twistT, List.any_eq_true]
     exact ⟨i, by simpa using hlt, h⟩
    have hnx : twistC t i = false → ∀ c, c < i + 1 → twistC t c = false := fun h c hc => by
     by_cases hci : c = i
     ·subst hci; exact h
     ·exact hlm c (by omega)
    rw [htw] at r21 hnx
    clear hse hlm hres
    generalize frC t i = lo at *
    generalize toC t i = hi2 at *
    generalize (badC t i).isSome = sure at *
    cases sure with
    | false =>
     repeat' (first | with_reducible (first | (refine sk ?_; intro K hK) | refine bk ?_ | apply_assumption -exfalso -symm only [*]) | ((first | (with_reducible first | refine rg (h := ?_) | refine nx ?_) | refine pK (hs) ?_); try simp (disch := omega) only [h1, h4, hw, cTest,go_sem, simprocAttr]) | ((with_reducible refine' cE ?hv ?_ ?_); (case hv => rfl); all_goals (intro hc; (try simp only [go_sem, simprocAttr] at hc); try (exfalso; omega))) | fail)
     exact ⟨6 - (i + 1), by omega, i + 1, rfl, by omega, rfl, hnx (by simp)⟩
    | true =>
     by_cases hlo : hi2 < lo
     ·have := r21 (by simp [hlo])
      clear r21 hnx
      repeat' (first | with_reducible (first | (refine sk ?_; intro K hK) | refine bk ?_ | apply_assumption -exfalso -symm only [*]) | ((first | (with_reducible first | refine rg (h := ?_) | refine nx ?_) | refine pK (hs) ?_); try simp (disch := omega) only [h1, h4, hw, hlo, cTest,go_sem, simprocAttr]) | ((with_reducible refine' cE ?hv ?_ ?_); (case hv => rfl); all_goals (intro hc; (try simp only [go_sem, simprocAttr] at hc); try (exfalso; omega))) | ((with_reducible refine fe ?_); refine ⟨_, (by simp only [Tryz.f45, h1, h4, hw, hlo, cTest,go_sem, simprocAttr]; rfl), ?_⟩; (try simp only [h1, h4, hw, hlo, cTest,go_sem, simprocAttr, seval])) | fail)
     ·repeat' (first | with_reducible (first | (refine sk ?_; intro K hK) | refine bk ?_ | apply_assumption -exfalso -symm only [*]) | ((first | (with_reducible first | refine rg (h := ?_) | refine nx ?_) | refine pK (hs) ?_); try simp (disch := omega) only [h1, h4, hw, hlo, cTest,go_sem, simprocAttr]) | ((with_reducible refine' cE ?hv ?_ ?_); (case hv => rfl); all_goals (intro hc; (try simp only [go_sem, simprocAttr] at hc); try (exfalso; omega))) | fail)
      exact ⟨6 - (i + 1), by omega, i + 1, rfl, by omega, rfl, hnx (by simp [hlo])⟩
   ·obtain rfl : i = 6 := by omega
    have h0 : 0 = res := by
     rw [← hres, if_neg]
     rw [twistT, List.any_eq_true]
     rintro ⟨c, hc, h⟩
     rw [hlm c (by simpa using hc)] at h
     cases h
    clear hse hlm hres
    repeat' (first | with_reducible (first | (refine sk ?_; intro K hK) | apply_assumption -exfalso -symm only [*]) | ((with_reducible first | refine rg (h := ?_) | refine nx ?_); try simp (disch := omega) only [h1, h4, cTest,go_sem, simprocAttr]) | ((with_reducible refine' cE ?hv ?_ ?_); (case hv => rfl); all_goals (intro hc; (try simp only [go_sem, simprocAttr] at hc))) | ((with_reducible refine fe ?_); refine ⟨_, (by simp only [Tryz.f45, h1, h4, cTest,go_sem, simprocAttr]; rfl), ?_⟩; (try simp only [h1, h4, cTest,go_sem, simprocAttr, seval])) | fail)
    all_goals exact h0
  ·rw [if_neg hT]
   rw [Bool.eq_false_iff.2 hT] at hTs
   refine PureC_of (fn := Tryz.f45) tabOK (by kernel_rfl) rfl (by kernel_rfl) (by simp [Tryz.f45]) (by simp [noids, noid, noidss, go_sem, encTest, cTest]) (by first | rfl | simp [noids, noid, noidss, go_sem, encTest, cTest]) ?_
   intro X hX0 hXs
   repeat' (first | with_reducible (first | (refine sk ?_; intro K hK) | apply_assumption -exfalso -symm only [*]) | ((first | (with_reducible first | refine rg (h := ?_) | refine nx ?_) | refine pK (hck) ?_ | refine pK (hTs) ?_); try simp (disch := omega) only [encTest, cTest, encRun, cRun, encRules, cRules,go_sem, simprocAttr]) | ((with_reducible refine' cE ?hv ?_ ?_); (case hv => rfl); all_goals (intro hc; (try simp only [go_sem, simprocAttr] at hc))) | ((with_reducible refine fe ?_); refine ⟨_, (by simp only [Tryz.f45, encTest, cTest, encRun, cRun, encRules, cRules,go_sem, simprocAttr]; rfl), ?_⟩; rfl) | fail)
 ·rw [if_neg hE]
  refine PureC_of (fn := Tryz.f45) tabOK (by kernel_rfl) rfl (by kernel_rfl) (by simp [Tryz.f45]) (by simp [noids, noid, noidss, go_sem, encTest, cTest]) (by first | rfl | simp [noids, noid, noidss, go_sem, encTest, cTest]) ?_
  intro X hX0 hXs
  repeat' (first | with_reducible (first | (refine sk ?_; intro K hK) | apply_assumption -exfalso -symm only [*]) | ((first | (with_reducible first | refine rg (h := ?_) | refine nx ?_) | refine pK (hck) ?_); try simp (disch := omega) only [encTest, cTest, encRun, cRun, encRules, cRules, hE,go_sem, simprocAttr]) | ((with_reducible refine' cE ?hv ?_ ?_); (case hv => rfl); all_goals (intro hc; (try simp only [go_sem, simprocAttr] at hc))) | ((with_reducible refine fe ?_); refine ⟨_, (by simp only [Tryz.f45, encTest, cTest, encRun, cRun, encRules, cRules, hE,go_sem, simprocAttr]; rfl), ?_⟩; rfl) | fail)
end Cp
namespace Cp
open Go Go.Proofs
set_option maxRecDepth 10000
set_option maxHeartbeats 1000000
end Cp
namespace Cp
open Go Go.Proofs
set_option maxRecDepth 10000
set_option maxHeartbeats 1000000
def foldR (t : TestT) (i : Nat) : FailT := (failsL t i).foldl rStep ⟨2, ⟨0, 0⟩⟩
theorem foldR_succ {t : TestT} {i : Nat} : foldR t (i + 1) = rStep (foldR t i) (failC t i) := by rw [foldR, failsL_succ, List.foldl_append]; rfl
theorem rStep_held {o f : FailT} (ho : o.held = 0 ∨ o.held = 1 ∨ o.held = 2) (hf : f.held = 0 ∨ f.held = 1 ∨ f.held = 2) : (rStep o f).held = 0 ∨ (rStep o f).held = 1 ∨ (rStep o f).held = 2 := by
 unfold rStep
 split
 ·exact ho
 ·split
  ·exact hf
  ·simp only; omega
theorem foldR_held {t : TestT} : ∀ {i : Nat}, (foldR t i).held = 0 ∨ (foldR t i).held = 1 ∨ (foldR t i).held = 2
 | 0 => .inr (.inr rfl)
 | i + 1 => by rw [foldR_succ]; exact rStep_held foldR_held (failC_held t i)
theorem r2first_ok (t : TestT) (hl : t.notes.length ≤ 100000) (hN : notesFrom t.fin 0 t.notes = true) (hf : 0 ≤ t.fin ∧ t.fin ≤ 3600) (hcl : -120 ≤ t.clock.lo ∧ t.clock.lo ≤ t.clock.hi ∧ t.clock.hi ≤ 120) (l : Nat) (hl3 : 1 ≤ l ∧ l ≤ 3) :
  PureC Tryz.prog 70 [encTest t, .int .u8 (l : Int)] (encFail (foldR t (2 * l))) := by
 have hfs := fun k hk => r2fails_ok t hl hN hf hcl k hk
 have hw2 : IntKind.u8.wrap (2 * (l : Int)) = ((2 * l : Nat) : Int) := by rw [IntWalk.u8_in _ (by omega)]; omega
 have hnv : noid (encFail (foldR t (2 * l))) = true := rfl
 simp only [encTest, cTest] at hfs
 refine PureC_of (fn := Tryz.f70) tabOK (by kernel_rfl) rfl (by kernel_rfl) (by simp [Tryz.f70]) (by simp [noids, noid, noidss, go_sem, encTest, cTest, hnv]) (by first | rfl | simp [noids, noid, noidss, go_sem, encTest, cTest, hnv]) ?_
 intro X hX0 hXs
 repeat' (first | with_reducible (first | (refine sk ?_; intro K hK) | intro (ep : Nat → Nat) | apply_assumption -exfalso -symm only [*]) | ((with_reducible refine rg (md := { base := 0, own := [4, 5] }) (h := ?_)); try simp (disch := omega) only [encTest, cTest,go_sem, simprocAttr]) | fail)
 refine AW_block (AW_loop (fun m f H => ∃ i : Nat, m = 2 * l - i ∧ i ≤ 2 * l ∧ (f 1 = .int .u8 (l : Int) ∧ f 2 = .pim (cTest t) ∧ f 6 = .int .u8 ((i + 1 : Nat) : Int)) ∧ ∃ e4 e5, f 4 = .ptr 4 e4 3 0 0 ∧ f 5 = .ptr 5 e5 3 0 0 ∧ H 4 = some (e4, .arr 3 [[.int .u8 0, .int .i64 0, .int .i64 0]]) ∧ H 5 = some (e5, .arr 3 [cFail (foldR t i)])) (2 * l)
  ⟨0, rfl, Nat.zero_le _, by (and_intros <;> first | rfl | (simp only [cTest, go_sem, simprocAttr]; done) | (simp only [cTest, go_sem, simprocAttr]; rfl)), _, _, by (first | rfl | (simp only [go_sem, simprocAttr]; done) | (simp only [go_sem, simprocAttr]; rfl)), by (first | rfl | (simp only [go_sem, simprocAttr]; done) | (simp only [go_sem, simprocAttr]; rfl)), by (first | rfl | (simp only [go_sem, simprocAttr]; done) | (simp only [go_sem, simprocAttr]; rfl)), by (first | rfl | (simp only [cFail, foldR, failsL, List.range_zero, List.map_nil, List.foldl_nil, go_sem, simprocAttr]; done) | (simp only [cFail, foldR, failsL, List.range_zero, List.map_nil, List.foldl_nil, go_sem, simprocAttr]; rfl))⟩ ?_)
 rintro m f H ⟨i, rfl, hi, ⟨h1, h2, h6⟩, e4, e5, h4, h5, H4, H5⟩
 by_cases hlt : i < 2 * l
 ·have hs := hfs i (by omega)
  have hw : IntKind.u8.wrap ((i + 1 + 1 : Nat) : Int) = ((i + 1 + 1 : Nat) : Int) := IntWalk.u8_in _ (by omega)
  have hst := @foldR_succ t i
  have ho := @foldR_held t i
  have hF := failC_held t i
  generalize foldR t i = o at *
  generalize failC t i = F at *
  refine AW_keep [4, 5] ?_
  have k7 : keep H [4, 5] 7 = none := rfl
  change keep H [4, 5] 4 = _ at H4
  change keep H [4, 5] 5 = _ at H5
  generalize keep H [4, 5] = H2 at *
  obtain ⟨oh, ol, oi⟩ := o
  obtain ⟨Fh, Fl, Fi⟩ := F
  simp only [cFail, encFail] at H5 hs
  simp only at ho hF
  have hc12 : ((i + 1 : Nat) : Int) ≤ ((2 * l : Nat) : Int) := by omega
  rcases hF with rfl | rfl | rfl <;> rcases ho with rfl | rfl | rfl
  all_goals
   simp [rStep] at hst
   repeat' (first | with_reducible (first | (refine sk ?_; intro K hK) | refine bk ?_ | intro (ep : Nat → Nat) | apply_assumption -exfalso -symm only [*]) | ((first | (with_reducible first | refine rg (md := { base := 0, own := [4, 5] }) (h := ?_) | refine nx ?_) | refine pK (hs) ?_); try simp (disch := omega) only [h1, h2, h4, h5, h6, H4, H5, k7, hw, hw2, hc12, cTest,go_sem, simprocAttr]) | ((with_reducible refine' cE ?hv ?_ ?_); (case hv => rfl); all_goals (intro hc; (try simp only [go_sem, simprocAttr] at hc))) | fail)
   exact ⟨2 * l - (i + 1), by omega, i + 1, rfl, by omega, rfl, e4, e5, by (first | rfl | (simp only [h4, go_sem, simprocAttr]; done) | (simp only [h4, go_sem, simprocAttr]; rfl)), by (first | rfl | (simp only [h5, go_sem, simprocAttr]; done) | (simp only [h5, go_sem, simprocAttr]; rfl)), by (first | rfl | (simp only [H4, go_sem, simprocAttr]; done) | (simp only [H4, go_sem, simprocAttr]; rfl)), by rw [hst]; (first | rfl | (simp only [H5, cFail, go_sem, simprocAttr]; done) | (simp only [H5, cFail, go_sem, simprocAttr]; rfl))⟩
 ·obtain rfl : i = 2 * l := by omega
  have hc12 : ¬ ((2 * l + 1 : Nat) : Int) ≤ ((2 * l : Nat) : Int) := by omega
  simp only [cFail] at H5
  repeat' (first | with_reducible (first | (refine sk ?_; intro K hK) | apply_assumption -exfalso -symm only [*]) | ((with_reducible first | refine rg (md := { base := 0, own := [4, 5] }) (h := ?_) | refine nx ?_); try simp (disch := omega) only [h1, h2, h4, h5, h6, H4, H5, hw2, hc12, cTest, encFail, cFail,go_sem, simprocAttr]) | ((with_reducible refine' cE ?hv ?_ ?_); (case hv => rfl); all_goals (intro hc; (try simp only [go_sem, simprocAttr] at hc))) | ((with_reducible refine fe ?_); refine ⟨_, (by simp only [Tryz.f70, h1, h2, h4, h5, h6, H4, H5, hw2, hc12, cTest, encFail, cFail,go_sem, simprocAttr]; rfl), ?_⟩; rfl) | fail)
end Cp
namespace Cp
open Go Go.Proofs
set_option maxRecDepth 10000
set_option maxHeartbeats 1000000
end Cp
namespace Cp
open Go Go.Proofs
set_option maxRecDepth 10000
set_option maxHeartbeats 1000000
def greatT (t : TestT) : Bool := greatS t.run t.rules || decide (80 < t.notes.length)
theorem r2great_ok (t : TestT) : PureC Tryz.prog 12 [encTest t] (.bool (greatT t)) := by
 have hg := great_ok t.run t.rules
 simp only [encRun, cRun, encRules, cRules] at hg
 unfold greatT
 generalize greatS t.run t.rules = g at *
 refine PureC_of (fn := Tryz.f12) tabOK (by kernel_rfl) rfl (by kernel_rfl) (by simp [Tryz.f12]) (by simp [noids, noid, noidss, go_sem, encTest, cTest]) (by first | rfl | simp [noids, noid, noidss, go_sem, encTest, cTest]) ?_
 intro X hX0 hXs
 cases g with
 | true =>
  repeat' (first | with_reducible (first | (refine sk ?_; intro K hK) | apply_assumption -exfalso -symm only [*]) | ((first | (with_reducible first | refine rg (h := ?_) | refine nx ?_) | refine pK (hg) ?_); try simp (disch := omega) only [encTest, cTest, encRun, cRun, encRules, cRules,go_sem, simprocAttr]) | ((with_reducible refine fe ?_); refine ⟨_, (by simp only [Tryz.f12, encTest, cTest, encRun, cRun, encRules, cRules,go_sem, simprocAttr]; rfl), ?_⟩; rfl) | fail)
 | false =>
  repeat' (first | with_reducible (first | (refine sk ?_; intro K hK) | apply_assumption -exfalso -symm only [*]) | ((first | (with_reducible first | refine rg (h := ?_) | refine nx ?_) | refine pK (hg) ?_); try simp (disch := omega) only [encTest, cTest, encRun, cRun, encRules, cRules,go_sem, simprocAttr]) | ((with_reducible refine fe ?_); refine ⟨_, (by simp only [Tryz.f12, encTest, cTest, encRun, cRun, encRules, cRules,go_sem, simprocAttr]; rfl), ?_⟩; (try simp only [encTest, cTest, encRun, cRun, encRules, cRules,go_sem, simprocAttr, seval])) | fail)
  rw [Bool.eq_iff_iff]; simp only [decide_eq_true_eq]; omega
theorem r2twin_ok (t : TestT) (hr : RunSm t.run) (hu : t.rules.steps.length ≤ 1073741824) (hn : t.notes.length ≤ 1073741824) : PureC Tryz.prog 13 [encTest t] (encTest t) := by
 have h1 := twin_ok t.run hr
 have h2 := twinRules_ok t.rules hu
 simp only [encRun, cRun, encRules, cRules] at h1 h2
 refine PureC_of (fn := Tryz.f13) tabOK (by kernel_rfl) rfl (by kernel_rfl) (by simp [Tryz.f13]) (by simp [noids, noid, noidss, go_sem, encTest, cTest]) (by first | rfl | simp [noids, noid, noidss, go_sem, encTest, cTest]) ?_
 intro X hX0 hXs
 repeat' (first | with_reducible (first | (refine sk ?_; intro K hK) | intro (ep : Nat → Nat) | apply_assumption -exfalso -symm only [*]) | ((first | (with_reducible first | refine rg (md := { base := 0, own := [1] }) (h := ?_) | refine nx ?_) | refine pK (h1) ?_ | refine pK (h2) ?_); try simp (disch := omega) only [encTest, cTest, encRun, cRun, encRules, cRules, hn,go_sem, simprocAttr]) | ((with_reducible refine fe ?_); refine ⟨_, (by simp only [Tryz.f13, encTest, cTest, encRun, cRun, encRules, cRules, hn,go_sem, simprocAttr]; rfl), ?_⟩; (try simp only [encTest, cTest, encRun, cRun, encRules, cRules, hn,go_sem, simprocAttr, seval])) | fail)
end Cp
namespace Cp
open Go Go.Proofs
set_option maxRecDepth 10000
set_option maxHeartbeats 4000000
theorem r2classes_ok : PureC Tryz.prog 33 [] (.lst 1 (ints clsL)) := by
 refine PureC_of (fn := Tryz.f33) tabOK (by kernel_rfl) rfl (by kernel_rfl) (by simp [Tryz.f33]) (by simp [noids, noid, noidss, go_sem, clsL, ints]) (by first | rfl | simp [noids, noid, noidss, go_sem, clsL, ints]) ?_
 intro X hX0 hXs
 repeat' (first | with_reducible (first | (refine sk ?_; intro K hK) | apply_assumption -exfalso -symm only [*]) | ((with_reducible first | refine rg (h := ?_) | refine nx ?_); try simp (disch := omega) only [clsL, ints,go_sem, simprocAttr]) | ((with_reducible refine fe ?_); refine ⟨_, (by simp only [Tryz.f33, clsL, ints,go_sem, simprocAttr]; rfl), ?_⟩; rfl) | fail)
theorem fold_letter {t : TestT} (hF : TestF t) (l : Nat) : foldR t (2 * l) = letterS t l := first_fold _ fun f hf => by
 unfold failsL at hf
 obtain ⟨c, _, rfl⟩ := List.mem_map.1 hf
 exact failC_B hF c
theorem r2has_ok (t : TestT) (hF : TestF t) (hb : TestB t) (l : Nat) (hl : 1 ≤ l ∧ l ≤ 3) (c : Int) (hc1 : 1 ≤ c ∧ c ≤ 60) :
  PureC Tryz.prog 47 [encTest t, .int .u8 (l : Int), .int .i64 c] (.tup [.bool (sureP t l c), .bool (mayP t l c)]) := by
 have hfin := hF.fin
 have hck := hF.clock
 have hf := r2first_ok t hb.notes hF.notes (by omega) hF.clock l hl
 rw [fold_letter hF] at hf
 have hk := rKept_ok t.run t.rules hb.run hb.rules c
 have hrl := hF.rows
 unfold sureP mayP sureF2 mayF2 knownAt
 have hhd : (letterS t l).held = 0 ∨ (letterS t l).held = 1 ∨ (letterS t l).held = 2 := by
  rcases fstS_held (failsL t (2 * l)) with q | q | q
  ·exact .inl q
  ·exact .inr (.inl q)
  ·exact .inr (.inr (by show (fstS (failsL t (2 * l))).held = 2; rw [q]))
 generalize letterS t l = F at *
 simp only [encTest, cTest, encFail, cFail] at hf
 refine PureC_of (fn := Tryz.f47) tabOK (by kernel_rfl) rfl (by kernel_rfl) (by simp [Tryz.f47]) (by simp [noids, noid, noidss, go_sem, encTest, cTest]) (by first | rfl | simp [noids, noid, noidss, go_sem, encTest, cTest]) ?_
 intro X hX0 hXs
 by_cases hlt : (t.run.rows.length : Int) < c
 ·simp only [if_pos hlt, show decide ((0 : Int) = 2) = false from rfl, show decide ((0 : Int) = 0) = true from rfl, Bool.and_false, Bool.not_true]
  repeat' (first | with_reducible (first | (refine sk ?_; intro K hK) | apply_assumption -exfalso -symm only [*]) | ((with_reducible first | refine rg (h := ?_) | refine nx ?_); try simp (disch := omega) only [encTest, cTest, hlt,go_sem, simprocAttr]) | ((with_reducible refine' cE ?hv ?_ ?_); (case hv => rfl); all_goals (intro hc; (try simp only [go_sem, simprocAttr] at hc))) | ((with_reducible refine fe ?_); refine ⟨_, (by simp only [Tryz.f47, encTest, cTest, hlt,go_sem, simprocAttr]; rfl), ?_⟩; (try simp only [encTest, cTest, hlt,go_sem, simprocAttr, seval])) | fail)
  all_goals simp
 ·simp only [if_neg hlt]
  rw [keptT, if_pos hF.check, if_pos (by omega)] at hk
  have hkb := keptL_mono (l := leftS t.run t.rules) (Int.le_refl c)
  generalize (keptL (leftS t.run t.rules) c).1 = kn at *
  generalize (keptL (leftS t.run t.rules) c).2 = km at *
  simp only [encRun, cRun, encRules, cRules] at hk
  have hk0 : (0 < kn) ↔ ¬ kn = 0 := by omega
  have hcl : (60 * c ≤ t.fin - t.clock.hi ∧ 60 * c ≤ t.fin - t.clock.lo) ∨ (¬ 60 * c ≤ t.fin - t.clock.hi ∧ 60 * c ≤ t.fin - t.clock.lo) ∨ (¬ 60 * c ≤ t.fin - t.clock.hi ∧ ¬ 60 * c ≤ t.fin - t.clock.lo) := by omega
  have hlo : 60 * c < F.at1.lo ∨ ¬ 60 * c < F.at1.lo := by omega
  have hhi : 60 * c < F.at1.hi ∨ ¬ 60 * c < F.at1.hi := by omega
  rcases hcl with ⟨h3, h4⟩ | ⟨h3, h4⟩ | ⟨h3, h4⟩
  all_goals
   rcases hhd with h2 | h2 | h2
   ·have h0 : ¬ F.held = 2 := by omega
    have h00 : ¬ 0 < F.held := by omega
    rcases hlo with hlo | hlo <;> rcases hhi with hhi | hhi
    all_goals
     repeat' (first | with_reducible (first | (refine sk ?_; intro K hK) | intro (ep : Nat → Nat) | apply_assumption -exfalso -symm only [*]) | ((first | (with_reducible first | refine rg (h := ?_) | refine nx ?_) | refine pK (hf) ?_ | refine pK (hk) ?_); try simp (disch := omega) only [encTest, cTest, encFail, cFail, encRun, cRun, encRules, cRules, hlt, h2, h0, h00, h3, h4, hlo, hhi,go_sem, simprocAttr]) | ((with_reducible refine' cE ?hv ?_ ?_); (case hv => rfl); all_goals (intro hc; (try simp only [go_sem, simprocAttr] at hc))) | ((with_reducible refine fe ?_); refine ⟨_, (by simp only [Tryz.f47, encTest, cTest, encFail, cFail, encRun, cRun, encRules, cRules, hlt, h2, h0, h00, h3, h4, hlo, hhi,go_sem, simprocAttr]; rfl), ?_⟩; first | rfl | (try simp only [encTest, cTest, encFail, cFail, encRun, cRun, encRules, cRules, hlt, h2, h0, h00, h3, h4, hlo, hhi,go_sem, simprocAttr, seval])) | fail)
    all_goals (try simp [h2, h0, h3, h4, hlo, hhi, hk0]) <;> omega
   ·have h0 : ¬ F.held = 2 := by omega
    have h00 : 0 < F.held := by omega
    have h01 : ¬ F.held = 0 := by omega
    rcases hlo with hlo | hlo
    all_goals
     repeat' (first | with_reducible (first | (refine sk ?_; intro K hK) | intro (ep : Nat → Nat) | apply_assumption -exfalso -symm only [*]) | ((first | (with_reducible first | refine rg (h := ?_) | refine nx ?_) | refine pK (hf) ?_ | refine pK (hk) ?_); try simp (disch := omega) only [encTest, cTest, encFail, cFail, encRun, cRun, encRules, cRules, hlt, h2, h0, h00, h01, h3, h4, hlo,go_sem, simprocAttr]) | ((with_reducible refine' cE ?hv ?_ ?_); (case hv => rfl); all_goals (intro hc; (try simp only [go_sem, simprocAttr] at hc))) | ((with_reducible refine fe ?_); refine ⟨_, (by simp only [Tryz.f47, encTest, cTest, encFail, cFail, encRun, cRun, encRules, cRules, hlt, h2, h0, h00, h01, h3, h4, hlo,go_sem, simprocAttr]; rfl), ?_⟩; first | rfl | (try simp only [encTest, cTest, encFail, cFail, encRun, cRun, encRules, cRules, hlt, h2, h0, h00, h01, h3, h4, hlo,go_sem, simprocAttr, seval])) | fail)
    all_goals (try simp [h2, h0, h01, h3, h4, hlo, hk0]) <;> omega
   ·have h0 : ¬ F.held = 0 := by omega
    have h00 : 0 < F.held := by omega
    repeat' (first | with_reducible (first | (refine sk ?_; intro K hK) | intro (ep : Nat → Nat) | apply_assumption -exfalso -symm only [*]) | ((first | (with_reducible first | refine rg (h := ?_) | refine nx ?_) | refine pK (hf) ?_ | refine pK (hk) ?_); try simp (disch := omega) only [encTest, cTest, encFail, cFail, encRun, cRun, encRules, cRules, hlt, h2, h0, h00, h3, h4,go_sem, simprocAttr]) | ((with_reducible refine' cE ?hv ?_ ?_); (case hv => rfl); all_goals (intro hc; (try simp only [go_sem, simprocAttr] at hc))) | ((with_reducible refine fe ?_); refine ⟨_, (by simp only [Tryz.f47, encTest, cTest, encFail, cFail, encRun, cRun, encRules, cRules, hlt, h2, h0, h00, h3, h4,go_sem, simprocAttr]; rfl), ?_⟩; first | rfl | (try simp only [encTest, cTest, encFail, cFail, encRun, cRun, encRules, cRules, hlt, h2, h0, h00, h3, h4,go_sem, simprocAttr, seval])) | fail)
    all_goals (try simp [h2, h0, h3, h4, hk0]) <;> omega
end Cp
namespace Cp
open Go Go.Proofs
set_option maxRecDepth 10000
set_option maxHeartbeats 2000000
theorem lastP_snoc {p : Int → Bool} {l : List Int} {x b : Int} : lastP p (l ++ [x]) b = if p x = true then x else lastP p l b := by
 unfold lastP; rw [List.foldl_append]; rfl
theorem sureS_last {t : TestT} {l : Nat} : sureS t l = lastP (sureP t l) clsL 0 := grt_last (Down.pair (sureF2_down (t := t) (f := letterS t l)))
theorem mayS_last {t : TestT} {l : Nat} : mayS t l = lastP (mayP t l) clsL 0 := grt_last (Down.pair (mayF2_down (t := t) (f := letterS t l)))
theorem r2Class_ok (t : TestT) (hb : TestB t) (l : Int) (hl : 0 ≤ l ∧ l ≤ 255) : PureC Tryz.prog 15 [encTest t, .int .u8 l] (classV t l) := by
 have hck := r2Check_ok t hb
 have hnv : noid (classV t l) = true := by unfold classV; (repeat' split) <;> rfl
 simp only [encTest, cTest] at hck
 refine PureC_of (fn := Tryz.f15) tabOK (by kernel_rfl) rfl (by kernel_rfl) (by simp [Tryz.f15]) (by simp [noids, noid, noidss, go_sem, encTest, cTest, hnv]) (by first | rfl | simp [noids, noid, noidss, go_sem, encTest, cTest, hnv]) ?_
 intro X hX0 hXs
 unfold classV at hnv ⊢
 by_cases h : checkT t = 0
 ·rw [if_pos h] at hnv ⊢
  rw [h] at hck
  have hF := testF h
  by_cases hcr : 1 ≤ l ∧ l ≤ 3
  ·rw [if_pos hcr] at hnv ⊢
   obtain ⟨k, rfl⟩ : ∃ k : Nat, l = (k : Int) := ⟨l.toNat, by omega⟩
   rw [Int.toNat_natCast] at hnv ⊢
   have hhas := fun c hc => r2has_ok t hF hb k (by omega) c hc
   rw [sureS_last, mayS_last] at hnv ⊢
   generalize sureP t k = p at *
   generalize mayP t k = q at *
   simp only [encTest, cTest] at hhas
   repeat' (first | with_reducible (first | (refine sk ?_; intro K hK) | intro (ep : Nat → Nat) | apply_assumption -exfalso -symm only [*]) | ((first | (with_reducible first | refine rg (md := { base := 0, own := [4, 7] }) (h := ?_) | refine nx ?_) | refine pK (hck) ?_ | refine pK (r2within_ok _ _ _) ?_ | refine pK (r2classes_ok) ?_); try simp (disch := omega) only [encTest, cTest, hcr,go_sem, simprocAttr]) | ((with_reducible refine' cE ?hv ?_ ?_); (case hv => rfl); all_goals (intro hc; (try simp only [go_sem, simprocAttr] at hc))) | fail)
   refine AW_range tabOK 7 (fun i f H => (f 1 = .int .u8 (k : Int) ∧ f 2 = .pim (cTest t) ∧ f 23 = .lst 1 (ints clsL)) ∧ ∃ e4 e7, f 4 = .ptr 4 e4 2 0 0 ∧ f 7 = .ptr 7 e7 2 0 0 ∧ H 4 = some (e4, .arr 2 [[.int .i64 0, .int .i64 0]]) ∧ H 7 = some (e7, .arr 2 [[.int .i64 (lastP p (clsL.take i) 0), .int .i64 (lastP q (clsL.take i) 0)]])) (by decide) (by rw [hXs]; decide) (by decide) (by (first | rfl | (simp only [go_sem, simprocAttr]; done) | (simp only [go_sem, simprocAttr]; rfl))) (by (first | rfl | (simp only [ints, clsL, List.length_cons, List.length_nil, go_sem, simprocAttr]; done) | (simp only [ints, clsL, List.length_cons, List.length_nil, go_sem, simprocAttr]; rfl)))
    ⟨by (and_intros <;> first | rfl | (simp only [cTest, go_sem, simprocAttr]; done) | (simp only [cTest, go_sem, simprocAttr]; rfl)), _, _, by (first | rfl | (simp only [go_sem, simprocAttr]; done) | (simp only [go_sem, simprocAttr]; rfl)), by (first | rfl | (simp only [go_sem, simprocAttr]; done) | (simp only [go_sem, simprocAttr]; rfl)), by (first | rfl | (simp only [go_sem, simprocAttr]; done) | (simp only [go_sem, simprocAttr]; rfl)), by (first | rfl | (simp only [go_sem, simprocAttr]; done) | (simp only [go_sem, simprocAttr]; rfl))⟩ ?_ ?_
   ·rintro i f H hi h25 h24 ⟨⟨h1, h2, h23⟩, e4, e7, h4, h7, H4, H7⟩
    obtain ⟨x, hx⟩ : ∃ x, clsL[i]? = some x := ⟨_, List.getElem?_eq_getElem hi⟩
    have hxa := ints_at hx
    have hh := hhas x (cls_r (List.mem_of_getElem? hx))
    rw [take_snocC hx, lastP_snoc, lastP_snoc]
    generalize lastP p (clsL.take i) 0 = lo at *
    generalize lastP q (clsL.take i) 0 = hi9 at *
    refine AW_keep [4, 7] ?_
    change keep H [4, 7] 4 = _ at H4
    change keep H [4, 7] 7 = _ at H7
    generalize keep H [4, 7] = H2 at *
    clear hhas hnv hck hx
    cases hp : p x <;> cases hq : q x <;> rw [hp, hq] at hh
    all_goals
     simp only [Bool.false_eq_true, if_true, if_false]
     repeat' (first | with_reducible (first | (refine sk ?_; intro K hK) | apply_assumption -exfalso -symm only [*]) | ((first | (with_reducible first | refine rg (md := { base := 0, own := [4, 7] }) (h := ?_) | refine nx ?_) | refine pK (hh) ?_); try simp (disch := omega) only [h1, h2, h4, h7, h23, h24, h25, hxa, H4, H7, cTest,go_sem, simprocAttr]) | ((with_reducible refine' cE ?hv ?_ ?_); (case hv => rfl); all_goals (intro hc; (try simp only [go_sem, simprocAttr] at hc))) | fail)
    all_goals
     exact ⟨e4, e7, by (first | rfl | (simp only [h4, go_sem, simprocAttr]; done) | (simp only [h4, go_sem, simprocAttr]; rfl)), by (first | rfl | (simp only [h7, go_sem, simprocAttr]; done) | (simp only [h7, go_sem, simprocAttr]; rfl)), by (first | rfl | (simp only [H4, go_sem, simprocAttr]; done) | (simp only [H4, go_sem, simprocAttr]; rfl)), by (first | rfl | (simp only [H7, go_sem, simprocAttr]; done) | (simp only [H7, go_sem, simprocAttr]; rfl))⟩
   ·rintro f H h25 h24 ⟨⟨h1, h2, h23⟩, e4, e7, h4, h7, H4, H7⟩
    rw [show clsL.take 7 = clsL from rfl] at H7
    clear hhas
    repeat' (first | with_reducible (first | (refine sk ?_; intro K hK) | apply_assumption -exfalso -symm only [*]) | ((with_reducible first | refine rg (md := { base := 0, own := [4, 7] }) (h := ?_) | refine nx ?_); try simp (disch := omega) only [h4, h7, H4, H7, encSpan,go_sem, simprocAttr]) | ((with_reducible refine fe ?_); refine ⟨_, (by simp only [Tryz.f15, h4, h7, H4, H7, encSpan,go_sem, simprocAttr]; rfl), ?_⟩; rfl) | fail)
  ·rw [if_neg hcr] at hnv ⊢
   repeat' (first | with_reducible (first | (refine sk ?_; intro K hK) | intro (ep : Nat → Nat) | apply_assumption -exfalso -symm only [*]) | ((first | (with_reducible first | refine rg (md := { base := 0, own := [4, 7] }) (h := ?_) | refine nx ?_) | refine pK (hck) ?_ | refine pK (r2within_ok _ _ _) ?_); try simp (disch := omega) only [encTest, cTest, encSpan, hcr,go_sem, simprocAttr]) | ((with_reducible refine' cE ?hv ?_ ?_); (case hv => rfl); all_goals (intro hc; (try simp only [go_sem, simprocAttr] at hc))) | ((with_reducible refine fe ?_); refine ⟨_, (by simp only [Tryz.f15, encTest, cTest, encSpan, hcr,go_sem, simprocAttr]; rfl), ?_⟩; rfl) | fail)
 ·rw [if_neg h] at hnv ⊢
  repeat' (first | with_reducible (first | (refine sk ?_; intro K hK) | intro (ep : Nat → Nat) | apply_assumption -exfalso -symm only [*]) | ((first | (with_reducible first | refine rg (md := { base := 0, own := [4, 7] }) (h := ?_) | refine nx ?_) | refine pK (hck) ?_); try simp (disch := omega) only [encTest, cTest, encSpan, h,go_sem, simprocAttr]) | ((with_reducible refine' cE ?hv ?_ ?_); (case hv => rfl); all_goals (intro hc; (try simp only [go_sem, simprocAttr] at hc))) | ((with_reducible refine fe ?_); refine ⟨_, (by simp only [Tryz.f15, encTest, cTest, encSpan, h,go_sem, simprocAttr]; rfl), ?_⟩; rfl) | fail)
end Cp
