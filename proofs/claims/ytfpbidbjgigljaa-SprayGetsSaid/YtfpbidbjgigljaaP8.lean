/- Rules, facts and contracts that the statement's proof leans on. Conditions: none. -/
import Derived.Test.YtfpbidbjgigljaaP7
set_option linter.unusedVariables false
set_option linter.unusedSimpArgs false
set_option linter.unusedSectionVars false
namespace Cp
open Go Go.Proofs
set_option maxRecDepth 10000
theorem in1_ok (lo hi n : Int) : PureC Try.prog 92 [.int .i64 n, .pim [.int .i64 lo], .pim [.int .i64 hi]] (.bool (!decide (lo ≤ n ∧ n ≤ hi))) := by
 refine PureC_of (fn := Try.f92) tabOK (by kernel_rfl) rfl (by kernel_rfl) (by simp [Try.f92]) (by simp [noids, noid, noidss, go_sem]) (by first | rfl | simp [noids, noid, noidss, go_sem]) ?_
 intro X hX0 hXs
 repeat' (first | (with_reducible refine sk ?_; intro K hK) | ((with_reducible first | refine rg (h := ?_) | refine nx ?_); try simp (disch := omega) only [go_sem, simprocAttr]) | (with_reducible refine bk ?_) | ((with_reducible refine' cE ?hv ?_ ?_); (case hv => first | rfl | (simp only [go_sem, simprocAttr]; rfl)); all_goals (intro hc; (try simp only [go_sem, simprocAttr] at hc); try (exfalso; omega))) | ((with_reducible first | refine grdS_split ?_ ?_ | refine lkG_split ?_ ?_) <;> intro hg <;> (try simp (disch := omega) only [hg, go_sem, simprocAttr]) <;> (try simp only [go_sem, simprocAttr] at hg) <;> (try (exfalso; omega))) | ((with_reducible refine fe ?_); refine ⟨_, (by simp only [Try.f92, go_sem, simprocAttr]; rfl), ?_⟩; first | rfl | (try simp only [go_sem, simprocAttr, seval])) | with_reducible intro (ep : Nat → Nat) | with_reducible apply_assumption -exfalso -symm only [*])
 ·simp; omega
 ·rw [Bool.eq_iff_iff]; simp; omega
theorem indexInt_ok (xs : List Int) (hx : xs.length ≤ 4611686018427387904) (g : FuncId) (caps : List Val) (hc : noids caps = true) (p : Int → Bool) (hp : ∀ x ∈ xs, PureC Try.prog g (.int .i64 x :: caps) (.bool (p x))) :
  PureC Try.prog 100 [.lst 1 (ints xs), .fn g caps] (.int .i64 (idxFrom p xs 0)) := by
 refine PureC_of (fn := Try.f100) tabOK (by kernel_rfl) rfl (by kernel_rfl) (by simp [Try.f100]) (by simp [noids, noid, noidss, go_sem, hc]) (by first | rfl | simp [noids, noid, noidss, go_sem, hc]) ?_
 intro X hX0 hXs
 repeat' (first | (with_reducible refine sk ?_; intro K hK) | ((with_reducible first | refine rg (h := ?_) | refine nx ?_); try simp (disch := omega) only [go_sem, simprocAttr]) | (with_reducible refine bk ?_) | ((with_reducible refine' cE ?hv ?_ ?_); (case hv => first | rfl | (simp only [go_sem, simprocAttr]; rfl)); all_goals (intro hc; (try simp only [go_sem, simprocAttr] at hc); try (exfalso; omega))) | ((with_reducible refine fe ?_); refine ⟨_, (by simp only [Try.f100, go_sem, simprocAttr]; rfl), ?_⟩; first | rfl | (try simp only [go_sem, simprocAttr, seval])) | with_reducible intro (ep : Nat → Nat) | with_reducible apply_assumption -exfalso -symm only [*])
 refine AW_range tabOK xs.length (fun k f H => f 0 = .lst 1 (ints xs) ∧ f 1 = .fn g caps ∧ H = none0 ∧ idxFrom p xs 0 = idxFrom p (xs.drop k) k) hx (by rw [hXs]; decide) (by decide) (by simp only [go_sem, simprocAttr]) (by simp only [go_sem, simprocAttr]) ⟨by simp only [go_sem, simprocAttr], by simp only [go_sem, simprocAttr], rfl, by simp⟩ ?_ ?_
 ·rintro k f H hk h8 h7 ⟨h0, h1, rfl, hr⟩
  obtain ⟨x, hx⟩ : ∃ x, xs[k]? = some x := ⟨_, List.getElem?_eq_getElem hk⟩
  repeat' (first | (with_reducible refine sk ?_; intro K hK) | ((first | (with_reducible first | refine rg (h := ?_) | refine nx ?_) | refine pK (hp x (List.mem_of_getElem? hx)) ?_); try simp (disch := omega) only [h0, h1, h8, h7, hx,go_sem, simprocAttr]) | (with_reducible refine bk ?_) | ((with_reducible refine' cE ?hv ?_ ?_); (case hv => first | rfl | (simp only [h0, h1, h8, h7, hx,go_sem, simprocAttr]; rfl)); all_goals (intro hc; (try simp only [go_sem, simprocAttr] at hc); try (exfalso; omega))) | ((with_reducible refine fe ?_); refine ⟨_, (by simp only [Try.f100, h0, h1, h8, h7, hx,go_sem, simprocAttr]; rfl), ?_⟩; first | rfl | (try simp only [h0, h1, h8, h7, hx,go_sem, simprocAttr, seval])) | with_reducible intro (ep : Nat → Nat) | with_reducible apply_assumption -exfalso -symm only [*])
  ·rw [hr, drop_cons hx]; simp [idxFrom, hc]
  ·rw [hr, drop_cons hx]; simp [idxFrom, hc]
 ·rintro f H h8 h7 ⟨h0, h1, rfl, hr⟩
  repeat' (first | (with_reducible refine sk ?_; intro K hK) | ((with_reducible first | refine rg (h := ?_) | refine nx ?_); try simp (disch := omega) only [go_sem, simprocAttr]) | (with_reducible refine bk ?_) | ((with_reducible refine' cE ?hv ?_ ?_); (case hv => first | rfl | (simp only [go_sem, simprocAttr]; rfl)); all_goals (intro hc; (try simp only [go_sem, simprocAttr] at hc); try (exfalso; omega))) | ((with_reducible refine fe ?_); refine ⟨_, (by simp only [Try.f100, go_sem, simprocAttr]; rfl), ?_⟩; first | rfl | (try simp only [go_sem, simprocAttr, seval])) | with_reducible intro (ep : Nat → Nat) | with_reducible apply_assumption -exfalso -symm only [*])
  rw [hr]; simp [idxFrom]
theorem containsInt_ok (xs : List Int) (hx : xs.length ≤ 4611686018427387904) (g : FuncId) (caps : List Val) (hc : noids caps = true) (p : Int → Bool) (hp : ∀ x ∈ xs, PureC Try.prog g (.int .i64 x :: caps) (.bool (p x))) :
  PureC Try.prog 91 [.lst 1 (ints xs), .fn g caps] (.bool (xs.any p)) := by
 refine PureC_of (fn := Try.f91) tabOK (by kernel_rfl) rfl (by kernel_rfl) (by simp [Try.f91]) (by simp [noids, noid, noidss, go_sem, hc]) (by first | rfl | simp [noids, noid, noidss, go_sem, hc]) ?_
 intro X hX0 hXs
 repeat' (first | (with_reducible refine sk ?_; intro K hK) | ((first | (with_reducible first | refine rg (h := ?_) | refine nx ?_) | refine pK (indexInt_ok xs hx g caps hc p hp) ?_); try simp (disch := omega) only [go_sem, simprocAttr]) | (with_reducible refine bk ?_) | ((with_reducible refine' cE ?hv ?_ ?_); (case hv => first | rfl | (simp only [go_sem, simprocAttr]; rfl)); all_goals (intro hc; (try simp only [go_sem, simprocAttr] at hc); try (exfalso; omega))) | ((with_reducible refine fe ?_); refine ⟨_, (by simp only [Try.f91, go_sem, simprocAttr]; rfl), ?_⟩; first | rfl | (try simp only [go_sem, simprocAttr, seval])) | with_reducible intro (ep : Nat → Nat) | with_reducible apply_assumption -exfalso -symm only [*])
 exact idxFrom_neg (Int.le_refl 0)
theorem in_ok (xs : List Int) (hx : xs.length ≤ 4611686018427387904) (lo hi : Int) : PureC Try.prog 64 [.int .i64 lo, .int .i64 hi, .lst 1 (ints xs)] (.bool (xs.all fun n => decide (lo ≤ n ∧ n ≤ hi))) := by
 refine PureC_of (fn := Try.f64) tabOK (by kernel_rfl) rfl (by kernel_rfl) (by simp [Try.f64]) (by simp [noids, noid, noidss, go_sem]) (by first | rfl | simp [noids, noid, noidss, go_sem]) ?_
 intro X hX0 hXs
 repeat' (first | (with_reducible refine sk ?_; intro K hK) | ((first | (with_reducible first | refine rg (h := ?_) | refine nx ?_) | refine pK (containsInt_ok xs hx _ _ (by rfl) (fun n => !decide (lo ≤ n ∧ n ≤ hi)) (fun n _ => in1_ok lo hi n)) ?_); try simp (disch := omega) only [go_sem, simprocAttr]) | (with_reducible refine bk ?_) | ((with_reducible refine' cE ?hv ?_ ?_); (case hv => first | rfl | (simp only [go_sem, simprocAttr]; rfl)); all_goals (intro hc; (try simp only [go_sem, simprocAttr] at hc); try (exfalso; omega))) | ((with_reducible refine fe ?_); refine ⟨_, (by simp only [Try.f64, go_sem, simprocAttr]; rfl), ?_⟩; first | rfl | (try simp only [go_sem, simprocAttr, seval])) | with_reducible intro (ep : Nat → Nat) | with_reducible apply_assumption -exfalso -symm only [*])
 simp [List.all_eq_not_any_not]
theorem in_1 (lo hi a : Int) : PureC Try.prog 64 [.int .i64 lo, .int .i64 hi, .lst 1 [[.int .i64 a]]] (.bool (decide (lo ≤ a ∧ a ≤ hi))) := by
 have := in_ok [a] (by simp) lo hi
 simpa [ints] using this
theorem in_2 (lo hi a b : Int) : PureC Try.prog 64 [.int .i64 lo, .int .i64 hi, .lst 1 [[.int .i64 a], [.int .i64 b]]] (.bool (decide ((lo ≤ a ∧ a ≤ hi) ∧ lo ≤ b ∧ b ≤ hi))) := by
 have := in_ok [a, b] (by simp) lo hi
 simpa [ints] using this
theorem ordered_ok (s : Span) (lo hi : Int) : PureC Try.prog 65 [.int .i64 lo, .int .i64 hi, encSpan s] (.bool (decide (lo ≤ s.lo ∧ s.lo ≤ s.hi ∧ s.hi ≤ hi))) := by
 refine PureC_of (fn := Try.f65) tabOK (by kernel_rfl) rfl (by kernel_rfl) (by simp [Try.f65]) (by simp [noids, noid, noidss, go_sem, encSpan]) (by first | rfl | simp [noids, noid, noidss, go_sem, encSpan]) ?_
 intro X hX0 hXs
 repeat' (first | (with_reducible refine sk ?_; intro K hK) | ((first | (with_reducible first | refine rg (h := ?_) | refine nx ?_) | refine pK (in_2 _ _ _ _) ?_); try simp (disch := omega) only [encSpan,go_sem, simprocAttr]) | (with_reducible refine bk ?_) | ((with_reducible refine' cE ?hv ?_ ?_); (case hv => first | rfl | (simp only [encSpan,go_sem, simprocAttr]; rfl)); all_goals (intro hc; (try simp only [go_sem, simprocAttr] at hc); try (exfalso; omega))) | ((with_reducible first | refine grdS_split ?_ ?_ | refine lkG_split ?_ ?_) <;> intro hg <;> (try simp (disch := omega) only [hg, encSpan,go_sem, simprocAttr]) <;> (try simp only [go_sem, simprocAttr] at hg) <;> (try (exfalso; omega))) | ((with_reducible refine fe ?_); refine ⟨_, (by simp only [Try.f65, encSpan,go_sem, simprocAttr]; rfl), ?_⟩; first | rfl | (try simp only [encSpan,go_sem, simprocAttr, seval])) | with_reducible intro (ep : Nat → Nat) | with_reducible apply_assumption -exfalso -symm only [*])
 all_goals (rw [Bool.eq_iff_iff]; simp; omega)
theorem isNaN_ok (a : Int) : PureC Try.prog 109 [.int .i64 a] (.bool false) := by
 refine PureC_of (fn := Try.f109) tabOK (by kernel_rfl) rfl (by kernel_rfl) (by simp [Try.f109]) (by simp [noids, noid, noidss, go_sem]) (by first | rfl | simp [noids, noid, noidss, go_sem]) ?_
 intro X hX0 hXs
 repeat' (first | (with_reducible refine sk ?_; intro K hK) | ((with_reducible first | refine rg (h := ?_) | refine nx ?_); try simp (disch := omega) only [go_sem, simprocAttr]) | (with_reducible refine bk ?_) | ((with_reducible refine' cE ?hv ?_ ?_); (case hv => first | rfl | (simp only [go_sem, simprocAttr]; rfl)); all_goals (intro hc; (try simp only [go_sem, simprocAttr] at hc); try (exfalso; omega))) | ((with_reducible refine fe ?_); refine ⟨_, (by simp only [Try.f109, go_sem, simprocAttr]; rfl), ?_⟩; first | rfl | (try simp only [go_sem, simprocAttr, seval])) | with_reducible intro (ep : Nat → Nat) | with_reducible apply_assumption -exfalso -symm only [*])
 try simp
def cmpI (a b : Int) : Int := if a < b then -1 else if b < a then 1 else 0
theorem compare_ok (a b : Int) : PureC Try.prog 99 [.int .i64 a, .int .i64 b] (.int .i64 (cmpI a b)) := by
 refine PureC_of (fn := Try.f99) tabOK (by kernel_rfl) rfl (by kernel_rfl) (by simp [Try.f99]) (by simp [noids, noid, noidss, go_sem]) (by first | rfl | simp [noids, noid, noidss, go_sem]) ?_
 intro X hX0 hXs
 repeat' (first | (with_reducible refine sk ?_; intro K hK) | ((first | (with_reducible first | refine rg (h := ?_) | refine nx ?_) | refine pK (isNaN_ok _) ?_); try simp (disch := omega) only [go_sem, simprocAttr]) | (with_reducible refine bk ?_) | ((with_reducible refine' cE ?hv ?_ ?_); (case hv => first | rfl | (simp only [go_sem, simprocAttr]; rfl)); all_goals (intro hc; (try simp only [go_sem, simprocAttr] at hc); try (exfalso; omega))) | ((with_reducible refine fe ?_); refine ⟨_, (by simp only [Try.f99, go_sem, simprocAttr]; rfl), ?_⟩; first | rfl | (try simp only [go_sem, simprocAttr, seval])) | with_reducible intro (ep : Nat → Nat) | with_reducible apply_assumption -exfalso -symm only [*])
 all_goals (simp only [cmpI]; grind)
theorem made_ok (h : HeadT) (nodes : Int) : PureC Try.prog 66 [encHead h, .int .i64 nodes] (.bool (madeOK h nodes)) := by
 refine PureC_of (fn := Try.f66) tabOK (by kernel_rfl) rfl (by kernel_rfl) (by simp [Try.f66]) (by simp [noids, noid, noidss, go_sem, encHead, cHead]) (by first | rfl | simp [noids, noid, noidss, go_sem, encHead, cHead]) ?_
 intro X hX0 hXs
 repeat' (first | (with_reducible refine sk ?_; intro K hK) | ((first | (with_reducible first | refine rg (h := ?_) | refine nx ?_) | refine pK (in_1 _ _ _) ?_ | refine pK (ordered_ok h.bulb _ _) ?_ | refine pK (ordered_ok h.slow _ _) ?_); try simp (disch := omega) only [encHead, cHead, encSpan,go_sem, simprocAttr]) | (with_reducible refine bk ?_) | ((with_reducible refine' cE ?hv ?_ ?_); (case hv => first | rfl | (simp only [encHead, cHead, encSpan,go_sem, simprocAttr]; rfl)); all_goals (intro hc; (try simp only [go_sem, simprocAttr] at hc); try (exfalso; omega))) | ((with_reducible first | refine grdS_split ?_ ?_ | refine lkG_split ?_ ?_) <;> intro hg <;> (try simp (disch := omega) only [hg, encHead, cHead, encSpan,go_sem, simprocAttr]) <;> (try simp only [go_sem, simprocAttr] at hg) <;> (try (exfalso; omega))) | ((with_reducible refine fe ?_); refine ⟨_, (by simp only [Try.f66, encHead, cHead, encSpan,go_sem, simprocAttr]; rfl), ?_⟩; first | rfl | (try simp only [encHead, cHead, encSpan,go_sem, simprocAttr, seval])) | with_reducible intro (ep : Nat → Nat) | with_reducible apply_assumption -exfalso -symm only [*])
 all_goals (simp only [madeOK, bulbOK]; rw [Bool.eq_iff_iff]; simp; omega)
theorem pump1_ok (p : PumpT) : PureC Try.prog 68 [.agg (cPump p)] (.bool (!pumpOK p)) := by
 refine PureC_of (fn := Try.f68) tabOK (by kernel_rfl) rfl (by kernel_rfl) (by simp [Try.f68]) (by simp [noids, noid, noidss, go_sem, cPump]) (by first | rfl | simp [noids, noid, noidss, go_sem, cPump]) ?_
 intro X hX0 hXs
 repeat' (first | (with_reducible refine sk ?_; intro K hK) | ((first | (with_reducible first | refine rg (h := ?_) | refine nx ?_) | refine pK (in_1 _ _ _) ?_ | refine pK (ordered_ok p.full _ _) ?_); try simp (disch := omega) only [cPump, encSpan,go_sem, simprocAttr]) | (with_reducible refine bk ?_) | ((with_reducible refine' cE ?hv ?_ ?_); (case hv => first | rfl | (simp only [cPump, encSpan,go_sem, simprocAttr]; rfl)); all_goals (intro hc; (try simp only [go_sem, simprocAttr] at hc); try (exfalso; omega))) | ((with_reducible first | refine grdS_split ?_ ?_ | refine lkG_split ?_ ?_) <;> intro hg <;> (try simp (disch := omega) only [hg, cPump, encSpan,go_sem, simprocAttr]) <;> (try simp only [go_sem, simprocAttr] at hg) <;> (try (exfalso; omega))) | ((with_reducible refine fe ?_); refine ⟨_, (by simp only [Try.f68, cPump, encSpan,go_sem, simprocAttr]; rfl), ?_⟩; first | rfl | (try simp only [cPump, encSpan,go_sem, simprocAttr, seval])) | with_reducible intro (ep : Nat → Nat) | with_reducible apply_assumption -exfalso -symm only [*])
 all_goals (simp only [pumpOK]; rw [Bool.eq_iff_iff]; simp; omega)
theorem indexPump_ok (xs : List PumpT) (hx : xs.length ≤ 4611686018427387904) (g : FuncId) (caps : List Val) (hc : noids caps = true) (p : PumpT → Bool) (hp : ∀ x ∈ xs, PureC Try.prog g (.agg (cPump x) :: caps) (.bool (p x))) :
  PureC Try.prog 93 [.lst 3 (xs.map cPump), .fn g caps] (.int .i64 (idxFrom p xs 0)) := by
 simp only [cPump] at hp
 refine PureC_of (fn := Try.f93) tabOK (by kernel_rfl) rfl (by kernel_rfl) (by simp [Try.f93]) (by simp [noids, noid, noidss, go_sem, hc]) (by first | rfl | simp [noids, noid, noidss, go_sem, hc]) ?_
 intro X hX0 hXs
 repeat' (first | (with_reducible refine sk ?_; intro K hK) | ((with_reducible first | refine rg (h := ?_) | refine nx ?_); try simp (disch := omega) only [go_sem, simprocAttr]) | (with_reducible refine bk ?_) | ((with_reducible refine' cE ?hv ?_ ?_); (case hv => first | rfl | (simp only [go_sem, simprocAttr]; rfl)); all_goals (intro hc; (try simp only [go_sem, simprocAttr] at hc); try (exfalso; omega))) | ((with_reducible refine fe ?_); refine ⟨_, (by simp only [Try.f93, go_sem, simprocAttr]; rfl), ?_⟩; first | rfl | (try simp only [go_sem, simprocAttr, seval])) | with_reducible intro (ep : Nat → Nat) | with_reducible apply_assumption -exfalso -symm only [*])
 refine AW_range tabOK xs.length (fun k f H => f 0 = .lst 3 (xs.map cPump) ∧ f 1 = .fn g caps ∧ H = none0 ∧ idxFrom p xs 0 = idxFrom p (xs.drop k) k) hx (by rw [hXs]; decide) (by decide) (by simp only [go_sem, simprocAttr]) (by simp only [go_sem, simprocAttr]) ⟨by simp only [go_sem, simprocAttr], by simp only [go_sem, simprocAttr], rfl, by simp⟩ ?_ ?_
 ·rintro k f H hk h8 h7 ⟨h0, h1, rfl, hr⟩
  obtain ⟨x, hx⟩ : ∃ x, xs[k]? = some x := ⟨_, List.getElem?_eq_getElem hk⟩
  repeat' (first | (with_reducible refine sk ?_; intro K hK) | ((first | (with_reducible first | refine rg (h := ?_) | refine nx ?_) | refine pK (hp x (List.mem_of_getElem? hx)) ?_); try simp (disch := omega) only [h0, h1, h8, h7, hx, cPump,go_sem, simprocAttr]) | (with_reducible refine bk ?_) | ((with_reducible refine' cE ?hv ?_ ?_); (case hv => first | rfl | (simp only [h0, h1, h8, h7, hx, cPump,go_sem, simprocAttr]; rfl)); all_goals (intro hc; (try simp only [go_sem, simprocAttr] at hc); try (exfalso; omega))) | ((with_reducible refine fe ?_); refine ⟨_, (by simp only [Try.f93, h0, h1, h8, h7, hx, cPump,go_sem, simprocAttr]; rfl), ?_⟩; first | rfl | (try simp only [h0, h1, h8, h7, hx, cPump,go_sem, simprocAttr, seval])) | with_reducible intro (ep : Nat → Nat) | with_reducible apply_assumption -exfalso -symm only [*])
  ·rw [hr, drop_cons hx]; simp [idxFrom, hc]
  ·rw [hr, drop_cons hx]; simp [idxFrom, hc]
 ·rintro f H h8 h7 ⟨h0, h1, rfl, hr⟩
  repeat' (first | (with_reducible refine sk ?_; intro K hK) | ((with_reducible first | refine rg (h := ?_) | refine nx ?_); try simp (disch := omega) only [go_sem, simprocAttr]) | (with_reducible refine bk ?_) | ((with_reducible refine' cE ?hv ?_ ?_); (case hv => first | rfl | (simp only [go_sem, simprocAttr]; rfl)); all_goals (intro hc; (try simp only [go_sem, simprocAttr] at hc); try (exfalso; omega))) | ((with_reducible refine fe ?_); refine ⟨_, (by simp only [Try.f93, go_sem, simprocAttr]; rfl), ?_⟩; first | rfl | (try simp only [go_sem, simprocAttr, seval])) | with_reducible intro (ep : Nat → Nat) | with_reducible apply_assumption -exfalso -symm only [*])
  rw [hr]; simp [idxFrom]
theorem containsPump_ok (xs : List PumpT) (hx : xs.length ≤ 4611686018427387904) (g : FuncId) (caps : List Val) (hc : noids caps = true) (p : PumpT → Bool) (hp : ∀ x ∈ xs, PureC Try.prog g (.agg (cPump x) :: caps) (.bool (p x))) :
  PureC Try.prog 67 [.lst 3 (xs.map cPump), .fn g caps] (.bool (xs.any p)) := by
 refine PureC_of (fn := Try.f67) tabOK (by kernel_rfl) rfl (by kernel_rfl) (by simp [Try.f67]) (by simp [noids, noid, noidss, go_sem, hc]) (by first | rfl | simp [noids, noid, noidss, go_sem, hc]) ?_
 intro X hX0 hXs
 repeat' (first | (with_reducible refine sk ?_; intro K hK) | ((first | (with_reducible first | refine rg (h := ?_) | refine nx ?_) | refine pK (indexPump_ok xs hx g caps hc p hp) ?_); try simp (disch := omega) only [go_sem, simprocAttr]) | (with_reducible refine bk ?_) | ((with_reducible refine' cE ?hv ?_ ?_); (case hv => first | rfl | (simp only [go_sem, simprocAttr]; rfl)); all_goals (intro hc; (try simp only [go_sem, simprocAttr] at hc); try (exfalso; omega))) | ((with_reducible refine fe ?_); refine ⟨_, (by simp only [Try.f67, go_sem, simprocAttr]; rfl), ?_⟩; first | rfl | (try simp only [go_sem, simprocAttr, seval])) | with_reducible intro (ep : Nat → Nat) | with_reducible apply_assumption -exfalso -symm only [*])
 exact idxFrom_neg (Int.le_refl 0)
def checkN (n : NetT) : Int := if netOK n = true then 0 else 50
theorem netOK_sizes {n : NetT} (h : sizesOK n = false) : netOK n = false := by simp [netOK, h]
theorem check_ok (n : NetT) (hp : n.pipes.length ≤ 1000) (hh : n.heads.length ≤ 1000) (hq : n.pumps.length ≤ 1000) : PureC Try.prog 21 [encNet n] (.int .i64 (checkN n)) := by
 refine PureC_of (fn := Try.f21) tabOK (by kernel_rfl) rfl (by kernel_rfl) (by simp [Try.f21]) (by simp [noids, noid, noidss, go_sem, encNet, cNet]) (by first | rfl | simp [noids, noid, noidss, go_sem, encNet, cNet]) ?_
 intro X hX0 hXs
 have bad0 : sizesOK n = false → 50 = checkN n := fun h => by unfold checkN; rw [netOK_sizes h]; rfl
 simp only [sizesOK, decide_eq_false_iff_not] at bad0
 repeat' (first | (with_reducible refine sk ?_; intro K hK) | ((first | (with_reducible first | refine rg (h := ?_) | refine rgS [4, 7] (h := ?_) | refine nx ?_) | refine pK (in_1 _ _ _) ?_ | refine pK (ordered_ok n.tank _ _) ?_); try simp (disch := omega) only [encNet, cNet, encSpan,go_sem, simprocAttr]) | (with_reducible refine bk ?_) | ((with_reducible refine' cE ?hv ?_ ?_); (case hv => first | rfl | (simp only [encNet, cNet, encSpan,go_sem, simprocAttr]; rfl)); all_goals (intro hc; (try simp only [go_sem, simprocAttr] at hc); try (exfalso; omega))) | ((with_reducible first | refine grdS_split ?_ ?_ | refine lkG_split ?_ ?_) <;> intro hg <;> (try simp (disch := omega) only [hg, encNet, cNet, encSpan,go_sem, simprocAttr]) <;> (try simp only [go_sem, simprocAttr] at hg) <;> (try (exfalso; omega))) | ((with_reducible refine fe ?_); refine ⟨_, (by simp only [Try.f21, encNet, cNet, encSpan,go_sem, simprocAttr]; rfl), ?_⟩; first | rfl | (try simp only [encNet, cNet, encSpan,go_sem, simprocAttr, seval])) | with_reducible intro (ep : Nat → Nat) | with_reducible apply_assumption -exfalso -symm only [*])
 iterate 6 (first | exact bad0 (by omega) | omega)
 have hs : sizesOK n = true := by simp only [sizesOK, decide_eq_true_eq]; omega
 clear bad0
 refine AW_range tabOK n.pipes.length (fun k f H => f 1 = .pim (cNet n) ∧ f 55 = .lst 4 (n.pipes.map cPipe) ∧ pipesFrom 0 n.pipes = pipesFrom k (n.pipes.drop k)) (by omega) (by rw [hXs]; decide) (by decide) (by simp only [go_sem, simprocAttr]) (by simp only [go_sem, simprocAttr])
  ⟨by simp only [go_sem, simprocAttr, cNet], by simp only [go_sem, simprocAttr], by simp⟩ ?_ ?_
 ·rintro k f H hk h57 h56 ⟨h1, h55, hr⟩
  obtain ⟨x, hx⟩ : ∃ x, n.pipes[k]? = some x := ⟨_, List.getElem?_eq_getElem hk⟩
  rw [drop_cons hx] at hr
  simp only [pipesFrom] at hr
  have bad : pipeOK k x = false → 50 = checkN n := fun h => by
   have : netOK n = false := by rw [netOK, hr, h]; simp
   unfold checkN; rw [this]; rfl
  simp only [pipeOK, decide_eq_false_iff_not] at bad
  refine AW_keep [] ?_
  repeat' (first | (with_reducible refine sk ?_; intro K hK) | ((first | (with_reducible first | refine rg (h := ?_) | refine rgS [4, 7] (h := ?_) | refine nx ?_) | refine pK (in_1 _ _ _) ?_ | refine pK (ordered_ok x.foul _ _) ?_); try simp (disch := omega) only [h1, h55, h56, h57, hx, cNet, cPipe, encSpan,go_sem, simprocAttr]) | (with_reducible refine bk ?_) | ((with_reducible refine' cE ?hv ?_ ?_); (case hv => first | rfl | (simp only [h1, h55, h56, h57, hx, cNet, cPipe, encSpan,go_sem, simprocAttr]; rfl)); all_goals (intro hc; (try simp only [go_sem, simprocAttr] at hc); try (exfalso; omega))) | ((with_reducible first | refine grdS_split ?_ ?_ | refine lkG_split ?_ ?_) <;> intro hg <;> (try simp (disch := omega) only [hg, h1, h55, h56, h57, hx, cNet, cPipe, encSpan,go_sem, simprocAttr]) <;> (try simp only [go_sem, simprocAttr] at hg) <;> (try (exfalso; omega))) | ((with_reducible refine fe ?_); refine ⟨_, (by simp only [Try.f21, h1, h55, h56, h57, hx, cNet, cPipe, encSpan,go_sem, simprocAttr]; rfl), ?_⟩; first | rfl | (try simp only [h1, h55, h56, h57, hx, cNet, cPipe, encSpan,go_sem, simprocAttr, seval])) | with_reducible intro (ep : Nat → Nat) | with_reducible apply_assumption -exfalso -symm only [*])
  iterate 3 (first | exact bad (by omega) | omega)
  have h' : pipeOK k x = true := by simp only [pipeOK, decide_eq_true_eq]; omega
  rw [hr, h']; simp
 ·rintro f H h57 h56 ⟨h1, h55, hr⟩
  have hps : pipesFrom 0 n.pipes = true := by rw [hr, drop_none (Nat.le_refl _)]; rfl
  clear h55 hr
  repeat' (first | (with_reducible refine sk ?_; intro K hK) | ((with_reducible first | refine rg (h := ?_) | refine rgS [4, 7] (h := ?_) | refine nx ?_); try simp (disch := omega) only [h1, cNet,go_sem, simprocAttr]) | (with_reducible refine bk ?_) | ((with_reducible refine' cE ?hv ?_ ?_); (case hv => first | rfl | (simp only [h1, cNet,go_sem, simprocAttr]; rfl)); all_goals (intro hc; (try simp only [go_sem, simprocAttr] at hc); try (exfalso; omega))) | ((with_reducible first | refine grdS_split ?_ ?_ | refine lkG_split ?_ ?_) <;> intro hg <;> (try simp (disch := omega) only [hg, h1, cNet,go_sem, simprocAttr]) <;> (try simp only [go_sem, simprocAttr] at hg) <;> (try (exfalso; omega))) | ((with_reducible refine fe ?_); refine ⟨_, (by simp only [Try.f21, h1, cNet,go_sem, simprocAttr]; rfl), ?_⟩; first | rfl | (try simp only [h1, cNet,go_sem, simprocAttr, seval])) | with_reducible intro (ep : Nat → Nat) | with_reducible apply_assumption -exfalso -symm only [*])
  refine AW_range tabOK n.heads.length (fun k f H => f 1 = .pim (cNet n) ∧ f 83 = .lst 8 (n.heads.map cHead) ∧ ∃ last, f 5 = .int .i64 last ∧ headsFrom n.pipes.length (-1) n.heads = headsFrom n.pipes.length last (n.heads.drop k)) (by omega) (by rw [hXs]; decide) (by decide) (by simp only [go_sem, simprocAttr]) (by simp only [go_sem, simprocAttr])
   ⟨by (first | rfl | (simp only [h1, cNet, go_sem, simprocAttr]; done) | (simp only [h1, cNet, go_sem, simprocAttr]; rfl)), by (first | rfl | (simp only [go_sem, simprocAttr]; done) | (simp only [go_sem, simprocAttr]; rfl)), -1, by (first | rfl | (simp only [go_sem, simprocAttr]; done) | (simp only [go_sem, simprocAttr]; rfl)), by simp⟩ ?_ ?_
  ·clear h1 h56 h57
   rintro k f H hk h85 h84 ⟨h1, h83, last, h5, hr⟩
   obtain ⟨x, hx⟩ : ∃ x, n.heads[k]? = some x := ⟨_, List.getElem?_eq_getElem hk⟩
   rw [drop_cons hx] at hr
   simp only [headsFrom] at hr
   have bad : (decide (last < x.id) && madeOK x n.pipes.length) = false → 50 = checkN n := fun h => by
    have : netOK n = false := by rw [netOK, hr, h]; simp
    unfold checkN; rw [this]; rfl
   have hmd := made_ok x n.pipes.length
   simp only [encHead, cHead] at hmd
   refine AW_keep [] ?_
   by_cases hl : last < x.id
   ·rw [decide_eq_true hl, Bool.true_and] at bad hr
    cases hm : madeOK x n.pipes.length with
    | false =>
     rw [hm] at hmd
     replace bad := bad hm
     repeat' (first | (with_reducible refine sk ?_; intro K hK) | ((first | (with_reducible first | refine rg (h := ?_) | refine rgS [4, 7] (h := ?_) | refine nx ?_) | refine pK (hmd) ?_); try simp (disch := omega) only [h1, h5, h83, h84, h85, hx, hl, cNet, cHead,go_sem, simprocAttr]) | (with_reducible refine bk ?_) | ((with_reducible refine' cE ?hv ?_ ?_); (case hv => first | rfl | (simp only [h1, h5, h83, h84, h85, hx, hl, cNet, cHead,go_sem, simprocAttr]; rfl)); all_goals (intro hc; (try simp only [go_sem, simprocAttr] at hc); try (exfalso; omega))) | ((with_reducible first | refine grdS_split ?_ ?_ | refine lkG_split ?_ ?_) <;> intro hg <;> (try simp (disch := omega) only [hg, h1, h5, h83, h84, h85, hx, hl, cNet, cHead,go_sem, simprocAttr]) <;> (try simp only [go_sem, simprocAttr] at hg) <;> (try (exfalso; omega))) | ((with_reducible refine fe ?_); refine ⟨_, (by simp only [Try.f21, h1, h5, h83, h84, h85, hx, hl, cNet, cHead,go_sem, simprocAttr]; rfl), ?_⟩; first | rfl | (try simp only [h1, h5, h83, h84, h85, hx, hl, cNet, cHead,go_sem, simprocAttr, seval])) | with_reducible intro (ep : Nat → Nat) | with_reducible apply_assumption -exfalso -symm only [*])
    | true =>
     rw [hm] at hmd hr
     repeat' (first | (with_reducible refine sk ?_; intro K hK) | ((first | (with_reducible first | refine rg (h := ?_) | refine rgS [4, 7] (h := ?_) | refine nx ?_) | refine pK (hmd) ?_); try simp (disch := omega) only [h1, h5, h83, h84, h85, hx, hl, cNet, cHead,go_sem, simprocAttr]) | (with_reducible refine bk ?_) | ((with_reducible refine' cE ?hv ?_ ?_); (case hv => first | rfl | (simp only [h1, h5, h83, h84, h85, hx, hl, cNet, cHead,go_sem, simprocAttr]; rfl)); all_goals (intro hc; (try simp only [go_sem, simprocAttr] at hc); try (exfalso; omega))) | ((with_reducible first | refine grdS_split ?_ ?_ | refine lkG_split ?_ ?_) <;> intro hg <;> (try simp (disch := omega) only [hg, h1, h5, h83, h84, h85, hx, hl, cNet, cHead,go_sem, simprocAttr]) <;> (try simp only [go_sem, simprocAttr] at hg) <;> (try (exfalso; omega))) | ((with_reducible refine fe ?_); refine ⟨_, (by simp only [Try.f21, h1, h5, h83, h84, h85, hx, hl, cNet, cHead,go_sem, simprocAttr]; rfl), ?_⟩; first | rfl | (try simp only [h1, h5, h83, h84, h85, hx, hl, cNet, cHead,go_sem, simprocAttr, seval])) | with_reducible intro (ep : Nat → Nat) | with_reducible apply_assumption -exfalso -symm only [*])
     exact ⟨x.id, rfl, by rw [hr]; simp⟩
   ·rw [decide_eq_false hl, Bool.false_and] at bad
    replace bad := bad rfl
    repeat' (first | (with_reducible refine sk ?_; intro K hK) | ((first | (with_reducible first | refine rg (h := ?_) | refine rgS [4, 7] (h := ?_) | refine nx ?_) | refine pK (hmd) ?_); try simp (disch := omega) only [h1, h5, h83, h84, h85, hx, hl, cNet, cHead,go_sem, simprocAttr]) | (with_reducible refine bk ?_) | ((with_reducible refine' cE ?hv ?_ ?_); (case hv => first | rfl | (simp only [h1, h5, h83, h84, h85, hx, hl, cNet, cHead,go_sem, simprocAttr]; rfl)); all_goals (intro hc; (try simp only [go_sem, simprocAttr] at hc); try (exfalso; omega))) | ((with_reducible first | refine grdS_split ?_ ?_ | refine lkG_split ?_ ?_) <;> intro hg <;> (try simp (disch := omega) only [hg, h1, h5, h83, h84, h85, hx, hl, cNet, cHead,go_sem, simprocAttr]) <;> (try simp only [go_sem, simprocAttr] at hg) <;> (try (exfalso; omega))) | ((with_reducible refine fe ?_); refine ⟨_, (by simp only [Try.f21, h1, h5, h83, h84, h85, hx, hl, cNet, cHead,go_sem, simprocAttr]; rfl), ?_⟩; first | rfl | (try simp only [h1, h5, h83, h84, h85, hx, hl, cNet, cHead,go_sem, simprocAttr, seval])) | with_reducible intro (ep : Nat → Nat) | with_reducible apply_assumption -exfalso -symm only [*])
  ·clear h1 h56 h57
   rintro f H h85 h84 ⟨h1, h83, last, h5, hr⟩
   have hhs : headsFrom n.pipes.length (-1) n.heads = true := by rw [hr, drop_none (Nat.le_refl _)]; rfl
   have hcN : checkN n = if n.pumps.all pumpOK = true then 0 else 50 := by unfold checkN netOK; rw [hs, hps, hhs]; simp
   have hany : n.pumps.any (fun p => !pumpOK p) = !(n.pumps.all pumpOK) := by simp [List.all_eq_not_any_not]
   have hcp := containsPump_ok n.pumps (by omega) 68 [] rfl (fun p => !pumpOK p) fun p _ => pump1_ok p
   rw [hany] at hcp
   cases hq : n.pumps.all pumpOK with
   | false =>
    rw [hq] at hcp hcN
    repeat' (first | (with_reducible refine sk ?_; intro K hK) | ((first | (with_reducible first | refine rg (h := ?_) | refine rgS [4, 7] (h := ?_) | refine nx ?_) | refine pK (hcp) ?_); try simp (disch := omega) only [h1, cNet,go_sem, simprocAttr]) | (with_reducible refine bk ?_) | ((with_reducible refine' cE ?hv ?_ ?_); (case hv => first | rfl | (simp only [h1, cNet,go_sem, simprocAttr]; rfl)); all_goals (intro hc; (try simp only [go_sem, simprocAttr] at hc); try (exfalso; omega))) | ((with_reducible first | refine grdS_split ?_ ?_ | refine lkG_split ?_ ?_) <;> intro hg <;> (try simp (disch := omega) only [hg, h1, cNet,go_sem, simprocAttr]) <;> (try simp only [go_sem, simprocAttr] at hg) <;> (try (exfalso; omega))) | ((with_reducible refine fe ?_); refine ⟨_, (by simp only [Try.f21, h1, cNet,go_sem, simprocAttr]; rfl), ?_⟩; first | rfl | (try simp only [h1, cNet,go_sem, simprocAttr, seval])) | with_reducible intro (ep : Nat → Nat) | with_reducible apply_assumption -exfalso -symm only [*])
    all_goals (rw [hcN]; rfl)
   | true =>
    rw [hq] at hcp hcN
    repeat' (first | (with_reducible refine sk ?_; intro K hK) | ((first | (with_reducible first | refine rg (h := ?_) | refine rgS [4, 7] (h := ?_) | refine nx ?_) | refine pK (hcp) ?_); try simp (disch := omega) only [h1, cNet,go_sem, simprocAttr]) | (with_reducible refine bk ?_) | ((with_reducible refine' cE ?hv ?_ ?_); (case hv => first | rfl | (simp only [h1, cNet,go_sem, simprocAttr]; rfl)); all_goals (intro hc; (try simp only [go_sem, simprocAttr] at hc); try (exfalso; omega))) | ((with_reducible first | refine grdS_split ?_ ?_ | refine lkG_split ?_ ?_) <;> intro hg <;> (try simp (disch := omega) only [hg, h1, cNet,go_sem, simprocAttr]) <;> (try simp only [go_sem, simprocAttr] at hg) <;> (try (exfalso; omega))) | ((with_reducible refine fe ?_); refine ⟨_, (by simp only [Try.f21, h1, cNet,go_sem, simprocAttr]; rfl), ?_⟩; first | rfl | (try simp only [h1, cNet,go_sem, simprocAttr, seval])) | with_reducible intro (ep : Nat → Nat) | with_reducible apply_assumption -exfalso -symm only [*])
    all_goals (rw [hcN]; rfl)
end Cp
namespace Cp
open Go
end Cp
namespace Cp
open Go Go.Proofs
set_option maxRecDepth 10000
theorem within_ok (n lo hi : Int) : PureC Try.prog 75 [.int .i64 n, .int .i64 lo, .int .i64 hi] (.bool (decide (lo ≤ n ∧ n ≤ hi))) := by
 refine PureC_of (fn := Try.f75) tabOK (by kernel_rfl) rfl (by kernel_rfl) (by simp [Try.f75]) (by simp [noids, noid, noidss, go_sem]) (by first | rfl | simp [noids, noid, noidss, go_sem]) ?_
 intro X hX0 hXs
 repeat' (first | (with_reducible refine sk ?_; intro K hK) | ((with_reducible first | refine rg (h := ?_) | refine nx ?_); try simp (disch := omega) only [go_sem, simprocAttr]) | (with_reducible refine bk ?_) | ((with_reducible refine' cE ?hv ?_ ?_); (case hv => first | rfl | (simp only [go_sem, simprocAttr]; rfl)); all_goals (intro hc; (try simp only [go_sem, simprocAttr] at hc); try (exfalso; omega))) | ((with_reducible first | refine grdS_split ?_ ?_ | refine lkG_split ?_ ?_) <;> intro hg <;> (try simp (disch := omega) only [hg, go_sem, simprocAttr]) <;> (try simp only [go_sem, simprocAttr] at hg) <;> (try (exfalso; omega))) | ((with_reducible refine fe ?_); refine ⟨_, (by simp only [Try.f75, go_sem, simprocAttr]; rfl), ?_⟩; first | rfl | (try simp only [go_sem, simprocAttr, seval])) | with_reducible intro (ep : Nat → Nat) | with_reducible apply_assumption -exfalso -symm only [*])
 all_goals (rw [Bool.eq_iff_iff]; simp; omega)
theorem spanned_ok (s : Span) (lo hi : Int) : PureC Try.prog 82 [encSpan s, .int .i64 lo, .int .i64 hi] (.bool (decide (lo ≤ s.lo ∧ s.lo ≤ s.hi ∧ s.hi ≤ hi))) := by
 refine PureC_of (fn := Try.f82) tabOK (by kernel_rfl) rfl (by kernel_rfl) (by simp [Try.f82]) (by simp [noids, noid, noidss, go_sem, encSpan]) (by first | rfl | simp [noids, noid, noidss, go_sem, encSpan]) ?_
 intro X hX0 hXs
 repeat' (first | (with_reducible refine sk ?_; intro K hK) | ((with_reducible first | refine rg (h := ?_) | refine nx ?_); try simp (disch := omega) only [encSpan,go_sem, simprocAttr]) | (with_reducible refine bk ?_) | ((with_reducible refine' cE ?hv ?_ ?_); (case hv => first | rfl | (simp only [encSpan,go_sem, simprocAttr]; rfl)); all_goals (intro hc; (try simp only [go_sem, simprocAttr] at hc); try (exfalso; omega))) | ((with_reducible first | refine grdS_split ?_ ?_ | refine lkG_split ?_ ?_) <;> intro hg <;> (try simp (disch := omega) only [hg, encSpan,go_sem, simprocAttr]) <;> (try simp only [go_sem, simprocAttr] at hg) <;> (try (exfalso; omega))) | ((with_reducible refine fe ?_); refine ⟨_, (by simp only [Try.f82, encSpan,go_sem, simprocAttr]; rfl), ?_⟩; first | rfl | (try simp only [encSpan,go_sem, simprocAttr, seval])) | with_reducible intro (ep : Nat → Nat) | with_reducible apply_assumption -exfalso -symm only [*])
 all_goals (rw [Bool.eq_iff_iff]; simp; omega)
theorem rBulb_ok (h : HeadT) : PureC Try.prog 49 [encHead h] (.bool (bulbOK h)) := by
 refine PureC_of (fn := Try.f49) tabOK (by kernel_rfl) rfl (by kernel_rfl) (by simp [Try.f49]) (by simp [noids, noid, noidss, go_sem, encHead, cHead]) (by first | rfl | simp [noids, noid, noidss, go_sem, encHead, cHead]) ?_
 intro X hX0 hXs
 repeat' (first | (with_reducible refine sk ?_; intro K hK) | ((first | (with_reducible first | refine rg (h := ?_) | refine nx ?_) | refine pK (within_ok _ _ _) ?_ | refine pK (spanned_ok h.bulb _ _) ?_ | refine pK (spanned_ok h.slow _ _) ?_); try simp (disch := omega) only [encHead, cHead, encSpan,go_sem, simprocAttr]) | (with_reducible refine bk ?_) | ((with_reducible refine' cE ?hv ?_ ?_); (case hv => first | rfl | (simp only [encHead, cHead, encSpan,go_sem, simprocAttr]; rfl)); all_goals (intro hc; (try simp only [go_sem, simprocAttr] at hc); try (exfalso; omega))) | ((with_reducible first | refine grdS_split ?_ ?_ | refine lkG_split ?_ ?_) <;> intro hg <;> (try simp (disch := omega) only [hg, encHead, cHead, encSpan,go_sem, simprocAttr]) <;> (try simp only [go_sem, simprocAttr] at hg) <;> (try (exfalso; omega))) | ((with_reducible refine fe ?_); refine ⟨_, (by simp only [Try.f49, encHead, cHead, encSpan,go_sem, simprocAttr]; rfl), ?_⟩; first | rfl | (try simp only [encHead, cHead, encSpan,go_sem, simprocAttr, seval])) | with_reducible intro (ep : Nat → Nat) | with_reducible apply_assumption -exfalso -symm only [*])
 all_goals (simp only [bulbOK]; rw [Bool.eq_iff_iff]; simp; omega)
end Cp
namespace Cp
open Go
def c16 (m : Int) : List Val := [.int .u16 m]
@[go_sem] theorem c16_noid {l : List Int} : noidss (l.map c16) = true := noidss_map fun _ => rfl
def c32 (m : Int) : List Val := [.int .u32 m]
@[go_sem] theorem c32_noid {l : List Int} : noidss (l.map c32) = true := noidss_map fun _ => rfl
end Cp
namespace Cp
open Go Go.Proofs
set_option maxRecDepth 10000
set_option maxHeartbeats 1000000
structure NetS (n : NetT) : Prop where
 pipes : n.pipes.length ≤ 20
 heads : n.heads.length ≤ 12
 pumps : n.pumps.length ≤ 6
theorem great_small {n : NetT} (h : greatN n = false) : NetS n := by
 simp only [greatN, decide_eq_false_iff_not] at h
 exact ⟨by omega, by omega, by omega⟩
theorem NetF.s {n : NetT} (h : NetF n) : NetS n := ⟨by have := h.pipes; omega, by have := h.heads; omega, by have := h.pumps; omega⟩
theorem great_ok (n : NetT) : PureC Try.prog 15 [encNet n] (.bool (greatN n)) := by
 refine PureC_of (fn := Try.f15) tabOK (by kernel_rfl) rfl (by kernel_rfl) (by simp [Try.f15]) (by simp [noids, noid, noidss, go_sem, encNet, cNet]) (by first | rfl | simp [noids, noid, noidss, go_sem, encNet, cNet]) ?_
 intro X hX0 hXs
 repeat' (first | (with_reducible refine sk ?_; intro K hK) | ((with_reducible first | refine rg (h := ?_) | refine nx ?_); try simp (disch := omega) only [encNet, cNet,go_sem, simprocAttr]) | (with_reducible refine bk ?_) | ((with_reducible refine' cE ?hv ?_ ?_); (case hv => first | rfl | (simp only [encNet, cNet,go_sem, simprocAttr]; rfl)); all_goals (intro hc; (try simp only [go_sem, simprocAttr] at hc); try (exfalso; omega))) | ((with_reducible first | refine grdS_split ?_ ?_ | refine lkG_split ?_ ?_) <;> intro hg <;> (try simp (disch := omega) only [hg, encNet, cNet,go_sem, simprocAttr]) <;> (try simp only [go_sem, simprocAttr] at hg) <;> (try (exfalso; omega))) | ((with_reducible refine fe ?_); refine ⟨_, (by simp only [Try.f15, encNet, cNet,go_sem, simprocAttr]; rfl), ?_⟩; first | rfl | (try simp only [encNet, cNet,go_sem, simprocAttr, seval])) | with_reducible intro (ep : Nat → Nat) | with_reducible apply_assumption -exfalso -symm only [*])
 all_goals (simp only [greatN]; rw [Bool.eq_iff_iff]; simp; omega)
theorem rNet_ok (n : NetT) (hs : NetS n) : PureC Try.prog 54 [encNet n] (.bool (netOK n)) := by
 have hp := hs.pipes
 have hh := hs.heads
 have hq := hs.pumps
 refine PureC_of (fn := Try.f54) tabOK (by kernel_rfl) rfl (by kernel_rfl) (by simp [Try.f54]) (by simp [noids, noid, noidss, go_sem, encNet, cNet]) (by first | rfl | simp [noids, noid, noidss, go_sem, encNet, cNet]) ?_
 intro X hX0 hXs
 have bad0 : sizesOK n = false → false = netOK n := fun h => (netOK_sizes h).symm
 simp only [sizesOK, decide_eq_false_iff_not] at bad0
 repeat' (first | (with_reducible refine sk ?_; intro K hK) | ((first | (with_reducible first | refine rg (h := ?_) | refine rgS [4, 6] (h := ?_) | refine nx ?_) | refine pK (within_ok _ _ _) ?_ | refine pK (spanned_ok n.tank _ _) ?_); try simp (disch := omega) only [encNet, cNet, encSpan,go_sem, simprocAttr]) | (with_reducible refine bk ?_) | ((with_reducible refine' cE ?hv ?_ ?_); (case hv => first | rfl | (simp only [encNet, cNet, encSpan,go_sem, simprocAttr]; rfl)); all_goals (intro hc; (try simp only [go_sem, simprocAttr] at hc); try (exfalso; omega))) | ((with_reducible first | refine grdS_split ?_ ?_ | refine lkG_split ?_ ?_) <;> intro hg <;> (try simp (disch := omega) only [hg, encNet, cNet, encSpan,go_sem, simprocAttr]) <;> (try simp only [go_sem, simprocAttr] at hg) <;> (try (exfalso; omega))) | ((with_reducible refine fe ?_); refine ⟨_, (by simp only [Try.f54, encNet, cNet, encSpan,go_sem, simprocAttr]; rfl), ?_⟩; first | rfl | (try simp only [encNet, cNet, encSpan,go_sem, simprocAttr, seval])) | with_reducible intro (ep : Nat → Nat) | with_reducible apply_assumption -exfalso -symm only [*])
 iterate 6 (first | exact bad0 (by omega) | omega)
 have hz : sizesOK n = true := by simp only [sizesOK, decide_eq_true_eq]; omega
 clear bad0
 refine AW_block (AW_loop (fun m f H => ∃ k : Nat, m = n.pipes.length - k ∧ k ≤ n.pipes.length ∧ (f 1 = .pim (cNet n) ∧ f 3 = .int .i64 k) ∧ pipesFrom 0 n.pipes = pipesFrom k (n.pipes.drop k)) n.pipes.length
  ⟨0, by simp, Nat.zero_le _, by (and_intros <;> first | rfl | (simp only [cNet, go_sem, simprocAttr]; done) | (simp only [cNet, go_sem, simprocAttr]; rfl)), by simp⟩ ?_)
 rintro m f H ⟨k, rfl, hk, ⟨h1, h3⟩, hr⟩
 by_cases hlt : k < n.pipes.length
 ·obtain ⟨x, hx⟩ : ∃ x, n.pipes[k]? = some x := ⟨_, List.getElem?_eq_getElem hlt⟩
  rw [drop_cons hx] at hr
  simp only [pipesFrom] at hr
  have bad : pipeOK k x = false → false = netOK n := fun h => by rw [netOK, hr, h]; simp
  simp only [pipeOK, decide_eq_false_iff_not] at bad
  refine AW_keep [] ?_
  repeat' (first | (with_reducible refine sk ?_; intro K hK) | ((first | (with_reducible first | refine rg (h := ?_) | refine rgS [4, 6] (h := ?_) | refine nx ?_) | refine pK (within_ok _ _ _) ?_ | refine pK (spanned_ok x.foul _ _) ?_); try simp (disch := omega) only [h1, h3, hx, cNet, cPipe, encSpan,go_sem, simprocAttr]) | (with_reducible refine bk ?_) | ((with_reducible refine' cE ?hv ?_ ?_); (case hv => first | rfl | (simp only [h1, h3, hx, cNet, cPipe, encSpan,go_sem, simprocAttr]; rfl)); all_goals (intro hc; (try simp only [go_sem, simprocAttr] at hc); try (exfalso; omega))) | ((with_reducible first | refine grdS_split ?_ ?_ | refine lkG_split ?_ ?_) <;> intro hg <;> (try simp (disch := omega) only [hg, h1, h3, hx, cNet, cPipe, encSpan,go_sem, simprocAttr]) <;> (try simp only [go_sem, simprocAttr] at hg) <;> (try (exfalso; omega))) | ((with_reducible refine fe ?_); refine ⟨_, (by simp only [Try.f54, h1, h3, hx, cNet, cPipe, encSpan,go_sem, simprocAttr]; rfl), ?_⟩; first | rfl | (try simp only [h1, h3, hx, cNet, cPipe, encSpan,go_sem, simprocAttr, seval])) | with_reducible intro (ep : Nat → Nat) | with_reducible apply_assumption -exfalso -symm only [*])
  iterate 3 (first | exact bad (by omega) | omega)
  have h' : pipeOK k x = true := by simp only [pipeOK, decide_eq_true_eq]; omega
  exact ⟨n.pipes.length - (k + 1), by omega, k + 1, rfl, by omega, rfl, by rw [hr, h']; simp⟩
 ·have hps : pipesFrom 0 n.pipes = true := by rw [hr, drop_none (by omega)]; rfl
  clear hr
  repeat' (first | (with_reducible refine sk ?_; intro K hK) | ((with_reducible first | refine rg (h := ?_) | refine rgS [4, 6] (h := ?_) | refine nx ?_); try simp (disch := omega) only [h1, h3, cNet,go_sem, simprocAttr]) | (with_reducible refine bk ?_) | ((with_reducible refine' cE ?hv ?_ ?_); (case hv => first | rfl | (simp only [h1, h3, cNet,go_sem, simprocAttr]; rfl)); all_goals (intro hc; (try simp only [go_sem, simprocAttr] at hc); try (exfalso; omega))) | ((with_reducible first | refine grdS_split ?_ ?_ | refine lkG_split ?_ ?_) <;> intro hg <;> (try simp (disch := omega) only [hg, h1, h3, cNet,go_sem, simprocAttr]) <;> (try simp only [go_sem, simprocAttr] at hg) <;> (try (exfalso; omega))) | ((with_reducible refine fe ?_); refine ⟨_, (by simp only [Try.f54, h1, h3, cNet,go_sem, simprocAttr]; rfl), ?_⟩; first | rfl | (try simp only [h1, h3, cNet,go_sem, simprocAttr, seval])) | with_reducible intro (ep : Nat → Nat) | with_reducible apply_assumption -exfalso -symm only [*])
  refine AW_block (AW_loop (fun m f H => ∃ k : Nat, m = n.heads.length - k ∧ k ≤ n.heads.length ∧ (f 1 = .pim (cNet n) ∧ f 5 = .int .i64 k) ∧ ∃ last, headsFrom n.pipes.length (-1) n.heads = headsFrom n.pipes.length last (n.heads.drop k) ∧ (k = 0 ∧ last = -1 ∨ ∃ (j : Nat) (y : HeadT), k = j + 1 ∧ n.heads[j]? = some y ∧ last = y.id)) n.heads.length
   ⟨0, by simp, Nat.zero_le _, by (and_intros <;> first | rfl | (simp only [h1, cNet, go_sem, simprocAttr]; done) | (simp only [h1, cNet, go_sem, simprocAttr]; rfl)), -1, by simp, .inl ⟨rfl, rfl⟩⟩ ?_)
  clear h1 h3
  rintro m f H ⟨k, rfl, hk, ⟨h1, h5⟩, last, hr, hlast⟩
  by_cases hlt : k < n.heads.length
  ·obtain ⟨x, hx⟩ : ∃ x, n.heads[k]? = some x := ⟨_, List.getElem?_eq_getElem hlt⟩
   rw [drop_cons hx] at hr
   simp only [headsFrom] at hr
   have bad : (decide (last < x.id) && madeOK x n.pipes.length) = false → false = netOK n := fun h => by rw [netOK, hr, h]; simp
   have hrb := rBulb_ok x
   simp only [encHead, cHead] at hrb
   refine AW_keep [] ?_
   by_cases hl : last < x.id ∧ madeOK x n.pipes.length = true
   ·have hgood : headsFrom n.pipes.length (-1) n.heads = headsFrom n.pipes.length x.id (n.heads.drop (k + 1)) := by rw [hr, decide_eq_true hl.1, hl.2]; simp
    have hm := hl.2
    simp only [madeOK, Bool.and_eq_true, decide_eq_true_eq] at hm
    rw [hm.2] at hrb
    have hn1 := hm.1.1
    have hn2 := hm.1.2
    rcases hlast with ⟨rfl, rfl⟩ | ⟨j, y, rfl, hy, rfl⟩
    ·repeat' (first | (with_reducible refine sk ?_; intro K hK) | ((first | (with_reducible first | refine rg (h := ?_) | refine rgS [4, 6] (h := ?_) | refine nx ?_) | refine pK (within_ok _ _ _) ?_ | refine pK (hrb) ?_); try simp (disch := omega) only [h1, h5, hx, hn1, hn2, cNet, cHead,go_sem, simprocAttr]) | (with_reducible refine bk ?_) | ((with_reducible refine' cE ?hv ?_ ?_); (case hv => first | rfl | (simp only [h1, h5, hx, hn1, hn2, cNet, cHead,go_sem, simprocAttr]; rfl)); all_goals (intro hc; (try simp only [go_sem, simprocAttr] at hc); try (exfalso; omega))) | ((with_reducible first | refine grdS_split ?_ ?_ | refine lkG_split ?_ ?_) <;> intro hg <;> (try simp (disch := omega) only [hg, h1, h5, hx, hn1, hn2, cNet, cHead,go_sem, simprocAttr]) <;> (try simp only [go_sem, simprocAttr] at hg) <;> (try (exfalso; omega))) | ((with_reducible refine fe ?_); refine ⟨_, (by simp only [Try.f54, h1, h5, hx, hn1, hn2, cNet, cHead,go_sem, simprocAttr]; rfl), ?_⟩; first | rfl | (try simp only [h1, h5, hx, hn1, hn2, cNet, cHead,go_sem, simprocAttr, seval])) | with_reducible intro (ep : Nat → Nat) | with_reducible apply_assumption -exfalso -symm only [*])
     exact ⟨n.heads.length - 1, by omega, 1, rfl, by omega, rfl, x.id, hgood, .inr ⟨0, x, rfl, hx, rfl⟩⟩
    ·have hlt3 : ¬ x.id ≤ y.id := by omega
     have hj : j < n.heads.length := by omega
     repeat' (first | (with_reducible refine sk ?_; intro K hK) | ((first | (with_reducible first | refine rg (h := ?_) | refine rgS [4, 6] (h := ?_) | refine nx ?_) | refine pK (within_ok _ _ _) ?_ | refine pK (hrb) ?_); try simp (disch := omega) only [h1, h5, hx, hy, hn1, hn2, hlt3, cNet, cHead,go_sem, simprocAttr]) | (with_reducible refine bk ?_) | ((with_reducible refine' cE ?hv ?_ ?_); (case hv => first | rfl | (simp only [h1, h5, hx, hy, hn1, hn2, hlt3, cNet, cHead,go_sem, simprocAttr]; rfl)); all_goals (intro hc; (try simp only [go_sem, simprocAttr] at hc); try (exfalso; omega))) | ((with_reducible first | refine grdS_split ?_ ?_ | refine lkG_split ?_ ?_) <;> intro hg <;> (try simp (disch := omega) only [hg, h1, h5, hx, hy, hn1, hn2, hlt3, cNet, cHead,go_sem, simprocAttr]) <;> (try simp only [go_sem, simprocAttr] at hg) <;> (try (exfalso; omega))) | ((with_reducible refine fe ?_); refine ⟨_, (by simp only [Try.f54, h1, h5, hx, hy, hn1, hn2, hlt3, cNet, cHead,go_sem, simprocAttr]; rfl), ?_⟩; first | rfl | (try simp only [h1, h5, hx, hy, hn1, hn2, hlt3, cNet, cHead,go_sem, simprocAttr, seval])) | with_reducible intro (ep : Nat → Nat) | with_reducible apply_assumption -exfalso -symm only [*])
     exact ⟨n.heads.length - (j + 1 + 1), by omega, j + 1 + 1, rfl, by omega, rfl, x.id, hgood, .inr ⟨j + 1, x, rfl, hx, rfl⟩⟩
   ·replace bad := bad (by rw [Bool.eq_false_iff]; simpa using hl)
    simp only [madeOK, Bool.and_eq_true, decide_eq_true_eq] at hl
    cases hb : bulbOK x with
    | false =>
     rw [hb] at hrb
     rcases hlast with ⟨rfl, rfl⟩ | ⟨j, y, rfl, hy, rfl⟩
     ·repeat' (first | (with_reducible refine sk ?_; intro K hK) | ((first | (with_reducible first | refine rg (h := ?_) | refine rgS [4, 6] (h := ?_) | refine nx ?_) | refine pK (within_ok _ _ _) ?_ | refine pK (hrb) ?_); try simp (disch := omega) only [h1, h5, hx, cNet, cHead,go_sem, simprocAttr]) | (with_reducible refine bk ?_) | ((with_reducible refine' cE ?hv ?_ ?_); (case hv => first | rfl | (simp only [h1, h5, hx, cNet, cHead,go_sem, simprocAttr]; rfl)); all_goals (intro hc; (try simp only [go_sem, simprocAttr] at hc); try (exfalso; omega))) | ((with_reducible first | refine grdS_split ?_ ?_ | refine lkG_split ?_ ?_) <;> intro hg <;> (try simp (disch := omega) only [hg, h1, h5, hx, cNet, cHead,go_sem, simprocAttr]) <;> (try simp only [go_sem, simprocAttr] at hg) <;> (try (exfalso; omega))) | ((with_reducible refine fe ?_); refine ⟨_, (by simp only [Try.f54, h1, h5, hx, cNet, cHead,go_sem, simprocAttr]; rfl), ?_⟩; first | rfl | (try simp only [h1, h5, hx, cNet, cHead,go_sem, simprocAttr, seval])) | with_reducible intro (ep : Nat → Nat) | with_reducible apply_assumption -exfalso -symm only [*])
     ·repeat' (first | (with_reducible refine sk ?_; intro K hK) | ((first | (with_reducible first | refine rg (h := ?_) | refine rgS [4, 6] (h := ?_) | refine nx ?_) | refine pK (within_ok _ _ _) ?_ | refine pK (hrb) ?_); try simp (disch := omega) only [h1, h5, hx, hy, cNet, cHead,go_sem, simprocAttr]) | (with_reducible refine bk ?_) | ((with_reducible refine' cE ?hv ?_ ?_); (case hv => first | rfl | (simp only [h1, h5, hx, hy, cNet, cHead,go_sem, simprocAttr]; rfl)); all_goals (intro hc; (try simp only [go_sem, simprocAttr] at hc); try (exfalso; omega))) | ((with_reducible first | refine grdS_split ?_ ?_ | refine lkG_split ?_ ?_) <;> intro hg <;> (try simp (disch := omega) only [hg, h1, h5, hx, hy, cNet, cHead,go_sem, simprocAttr]) <;> (try simp only [go_sem, simprocAttr] at hg) <;> (try (exfalso; omega))) | ((with_reducible refine fe ?_); refine ⟨_, (by simp only [Try.f54, h1, h5, hx, hy, cNet, cHead,go_sem, simprocAttr]; rfl), ?_⟩; first | rfl | (try simp only [h1, h5, hx, hy, cNet, cHead,go_sem, simprocAttr, seval])) | with_reducible intro (ep : Nat → Nat) | with_reducible apply_assumption -exfalso -symm only [*])
    | true =>
     rw [hb] at hrb
     rcases hlast with ⟨rfl, rfl⟩ | ⟨j, y, rfl, hy, rfl⟩
     ·by_cases hnn : 1 ≤ x.node ∧ x.node ≤ n.pipes.length
      ·have hid : x.id ≤ -1 := by
        have := hl; simp only [hb, hnn.1, hnn.2, and_self, and_true] at this; omega
       simp only [bulbOK, decide_eq_true_eq] at hb
       omega
      ·repeat' (first | (with_reducible refine sk ?_; intro K hK) | ((first | (with_reducible first | refine rg (h := ?_) | refine rgS [4, 6] (h := ?_) | refine nx ?_) | refine pK (within_ok _ _ _) ?_ | refine pK (hrb) ?_); try simp (disch := omega) only [h1, h5, hx, hnn, cNet, cHead,go_sem, simprocAttr]) | (with_reducible refine bk ?_) | ((with_reducible refine' cE ?hv ?_ ?_); (case hv => first | rfl | (simp only [h1, h5, hx, hnn, cNet, cHead,go_sem, simprocAttr]; rfl)); all_goals (intro hc; (try simp only [go_sem, simprocAttr] at hc); try (exfalso; omega))) | ((with_reducible first | refine grdS_split ?_ ?_ | refine lkG_split ?_ ?_) <;> intro hg <;> (try simp (disch := omega) only [hg, h1, h5, hx, hnn, cNet, cHead,go_sem, simprocAttr]) <;> (try simp only [go_sem, simprocAttr] at hg) <;> (try (exfalso; omega))) | ((with_reducible refine fe ?_); refine ⟨_, (by simp only [Try.f54, h1, h5, hx, hnn, cNet, cHead,go_sem, simprocAttr]; rfl), ?_⟩; first | rfl | (try simp only [h1, h5, hx, hnn, cNet, cHead,go_sem, simprocAttr, seval])) | with_reducible intro (ep : Nat → Nat) | with_reducible apply_assumption -exfalso -symm only [*])
     ·by_cases hlt3 : x.id ≤ y.id
      ·repeat' (first | (with_reducible refine sk ?_; intro K hK) | ((first | (with_reducible first | refine rg (h := ?_) | refine rgS [4, 6] (h := ?_) | refine nx ?_) | refine pK (within_ok _ _ _) ?_ | refine pK (hrb) ?_); try simp (disch := omega) only [h1, h5, hx, hy, hlt3, cNet, cHead,go_sem, simprocAttr]) | (with_reducible refine bk ?_) | ((with_reducible refine' cE ?hv ?_ ?_); (case hv => first | rfl | (simp only [h1, h5, hx, hy, hlt3, cNet, cHead,go_sem, simprocAttr]; rfl)); all_goals (intro hc; (try simp only [go_sem, simprocAttr] at hc); try (exfalso; omega))) | ((with_reducible first | refine grdS_split ?_ ?_ | refine lkG_split ?_ ?_) <;> intro hg <;> (try simp (disch := omega) only [hg, h1, h5, hx, hy, hlt3, cNet, cHead,go_sem, simprocAttr]) <;> (try simp only [go_sem, simprocAttr] at hg) <;> (try (exfalso; omega))) | ((with_reducible refine fe ?_); refine ⟨_, (by simp only [Try.f54, h1, h5, hx, hy, hlt3, cNet, cHead,go_sem, simprocAttr]; rfl), ?_⟩; first | rfl | (try simp only [h1, h5, hx, hy, hlt3, cNet, cHead,go_sem, simprocAttr, seval])) | with_reducible intro (ep : Nat → Nat) | with_reducible apply_assumption -exfalso -symm only [*])
      ·have hnn : ¬ (1 ≤ x.node ∧ x.node ≤ n.pipes.length) := fun h => hl ⟨by omega, h, hb⟩
       repeat' (first | (with_reducible refine sk ?_; intro K hK) | ((first | (with_reducible first | refine rg (h := ?_) | refine rgS [4, 6] (h := ?_) | refine nx ?_) | refine pK (within_ok _ _ _) ?_ | refine pK (hrb) ?_); try simp (disch := omega) only [h1, h5, hx, hy, hlt3, hnn, cNet, cHead,go_sem, simprocAttr]) | (with_reducible refine bk ?_) | ((with_reducible refine' cE ?hv ?_ ?_); (case hv => first | rfl | (simp only [h1, h5, hx, hy, hlt3, hnn, cNet, cHead,go_sem, simprocAttr]; rfl)); all_goals (intro hc; (try simp only [go_sem, simprocAttr] at hc); try (exfalso; omega))) | ((with_reducible first | refine grdS_split ?_ ?_ | refine lkG_split ?_ ?_) <;> intro hg <;> (try simp (disch := omega) only [hg, h1, h5, hx, hy, hlt3, hnn, cNet, cHead,go_sem, simprocAttr]) <;> (try simp only [go_sem, simprocAttr] at hg) <;> (try (exfalso; omega))) | ((with_reducible refine fe ?_); refine ⟨_, (by simp only [Try.f54, h1, h5, hx, hy, hlt3, hnn, cNet, cHead,go_sem, simprocAttr]; rfl), ?_⟩; first | rfl | (try simp only [h1, h5, hx, hy, hlt3, hnn, cNet, cHead,go_sem, simprocAttr, seval])) | with_reducible intro (ep : Nat → Nat) | with_reducible apply_assumption -exfalso -symm only [*])
  ·have hhs : headsFrom n.pipes.length (-1) n.heads = true := by rw [hr, drop_none (by omega)]; rfl
   clear hr hlast
   have hN : netOK n = n.pumps.all pumpOK := by rw [netOK, hz, hps, hhs]; simp
   repeat' (first | (with_reducible refine sk ?_; intro K hK) | ((with_reducible first | refine rg (h := ?_) | refine rgS [4, 6] (h := ?_) | refine nx ?_); try simp (disch := omega) only [h1, h5, cNet,go_sem, simprocAttr]) | (with_reducible refine bk ?_) | ((with_reducible refine' cE ?hv ?_ ?_); (case hv => first | rfl | (simp only [h1, h5, cNet,go_sem, simprocAttr]; rfl)); all_goals (intro hc; (try simp only [go_sem, simprocAttr] at hc); try (exfalso; omega))) | ((with_reducible first | refine grdS_split ?_ ?_ | refine lkG_split ?_ ?_) <;> intro hg <;> (try simp (disch := omega) only [hg, h1, h5, cNet,go_sem, simprocAttr]) <;> (try simp only [go_sem, simprocAttr] at hg) <;> (try (exfalso; omega))) | ((with_reducible refine fe ?_); refine ⟨_, (by simp only [Try.f54, h1, h5, cNet,go_sem, simprocAttr]; rfl), ?_⟩; first | rfl | (try simp only [h1, h5, cNet,go_sem, simprocAttr, seval])) | with_reducible intro (ep : Nat → Nat) | with_reducible apply_assumption -exfalso -symm only [*])
   refine AW_block (AW_loop (fun m f H => ∃ k : Nat, m = n.pumps.length - k ∧ k ≤ n.pumps.length ∧ (f 1 = .pim (cNet n) ∧ f 7 = .int .i64 k) ∧ n.pumps.all pumpOK = (n.pumps.drop k).all pumpOK) n.pumps.length
    ⟨0, by simp, Nat.zero_le _, by (and_intros <;> first | rfl | (simp only [h1, cNet, go_sem, simprocAttr]; done) | (simp only [h1, cNet, go_sem, simprocAttr]; rfl)), by simp⟩ ?_)
   clear h1 h5
   rintro m f H ⟨k, rfl, hk, ⟨h1, h7⟩, hr⟩
   by_cases hlt : k < n.pumps.length
   ·obtain ⟨x, hx⟩ : ∃ x, n.pumps[k]? = some x := ⟨_, List.getElem?_eq_getElem hlt⟩
    rw [drop_cons hx, List.all_cons] at hr
    have bad : pumpOK x = false → false = netOK n := fun h => by rw [hN, hr, h]; rfl
    simp only [pumpOK, decide_eq_false_iff_not] at bad
    refine AW_keep [] ?_
    repeat' (first | (with_reducible refine sk ?_; intro K hK) | ((first | (with_reducible first | refine rg (h := ?_) | refine rgS [4, 6] (h := ?_) | refine nx ?_) | refine pK (within_ok _ _ _) ?_ | refine pK (spanned_ok x.full _ _) ?_); try simp (disch := omega) only [h1, h7, hx, cNet, cPump, encSpan,go_sem, simprocAttr]) | (with_reducible refine bk ?_) | ((with_reducible refine' cE ?hv ?_ ?_); (case hv => first | rfl | (simp only [h1, h7, hx, cNet, cPump, encSpan,go_sem, simprocAttr]; rfl)); all_goals (intro hc; (try simp only [go_sem, simprocAttr] at hc); try (exfalso; omega))) | ((with_reducible first | refine grdS_split ?_ ?_ | refine lkG_split ?_ ?_) <;> intro hg <;> (try simp (disch := omega) only [hg, h1, h7, hx, cNet, cPump, encSpan,go_sem, simprocAttr]) <;> (try simp only [go_sem, simprocAttr] at hg) <;> (try (exfalso; omega))) | ((with_reducible refine fe ?_); refine ⟨_, (by simp only [Try.f54, h1, h7, hx, cNet, cPump, encSpan,go_sem, simprocAttr]; rfl), ?_⟩; first | rfl | (try simp only [h1, h7, hx, cNet, cPump, encSpan,go_sem, simprocAttr, seval])) | with_reducible intro (ep : Nat → Nat) | with_reducible apply_assumption -exfalso -symm only [*])
    iterate 2 (first | exact bad (by omega) | omega)
    have h' : pumpOK x = true := by simp only [pumpOK, decide_eq_true_eq]; omega
    exact ⟨n.pumps.length - (k + 1), by omega, k + 1, rfl, by omega, rfl, by rw [hr, h']; simp⟩
   ·rw [drop_none (by omega)] at hr
    repeat' (first | (with_reducible refine sk ?_; intro K hK) | ((with_reducible first | refine rg (h := ?_) | refine rgS [4, 6] (h := ?_) | refine nx ?_); try simp (disch := omega) only [h1, h7, cNet,go_sem, simprocAttr]) | (with_reducible refine bk ?_) | ((with_reducible refine' cE ?hv ?_ ?_); (case hv => first | rfl | (simp only [h1, h7, cNet,go_sem, simprocAttr]; rfl)); all_goals (intro hc; (try simp only [go_sem, simprocAttr] at hc); try (exfalso; omega))) | ((with_reducible first | refine grdS_split ?_ ?_ | refine lkG_split ?_ ?_) <;> intro hg <;> (try simp (disch := omega) only [hg, h1, h7, cNet,go_sem, simprocAttr]) <;> (try simp only [go_sem, simprocAttr] at hg) <;> (try (exfalso; omega))) | ((with_reducible refine fe ?_); refine ⟨_, (by simp only [Try.f54, h1, h7, cNet,go_sem, simprocAttr]; rfl), ?_⟩; first | rfl | (try simp only [h1, h7, cNet,go_sem, simprocAttr, seval])) | with_reducible intro (ep : Nat → Nat) | with_reducible apply_assumption -exfalso -symm only [*])
    rw [hN, hr]; rfl
theorem twin_ok (n : NetT) (hs : NetS n) : PureC Try.prog 16 [encNet n] (encNet n) := by
 have hb1 : n.pipes.length ≤ 1073741824 := by have := hs.pipes; omega
 have hb2 : n.heads.length ≤ 1073741824 := by have := hs.heads; omega
 have hb3 : n.pumps.length ≤ 1073741824 := by have := hs.pumps; omega
 refine PureC_of (fn := Try.f16) tabOK (by kernel_rfl) rfl (by kernel_rfl) (by simp [Try.f16]) (by simp [noids, noid, noidss, go_sem, encNet, cNet]) (by first | rfl | simp [noids, noid, noidss, go_sem, encNet, cNet]) ?_
 intro X hX0 hXs
 repeat' (first | (with_reducible refine sk ?_; intro K hK) | ((with_reducible first | refine rg (md := { base := 0, own := [1] }) (h := ?_) | refine rgS [2] (md := { base := 0, own := [1] }) (h := ?_) | refine nx ?_); try simp (disch := omega) only [encNet, cNet, hb1, hb2, hb3,go_sem, simprocAttr]) | (with_reducible refine bk ?_) | ((with_reducible refine' cE ?hv ?_ ?_); (case hv => first | rfl | (simp only [encNet, cNet, hb1, hb2, hb3,go_sem, simprocAttr]; rfl)); all_goals (intro hc; (try simp only [go_sem, simprocAttr] at hc); try (exfalso; omega))) | ((with_reducible refine fe ?_); refine ⟨_, (by simp only [Try.f16, encNet, cNet, hb1, hb2, hb3,go_sem, simprocAttr]; rfl), ?_⟩; first | rfl | (try simp only [encNet, cNet, hb1, hb2, hb3,go_sem, simprocAttr, seval])) | with_reducible intro (ep : Nat → Nat) | with_reducible apply_assumption -exfalso -symm only [*])
end Cp
namespace Cp
open Go
theorem dec_congr {p q : Prop} [Decidable p] [Decidable q] (h : p ↔ q) : decide p = decide q := by simp [h]
def atI (hs : List HeadT) (id : Int) : Int := idxFrom (fun h => decide (h.id = id)) hs 0
theorem idxFrom_find {α : Type} {p : α → Bool} : ∀ (l : List α) (i : Int), 0 ≤ i → (l.find? p = none ∧ idxFrom p l i = -1) ∨ ∃ (k : Nat) (x : α), l[k]? = some x ∧ l.find? p = some x ∧ idxFrom p l i = i + k
 | [], i, _ => .inl ⟨rfl, rfl⟩
 | x :: l, i, h => by
  cases hp : p x with
  | true => exact .inr ⟨0, x, rfl, by rw [List.find?_cons, hp], by simp [idxFrom, hp]⟩
  | false =>
   rcases idxFrom_find (p := p) l (i + 1) (by omega) with ⟨h1, h2⟩ | ⟨k, y, h1, h2, h3⟩
   ·exact .inl ⟨by rw [List.find?_cons, hp]; exact h1, by simp only [idxFrom, hp]; exact h2⟩
   ·exact .inr ⟨k + 1, y, by simpa using h1, by rw [List.find?_cons, hp]; exact h2, by simp only [idxFrom, hp, Bool.false_eq_true, if_false]; rw [h3]; omega⟩
theorem atI_at {hs : List HeadT} {id : Int} : (headAt hs id = none ∧ atI hs id = -1) ∨ ∃ (k : Nat) (x : HeadT), hs[k]? = some x ∧ headAt hs id = some x ∧ atI hs id = k := by
 rcases idxFrom_find (p := fun h : HeadT => decide (h.id = id)) hs 0 (by omega) with ⟨h1, h2⟩ | ⟨k, y, h1, h2, h3⟩
 ·exact .inl ⟨h1, h2⟩
 ·exact .inr ⟨k, y, h1, h2, by unfold atI; rw [h3]; omega⟩
theorem okL_step {p : Int → Bool} {prev : Option Int} {a : Int} {l : List Int} : okL p prev (a :: l) = ((p a && (match prev with | none => true | some b => decide (b < a))) && okL p (some a) l) := by
 cases prev <;> simp [okL]
def bitI (b : Int) (i : Nat) : Bool := decide ((b.fdiv (2 ^ i)) % 2 = 1)
theorem headAt_of {hs : List HeadT} (h : hs.Pairwise fun a b => a.id < b.id) {x : HeadT} (hx : x ∈ hs) : headAt hs x.id = some x := by
 obtain ⟨k, hk⟩ := List.mem_iff_getElem?.1 hx
 exact headAt_get h hk
def andI (k : IntKind) (a c : Int) : Int := k.wrap (BitVec.ofInt k.bits a &&& BitVec.ofInt k.bits c).toNat
end Cp
namespace Cp
open Go Go.Proofs
set_option maxRecDepth 10000
set_option maxHeartbeats 1000000
section
variable {P : Program} {T : Tab} {t : TypeId}
@[go_sem] theorem xb_and {x y : Operand} {k k' : IntKind} {a c : Int} : xbin2 T .and t x y (.int k a) (.int k' c) = if k = k' then some (.int k (andI k a c)) else none := rfl
end
theorem at_ok (n : NetT) (hs : n.heads.length ≤ 100000) (id : Int) : PureC Try.prog 45 [encNet n, .int .i64 id] (.int .i64 (atI n.heads id)) := by
 refine PureC_of (fn := Try.f45) tabOK (by kernel_rfl) rfl (by kernel_rfl) (by simp [Try.f45]) (by simp [noids, noid, noidss, go_sem, encNet, cNet]) (by first | rfl | simp [noids, noid, noidss, go_sem, encNet, cNet]) ?_
 intro X hX0 hXs
 repeat' (first | (with_reducible refine sk ?_; intro K hK) | ((with_reducible first | refine rg (h := ?_) | refine nx ?_); try simp (disch := omega) only [encNet, cNet,go_sem, simprocAttr]) | (with_reducible refine bk ?_) | ((with_reducible refine' cE ?hv ?_ ?_); (case hv => first | rfl | (simp only [encNet, cNet,go_sem, simprocAttr]; rfl)); all_goals (intro hc; (try simp only [go_sem, simprocAttr] at hc); try (exfalso; omega))) | ((with_reducible refine fe ?_); refine ⟨_, (by simp only [Try.f45, encNet, cNet,go_sem, simprocAttr]; rfl), ?_⟩; first | rfl | (try simp only [encNet, cNet,go_sem, simprocAttr, seval])) | with_reducible intro (ep : Nat → Nat) | with_reducible apply_assumption -exfalso -symm only [*])
 refine AW_block (AW_loop (fun m f H => ∃ k : Nat, m = n.heads.length - k ∧ k ≤ n.heads.length ∧ (f 1 = .int .i64 id ∧ f 2 = .pim (cNet n) ∧ f 5 = .int .i64 k) ∧ atI n.heads id = idxFrom (fun h => decide (h.id = id)) (n.heads.drop k) k) n.heads.length
  ⟨0, by simp, Nat.zero_le _, by (and_intros <;> first | rfl | (simp only [cNet, go_sem, simprocAttr]; done) | (simp only [cNet, go_sem, simprocAttr]; rfl)), by simp [atI]⟩ ?_)
 rintro m f H ⟨k, rfl, hk, ⟨h1, h2, h5⟩, hr⟩
 by_cases hlt : k < n.heads.length
 ·obtain ⟨x, hx⟩ : ∃ x, n.heads[k]? = some x := ⟨_, List.getElem?_eq_getElem hlt⟩
  rw [drop_cons hx] at hr
  simp only [idxFrom] at hr
  by_cases he : x.id = id
  ·rw [if_pos (by simpa using he)] at hr
   repeat' (first | (with_reducible refine sk ?_; intro K hK) | ((with_reducible first | refine rg (h := ?_) | refine nx ?_); try simp (disch := omega) only [h1, h2, h5, hx, he, cNet, cHead,go_sem, simprocAttr]) | (with_reducible refine bk ?_) | ((with_reducible refine' cE ?hv ?_ ?_); (case hv => first | rfl | (simp only [h1, h2, h5, hx, he, cNet, cHead,go_sem, simprocAttr]; rfl)); all_goals (intro hc; (try simp only [go_sem, simprocAttr] at hc); try (exfalso; omega))) | ((with_reducible refine fe ?_); refine ⟨_, (by simp only [Try.f45, h1, h2, h5, hx, he, cNet, cHead,go_sem, simprocAttr]; rfl), ?_⟩; first | rfl | (try simp only [h1, h2, h5, hx, he, cNet, cHead,go_sem, simprocAttr, seval])) | with_reducible intro (ep : Nat → Nat) | with_reducible apply_assumption -exfalso -symm only [*])
   exact hr.symm
  ·rw [if_neg (by simpa using he)] at hr
   repeat' (first | (with_reducible refine sk ?_; intro K hK) | ((with_reducible first | refine rg (h := ?_) | refine nx ?_); try simp (disch := omega) only [h1, h2, h5, hx, he, cNet, cHead,go_sem, simprocAttr]) | (with_reducible refine bk ?_) | ((with_reducible refine' cE ?hv ?_ ?_); (case hv => first | rfl | (simp only [h1, h2, h5, hx, he, cNet, cHead,go_sem, simprocAttr]; rfl)); all_goals (intro hc; (try simp only [go_sem, simprocAttr] at hc); try (exfalso; omega))) | ((with_reducible refine fe ?_); refine ⟨_, (by simp only [Try.f45, h1, h2, h5, hx, he, cNet, cHead,go_sem, simprocAttr]; rfl), ?_⟩; first | rfl | (try simp only [h1, h2, h5, hx, he, cNet, cHead,go_sem, simprocAttr, seval])) | with_reducible intro (ep : Nat → Nat) | with_reducible apply_assumption -exfalso -symm only [*])
   exact ⟨n.heads.length - (k + 1), by omega, k + 1, rfl, by omega, by (and_intros <;> first | rfl | (simp only [h1, h2, h5, cNet, go_sem, simprocAttr]; done) | (simp only [h1, h2, h5, cNet, go_sem, simprocAttr]; rfl)), hr⟩
 ·rw [drop_none (by omega)] at hr
  repeat' (first | (with_reducible refine sk ?_; intro K hK) | ((with_reducible first | refine rg (h := ?_) | refine nx ?_); try simp (disch := omega) only [h1, h2, h5, cNet,go_sem, simprocAttr]) | (with_reducible refine bk ?_) | ((with_reducible refine' cE ?hv ?_ ?_); (case hv => first | rfl | (simp only [h1, h2, h5, cNet,go_sem, simprocAttr]; rfl)); all_goals (intro hc; (try simp only [go_sem, simprocAttr] at hc); try (exfalso; omega))) | ((with_reducible refine fe ?_); refine ⟨_, (by simp only [Try.f45, h1, h2, h5, cNet,go_sem, simprocAttr]; rfl), ?_⟩; first | rfl | (try simp only [h1, h2, h5, cNet,go_sem, simprocAttr, seval])) | with_reducible intro (ep : Nat → Nat) | with_reducible apply_assumption -exfalso -symm only [*])
  rw [hr]; rfl
theorem open_ok (n : NetT) (hs : n.heads.length ≤ 100000) (l : List Int) (hl : l.length ≤ 100000) : PureC Try.prog 52 [encNet n, .lst 1 (ints l)] (.bool (openOK n.heads l)) := by
 have hat := fun id => at_ok n hs id
 simp only [encNet, cNet] at hat
 refine PureC_of (fn := Try.f52) tabOK (by kernel_rfl) rfl (by kernel_rfl) (by simp [Try.f52]) (by simp [noids, noid, noidss, go_sem, encNet, cNet]) (by first | rfl | simp [noids, noid, noidss, go_sem, encNet, cNet]) ?_
 intro X hX0 hXs
 repeat' (first | (with_reducible refine sk ?_; intro K hK) | ((with_reducible first | refine rg (h := ?_) | refine nx ?_); try simp (disch := omega) only [encNet, cNet,go_sem, simprocAttr]) | (with_reducible refine bk ?_) | ((with_reducible refine' cE ?hv ?_ ?_); (case hv => first | rfl | (simp only [encNet, cNet,go_sem, simprocAttr]; rfl)); all_goals (intro hc; (try simp only [go_sem, simprocAttr] at hc); try (exfalso; omega))) | ((with_reducible first | refine grdS_split ?_ ?_ | refine lkG_split ?_ ?_) <;> intro hg <;> (try simp (disch := omega) only [hg, encNet, cNet,go_sem, simprocAttr]) <;> (try simp only [go_sem, simprocAttr] at hg) <;> (try (exfalso; omega))) | ((with_reducible refine fe ?_); refine ⟨_, (by simp only [Try.f52, encNet, cNet,go_sem, simprocAttr]; rfl), ?_⟩; first | rfl | (try simp only [encNet, cNet,go_sem, simprocAttr, seval])) | with_reducible intro (ep : Nat → Nat) | with_reducible apply_assumption -exfalso -symm only [*])
 refine AW_block (AW_loop (fun m f H => ∃ k : Nat, m = l.length - k ∧ k ≤ l.length ∧ (f 1 = .lst 1 (ints l) ∧ f 2 = .pim (cNet n) ∧ f 5 = .int .i64 k) ∧ ∃ prev, openOK n.heads l = okL (fun id => (headAt n.heads id).isSome) prev (l.drop k) ∧ (k = 0 ∧ prev = none ∨ ∃ (j : Nat) (y : Int), k = j + 1 ∧ l[j]? = some y ∧ prev = some y)) l.length
  ⟨0, by simp, Nat.zero_le _, by (and_intros <;> first | rfl | (simp only [cNet, go_sem, simprocAttr]; done) | (simp only [cNet, go_sem, simprocAttr]; rfl)), none, by simp [openOK], .inl ⟨rfl, rfl⟩⟩ ?_)
 rintro m f H ⟨k, rfl, hk, ⟨h1, h2, h5⟩, prev, hr, hp⟩
 by_cases hlt : k < l.length
 ·obtain ⟨x, hx⟩ : ∃ x, l[k]? = some x := ⟨_, List.getElem?_eq_getElem hlt⟩
  rw [drop_cons hx, okL_step] at hr
  refine AW_keep [] ?_
  rcases @atI_at n.heads x with ⟨a1, a2⟩ | ⟨i, y, a0, a1, a2⟩
  ·rw [a1] at hr
   rcases hp with ⟨rfl, rfl⟩ | ⟨j, y, rfl, hy, rfl⟩
   ·repeat' (first | (with_reducible refine sk ?_; intro K hK) | ((first | (with_reducible first | refine rg (h := ?_) | refine nx ?_) | refine pK (hat x) ?_); try simp (disch := omega) only [h1, h2, h5, hx, a2, cNet,go_sem, simprocAttr]) | (with_reducible refine bk ?_) | ((with_reducible refine' cE ?hv ?_ ?_); (case hv => first | rfl | (simp only [h1, h2, h5, hx, a2, cNet,go_sem, simprocAttr]; rfl)); all_goals (intro hc; (try simp only [go_sem, simprocAttr] at hc); try (exfalso; omega))) | ((with_reducible first | refine grdS_split ?_ ?_ | refine lkG_split ?_ ?_) <;> intro hg <;> (try simp (disch := omega) only [hg, h1, h2, h5, hx, a2, cNet,go_sem, simprocAttr]) <;> (try simp only [go_sem, simprocAttr] at hg) <;> (try (exfalso; omega))) | ((with_reducible refine fe ?_); refine ⟨_, (by simp only [Try.f52, h1, h2, h5, hx, a2, cNet,go_sem, simprocAttr]; rfl), ?_⟩; first | rfl | (try simp only [h1, h2, h5, hx, a2, cNet,go_sem, simprocAttr, seval])) | with_reducible intro (ep : Nat → Nat) | with_reducible apply_assumption -exfalso -symm only [*])
    rw [hr]; rfl
   ·repeat' (first | (with_reducible refine sk ?_; intro K hK) | ((first | (with_reducible first | refine rg (h := ?_) | refine nx ?_) | refine pK (hat x) ?_); try simp (disch := omega) only [h1, h2, h5, hx, hy, a2, cNet,go_sem, simprocAttr]) | (with_reducible refine bk ?_) | ((with_reducible refine' cE ?hv ?_ ?_); (case hv => first | rfl | (simp only [h1, h2, h5, hx, hy, a2, cNet,go_sem, simprocAttr]; rfl)); all_goals (intro hc; (try simp only [go_sem, simprocAttr] at hc); try (exfalso; omega))) | ((with_reducible first | refine grdS_split ?_ ?_ | refine lkG_split ?_ ?_) <;> intro hg <;> (try simp (disch := omega) only [hg, h1, h2, h5, hx, hy, a2, cNet,go_sem, simprocAttr]) <;> (try simp only [go_sem, simprocAttr] at hg) <;> (try (exfalso; omega))) | ((with_reducible refine fe ?_); refine ⟨_, (by simp only [Try.f52, h1, h2, h5, hx, hy, a2, cNet,go_sem, simprocAttr]; rfl), ?_⟩; first | rfl | (try simp only [h1, h2, h5, hx, hy, a2, cNet,go_sem, simprocAttr, seval])) | with_reducible intro (ep : Nat → Nat) | with_reducible apply_assumption -exfalso -symm only [*])
    rw [hr]; rfl
  ·rw [a1] at hr
   have a3 : ¬ (i : Int) < 0 := by omega
   rcases hp with ⟨rfl, rfl⟩ | ⟨j, z, rfl, hy, rfl⟩
   ·repeat' (first | (with_reducible refine sk ?_; intro K hK) | ((first | (with_reducible first | refine rg (h := ?_) | refine nx ?_) | refine pK (hat x) ?_); try simp (disch := omega) only [h1, h2, h5, hx, a2, a3, cNet,go_sem, simprocAttr]) | (with_reducible refine bk ?_) | ((with_reducible refine' cE ?hv ?_ ?_); (case hv => first | rfl | (simp only [h1, h2, h5, hx, a2, a3, cNet,go_sem, simprocAttr]; rfl)); all_goals (intro hc; (try simp only [go_sem, simprocAttr] at hc); try (exfalso; omega))) | ((with_reducible first | refine grdS_split ?_ ?_ | refine lkG_split ?_ ?_) <;> intro hg <;> (try simp (disch := omega) only [hg, h1, h2, h5, hx, a2, a3, cNet,go_sem, simprocAttr]) <;> (try simp only [go_sem, simprocAttr] at hg) <;> (try (exfalso; omega))) | ((with_reducible refine fe ?_); refine ⟨_, (by simp only [Try.f52, h1, h2, h5, hx, a2, a3, cNet,go_sem, simprocAttr]; rfl), ?_⟩; first | rfl | (try simp only [h1, h2, h5, hx, a2, a3, cNet,go_sem, simprocAttr, seval])) | with_reducible intro (ep : Nat → Nat) | with_reducible apply_assumption -exfalso -symm only [*])
    exact ⟨l.length - 1, by omega, 1, rfl, by omega, by (and_intros <;> first | rfl | (simp only [h1, h2, h5, cNet, go_sem, simprocAttr]; done) | (simp only [h1, h2, h5, cNet, go_sem, simprocAttr]; rfl)), some x, by rw [hr]; simp, .inr ⟨0, x, rfl, hx, rfl⟩⟩
   ·have hj : j < l.length := by omega
    by_cases hle : x ≤ z
    ·repeat' (first | (with_reducible refine sk ?_; intro K hK) | ((first | (with_reducible first | refine rg (h := ?_) | refine nx ?_) | refine pK (hat x) ?_); try simp (disch := omega) only [h1, h2, h5, hx, hy, a2, a3, hle, cNet,go_sem, simprocAttr]) | (with_reducible refine bk ?_) | ((with_reducible refine' cE ?hv ?_ ?_); (case hv => first | rfl | (simp only [h1, h2, h5, hx, hy, a2, a3, hle, cNet,go_sem, simprocAttr]; rfl)); all_goals (intro hc; (try simp only [go_sem, simprocAttr] at hc); try (exfalso; omega))) | ((with_reducible first | refine grdS_split ?_ ?_ | refine lkG_split ?_ ?_) <;> intro hg <;> (try simp (disch := omega) only [hg, h1, h2, h5, hx, hy, a2, a3, hle, cNet,go_sem, simprocAttr]) <;> (try simp only [go_sem, simprocAttr] at hg) <;> (try (exfalso; omega))) | ((with_reducible refine fe ?_); refine ⟨_, (by simp only [Try.f52, h1, h2, h5, hx, hy, a2, a3, hle, cNet,go_sem, simprocAttr]; rfl), ?_⟩; first | rfl | (try simp only [h1, h2, h5, hx, hy, a2, a3, hle, cNet,go_sem, simprocAttr, seval])) | with_reducible intro (ep : Nat → Nat) | with_reducible apply_assumption -exfalso -symm only [*])
     rw [hr]; simp; omega
    ·repeat' (first | (with_reducible refine sk ?_; intro K hK) | ((first | (with_reducible first | refine rg (h := ?_) | refine nx ?_) | refine pK (hat x) ?_); try simp (disch := omega) only [h1, h2, h5, hx, hy, a2, a3, hle, cNet,go_sem, simprocAttr]) | (with_reducible refine bk ?_) | ((with_reducible refine' cE ?hv ?_ ?_); (case hv => first | rfl | (simp only [h1, h2, h5, hx, hy, a2, a3, hle, cNet,go_sem, simprocAttr]; rfl)); all_goals (intro hc; (try simp only [go_sem, simprocAttr] at hc); try (exfalso; omega))) | ((with_reducible first | refine grdS_split ?_ ?_ | refine lkG_split ?_ ?_) <;> intro hg <;> (try simp (disch := omega) only [hg, h1, h2, h5, hx, hy, a2, a3, hle, cNet,go_sem, simprocAttr]) <;> (try simp only [go_sem, simprocAttr] at hg) <;> (try (exfalso; omega))) | ((with_reducible refine fe ?_); refine ⟨_, (by simp only [Try.f52, h1, h2, h5, hx, hy, a2, a3, hle, cNet,go_sem, simprocAttr]; rfl), ?_⟩; first | rfl | (try simp only [h1, h2, h5, hx, hy, a2, a3, hle, cNet,go_sem, simprocAttr, seval])) | with_reducible intro (ep : Nat → Nat) | with_reducible apply_assumption -exfalso -symm only [*])
     exact ⟨l.length - (j + 1 + 1), by omega, j + 1 + 1, rfl, by omega, by (and_intros <;> first | rfl | (simp only [h1, h2, h5, cNet, go_sem, simprocAttr]; done) | (simp only [h1, h2, h5, cNet, go_sem, simprocAttr]; rfl)), some x, by rw [hr]; simp; intro h; omega, .inr ⟨j + 1, x, rfl, hx, rfl⟩⟩
 ·rw [drop_none (by omega)] at hr
  repeat' (first | (with_reducible refine sk ?_; intro K hK) | ((with_reducible first | refine rg (h := ?_) | refine nx ?_); try simp (disch := omega) only [h1, h2, h5, cNet,go_sem, simprocAttr]) | (with_reducible refine bk ?_) | ((with_reducible refine' cE ?hv ?_ ?_); (case hv => first | rfl | (simp only [h1, h2, h5, cNet,go_sem, simprocAttr]; rfl)); all_goals (intro hc; (try simp only [go_sem, simprocAttr] at hc); try (exfalso; omega))) | ((with_reducible first | refine grdS_split ?_ ?_ | refine lkG_split ?_ ?_) <;> intro hg <;> (try simp (disch := omega) only [hg, h1, h2, h5, cNet,go_sem, simprocAttr]) <;> (try simp only [go_sem, simprocAttr] at hg) <;> (try (exfalso; omega))) | ((with_reducible refine fe ?_); refine ⟨_, (by simp only [Try.f52, h1, h2, h5, cNet,go_sem, simprocAttr]; rfl), ?_⟩; first | rfl | (try simp only [h1, h2, h5, cNet,go_sem, simprocAttr, seval])) | with_reducible intro (ep : Nat → Nat) | with_reducible apply_assumption -exfalso -symm only [*])
  rw [hr]; cases prev <;> rfl
theorem flow_ok (n : NetT) (hF : NetF n) (l : List Int) (hl : l.length ≤ 100000) (ho : ∀ a ∈ l, (headAt n.heads a).isSome = true) : PureC Try.prog 46 [encNet n, .lst 1 (ints l)] (.int .i64 (needs (openH n.heads l))) := by
 have hh := hF.heads
 have hat := fun id => at_ok n (by omega) id
 simp only [encNet, cNet] at hat
 refine PureC_of (fn := Try.f46) tabOK (by kernel_rfl) rfl (by kernel_rfl) (by simp [Try.f46]) (by simp [noids, noid, noidss, go_sem, encNet, cNet]) (by first | rfl | simp [noids, noid, noidss, go_sem, encNet, cNet]) ?_
 intro X hX0 hXs
 repeat' (first | (with_reducible refine sk ?_; intro K hK) | ((with_reducible first | refine rg (h := ?_) | refine nx ?_); try simp (disch := omega) only [encNet, cNet,go_sem, simprocAttr]) | (with_reducible refine bk ?_) | ((with_reducible refine' cE ?hv ?_ ?_); (case hv => first | rfl | (simp only [encNet, cNet,go_sem, simprocAttr]; rfl)); all_goals (intro hc; (try simp only [go_sem, simprocAttr] at hc); try (exfalso; omega))) | ((with_reducible refine fe ?_); refine ⟨_, (by simp only [Try.f46, encNet, cNet,go_sem, simprocAttr]; rfl), ?_⟩; first | rfl | (try simp only [encNet, cNet,go_sem, simprocAttr, seval])) | with_reducible intro (ep : Nat → Nat) | with_reducible apply_assumption -exfalso -symm only [*])
 refine AW_block (AW_loop (fun m f H => ∃ k : Nat, m = l.length - k ∧ k ≤ l.length ∧ (f 1 = .lst 1 (ints l) ∧ f 2 = .pim (cNet n) ∧ f 6 = .int .i64 k) ∧ f 5 = .int .i64 (needs (openH n.heads (l.take k)))) l.length
  ⟨0, by simp, Nat.zero_le _, by (and_intros <;> first | rfl | (simp only [cNet, go_sem, simprocAttr]; done) | (simp only [cNet, go_sem, simprocAttr]; rfl)), by simp only [go_sem, simprocAttr, List.take_zero, openH, List.filterMap_nil, needs]⟩ ?_)
 rintro m f H ⟨k, rfl, hk, ⟨h1, h2, h6⟩, h5⟩
 by_cases hlt : k < l.length
 ·obtain ⟨x, hx⟩ : ∃ x, l[k]? = some x := ⟨_, List.getElem?_eq_getElem hlt⟩
  have hb : ∀ h ∈ openH n.heads (l.take k), 1 ≤ h.need ∧ h.need ≤ 500 := fun h hm => by
   simp only [openH, List.mem_filterMap] at hm
   obtain ⟨a, _, ha⟩ := hm
   exact (hF.head h (headAt_mem ha).1).1.2.1
  have hnb := needs_bnd hb
  have hlen : (openH n.heads (l.take k)).length ≤ k := by
   have : (openH n.heads (l.take k)).length ≤ (l.take k).length := List.length_filterMap_le _ _
   have : (l.take k).length ≤ k := by simp; omega
   omega
  rcases @atI_at n.heads x with ⟨a1, a2⟩ | ⟨i, y, a0, a1, a2⟩
  ·have := ho x (List.mem_of_getElem? hx); rw [a1] at this; simp at this
  ·have hyb := (hF.head y (headAt_mem a1).1).1.2.1
   have hi : i < n.heads.length := (List.getElem?_eq_some_iff.1 a0).1
   refine AW_keep [] ?_
   repeat' (first | (with_reducible refine sk ?_; intro K hK) | ((first | (with_reducible first | refine rg (h := ?_) | refine nx ?_) | refine pK (hat x) ?_); try simp (disch := omega) only [h1, h2, h5, h6, hx, a0, a2, hi, cNet, cHead,go_sem, simprocAttr]) | (with_reducible refine bk ?_) | ((with_reducible refine' cE ?hv ?_ ?_); (case hv => first | rfl | (simp only [h1, h2, h5, h6, hx, a0, a2, hi, cNet, cHead,go_sem, simprocAttr]; rfl)); all_goals (intro hc; (try simp only [go_sem, simprocAttr] at hc); try (exfalso; omega))) | ((with_reducible refine fe ?_); refine ⟨_, (by simp only [Try.f46, h1, h2, h5, h6, hx, a0, a2, hi, cNet, cHead,go_sem, simprocAttr]; rfl), ?_⟩; first | rfl | (try simp only [h1, h2, h5, h6, hx, a0, a2, hi, cNet, cHead,go_sem, simprocAttr, seval])) | with_reducible intro (ep : Nat → Nat) | with_reducible apply_assumption -exfalso -symm only [*])
   exact ⟨l.length - (k + 1), by omega, k + 1, rfl, by omega, by (and_intros <;> first | rfl | (simp only [h1, h2, h6, cNet, go_sem, simprocAttr]; done) | (simp only [h1, h2, h6, cNet, go_sem, simprocAttr]; rfl)), by rw [openH_snoc hx a1, needs_app]; simp [needs]⟩
 ·repeat' (first | (with_reducible refine sk ?_; intro K hK) | ((with_reducible first | refine rg (h := ?_) | refine nx ?_); try simp (disch := omega) only [h1, h2, h5, h6, cNet,go_sem, simprocAttr]) | (with_reducible refine bk ?_) | ((with_reducible refine' cE ?hv ?_ ?_); (case hv => first | rfl | (simp only [h1, h2, h5, h6, cNet,go_sem, simprocAttr]; rfl)); all_goals (intro hc; (try simp only [go_sem, simprocAttr] at hc); try (exfalso; omega))) | ((with_reducible refine fe ?_); refine ⟨_, (by simp only [Try.f46, h1, h2, h5, h6, cNet,go_sem, simprocAttr]; rfl), ?_⟩; first | rfl | (try simp only [h1, h2, h5, h6, cNet,go_sem, simprocAttr, seval])) | with_reducible intro (ep : Nat → Nat) | with_reducible apply_assumption -exfalso -symm only [*])
  rw [List.take_of_length_le (by omega)]
theorem sameInts_ok (a b : List Int) (ha : a.length ≤ 4611686018427387904) : PureC Try.prog 23 [.lst 1 (ints a), .lst 1 (ints b)] (.bool (decide (a = b))) := by
 refine PureC_of (fn := Try.f23) tabOK (by kernel_rfl) rfl (by kernel_rfl) (by simp [Try.f23]) (by simp [noids, noid, noidss, go_sem]) (by first | rfl | simp [noids, noid, noidss, go_sem]) ?_
 intro X hX0 hXs
 repeat' (first | (with_reducible refine sk ?_; intro K hK) | ((with_reducible first | refine rg (h := ?_) | refine nx ?_); try simp (disch := omega) only [go_sem, simprocAttr]) | (with_reducible refine bk ?_) | ((with_reducible refine' cE ?hv ?_ ?_); (case hv => first | rfl | (simp only [go_sem, simprocAttr]; rfl)); all_goals (intro hc; (try simp only [go_sem, simprocAttr] at hc); try (exfalso; omega))) | ((with_reducible refine fe ?_); refine ⟨_, (by simp only [Try.f23, go_sem, simprocAttr]; rfl), ?_⟩; first | rfl | (try simp only [go_sem, simprocAttr, seval])) | with_reducible intro (ep : Nat → Nat) | with_reducible apply_assumption -exfalso -symm only [*])
 ·have : a ≠ b := fun e => by subst e; omega
  simp [this]
 ·have hab : a.length = b.length := by omega
  refine AW_block (AW_loop (fun n f H => ∃ k : Nat, n = a.length - k ∧ k ≤ a.length ∧ (f 0 = .lst 1 (ints a) ∧ f 1 = .lst 1 (ints b) ∧ f 5 = .int .i64 k ∧ H = none0) ∧ (decide (a = b) = decide (a.drop k = b.drop k))) a.length
   ⟨0, by simp, Nat.zero_le _, by (and_intros <;> first | rfl | (simp only [go_sem, simprocAttr]; done) | (simp only [go_sem, simprocAttr]; rfl)), by simp⟩ ?_)
  rintro n f H ⟨k, rfl, hk, ⟨h0, h1, h5, rfl⟩, hr⟩
  by_cases hlt : k < a.length
  ·obtain ⟨x, hx⟩ : ∃ x, a[k]? = some x := ⟨_, List.getElem?_eq_getElem hlt⟩
   obtain ⟨y, hy⟩ : ∃ y, b[k]? = some y := ⟨_, List.getElem?_eq_getElem (by omega)⟩
   repeat' (first | (with_reducible refine sk ?_; intro K hK) | ((with_reducible first | refine rg (h := ?_) | refine nx ?_); try simp (disch := omega) only [h0, h1, h5, hx, hy,go_sem, simprocAttr]) | (with_reducible refine bk ?_) | ((with_reducible refine' cE ?hv ?_ ?_); (case hv => first | rfl | (simp only [h0, h1, h5, hx, hy,go_sem, simprocAttr]; rfl)); all_goals (intro hc; (try simp only [go_sem, simprocAttr] at hc); try (exfalso; omega))) | ((with_reducible refine fe ?_); refine ⟨_, (by simp only [Try.f23, h0, h1, h5, hx, hy,go_sem, simprocAttr]; rfl), ?_⟩; first | rfl | (try simp only [h0, h1, h5, hx, hy,go_sem, simprocAttr, seval])) | with_reducible intro (ep : Nat → Nat) | with_reducible apply_assumption -exfalso -symm only [*])
   ·rw [hr, drop_cons hx, drop_cons hy]; simp [hc]
   ·refine ⟨_, ?_, k + 1, rfl, by omega, by (and_intros <;> first | rfl | (simp only [h0, h1, h5, go_sem, simprocAttr]; done) | (simp only [h0, h1, h5, go_sem, simprocAttr]; rfl)), ?_⟩
    ·omega
    ·rw [hr, drop_cons hx, drop_cons hy]; simp [hc]
  ·repeat' (first | (with_reducible refine sk ?_; intro K hK) | ((with_reducible first | refine rg (h := ?_) | refine nx ?_); try simp (disch := omega) only [h0, h1, h5,go_sem, simprocAttr]) | (with_reducible refine bk ?_) | ((with_reducible refine' cE ?hv ?_ ?_); (case hv => first | rfl | (simp only [h0, h1, h5,go_sem, simprocAttr]; rfl)); all_goals (intro hc; (try simp only [go_sem, simprocAttr] at hc); try (exfalso; omega))) | ((with_reducible refine fe ?_); refine ⟨_, (by simp only [Try.f23, h0, h1, h5,go_sem, simprocAttr]; rfl), ?_⟩; first | rfl | (try simp only [h0, h1, h5,go_sem, simprocAttr, seval])) | with_reducible intro (ep : Nat → Nat) | with_reducible apply_assumption -exfalso -symm only [*])
   rw [hr]; simp [List.drop_of_length_le (show b.length ≤ k by omega), List.drop_of_length_le (show a.length ≤ k by omega)]
end Cp
namespace Cp
open Go Go.Proofs
set_option maxRecDepth 10000
set_option maxHeartbeats 1000000
theorem opened1_ok (j : Int) (h : HeadT) : PureC Try.prog 84 [.int .i64 j, .agg (cHead h)] (.int .i64 h.id) := by
 refine PureC_of (fn := Try.f84) tabOK (by kernel_rfl) rfl (by kernel_rfl) (by simp [Try.f84]) (by simp [noids, noid, noidss, go_sem, cHead]) (by first | rfl | simp [noids, noid, noidss, go_sem, cHead]) ?_
 intro X hX0 hXs
 repeat' (first | (with_reducible refine sk ?_; intro K hK) | ((with_reducible first | refine rg (h := ?_) | refine nx ?_); try simp (disch := omega) only [cHead,go_sem, simprocAttr]) | (with_reducible refine bk ?_) | ((with_reducible refine' cE ?hv ?_ ?_); (case hv => first | rfl | (simp only [cHead,go_sem, simprocAttr]; rfl)); all_goals (intro hc; (try simp only [go_sem, simprocAttr] at hc); try (exfalso; omega))) | ((with_reducible refine fe ?_); refine ⟨_, (by simp only [Try.f84, cHead,go_sem, simprocAttr]; rfl), ?_⟩; first | rfl | (try simp only [cHead,go_sem, simprocAttr, seval])) | with_reducible intro (ep : Nat → Nat) | with_reducible apply_assumption -exfalso -symm only [*])
def listedT (hs : List HeadT) (l : List Int) : Val := if openOK hs l = true then .tup [.lst 8 ((openH hs l).map cHead), .bool true] else .tup [.nils, .bool false]
theorem listedH_ok (hs : List HeadT) (hid : hs.Pairwise fun a b => a.id < b.id) (hh : hs.length ≤ 100000) (l : List Int) (hl : l.length ≤ 100000) :
  PureC Try.prog 83 [.lst 8 (hs.map cHead), .lst 1 (ints l), .fn 84 []] (listedT hs l) := by
 have hnoid : noid (listedT hs l) = true := by unfold listedT; split <;> (simp only [noid, noids, noidss, go_sem, simprocAttr, cHead_noid]; rfl)
 refine PureC_of (fn := Try.f83) tabOK (by kernel_rfl) rfl (by kernel_rfl) (by simp [Try.f83]) (by simp [noids, noid, noidss, go_sem, hnoid]) (by first | rfl | simp [noids, noid, noidss, go_sem, hnoid]) ?_
 intro X hX0 hXs
 repeat' (first | (with_reducible refine sk ?_; intro K hK) | ((with_reducible first | refine rg (id := 14) (md := { base := 0, own := [57] }) (h := ?_) | refine rgS (id := 14) [13] (md := { base := 0, own := [57] }) (h := ?_) | refine rg (md := { base := 0, own := [8, 57] }) (h := ?_) | refine rgS [13] (md := { base := 0, own := [8, 57] }) (h := ?_) | refine nx ?_); try simp (disch := omega) only [go_sem, simprocAttr]) | (with_reducible refine bk ?_) | ((with_reducible refine' cE ?hv ?_ ?_); (case hv => first | rfl | (simp only [go_sem, simprocAttr]; rfl)); all_goals (intro hc; (try simp only [go_sem, simprocAttr] at hc); try (exfalso; omega))) | ((with_reducible first | refine grdS_split ?_ ?_ | refine lkG_split ?_ ?_) <;> intro hg <;> (try simp (disch := omega) only [hg, go_sem, simprocAttr]) <;> (try simp only [go_sem, simprocAttr] at hg) <;> (try (exfalso; omega))) | ((with_reducible refine fe ?_); refine ⟨_, (by simp only [Try.f83, go_sem, simprocAttr]; rfl), ?_⟩; first | rfl | (try simp only [go_sem, simprocAttr, seval])) | with_reducible intro (ep : Nat → Nat) | with_reducible apply_assumption -exfalso -symm only [*])
 refine AW_range tabOK l.length (fun k f H => (f 0 = .lst 8 (hs.map cHead) ∧ f 1 = .lst 1 (ints l) ∧ f 2 = .fn 84 [] ∧ f 14 = .lst 1 (ints l)) ∧ (∃ e, f 8 = .gr 8 e (openH hs (l.take k)).length ∧ H 8 = some (e, .arr 8 ((openH hs (l.take k)).map cHead)) ∧ (openH hs (l.take k)).length ≤ k) ∧
   ∃ prev, openOK hs l = okL (fun id => (headAt hs id).isSome) prev (l.drop k) ∧ (k = 0 ∧ prev = none ∨ ∃ (j : Nat) (y : Int), k = j + 1 ∧ l[j]? = some y ∧ prev = some y)) (by omega) (by rw [hXs]; decide) (by decide) (by (first | rfl | (simp only [go_sem, simprocAttr]; done) | (simp only [go_sem, simprocAttr]; rfl))) (by (first | rfl | (simp only [go_sem, simprocAttr]; done) | (simp only [go_sem, simprocAttr]; rfl)))
  ⟨by (and_intros <;> first | rfl | (simp only [go_sem, simprocAttr]; done) | (simp only [go_sem, simprocAttr]; rfl)), ⟨_, by (first | rfl | (simp only [List.take_zero, openH, List.filterMap_nil, go_sem, simprocAttr]; done) | (simp only [List.take_zero, openH, List.filterMap_nil, go_sem, simprocAttr]; rfl)), by (first | rfl | (simp only [List.take_zero, openH, List.filterMap_nil, go_sem, simprocAttr]; done) | (simp only [List.take_zero, openH, List.filterMap_nil, go_sem, simprocAttr]; rfl)), by simp [openH]⟩, none, by simp [openOK], .inl ⟨rfl, rfl⟩⟩ ?_ ?_
 ·rintro k f H hk h16 h15 ⟨⟨h0, h1, h2, h14⟩, ⟨e, h8, hH8, hLk⟩, prev, hr, hp⟩
  obtain ⟨x, hx⟩ : ∃ x, l[k]? = some x := ⟨_, List.getElem?_eq_getElem hk⟩
  rw [drop_cons hx, okL_step] at hr
  refine AW_keep [8] ?_
  repeat' (first | ((fail_if_success (with_reducible refine AW_at (id := 6) ?_)); with_reducible refine sk ?_; intro K hK) | ((with_reducible first | refine rg (id := 14) (md := { base := 0, own := [57] }) (h := ?_) | refine rgS (id := 14) [13] (md := { base := 0, own := [57] }) (h := ?_) | refine rg (md := { base := 0, own := [8, 57] }) (h := ?_) | refine rgS [13] (md := { base := 0, own := [8, 57] }) (h := ?_) | refine nx ?_); try simp (disch := omega) only [h0, h1, h2, h8, h14, h15, h16, hH8, hx,go_sem, simprocAttr]) | (with_reducible refine bk ?_) | ((with_reducible refine' cE ?hv ?_ ?_); (case hv => first | rfl | (simp only [h0, h1, h2, h8, h14, h15, h16, hH8, hx,go_sem, simprocAttr]; rfl)); all_goals (intro hc; (try simp only [go_sem, simprocAttr] at hc); try (exfalso; omega))) | ((with_reducible first | refine grdS_split ?_ ?_ | refine lkG_split ?_ ?_) <;> intro hg <;> (try simp (disch := omega) only [hg, h0, h1, h2, h8, h14, h15, h16, hH8, hx,go_sem, simprocAttr]) <;> (try simp only [go_sem, simprocAttr] at hg) <;> (try (exfalso; omega))) | ((with_reducible refine fe ?_); refine ⟨_, (by simp only [Try.f83, h0, h1, h2, h8, h14, h15, h16, hH8, hx,go_sem, simprocAttr]; rfl), ?_⟩; first | rfl | (try simp only [h0, h1, h2, h8, h14, h15, h16, hH8, hx,go_sem, simprocAttr, seval])) | with_reducible intro (ep : Nat → Nat) | with_reducible apply_assumption -exfalso -symm only [*])
  have hcut : ∀ f H, (f 0 = .lst 8 (hs.map cHead) ∧ f 1 = .lst 1 (ints l) ∧ f 2 = .fn 84 [] ∧ f 14 = .lst 1 (ints l) ∧ f 15 = .int .i64 l.length ∧ f 16 = .int .i64 k ∧ f 8 = .gr 8 e (openH hs (l.take k)).length ∧ f 9 = .int .i64 k ∧ f 10 = .int .i64 x ∧ f 11 = .int .i64 (lastI (fun j => decide (idAt hs j = x)) hs.length)) ∧ H 8 = some (e, .arr 8 ((openH hs (l.take k)).map cHead)) → K f H := by
   clear h0 h1 h2 h8 h14 h15 h16 hH8
   rintro f H ⟨⟨h0, h1, h2, h14, h15, h16, h8, h9, h10, h11⟩, hH8⟩
   refine hK f H ?_
   clear hK
   refine AW_keep [8] ?_
   obtain ⟨L, hLe⟩ : ∃ L, openH hs (l.take k) = L := ⟨_, rfl⟩
   have hsn : ∀ y, headAt hs x = some y → openH hs (l.take (k + 1)) = L ++ [y] := fun y hy => by rw [← hLe]; exact openH_snoc hx hy
   rw [hLe] at h8 hH8 hLk
   have hL2 : L.length ≤ 1073741823 := by omega
   rcases lastI_id hid x with ⟨a1, a2⟩ | ⟨i, y, a0, a1, a2⟩
   ·rw [a1] at hr
    rw [a2] at h11
    have hres : listedT hs l = .tup [.nils, .bool false] := by unfold listedT; rw [hr]; rfl
    rw [hres]
    rcases hp with ⟨rfl, rfl⟩ | ⟨j, z, rfl, hz, rfl⟩
    ·repeat' (first | (with_reducible refine sk ?_; intro K hK) | ((with_reducible first | refine rg (id := 14) (md := { base := 0, own := [57] }) (h := ?_) | refine rgS (id := 14) [13] (md := { base := 0, own := [57] }) (h := ?_) | refine rg (md := { base := 0, own := [8, 57] }) (h := ?_) | refine rgS [13] (md := { base := 0, own := [8, 57] }) (h := ?_) | refine nx ?_); try simp (disch := omega) only [h0, h1, h2, h8, h9, h10, h11, h14, h15, h16, hH8,go_sem, simprocAttr]) | (with_reducible refine bk ?_) | ((with_reducible refine' cE ?hv ?_ ?_); (case hv => first | rfl | (simp only [h0, h1, h2, h8, h9, h10, h11, h14, h15, h16, hH8,go_sem, simprocAttr]; rfl)); all_goals (intro hc; (try simp only [go_sem, simprocAttr] at hc); try (exfalso; omega))) | ((with_reducible first | refine grdS_split ?_ ?_ | refine lkG_split ?_ ?_) <;> intro hg <;> (try simp (disch := omega) only [hg, h0, h1, h2, h8, h9, h10, h11, h14, h15, h16, hH8,go_sem, simprocAttr]) <;> (try simp only [go_sem, simprocAttr] at hg) <;> (try (exfalso; omega))) | ((with_reducible refine fe ?_); refine ⟨_, (by simp only [Try.f83, h0, h1, h2, h8, h9, h10, h11, h14, h15, h16, hH8,go_sem, simprocAttr]; rfl), ?_⟩; first | rfl | (try simp only [h0, h1, h2, h8, h9, h10, h11, h14, h15, h16, hH8,go_sem, simprocAttr, seval])) | with_reducible intro (ep : Nat → Nat) | with_reducible apply_assumption -exfalso -symm only [*])
    ·repeat' (first | (with_reducible refine sk ?_; intro K hK) | ((with_reducible first | refine rg (id := 14) (md := { base := 0, own := [57] }) (h := ?_) | refine rgS (id := 14) [13] (md := { base := 0, own := [57] }) (h := ?_) | refine rg (md := { base := 0, own := [8, 57] }) (h := ?_) | refine rgS [13] (md := { base := 0, own := [8, 57] }) (h := ?_) | refine nx ?_); try simp (disch := omega) only [h0, h1, h2, h8, h9, h10, h11, h14, h15, h16, hH8, hz,go_sem, simprocAttr]) | (with_reducible refine bk ?_) | ((with_reducible refine' cE ?hv ?_ ?_); (case hv => first | rfl | (simp only [h0, h1, h2, h8, h9, h10, h11, h14, h15, h16, hH8, hz,go_sem, simprocAttr]; rfl)); all_goals (intro hc; (try simp only [go_sem, simprocAttr] at hc); try (exfalso; omega))) | ((with_reducible first | refine grdS_split ?_ ?_ | refine lkG_split ?_ ?_) <;> intro hg <;> (try simp (disch := omega) only [hg, h0, h1, h2, h8, h9, h10, h11, h14, h15, h16, hH8, hz,go_sem, simprocAttr]) <;> (try simp only [go_sem, simprocAttr] at hg) <;> (try (exfalso; omega))) | ((with_reducible refine fe ?_); refine ⟨_, (by simp only [Try.f83, h0, h1, h2, h8, h9, h10, h11, h14, h15, h16, hH8, hz,go_sem, simprocAttr]; rfl), ?_⟩; first | rfl | (try simp only [h0, h1, h2, h8, h9, h10, h11, h14, h15, h16, hH8, hz,go_sem, simprocAttr, seval])) | with_reducible intro (ep : Nat → Nat) | with_reducible apply_assumption -exfalso -symm only [*])
   ·rw [a1] at hr
    rw [a2] at h11
    have hi : i < hs.length := (List.getElem?_eq_some_iff.1 a0).1
    have a3 : ¬ (i : Int) < 0 := by omega
    rcases hp with ⟨rfl, rfl⟩ | ⟨j, z, rfl, hz, rfl⟩
    ·replace hsn := hsn y a1
     repeat' (first | (with_reducible refine sk ?_; intro K hK) | ((with_reducible first | refine rg (id := 14) (md := { base := 0, own := [57] }) (h := ?_) | refine rgS (id := 14) [13] (md := { base := 0, own := [57] }) (h := ?_) | refine rg (md := { base := 0, own := [8, 57] }) (h := ?_) | refine rgS [13] (md := { base := 0, own := [8, 57] }) (h := ?_) | refine nx ?_); try simp (disch := omega) only [h0, h1, h2, h8, h9, h10, h11, h14, h15, h16, hH8, a0, a3, hi, hL2, cHead,go_sem, simprocAttr]) | (with_reducible refine bk ?_) | ((with_reducible refine' cE ?hv ?_ ?_); (case hv => first | rfl | (simp only [h0, h1, h2, h8, h9, h10, h11, h14, h15, h16, hH8, a0, a3, hi, hL2, cHead,go_sem, simprocAttr]; rfl)); all_goals (intro hc; (try simp only [go_sem, simprocAttr] at hc); try (exfalso; omega))) | ((with_reducible first | refine grdS_split ?_ ?_ | refine lkG_split ?_ ?_) <;> intro hg <;> (try simp (disch := omega) only [hg, h0, h1, h2, h8, h9, h10, h11, h14, h15, h16, hH8, a0, a3, hi, hL2, cHead,go_sem, simprocAttr]) <;> (try simp only [go_sem, simprocAttr] at hg) <;> (try (exfalso; omega))) | ((with_reducible refine fe ?_); refine ⟨_, (by simp only [Try.f83, h0, h1, h2, h8, h9, h10, h11, h14, h15, h16, hH8, a0, a3, hi, hL2, cHead,go_sem, simprocAttr]; rfl), ?_⟩; first | rfl | (try simp only [h0, h1, h2, h8, h9, h10, h11, h14, h15, h16, hH8, a0, a3, hi, hL2, cHead,go_sem, simprocAttr, seval])) | with_reducible intro (ep : Nat → Nat) | with_reducible apply_assumption -exfalso -symm only [*])
     exact ⟨⟨_, by rw [hsn, List.length_append]; rfl, by rw [hsn, List.map_append]; rfl, by rw [hsn]; simp only [List.length_append, List.length_cons, List.length_nil]; omega⟩, some x, by rw [hr]; simp, .inr ⟨0, x, rfl, hx, rfl⟩⟩
    ·have hj : j < l.length := by omega
     by_cases hle : x ≤ z
     ·have hres : listedT hs l = .tup [.nils, .bool false] := by
       have : openOK hs l = false := by rw [hr]; simp; omega
       unfold listedT; rw [this]; rfl
      rw [hres]
      repeat' (first | (with_reducible refine sk ?_; intro K hK) | ((with_reducible first | refine rg (id := 14) (md := { base := 0, own := [57] }) (h := ?_) | refine rgS (id := 14) [13] (md := { base := 0, own := [57] }) (h := ?_) | refine rg (md := { base := 0, own := [8, 57] }) (h := ?_) | refine rgS [13] (md := { base := 0, own := [8, 57] }) (h := ?_) | refine nx ?_); try simp (disch := omega) only [h0, h1, h2, h8, h9, h10, h11, h14, h15, h16, hH8, a0, a3, hi, hL2, hz, hj, hle, cHead,go_sem, simprocAttr]) | (with_reducible refine bk ?_) | ((with_reducible refine' cE ?hv ?_ ?_); (case hv => first | rfl | (simp only [h0, h1, h2, h8, h9, h10, h11, h14, h15, h16, hH8, a0, a3, hi, hL2, hz, hj, hle, cHead,go_sem, simprocAttr]; rfl)); all_goals (intro hc; (try simp only [go_sem, simprocAttr] at hc); try (exfalso; omega))) | ((with_reducible first | refine grdS_split ?_ ?_ | refine lkG_split ?_ ?_) <;> intro hg <;> (try simp (disch := omega) only [hg, h0, h1, h2, h8, h9, h10, h11, h14, h15, h16, hH8, a0, a3, hi, hL2, hz, hj, hle, cHead,go_sem, simprocAttr]) <;> (try simp only [go_sem, simprocAttr] at hg) <;> (try (exfalso; omega))) | ((with_reducible refine fe ?_); refine ⟨_, (by simp only [Try.f83, h0, h1, h2, h8, h9, h10, h11, h14, h15, h16, hH8, a0, a3, hi, hL2, hz, hj, hle, cHead,go_sem, simprocAttr]; rfl), ?_⟩; first | rfl | (try simp only [h0, h1, h2, h8, h9, h10, h11, h14, h15, h16, hH8, a0, a3, hi, hL2, hz, hj, hle, cHead,go_sem, simprocAttr, seval])) | with_reducible intro (ep : Nat → Nat) | with_reducible apply_assumption -exfalso -symm only [*])
     ·replace hsn := hsn y a1
      repeat' (first | (with_reducible refine sk ?_; intro K hK) | ((with_reducible first | refine rg (id := 14) (md := { base := 0, own := [57] }) (h := ?_) | refine rgS (id := 14) [13] (md := { base := 0, own := [57] }) (h := ?_) | refine rg (md := { base := 0, own := [8, 57] }) (h := ?_) | refine rgS [13] (md := { base := 0, own := [8, 57] }) (h := ?_) | refine nx ?_); try simp (disch := omega) only [h0, h1, h2, h8, h9, h10, h11, h14, h15, h16, hH8, a0, a3, hi, hL2, hz, hj, hle, cHead,go_sem, simprocAttr]) | (with_reducible refine bk ?_) | ((with_reducible refine' cE ?hv ?_ ?_); (case hv => first | rfl | (simp only [h0, h1, h2, h8, h9, h10, h11, h14, h15, h16, hH8, a0, a3, hi, hL2, hz, hj, hle, cHead,go_sem, simprocAttr]; rfl)); all_goals (intro hc; (try simp only [go_sem, simprocAttr] at hc); try (exfalso; omega))) | ((with_reducible first | refine grdS_split ?_ ?_ | refine lkG_split ?_ ?_) <;> intro hg <;> (try simp (disch := omega) only [hg, h0, h1, h2, h8, h9, h10, h11, h14, h15, h16, hH8, a0, a3, hi, hL2, hz, hj, hle, cHead,go_sem, simprocAttr]) <;> (try simp only [go_sem, simprocAttr] at hg) <;> (try (exfalso; omega))) | ((with_reducible refine fe ?_); refine ⟨_, (by simp only [Try.f83, h0, h1, h2, h8, h9, h10, h11, h14, h15, h16, hH8, a0, a3, hi, hL2, hz, hj, hle, cHead,go_sem, simprocAttr]; rfl), ?_⟩; first | rfl | (try simp only [h0, h1, h2, h8, h9, h10, h11, h14, h15, h16, hH8, a0, a3, hi, hL2, hz, hj, hle, cHead,go_sem, simprocAttr, seval])) | with_reducible intro (ep : Nat → Nat) | with_reducible apply_assumption -exfalso -symm only [*])
      exact ⟨⟨_, by rw [hsn, List.length_append]; rfl, by rw [hsn, List.map_append]; rfl, by rw [hsn]; simp only [List.length_append, List.length_cons, List.length_nil]; omega⟩, some x, by rw [hr]; simp; intro h; omega, .inr ⟨j + 1, x, rfl, hx, rfl⟩⟩
  clear hK
  repeat' (first | (with_reducible refine sk ?_; intro K hK) | ((with_reducible first | refine rg (id := 14) (md := { base := 0, own := [57] }) (h := ?_) | refine rgS (id := 14) [13] (md := { base := 0, own := [57] }) (h := ?_) | refine rg (md := { base := 0, own := [8, 57] }) (h := ?_) | refine rgS [13] (md := { base := 0, own := [8, 57] }) (h := ?_) | refine nx ?_); try simp (disch := omega) only [h0, h1, h2, h8, h14, h15, h16, hH8,go_sem, simprocAttr]) | (with_reducible refine bk ?_) | ((with_reducible refine' cE ?hv ?_ ?_); (case hv => first | rfl | (simp only [h0, h1, h2, h8, h14, h15, h16, hH8,go_sem, simprocAttr]; rfl)); all_goals (intro hc; (try simp only [go_sem, simprocAttr] at hc); try (exfalso; omega))) | ((with_reducible first | refine grdS_split ?_ ?_ | refine lkG_split ?_ ?_) <;> intro hg <;> (try simp (disch := omega) only [hg, h0, h1, h2, h8, h14, h15, h16, hH8,go_sem, simprocAttr]) <;> (try simp only [go_sem, simprocAttr] at hg) <;> (try (exfalso; omega))) | ((with_reducible refine fe ?_); refine ⟨_, (by simp only [Try.f83, h0, h1, h2, h8, h14, h15, h16, hH8,go_sem, simprocAttr]; rfl), ?_⟩; first | rfl | (try simp only [h0, h1, h2, h8, h14, h15, h16, hH8,go_sem, simprocAttr, seval])) | with_reducible intro (ep : Nat → Nat) | with_reducible apply_assumption -exfalso -symm only [*])
  refine AW_range tabOK hs.length (fun i f H => (f 0 = .lst 8 (hs.map cHead) ∧ f 1 = .lst 1 (ints l) ∧ f 2 = .fn 84 [] ∧ f 14 = .lst 1 (ints l) ∧ f 15 = .int .i64 l.length ∧ f 16 = .int .i64 k ∧ f 8 = .gr 8 e (openH hs (l.take k)).length ∧ f 9 = .int .i64 k ∧ f 10 = .int .i64 x ∧ f 21 = .lst 8 (hs.map cHead) ∧ f 11 = .int .i64 (lastI (fun j => decide (idAt hs j = x)) i)) ∧ H 8 = some (e, .arr 8 ((openH hs (l.take k)).map cHead))) (by omega) (by rw [hXs]; decide) (by decide) (by (first | rfl | (simp only [go_sem, simprocAttr]; done) | (simp only [go_sem, simprocAttr]; rfl))) (by (first | rfl | (simp only [go_sem, simprocAttr]; done) | (simp only [go_sem, simprocAttr]; rfl)))
   ⟨by (and_intros <;> first | rfl | (simp only [h0, h1, h2, h8, h14, h15, h16, go_sem, simprocAttr]; done) | (simp only [h0, h1, h2, h8, h14, h15, h16, go_sem, simprocAttr]; rfl)), by (first | rfl | (simp only [hH8, go_sem, simprocAttr]; done) | (simp only [hH8, go_sem, simprocAttr]; rfl))⟩ ?_ ?_
  ·clear h0 h1 h2 h8 h14 h15 h16 hH8 hcut
   rintro i f H hi h23 h22 ⟨⟨h0, h1, h2, h14, h15, h16, h8, h9, h10, h21, h11⟩, hH8⟩
   obtain ⟨y, hy⟩ : ∃ y, hs[i]? = some y := ⟨_, List.getElem?_eq_getElem hi⟩
   have hst : lastI (fun j => decide (idAt hs j = x)) (i + 1) = if y.id = x then (i : Int) else lastI (fun j => decide (idAt hs j = x)) i := by
    simp only [lastI, idAt, hy, Option.map_some, Option.getD_some, decide_eq_true_eq]
   have hcl := opened1_ok i y
   simp only [cHead] at hcl
   refine AW_keep [8] ?_
   by_cases he : y.id = x
   ·rw [if_pos he] at hst
    rw [he] at hcl
    rw [hst]
    repeat' (first | (with_reducible refine sk ?_; intro K hK) | ((first | (with_reducible first | refine rg (id := 14) (md := { base := 0, own := [57] }) (h := ?_) | refine rgS (id := 14) [13] (md := { base := 0, own := [57] }) (h := ?_) | refine rg (md := { base := 0, own := [8, 57] }) (h := ?_) | refine rgS [13] (md := { base := 0, own := [8, 57] }) (h := ?_) | refine nx ?_) | refine pK (hcl) ?_); try simp (disch := omega) only [h0, h1, h2, h8, h9, h10, h11, h14, h15, h16, h21, h22, h23, hH8, hy, he, cHead,go_sem, simprocAttr]) | (with_reducible refine bk ?_) | ((with_reducible refine' cE ?hv ?_ ?_); (case hv => first | rfl | (simp only [h0, h1, h2, h8, h9, h10, h11, h14, h15, h16, h21, h22, h23, hH8, hy, he, cHead,go_sem, simprocAttr]; rfl)); all_goals (intro hc; (try simp only [go_sem, simprocAttr] at hc); try (exfalso; omega))) | ((with_reducible first | refine grdS_split ?_ ?_ | refine lkG_split ?_ ?_) <;> intro hg <;> (try simp (disch := omega) only [hg, h0, h1, h2, h8, h9, h10, h11, h14, h15, h16, h21, h22, h23, hH8, hy, he, cHead,go_sem, simprocAttr]) <;> (try simp only [go_sem, simprocAttr] at hg) <;> (try (exfalso; omega))) | ((with_reducible refine fe ?_); refine ⟨_, (by simp only [Try.f83, h0, h1, h2, h8, h9, h10, h11, h14, h15, h16, h21, h22, h23, hH8, hy, he, cHead,go_sem, simprocAttr]; rfl), ?_⟩; first | rfl | (try simp only [h0, h1, h2, h8, h9, h10, h11, h14, h15, h16, h21, h22, h23, hH8, hy, he, cHead,go_sem, simprocAttr, seval])) | with_reducible intro (ep : Nat → Nat) | with_reducible apply_assumption -exfalso -symm only [*])
   ·rw [if_neg he] at hst
    rw [hst]
    repeat' (first | (with_reducible refine sk ?_; intro K hK) | ((first | (with_reducible first | refine rg (id := 14) (md := { base := 0, own := [57] }) (h := ?_) | refine rgS (id := 14) [13] (md := { base := 0, own := [57] }) (h := ?_) | refine rg (md := { base := 0, own := [8, 57] }) (h := ?_) | refine rgS [13] (md := { base := 0, own := [8, 57] }) (h := ?_) | refine nx ?_) | refine pK (hcl) ?_); try simp (disch := omega) only [h0, h1, h2, h8, h9, h10, h11, h14, h15, h16, h21, h22, h23, hH8, hy, he, cHead,go_sem, simprocAttr]) | (with_reducible refine bk ?_) | ((with_reducible refine' cE ?hv ?_ ?_); (case hv => first | rfl | (simp only [h0, h1, h2, h8, h9, h10, h11, h14, h15, h16, h21, h22, h23, hH8, hy, he, cHead,go_sem, simprocAttr]; rfl)); all_goals (intro hc; (try simp only [go_sem, simprocAttr] at hc); try (exfalso; omega))) | ((with_reducible first | refine grdS_split ?_ ?_ | refine lkG_split ?_ ?_) <;> intro hg <;> (try simp (disch := omega) only [hg, h0, h1, h2, h8, h9, h10, h11, h14, h15, h16, h21, h22, h23, hH8, hy, he, cHead,go_sem, simprocAttr]) <;> (try simp only [go_sem, simprocAttr] at hg) <;> (try (exfalso; omega))) | ((with_reducible refine fe ?_); refine ⟨_, (by simp only [Try.f83, h0, h1, h2, h8, h9, h10, h11, h14, h15, h16, h21, h22, h23, hH8, hy, he, cHead,go_sem, simprocAttr]; rfl), ?_⟩; first | rfl | (try simp only [h0, h1, h2, h8, h9, h10, h11, h14, h15, h16, h21, h22, h23, hH8, hy, he, cHead,go_sem, simprocAttr, seval])) | with_reducible intro (ep : Nat → Nat) | with_reducible apply_assumption -exfalso -symm only [*])
  ·clear h0 h1 h2 h8 h14 h15 h16 hH8
   rintro f H h23 h22 ⟨⟨h0, h1, h2, h14, h15, h16, h8, h9, h10, h21, h11⟩, hH8⟩
   repeat' (first | (with_reducible refine sk ?_; intro K hK) | ((with_reducible first | refine rg (id := 14) (md := { base := 0, own := [57] }) (h := ?_) | refine rgS (id := 14) [13] (md := { base := 0, own := [57] }) (h := ?_) | refine rg (md := { base := 0, own := [8, 57] }) (h := ?_) | refine rgS [13] (md := { base := 0, own := [8, 57] }) (h := ?_) | refine nx ?_); try simp (disch := omega) only [h0, h1, h2, h8, h9, h10, h11, h14, h15, h16, hH8,go_sem, simprocAttr]) | (with_reducible refine bk ?_) | ((with_reducible refine' cE ?hv ?_ ?_); (case hv => first | rfl | (simp only [h0, h1, h2, h8, h9, h10, h11, h14, h15, h16, hH8,go_sem, simprocAttr]; rfl)); all_goals (intro hc; (try simp only [go_sem, simprocAttr] at hc); try (exfalso; omega))) | ((with_reducible first | refine grdS_split ?_ ?_ | refine lkG_split ?_ ?_) <;> intro hg <;> (try simp (disch := omega) only [hg, h0, h1, h2, h8, h9, h10, h11, h14, h15, h16, hH8,go_sem, simprocAttr]) <;> (try simp only [go_sem, simprocAttr] at hg) <;> (try (exfalso; omega))) | ((with_reducible refine fe ?_); refine ⟨_, (by simp only [Try.f83, h0, h1, h2, h8, h9, h10, h11, h14, h15, h16, hH8,go_sem, simprocAttr]; rfl), ?_⟩; first | rfl | (try simp only [h0, h1, h2, h8, h9, h10, h11, h14, h15, h16, hH8,go_sem, simprocAttr, seval])) | with_reducible intro (ep : Nat → Nat) | with_reducible apply_assumption -exfalso -symm only [*])
   exact ⟨by (and_intros <;> first | rfl | (simp only [h0, h1, h2, h8, h9, h10, h11, h14, h15, h16, go_sem, simprocAttr]; done) | (simp only [h0, h1, h2, h8, h9, h10, h11, h14, h15, h16, go_sem, simprocAttr]; rfl)), by (first | rfl | (simp only [hH8, go_sem, simprocAttr]; done) | (simp only [hH8, go_sem, simprocAttr]; rfl))⟩
 ·rintro f H h16 h15 ⟨⟨h0, h1, h2, h14⟩, ⟨e, h8, hH8, hLk⟩, prev, hr, hp⟩
  rw [drop_none (by omega)] at hr
  rw [List.take_of_length_le (Nat.le_refl _)] at h8 hH8
  have hok : openOK hs l = true := by rw [hr]; cases prev <;> rfl
  have hres : listedT hs l = .tup [.lst 8 ((openH hs l).map cHead), .bool true] := by unfold listedT; rw [if_pos hok]
  repeat' (first | (with_reducible refine sk ?_; intro K hK) | ((with_reducible first | refine rg (id := 14) (md := { base := 0, own := [57] }) (h := ?_) | refine rgS (id := 14) [13] (md := { base := 0, own := [57] }) (h := ?_) | refine rg (md := { base := 0, own := [8, 57] }) (h := ?_) | refine rgS [13] (md := { base := 0, own := [8, 57] }) (h := ?_) | refine nx ?_); try simp (disch := omega) only [h0, h8, hH8,go_sem, simprocAttr]) | (with_reducible refine bk ?_) | ((with_reducible refine' cE ?hv ?_ ?_); (case hv => first | rfl | (simp only [h0, h8, hH8,go_sem, simprocAttr]; rfl)); all_goals (intro hc; (try simp only [go_sem, simprocAttr] at hc); try (exfalso; omega))) | ((with_reducible first | refine grdS_split ?_ ?_ | refine lkG_split ?_ ?_) <;> intro hg <;> (try simp (disch := omega) only [hg, h0, h8, hH8,go_sem, simprocAttr]) <;> (try simp only [go_sem, simprocAttr] at hg) <;> (try (exfalso; omega))) | with_reducible intro (ep : Nat → Nat) | with_reducible apply_assumption -exfalso -symm only [*])
  refine FnP_frz 8 (Or.inl rfl) hH8 ⟨_, (by simp only [Try.f83, go_sem, simprocAttr]; rfl), ?_⟩
  rw [hres]; simp only [go_sem, simprocAttr]
end Cp
namespace Cp
open Go
def addV (ps : List PipeT) (k : Nat) (need : Int) (F : List Int) : List Int := F.mapIdx fun j x => if via ps k j = true then x + need else x
theorem addV_zero {ps : List PipeT} (h : Falls ps) {need : Int} {F : List Int} {x : Int} (hx : F[0]? = some x) : addV ps 0 need F = F.set 0 (x + need) := by
 refine List.ext_getElem? fun j => ?_
 simp only [addV, List.getElem?_mapIdx, List.getElem?_set]
 have hl := (List.getElem?_eq_some_iff.1 hx).1
 by_cases hj : 0 = j
 ·subst hj; simp only [hx, Option.map_some, via_self h, if_true, hl]
 ·rw [if_neg hj]
  have hv : via ps 0 j = false := via_lt h (by omega)
  simp [hv]
theorem addV_step {ps : List PipeT} (h : Falls ps) {k : Nat} (hk : 0 < k) {need : Int} {F : List Int} {x : Int} (hx : F[k]? = some x) : addV ps k need F = addV ps (frmOf ps k) need (F.set k (x + need)) := by
 have hl := (List.getElem?_eq_some_iff.1 hx).1
 have hlt := frmOf_lt h hk
 refine List.ext_getElem? fun j => ?_
 simp only [addV, List.getElem?_mapIdx, List.getElem?_set]
 by_cases hj : k = j
 ·subst hj
  have hv : via ps (frmOf ps k) k = false := via_lt h hlt
  simp only [hx, Option.map_some, via_self h, hl, if_true, hv, Bool.false_eq_true, if_false]
 ·rw [if_neg hj]
  have hv : via ps k j = via ps (frmOf ps k) j := by
   by_cases h0 : j = 0
   ·subst h0; simp [via]
   ·rw [via_step h hk (by omega), decide_eq_false (fun e => hj e.symm), Bool.false_or]
  rw [hv]
theorem addV_flow {ps : List PipeT} {n : Nat} {l : List HeadT} {h : HeadT} : addV ps h.node.toNat h.need (flowL ps n l) = flowL ps n (l ++ [h]) := by
 refine List.ext_getElem? fun j => ?_
 simp only [addV, flowL, List.getElem?_mapIdx, List.getElem?_map]
 cases hj : (List.range n)[j]? with
 | none => simp
 | some i =>
  have : i = j := by
   obtain ⟨h1, h2⟩ := List.getElem?_eq_some_iff.1 hj
   simpa using h2.symm
  subst this
  simp only [Option.map_some, flowAt_app, flowAt]
  split <;> simp
theorem flowL_len {ps : List PipeT} {n : Nat} {l : List HeadT} : (flowL ps n l).length = n := by simp [flowL]
theorem flowL_get {ps : List PipeT} {n : Nat} {l : List HeadT} {j : Nat} (h : j < n) : (flowL ps n l)[j]? = some (flowAt ps j l) := by simp [flowL, h]
theorem flowL_nil {ps : List PipeT} {n : Nat} : flowL ps n [] = List.replicate n 0 := by
 simp only [flowL, flowAt]
 exact List.ext_getElem (by simp) fun i h1 h2 => by simp
def heads500 (l : List HeadT) : Prop := ∀ h ∈ l, 1 ≤ h.need ∧ h.need ≤ 500
theorem openH_500 {n : NetT} (hF : NetF n) (l : List Int) : heads500 (openH n.heads l) := fun h hm => by
 simp only [openH, List.mem_filterMap] at hm
 obtain ⟨a, _, ha⟩ := hm
 exact (hF.head h (headAt_mem ha).1).1.2.1
theorem openH_node {n : NetT} (hF : NetF n) {l : List Int} {h : HeadT} (hm : h ∈ openH n.heads l) : 1 ≤ h.node ∧ h.node ≤ n.pipes.length := by
 simp only [openH, List.mem_filterMap] at hm
 obtain ⟨a, _, ha⟩ := hm
 exact (hF.head h (headAt_mem ha).1).2
theorem openH_len {hs : List HeadT} {l : List Int} : (openH hs l).length ≤ l.length := List.length_filterMap_le _ _
theorem openH_len' {hs : List HeadT} {l : List Int} (ho : ∀ a ∈ l, (headAt hs a).isSome = true) : (openH hs l).length = l.length := by
 induction l with
 | nil => rfl
 | cons a l ih =>
  obtain ⟨x, hx⟩ := Option.isSome_iff_exists.1 (ho a (by simp))
  have := ih fun b hb => ho b (by simp [hb])
  simp only [openH, List.filterMap_cons, hx, List.length_cons] at this ⊢
  omega
theorem pair_len : ∀ {l m : List Int}, l.Pairwise (· < ·) → m.Pairwise (· < ·) → (∀ a ∈ l, a ∈ m) → l.length ≤ m.length
 | [], m, _, _, _ => by simp
 | a :: l, [], _, _, h => by have := h a (by simp); simp at this
 | a :: l, b :: m, h1, h2, h => by
  obtain ⟨p1, p2⟩ := List.pairwise_cons.1 h1
  obtain ⟨q1, q2⟩ := List.pairwise_cons.1 h2
  have := pair_len (l := l) (m := m) p2 q2 fun x hx => by
   have hxa := p1 x hx
   have hba : b ≤ a := by
    rcases List.mem_cons.1 (h a (by simp)) with e | e
    ·omega
    ·have := q1 a e; omega
   rcases List.mem_cons.1 (h x (by simp [hx])) with e | e
   ·omega
   ·exact e
  simp only [List.length_cons]; omega
theorem open_le {hs : List HeadT} (hid : hs.Pairwise fun a b => a.id < b.id) {l : List Int} (ho : openOK hs l = true) : l.length ≤ hs.length := by
 obtain ⟨h1, h2⟩ := okL_none ho
 have := pair_len (m := hs.map (·.id)) h2 (List.pairwise_map.2 hid) fun a ha => by
  obtain ⟨x, hx⟩ := Option.isSome_iff_exists.1 (h1 a ha)
  obtain ⟨h3, h4⟩ := headAt_mem hx
  exact List.mem_map.2 ⟨x, h3, h4⟩
 simpa using this
end Cp
namespace Cp
open Go
section
variable {P : Program} {T : Tab} {md : Me} {os : List Oper} {K : Fr → Hp → Prop} {f : Fr} {H : Hp} {d : Option Tmp} {ty : TypeId} {pos : String} {af : Array Edge} {g : Option (Nat × Bool)} {ss lk : List Nat}
 {t u s b : Nat} {z : Val} {p : Bool}
@[go_sem] theorem xgo_makeMap {t : TypeId} {r : Option Operand} : xgo P T md { dst := d, op := .makeMap t r, type := ty, pos := pos, after := af, guard := g } K f H =
  ∀ ep : Nat → Nat, two K d f H (freeK H (k1 md d) (xmakeMap T (k1 md d) (ep (k1 md d)) t (r.map (ev f)))) := by
 simp only [xgo, xop]; rfl
def mmT (k e : Nat) : Option TI → Option (Val × Up)
 | some { kind := .map _ _, .. } => some (.map k e, some (k, some (e, .map e [])))
 | _ => none
@[go_sem] theorem mmT_map {k e kt vt : Nat} : mmT k e (some { kind := .map kt vt, sz := s, bytes := b, zero := z, plain := p }) = some (.map k e, some (k, some (e, .map e []))) := rfl
@[go_sem] theorem xmakeMap_none {k e : Nat} {t : TypeId} : xmakeMap T k e t none = mmT k e (T t) := by
 unfold xmakeMap mmT
 cases T t with
 | none => rfl
 | some ti => obtain ⟨kind, _, _, _, _⟩ := ti; cases kind <;> rfl
@[go_sem] theorem xmakeMap_int {k e : Nat} {t : TypeId} {ik : IntKind} {n : Int} : xmakeMap T k e t (some (.int ik n)) = mmT k e (T t) := by
 unfold xmakeMap mmT
 cases T t with
 | none => rfl
 | some ti => obtain ⟨kind, _, _, _, _⟩ := ti; cases kind <;> rfl
@[go_sem] theorem xgo_mapUpdate {t : TypeId} {m key x : Operand} : xgo P T md { dst := d, op := .mapUpdate t m key x, type := ty, pos := pos, after := af, guard := g } K f H =
  ∀ ep : Nat → Nat, two K d f H ((xmapUpdate T H ep t (ev f m) (ev f key) (ev f x)).map (.any, ·)) := by
 simp only [xgo, xop]
 refine forall_congr fun ep => ?_
 cases xmapUpdate T H ep t (ev f m) (ev f key) (ev f x) <;> rfl
@[go_sem] theorem xgo_insert {t : TypeId} {m key x : Operand} : xgo P T md { dst := d, op := .insert t m key x, type := ty, pos := pos, after := af, guard := g } K f H =
  ∀ ep : Nat → Nat, two K d f H ((xmapUpdate T H ep t (ev f m) (ev f key) (ev f x)).map (.any, ·)) := by
 simp only [xgo, xop]
 refine forall_congr fun ep => ?_
 cases xmapUpdate T H ep t (ev f m) (ev f key) (ev f x) <;> rfl
def muF (ep : Nat → Nat) (k em : Nat) (key v : Val) (es : List (Val × Val)) : Option (Option (Nat × Val)) → Option Up
 | none => none
 | some none => some (some (k, some (em, .map (ep k) (es ++ [(key, v)]))))
 | some (some (i, _)) => some (some (k, some (em, .map (ep k) (es.set i (key, v)))))
@[go_sem] theorem muF_new {ep : Nat → Nat} {k em : Nat} {key v : Val} {es : List (Val × Val)} : muF ep k em key v es (some none) = some (some (k, some (em, .map (ep k) (es ++ [(key, v)])))) := rfl
@[go_sem] theorem muF_old {ep : Nat → Nat} {k em i : Nat} {key v x : Val} {es : List (Val × Val)} : muF ep k em key v es (some (some (i, x))) = some (some (k, some (em, .map (ep k) (es.set i (key, v))))) := rfl
def muH (T : Tab) (ep : Nat → Nat) (k em kt : Nat) (key v : Val) (ki : TI) : Option (Nat × AObj) → Option Up
 | some (em', .map _ es) => if em = em' ∧ xck T 8 ki key = true then muF ep k em key v es (xfind T kt key es 0) else none
 | _ => none
@[go_sem] theorem muH_map {ep : Nat → Nat} {k em em' kt ver : Nat} {key v : Val} {ki : TI} {es : List (Val × Val)} : muH T ep k em kt key v ki (some (em', .map ver es)) = if em = em' ∧ xck T 8 ki key = true then muF ep k em key v es (xfind T kt key es 0) else none := rfl
def muK (T : Tab) (H : Hp) (ep : Nat → Nat) (k em kt : Nat) (key v : Val) : Option TI → Option Up
 | some ki => muH T ep k em kt key v ki (H k)
 | none => none
@[go_sem] theorem muK_some {ep : Nat → Nat} {k em kt : Nat} {key v : Val} {ki : TI} : muK T H ep k em kt key v (some ki) = muH T ep k em kt key v ki (H k) := rfl
def muT (T : Tab) (H : Hp) (ep : Nat → Nat) (k em : Nat) (key v : Val) : Option TI → Option Up
 | some { kind := .map kt _, .. } => muK T H ep k em kt key v (T kt)
 | _ => none
@[go_sem] theorem muT_map {ep : Nat → Nat} {k em kt vt : Nat} {key v : Val} : muT T H ep k em key v (some { kind := .map kt vt, sz := s, bytes := b, zero := z, plain := p }) = muK T H ep k em kt key v (T kt) := rfl
@[go_sem] theorem xmapUpdate_eq {ep : Nat → Nat} {t : TypeId} {k em : Nat} {key v : Val} : xmapUpdate T H ep t (.map k em) key v = muT T H ep k em key v (T t) := by
 unfold xmapUpdate muT
 cases T t with
 | none => rfl
 | some ti =>
  obtain ⟨kind, _, _, _, _⟩ := ti
  cases kind <;> try rfl
  rename_i kt vt
  simp only [muK]
  cases T kt with
  | none => rfl
  | some ki =>
   simp only
   cases H k with
   | none => rfl
   | some p =>
    obtain ⟨e, o⟩ := p
    cases o <;> try rfl
@[go_sem] theorem xck_int {n : Nat} {k : IntKind} {v : Val} : xck T (n + 1) { kind := .int k, sz := s, bytes := b, zero := z, plain := p } v = true := rfl
@[go_sem] theorem xck_str {n : Nat} {v : Val} : xck T (n + 1) { kind := .str, sz := s, bytes := b, zero := z, plain := p } v = true := rfl
@[go_sem] theorem xck_bool {n : Nat} {v : Val} : xck T (n + 1) { kind := .bool, sz := s, bytes := b, zero := z, plain := p } v = true := rfl
@[go_sem] theorem xgo_delete {m key : Operand} {t u : TypeId} : xgo P T md { dst := d, op := .call { callee := .builtin .delete, args := #[m, key], argTypes := #[t, u] }, type := ty, pos := pos, after := af, guard := g } K f H =
  ∀ ep : Nat → Nat, two K d f H ((xdelete T H ep t (ev f m) (ev f key)).map (.tup [], ·)) := by
 simp only [xgo, xop, xblt, List.map_cons, List.map_nil]
 refine forall_congr fun ep => ?_
 cases xdelete T H ep t (ev f m) (ev f key) <;> rfl
@[go_sem] theorem map_up0 {u : Up} : (some u).map (fun u => ((.tup [], u) : Val × Up)) = some (.tup [], u) := rfl
def dlF (ep : Nat → Nat) (k em : Nat) (es : List (Val × Val)) : Option (Option (Nat × Val)) → Option Up
 | none => none
 | some none => some (some (k, some (em, .map (ep k) es)))
 | some (some (i, _)) => some (some (k, some (em, .map (ep k) (es.eraseIdx i))))
@[go_sem] theorem dlF_no {ep : Nat → Nat} {k em : Nat} {es : List (Val × Val)} : dlF ep k em es (some none) = some (some (k, some (em, .map (ep k) es))) := rfl
@[go_sem] theorem dlF_yes {ep : Nat → Nat} {k em i : Nat} {x : Val} {es : List (Val × Val)} : dlF ep k em es (some (some (i, x))) = some (some (k, some (em, .map (ep k) (es.eraseIdx i)))) := rfl
def dlH (T : Tab) (ep : Nat → Nat) (k em kt : Nat) (key : Val) (ki : TI) : Option (Nat × AObj) → Option Up
 | some (em', .map _ es) => if em = em' ∧ xck T 8 ki key = true then dlF ep k em es (xfind T kt key es 0) else none
 | _ => none
@[go_sem] theorem dlH_map {ep : Nat → Nat} {k em em' kt ver : Nat} {key : Val} {ki : TI} {es : List (Val × Val)} : dlH T ep k em kt key ki (some (em', .map ver es)) = if em = em' ∧ xck T 8 ki key = true then dlF ep k em es (xfind T kt key es 0) else none := rfl
def dlK (T : Tab) (H : Hp) (ep : Nat → Nat) (k em kt : Nat) (key : Val) : Option TI → Option Up
 | some ki => dlH T ep k em kt key ki (H k)
 | none => none
@[go_sem] theorem dlK_some {ep : Nat → Nat} {k em kt : Nat} {key : Val} {ki : TI} : dlK T H ep k em kt key (some ki) = dlH T ep k em kt key ki (H k) := rfl
def dlT (T : Tab) (H : Hp) (ep : Nat → Nat) (k em : Nat) (key : Val) : Option TI → Option Up
 | some { kind := .map kt _, .. } => dlK T H ep k em kt key (T kt)
 | _ => none
@[go_sem] theorem dlT_map {ep : Nat → Nat} {k em kt vt : Nat} {key : Val} : dlT T H ep k em key (some { kind := .map kt vt, sz := s, bytes := b, zero := z, plain := p }) = dlK T H ep k em kt key (T kt) := rfl
@[go_sem] theorem xdelete_eq {ep : Nat → Nat} {t : TypeId} {k em : Nat} {key : Val} : xdelete T H ep t (.map k em) key = dlT T H ep k em key (T t) := by
 unfold xdelete dlT
 cases T t with
 | none => rfl
 | some ti =>
  obtain ⟨kind, _, _, _, _⟩ := ti
  cases kind <;> try rfl
  rename_i kt vt
  simp only [dlK]
  cases T kt with
  | none => rfl
  | some ki =>
   simp only
   cases H k with
   | none => rfl
   | some p =>
    obtain ⟨e, o⟩ := p
    cases o <;> try rfl
@[go_sem] theorem side_range {t : TypeId} {m : Operand} : sideO ss md { dst := d, op := .range t m, type := ty, pos := pos, after := af, guard := g } f = True := rfl
@[go_sem] theorem side_mapUpdate {t : TypeId} {m k x : Operand} : sideO ss md { dst := d, op := .mapUpdate t m k x, type := ty, pos := pos, after := af, guard := g } f = True := rfl
@[go_sem] theorem side_insert {t : TypeId} {m k x : Operand} : sideO ss md { dst := d, op := .insert t m k x, type := ty, pos := pos, after := af, guard := g } f = True := rfl
def lnM (e : Nat) : Option (Nat × AObj) → Option Val
 | some (e', .map _ es) => if e = e' then some (.int .i64 es.length) else none
 | some (e', .frm _ es) => if e = e' then some (.int .i64 es.length) else none
 | _ => none
@[go_sem] theorem lnM_map {e e' ver : Nat} {es : List (Val × Val)} : lnM e (some (e', .map ver es)) = if e = e' then some (.int .i64 es.length) else none := rfl
@[go_sem] theorem lnM_frm {e e' ver : Nat} {es : List (Val × Val)} : lnM e (some (e', .frm ver es)) = if e = e' then some (.int .i64 es.length) else none := rfl
@[go_sem] theorem lnT_map {k e kt vt : Nat} : lnT H (.map k e) (some { kind := .map kt vt, sz := s, bytes := b, zero := z, plain := p }) = lnM e (H k) := by
 simp only [lnT, lnM]
 cases H k with
 | none => rfl
 | some q => obtain ⟨e', o⟩ := q; cases o <;> rfl
@[go_sem] theorem lnT_nilm {kt vt : Nat} : lnT H .nilm (some { kind := .map kt vt, sz := s, bytes := b, zero := z, plain := p }) = some (.int .i64 0) := rfl
@[go_sem] theorem xgo_range {t : TypeId} {m : Operand} : xgo P T md { dst := d, op := .range t m, type := ty, pos := pos, after := af, guard := g } K f H =
  ∀ ep : Nat → Nat, two K d f H (freeK H (k1 md d) (xrange T H (k1 md d) (ep (k1 md d)) t (ev f m))) := by
 simp only [xgo, xop]; rfl
def rgH (k e km em : Nat) : Option (Nat × AObj) → Option (Val × Up)
 | some (em', .map ver es) => if em = em' ∧ km ≠ k then some (.itr k e, some (k, some (e, .itr km em ver (List.range es.length) none))) else none
 | _ => none
@[go_sem] theorem rgH_map {k e km em em' ver : Nat} {es : List (Val × Val)} : rgH k e km em (some (em', .map ver es)) = if em = em' ∧ km ≠ k then some (.itr k e, some (k, some (e, .itr km em ver (List.range es.length) none))) else none := rfl
def rgT (H : Hp) (k e km em : Nat) : Option TI → Option (Val × Up)
 | some { kind := .map _ _, .. } => rgH k e km em (H km)
 | _ => none
@[go_sem] theorem rgT_map {k e km em kt vt : Nat} : rgT H k e km em (some { kind := .map kt vt, sz := s, bytes := b, zero := z, plain := p }) = rgH k e km em (H km) := rfl
@[go_sem] theorem xrange_eq {k e km em : Nat} {t : TypeId} : xrange T H k e t (.map km em) = rgT H k e km em (T t) := by
 unfold xrange rgT
 cases T t with
 | none => rfl
 | some ti =>
  obtain ⟨kind, _, _, _, _⟩ := ti
  cases kind <;> try rfl
def rgN (k e : Nat) : Option TI → Option (Val × Up)
 | some { kind := .map _ _, .. } => some (.itr k e, some (k, some (e, .nit)))
 | _ => none
@[go_sem] theorem rgN_map {k e kt vt : Nat} : rgN k e (some { kind := .map kt vt, sz := s, bytes := b, zero := z, plain := p }) = some (.itr k e, some (k, some (e, .nit))) := rfl
@[go_sem] theorem xrange_nil {k e : Nat} {t : TypeId} : xrange T H k e t .nilm = rgN k e (T t) := by
 unfold xrange rgN
 cases T t with
 | none => rfl
 | some ti => obtain ⟨kind, _, _, _, _⟩ := ti; cases kind <;> rfl
@[go_sem] theorem stpN_next {x : Operand} : stpN P T md os ss lk { dst := d, op := .next x false, type := ty, pos := pos, after := af, guard := none } K f H = nextV K d f H (ev f x) := rfl
@[go_sem] theorem stpN_entry {x : Operand} : stpN P T md os ss lk { dst := d, op := .entry x, type := ty, pos := pos, after := af, guard := none } K f H = entryV K d f H (ev f x) := rfl
@[go_sem] theorem stpN_extract {x : Operand} {n : Nat} : stpN P T md os ss lk { dst := d, op := .extract x n, type := ty, pos := pos, after := af, guard := g } K f H = stpL P T md os ss lk { dst := d, op := .extract x n, type := ty, pos := pos, after := af, guard := g } K f H := by
 cases g <;> rfl
@[go_sem] theorem stpN_assign {x : Operand} : stpN P T md os ss lk { dst := d, op := .assign x, type := ty, pos := pos, after := af, guard := g } K f H = stpL P T md os ss lk { dst := d, op := .assign x, type := ty, pos := pos, after := af, guard := g } K f H := by
 cases g <;> rfl
@[go_sem] theorem stpN_move {x : Operand} : stpN P T md os ss lk { dst := d, op := .move x, type := ty, pos := pos, after := af, guard := g } K f H = stpL P T md os ss lk { dst := d, op := .move x, type := ty, pos := pos, after := af, guard := g } K f H := by
 cases g <;> rfl
@[go_sem] theorem stpN_alloc {t : TypeId} : stpN P T md os ss lk { dst := d, op := .alloc t, type := ty, pos := pos, after := af, guard := g } K f H = stpL P T md os ss lk { dst := d, op := .alloc t, type := ty, pos := pos, after := af, guard := g } K f H := by
 cases g <;> rfl
@[go_sem] theorem stpN_store {t : TypeId} {x y : Operand} : stpN P T md os ss lk { dst := d, op := .store t x y, type := ty, pos := pos, after := af, guard := g } K f H = stpL P T md os ss lk { dst := d, op := .store t x y, type := ty, pos := pos, after := af, guard := g } K f H := by
 cases g <;> rfl
@[go_sem] theorem nextV_itr {k e : Nat} : nextV K d f H (.itr k e) = nextK K d f H k e (H k) := rfl
@[go_sem] theorem nextK_nit {k e e' : Nat} : nextK K d f H k e (some (e', .nit)) = (e = e' ∧ K (put f d (.tup [.bool false])) H) := rfl
@[go_sem] theorem nextK_itr {k e e' km em ver : Nat} {left : List Nat} {cur : Option Nat} : nextK K d f H k e (some (e', .itr km em ver left cur)) = nextM K d f H k e e' km em ver left (H km) := rfl
@[go_sem] theorem nextM_map {k e e' km em em' ver ver' : Nat} {left : List Nat} {es : List (Val × Val)} : nextM K d f H k e e' km em ver left (some (em', .map ver' es)) = ((e = e' ∧ em = em' ∧ ver = ver') ∧ (left = [] → K (put f d (.tup [.bool false])) H) ∧
      ∀ i ∈ left, ∀ a v, es[i]? = some (a, v) → K (put f d (.tup [.bool true, a, v])) (upd H k (some (e, .itr km em ver (left.erase i) (some i))))) := rfl
@[go_sem] theorem entryV_itr {k e : Nat} : entryV K d f H (.itr k e) = entryK K d f H e (H k) := rfl
@[go_sem] theorem entryK_itr {e e' km em ver i : Nat} {left : List Nat} : entryK K d f H e (some (e', .itr km em ver left (some i))) = entryM K d f H e e' em ver i (H km) := rfl
@[go_sem] theorem entryM_map {e e' em em' ver ver' i : Nat} {es : List (Val × Val)} : entryM K d f H e e' em ver i (some (em', .map ver' es)) = ((e = e' ∧ em = em' ∧ ver = ver') ∧ ∃ a v, es[i]? = some (a, v) ∧ K (put f d (.tup [a, v])) H) := rfl
end
def imap (k : IntKind) (l : List (Int × Val)) : List (Val × Val) := l.map fun p => (.int k p.1, p.2)
def findI (n : Int) : List (Int × Val) → Nat → Option (Nat × Val)
 | [], _ => none
 | (a, v) :: l, i => if n = a then some (i, v) else findI n l (i + 1)
@[go_sem] theorem imap_len {k : IntKind} {l : List (Int × Val)} : (imap k l).length = l.length := by simp [imap]
@[go_sem] theorem imap_get {k : IntKind} {l : List (Int × Val)} {i : Nat} : (imap k l)[i]? = (l[i]?).map fun p => (.int k p.1, p.2) := by simp [imap]
theorem xfind_imap {T : Tab} {kt : TypeId} {k : IntKind} {s b : Nat} {z : Val} {p : Bool} (h : T kt = some { kind := .int k, sz := s, bytes := b, zero := z, plain := p }) {n : Int} : ∀ (l : List (Int × Val)) (i : Nat), xfind T kt (.int k n) (imap k l) i = some (findI n l i)
 | [], i => rfl
 | (a, v) :: l, i => by
  have ih := xfind_imap h (n := n) l (i + 1)
  have e : xeq T kt (.int k n) (.int k a) = some (decide (n = a)) := by
   unfold xeq; rw [h]; simp [xeqK, xeqS]
  show xfind T kt (.int k n) ((.int k a, v) :: imap k l) i = _
  simp only [xfind, e, findI]
  by_cases hn : n = a
  ·subst hn
   simp [keq]
  ·simp only [decide_eq_false hn, if_neg hn]
   exact ih
end Cp
namespace Cp
open Go
section
variable {P : Program} {T : Tab} {H : Hp} {X : Cx} {ro : Option Nat} {Q : Exit → Fr → Hp → Prop} {f : Fr}
theorem AW_lose {c : Code} (k : Nat) (h : ∀ H' : Hp, H' k = none → (∀ j, ¬ j = k → H' j = H j) → AW P ro X c Q f H') : AW P ro X c Q f H :=
 AW_drop (fun j => if j = k then none else H j) (fun j => by
  by_cases hj : j = k
  ·exact .inl (by simp [hj])
  ·exact .inr (by simp [hj])) (h _ (by simp) fun j hj => by simp [hj])
@[go_sem] theorem fzd_map {n k e : Nat} : fzd H n (.map k e) = .map k e := by cases n <;> rfl
end
end Cp
namespace Cp
open Go
@[go_sem] theorem fzd_fn {H : Hp} {n : Nat} {g : FuncId} {cs : List Val} : fzd H n (.fn g cs) = .fn g cs := by cases n <;> rfl
section
variable {P : Program} {T : Tab} {md : Me} {os : List Oper} {K : Fr → Hp → Prop} {f : Fr} {H H' : Hp} {d : Option Tmp} {ty : TypeId} {pos : String} {af : Array Edge} {g : Option (Nat × Bool)} {ss lk : List Nat}
theorem FnQ_end {fn : Func} {R : Val → Hp → Prop} {e : Exit} {v : Val} (he : e = .ret ∨ e = .normal) (hf : Frz H H') (hx : xres T f H' fn.results.toList = some v) (h : R v H') : FnQ T fn R e f H := by
 rcases he with rfl | rfl <;> exact ⟨H', v, hf, hx, h⟩
@[go_sem] theorem fzd_nilm {n : Nat} : fzd H n .nilm = .nilm := by cases n <;> rfl
@[go_sem] theorem stpL_insert {t : TypeId} {x y z : Operand} : stpL P T md os ss lk { dst := d, op := .insert t x y z, type := ty, pos := pos, after := af, guard := g } K f H = stpS P T md os ss { dst := d, op := .insert t x y z, type := ty, pos := pos, after := af, guard := g } K f H := rfl
@[go_sem] theorem xfind_nil {kt : TypeId} {key : Val} {i : Nat} : xfind T kt key [] i = some none := rfl
theorem stpY_stpL {o : Oper} (h : ∀ a, o.op ≠ .call a) : stpY P T md os ss lk o K f H = stpL P T md os ss lk o K f H := by
 unfold stpY
 split
 ·rename_i h1 _; exact absurd h1 (h _)
 ·rfl
@[go_sem] theorem stpY_call {h : Operand} {xs : Array Operand} {ts : Array TypeId} : stpY P T md os ss lk { dst := d, op := .call { callee := .value h, args := xs, argTypes := ts }, type := ty, pos := pos, after := af, guard := none } K f H =
  yvK P d K f H (xs.toList.map (ev f)) (stpL P T md os ss lk { dst := d, op := .call { callee := .value h, args := xs, argTypes := ts }, type := ty, pos := pos, after := af, guard := none } K f H) (ev f h) := rfl
@[go_sem] theorem yvK_yld {args : List Val} {rest : Prop} {k e : Nat} : yvK P d K f H args rest (.yld k e) = yldK P d K f H k e args := rfl
@[go_sem] theorem yvK_fn {args caps : List Val} {rest : Prop} {fid : FuncId} : yvK P d K f H args rest (.fn fid caps) = rest := rfl
@[go_sem] theorem stpY_builtin {b : Builtin} {xs : Array Operand} {ts : Array TypeId} : stpY P T md os ss lk { dst := d, op := .call { callee := .builtin b, args := xs, argTypes := ts }, type := ty, pos := pos, after := af, guard := g } K f H =
  stpL P T md os ss lk { dst := d, op := .call { callee := .builtin b, args := xs, argTypes := ts }, type := ty, pos := pos, after := af, guard := g } K f H := by cases g <;> rfl
@[go_sem] theorem stpY_move {x : Operand} : stpY P T md os ss lk { dst := d, op := .move x, type := ty, pos := pos, after := af, guard := g } K f H = stpL P T md os ss lk { dst := d, op := .move x, type := ty, pos := pos, after := af, guard := g } K f H := stpY_stpL (by simp)
@[go_sem] theorem stpY_assign {x : Operand} : stpY P T md os ss lk { dst := d, op := .assign x, type := ty, pos := pos, after := af, guard := g } K f H = stpL P T md os ss lk { dst := d, op := .assign x, type := ty, pos := pos, after := af, guard := g } K f H := stpY_stpL (by simp)
@[go_sem] theorem stpY_load {t : TypeId} {x : Operand} : stpY P T md os ss lk { dst := d, op := .load t x, type := ty, pos := pos, after := af, guard := g } K f H = stpL P T md os ss lk { dst := d, op := .load t x, type := ty, pos := pos, after := af, guard := g } K f H := stpY_stpL (by simp)
@[go_sem] theorem stpY_unOp {p : UnOp} {t : TypeId} {x : Operand} : stpY P T md os ss lk { dst := d, op := .unOp p t x, type := ty, pos := pos, after := af, guard := g } K f H = stpL P T md os ss lk { dst := d, op := .unOp p t x, type := ty, pos := pos, after := af, guard := g } K f H := stpY_stpL (by simp)
@[go_sem] theorem stpY_fieldAddr {t : TypeId} {x : Operand} {n : Nat} : stpY P T md os ss lk { dst := d, op := .fieldAddr t x n, type := ty, pos := pos, after := af, guard := g } K f H = stpL P T md os ss lk { dst := d, op := .fieldAddr t x n, type := ty, pos := pos, after := af, guard := g } K f H := stpY_stpL (by simp)
@[go_sem] theorem stpY_binOp {p : BinOp} {t u : TypeId} {x y : Operand} : stpY P T md os ss lk { dst := d, op := .binOp p t x y u, type := ty, pos := pos, after := af, guard := g } K f H = stpL P T md os ss lk { dst := d, op := .binOp p t x y u, type := ty, pos := pos, after := af, guard := g } K f H := stpY_stpL (by simp)
@[go_sem] theorem stpY_indexAddr {t : TypeId} {x y : Operand} : stpY P T md os ss lk { dst := d, op := .indexAddr t x y, type := ty, pos := pos, after := af, guard := g } K f H = stpL P T md os ss lk { dst := d, op := .indexAddr t x y, type := ty, pos := pos, after := af, guard := g } K f H := stpY_stpL (by simp)
end
end Cp
namespace Cp
open Go
theorem AW_cut {P : Program} {ro : Option Nat} {X : Cx} {c : Code} {Q : Exit → Fr → Hp → Prop} {f : Fr} {H : Hp} (n : Nat) (h : ∀ H' : Hp, (∀ j, j < n → H' j = H j) → (∀ j, n ≤ j → H' j = none) → AW P ro X c Q f H') : AW P ro X c Q f H :=
 AW_drop (fun j => if j < n then H j else none) (fun j => by
  by_cases hj : j < n
  ·exact .inr (if_pos hj)
  ·exact .inl (if_neg hj)) (h _ (fun j hj => if_pos hj) fun j hj => if_neg (by omega))
@[go_sem] theorem fzd_nilp {H : Hp} {n : Nat} : fzd H n .nilp = .nilp := by cases n <;> rfl
end Cp
namespace Cp
open Go
section
variable {P : Program} {T : Tab} {md : Me} {os : List Oper} {K : Fr → Hp → Prop} {f : Fr} {H : Hp} {d : Option Tmp} {ty : TypeId} {pos : String} {af : Array Edge} {g : Option (Nat × Bool)} {ss lk : List Nat}
 {s b : Nat} {z : Val} {p : Bool}
@[go_sem] theorem xck_struct {n : Nat} {fs : List (Nat × Nat)} {cs : List Val} : xck T (n + 1) { kind := .struct fs, sz := s, bytes := b, zero := z, plain := p } (.agg cs) = xckF T (xck T n) cs fs := rfl
def xckF1 (T : Tab) (g : TI → Val → Bool) (cs : List Val) (fs : List (Nat × Nat)) (off : Nat) : Option TI → Bool
 | none => false
 | some fi => match rdC fi (cs.drop off) with | none => false | some a => g fi a && xckF T g cs fs
@[go_sem] theorem xckF_nil {g : TI → Val → Bool} {cs : List Val} : xckF T g cs [] = true := rfl
@[go_sem] theorem xckF_cons {g : TI → Val → Bool} {cs : List Val} {off ft : Nat} {fs : List (Nat × Nat)} : xckF T g cs ((off, ft) :: fs) = xckF1 T g cs fs off (T ft) := by
 simp only [xckF, xckF1]
 cases T ft <;> rfl
def xckF2 (T : Tab) (g : TI → Val → Bool) (cs : List Val) (fs : List (Nat × Nat)) (fi : TI) : Option Val → Bool
 | none => false
 | some a => g fi a && xckF T g cs fs
@[go_sem] theorem xckF1_some {g : TI → Val → Bool} {cs : List Val} {off : Nat} {fs : List (Nat × Nat)} {fi : TI} : xckF1 T g cs fs off (some fi) = xckF2 T g cs fs fi (rdC fi (cs.drop off)) := rfl
@[go_sem] theorem xckF2_some {g : TI → Val → Bool} {cs : List Val} {fs : List (Nat × Nat)} {fi : TI} {a : Val} : xckF2 T g cs fs fi (some a) = (g fi a && xckF T g cs fs) := rfl
def lkF (z : Val) : Option (Option (Nat × Val)) → Option Val
 | none => none
 | some none => some z
 | some (some (_, v)) => some v
@[go_sem] theorem lkF_no : lkF z (some none) = some z := rfl
@[go_sem] theorem lkF_yes {i : Nat} {v : Val} : lkF z (some (some (i, v))) = some v := rfl
def lkH (T : Tab) (kt : TypeId) (key : Val) (z : Val) (e : Nat) (ck : Bool) : Option (Nat × AObj) → Option Val
 | some (e', .map _ es) => if e = e' ∧ ck = true then lkF z (xfind T kt key es 0) else none
 | some (e', .frm _ es) => if e = e' ∧ ck = true then lkF z (xfind T kt key es 0) else none
 | _ => none
@[go_sem] theorem lkH_map {kt : TypeId} {key : Val} {e e' ver : Nat} {ck : Bool} {es : List (Val × Val)} : lkH T kt key z e ck (some (e', .map ver es)) = if e = e' ∧ ck = true then lkF z (xfind T kt key es 0) else none := rfl
@[go_sem] theorem lkH_frm {kt : TypeId} {key : Val} {e e' ver : Nat} {ck : Bool} {es : List (Val × Val)} : lkH T kt key z e ck (some (e', .frm ver es)) = if e = e' ∧ ck = true then lkF z (xfind T kt key es 0) else none := rfl
def lkT2 (T : Tab) (H : Hp) (kt : TypeId) (key : Val) (k e : Nat) : Option TI → Option TI → Option Val
 | some ki, some vi => lkH T kt key vi.zero e (xck T 8 ki key) (H k)
 | _, _ => none
@[go_sem] theorem lkT2_some {kt : TypeId} {key : Val} {k e : Nat} {ki vi : TI} : lkT2 T H kt key k e (some ki) (some vi) = lkH T kt key vi.zero e (xck T 8 ki key) (H k) := rfl
def lkT (T : Tab) (H : Hp) (key : Val) (k e : Nat) : Option TI → Option Val
 | some { kind := .map kt vt, .. } => lkT2 T H kt key k e (T kt) (T vt)
 | _ => none
@[go_sem] theorem lkT_map {key : Val} {k e kt vt : Nat} : lkT T H key k e (some { kind := .map kt vt, sz := s, bytes := b, zero := z, plain := p }) = lkT2 T H kt key k e (T kt) (T vt) := rfl
@[go_sem] theorem xlookup_eq {t : TypeId} {k e : Nat} {key : Val} : xlookup T H t (.map k e) key false = lkT T H key k e (T t) := by
 unfold xlookup lkT
 cases T t with
 | none => rfl
 | some ti =>
  obtain ⟨kind, _, _, _, _⟩ := ti
  cases kind <;> try rfl
  rename_i kt vt
  simp only [lkT2]
  cases T kt with
  | none => rfl
  | some ki =>
   cases T vt with
   | none => rfl
   | some vi =>
    simp only
    have hF : ∀ es : List (Val × Val), (match xfind T kt key es 0 with | none => none | some none => some (if false = true then Val.tup [vi.zero, .bool false] else vi.zero) | some (some (_, v)) => some (if false = true then Val.tup [v, .bool true] else v)) = lkF vi.zero (xfind T kt key es 0) := fun es => by
     cases xfind T kt key es 0 with
     | none => rfl
     | some q => cases q <;> rfl
    cases hc : xck T 8 ki key with
    | false =>
     cases H k with
     | none => rfl
     | some q => obtain ⟨e', o⟩ := q; cases o <;> simp [lkH]
    | true =>
     cases H k with
     | none => rfl
     | some q =>
      obtain ⟨e', o⟩ := q
      cases o <;> try rfl
      all_goals
       by_cases he : e = e'
       ·subst he; simp only [if_true, lkH, and_self]; exact hF _
       ·simp [lkH, he]
@[go_sem] theorem xgo_lookup {t : TypeId} {m key : Operand} {o : Bool} : xgo P T md { dst := d, op := .lookup t m key o, type := ty, pos := pos, after := af, guard := g } K f H = one K d f H (xlookup T H t (ev f m) (ev f key) o) := by
 simp only [xgo, xop]
 generalize xlookup T H t (ev f m) (ev f key) o = X
 cases X <;> exact kk _
end
end Cp
