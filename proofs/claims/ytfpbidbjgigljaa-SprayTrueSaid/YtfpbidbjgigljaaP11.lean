/- Rules, facts and contracts that the statement's proof leans on. Conditions: none. -/
import Derived.Test.YtfpbidbjgigljaaP10
set_option linter.unusedVariables false
set_option linter.unusedSimpArgs false
set_option linter.unusedSectionVars false
namespace Cp
open Go Go.Proofs
set_option maxRecDepth 10000
set_option maxHeartbeats 4000000
theorem choose_ok (l : List Int) (i : Int) (hi : 0 ≤ i) : PureC Try.prog 47 [.lst 1 (l.map c32), .int .i64 i] (.int .u32 (chI l i)) := by
 by_cases h0 : l.length = 0
 ·have hnil : l = [] := List.eq_nil_of_length_eq_zero h0
  subst hnil
  refine PureC_of (fn := Try.f47) tabOK (by kernel_rfl) rfl (by kernel_rfl) (by simp [Try.f47]) (by simp [noids, noid, noidss, go_sem]) (by first | rfl | simp [noids, noid, noidss, go_sem]) ?_
  intro X hX0 hXs
  repeat' (first | (with_reducible refine sk ?_; intro K hK) | ((with_reducible first | refine rg (h := ?_) | refine nx ?_); try simp (disch := omega) only [go_sem, simprocAttr]) | (with_reducible refine bk ?_) | ((with_reducible refine' cE ?hv ?_ ?_); (case hv => first | rfl | (simp only [go_sem, simprocAttr]; rfl)); all_goals (intro hc; (try simp only [go_sem, simprocAttr] at hc); try (exfalso; omega))) | ((with_reducible refine fe ?_); refine ⟨_, (by simp only [Try.f47, go_sem, simprocAttr]; rfl), ?_⟩; first | rfl | (try simp only [go_sem, simprocAttr, seval])) | with_reducible intro (ep : Nat → Nat) | with_reducible apply_assumption -exfalso -symm only [*])
 ·have hz : ¬ (l.length : Int) = 0 := by omega
  have hpos : (0 : Int) < (l.length : Int) := by clear hi; omega
  have h1 : 0 ≤ i.tmod l.length := Int.tmod_nonneg _ hi
  have h2 : i.tmod l.length < l.length := Int.tmod_lt_of_pos _ hpos
  obtain ⟨j, hj⟩ : ∃ j : Nat, i.tmod l.length = j := ⟨(i.tmod l.length).toNat, (Int.toNat_of_nonneg h1).symm⟩
  obtain ⟨x, hx⟩ : ∃ x, l[j]? = some x := ⟨_, List.getElem?_eq_getElem (by rw [hj] at h2; exact Int.ofNat_lt.1 h2)⟩
  have hv : chI l i = x := by unfold chI; rw [if_neg h0, hj, Int.toNat_natCast, hx]; rfl
  rw [hv]
  refine PureC_of (fn := Try.f47) tabOK (by kernel_rfl) rfl (by kernel_rfl) (by simp [Try.f47]) (by simp [noids, noid, noidss, go_sem]) (by first | rfl | simp [noids, noid, noidss, go_sem]) ?_
  intro X hX0 hXs
  repeat' (first | (with_reducible refine sk ?_; intro K hK) | ((with_reducible first | refine rg (h := ?_) | refine nx ?_); try simp (disch := omega) only [hz, hj, hx, c32,go_sem, simprocAttr]) | (with_reducible refine bk ?_) | ((with_reducible refine' cE ?hv ?_ ?_); (case hv => first | rfl | (simp only [hz, hj, hx, c32,go_sem, simprocAttr]; rfl)); all_goals (intro hc; (try simp only [go_sem, simprocAttr] at hc); try (exfalso; omega))) | ((with_reducible refine fe ?_); refine ⟨_, (by simp only [Try.f47, hz, hj, hx, c32,go_sem, simprocAttr]; rfl), ?_⟩; first | rfl | (try simp only [hz, hj, hx, c32,go_sem, simprocAttr, seval])) | with_reducible intro (ep : Nat → Nat) | with_reducible apply_assumption -exfalso -symm only [*])
def anyFull (by1 : List Int) (i : Nat) (p : PumpT) : Int := pickS p.full (chI by1 ((i + 1 : Nat) : Int))
def anyFoul (by1 : List Int) (i : Nat) (p : PipeT) : Int := pickS p.foul (chI by1 ((i + 5 : Nat) : Int))
theorem mapIdx_snoc {α β : Type} {g : Nat → α → β} {l : List α} {k : Nat} {x : α} (h : l[k]? = some x) : (l.take (k + 1)).mapIdx g = (l.take k).mapIdx g ++ [g k x] := by
 have hk := (List.getElem?_eq_some_iff.1 h).1
 rw [take_snoc' h, List.mapIdx_append]
 simp only [List.mapIdx_cons, List.mapIdx_nil, List.length_take]
 rw [Nat.min_eq_left (by omega), Nat.zero_add]
theorem anything_ok (n : NetT) (hF : NetF n) (by1 : List Int) (hby : By by1) : PureC Try.prog 39 [encNet n, .lst 1 (by1.map c32)] (.agg (truV (n.pumps.mapIdx (anyFull by1)) (n.pipes.mapIdx (anyFoul by1)) (pickS n.tank (chI by1 0)))) := by
 have hpq := hF.pumps
 have hpl := hF.pipes
 have hch := fun i hi => choose_ok by1 i hi
 have hcb := fun i => chI_bnd hby i
 have hpt := pick_ok n.tank (chI by1 0) (by have := hF.tank; omega) (hcb 0)
 obtain ⟨TK, hTK⟩ : ∃ TK, pickS n.tank (chI by1 0) = TK := ⟨_, rfl⟩
 rw [hTK] at hpt ⊢
 have hc0 := hch 0 (by omega)
 simp only [encSpan] at hpt
 refine PureC_of (fn := Try.f39) tabOK (by kernel_rfl) rfl (by kernel_rfl) (by simp [Try.f39]) (by simp [noids, noid, noidss, go_sem, encNet, cNet, truV]) (by first | rfl | simp [noids, noid, noidss, go_sem, encNet, cNet, truV]) ?_
 intro X hX0 hXs
 repeat' (first | (with_reducible refine sk ?_; intro K hK) | ((first | (with_reducible first | refine rg (md := { base := 0, own := [4, 5, 7, 9, 34, 55] }) (h := ?_) | refine rgS [4, 5, 7, 9] (md := { base := 0, own := [4, 5, 7, 9, 34, 55] }) (h := ?_) | refine nx ?_) | refine pK (hc0) ?_ | refine pK (hpt) ?_); try simp (disch := omega) only [encNet, cNet,go_sem, simprocAttr]) | (with_reducible refine bk ?_) | ((with_reducible refine' cE ?hv ?_ ?_); (case hv => first | rfl | (simp only [encNet, cNet,go_sem, simprocAttr]; rfl)); all_goals (intro hc; (try simp only [go_sem, simprocAttr] at hc); try (exfalso; omega))) | with_reducible intro (ep : Nat → Nat) | with_reducible apply_assumption -exfalso -symm only [*])
 refine AW_range tabOK n.pumps.length (fun k f H => (f 1 = .lst 1 (by1.map c32) ∧ f 2 = .pim (cNet n) ∧ f 17 = .lst 3 (n.pumps.map cPump)) ∧ ∃ e3 e2, f 5 = .ptr 5 e3 3 0 0 ∧ f 4 = .ptr 4 e2 3 0 0 ∧ H 4 = some (e2, .arr 3 [[.nils, .nils, .int .i64 0]]) ∧ ((k = 0 ∧ H 5 = some (e3, .arr 3 [[.nils, .nils, .int .i64 TK]])) ∨ (¬ k = 0 ∧ ∃ ea, H 5 = some (e3, .arr 3 [[.gr 34 ea k, .nils, .int .i64 TK]]) ∧ H 34 = some (ea, .arr 1 (ints ((n.pumps.take k).mapIdx (anyFull by1))))))) (by omega) (by rw [hXs]; decide) (by decide) (by (first | rfl | (simp only [go_sem, simprocAttr]; done) | (simp only [go_sem, simprocAttr]; rfl))) (by (first | rfl | (simp only [go_sem, simprocAttr]; done) | (simp only [go_sem, simprocAttr]; rfl)))
  ⟨by (and_intros <;> first | rfl | (simp only [cNet, go_sem, simprocAttr]; done) | (simp only [cNet, go_sem, simprocAttr]; rfl)), _, _, by (first | rfl | (simp only [go_sem, simprocAttr]; done) | (simp only [go_sem, simprocAttr]; rfl)), by (first | rfl | (simp only [go_sem, simprocAttr]; done) | (simp only [go_sem, simprocAttr]; rfl)), by (first | rfl | (simp only [go_sem, simprocAttr]; done) | (simp only [go_sem, simprocAttr]; rfl)), .inl ⟨rfl, by (first | rfl | (simp only [go_sem, simprocAttr]; done) | (simp only [go_sem, simprocAttr]; rfl))⟩⟩ ?_ ?_
 ·clear hpt hc0
  rintro k f H hk h19 h18 ⟨⟨h1, h2, h17⟩, e3, e2, h5, h4, hH4, hh⟩
  obtain ⟨x, hx⟩ : ∃ x, n.pumps[k]? = some x := ⟨_, List.getElem?_eq_getElem hk⟩
  have hts := mapIdx_snoc (g := anyFull by1) hx
  have hxb := (hF.pump x (List.mem_of_getElem? hx)).1
  have hck := hch ((k + 1 : Nat) : Int) (by omega)
  have hpk := pick_ok x.full (chI by1 ((k + 1 : Nat) : Int)) (by omega) (hcb _)
  have hae : pickS x.full (chI by1 ((k + 1 : Nat) : Int)) = anyFull by1 k x := rfl
  rw [hae] at hpk
  simp only [encSpan] at hpk
  refine AW_keep [4, 5, 34] ?_
  rcases hh with ⟨hk0, hH5⟩ | ⟨hk0, ea, hH5, hH34⟩
  ·subst hk0
   refine AW_lose 34 fun H1 g34 hs1 => ?_
   have q5 : H1 5 = some (e3, .arr 3 [[.nils, .nils, .int .i64 TK]]) := by rw [hs1 _ (by decide)]; exact hH5
   have q4 : H1 4 = some (e2, .arr 3 [[.nils, .nils, .int .i64 0]]) := by rw [hs1 _ (by decide)]; exact hH4
   have q7 : H1 7 = none := by rw [hs1 _ (by decide)]; rfl
   clear hs1
   repeat' (first | (with_reducible refine sk ?_; intro K hK) | ((first | (with_reducible first | refine rg (md := { base := 0, own := [4, 5, 7, 9, 34, 55] }) (h := ?_) | refine rgS [4, 5, 7, 9] (md := { base := 0, own := [4, 5, 7, 9, 34, 55] }) (h := ?_) | refine nx ?_) | refine pK (hck) ?_ | refine pK (hpk) ?_); try simp (disch := omega) only [h1, h2, h5, h4, h17, h18, h19, q5, q4, q7, g34, hx, cPump,go_sem, simprocAttr]) | (with_reducible refine bk ?_) | ((with_reducible refine' cE ?hv ?_ ?_); (case hv => first | rfl | (simp only [h1, h2, h5, h4, h17, h18, h19, q5, q4, q7, g34, hx, cPump,go_sem, simprocAttr]; rfl)); all_goals (intro hc; (try simp only [go_sem, simprocAttr] at hc); try (exfalso; omega))) | with_reducible intro (ep : Nat → Nat) | with_reducible apply_assumption -exfalso -symm only [*])
   exact ⟨_, _, rfl, rfl, rfl, .inr ⟨_, rfl, by rw [Nat.zero_add] at hts; rw [hts]; simp [ints]⟩⟩
  ·have hkb : k ≤ 1073741823 := by omega
   have htl : ((n.pumps.take k).mapIdx (anyFull by1)).length = k := by simp; omega
   repeat' (first | (with_reducible refine sk ?_; intro K hK) | ((first | (with_reducible first | refine rg (md := { base := 0, own := [4, 5, 7, 9, 34, 55] }) (h := ?_) | refine rgS [4, 5, 7, 9] (md := { base := 0, own := [4, 5, 7, 9, 34, 55] }) (h := ?_) | refine nx ?_) | refine pK (hck) ?_ | refine pK (hpk) ?_); try simp (disch := omega) only [h1, h2, h5, h4, h17, h18, h19, hH4, hH5, hH34, hx, hkb, htl, cPump,go_sem, simprocAttr]) | (with_reducible refine bk ?_) | ((with_reducible refine' cE ?hv ?_ ?_); (case hv => first | rfl | (simp only [h1, h2, h5, h4, h17, h18, h19, hH4, hH5, hH34, hx, hkb, htl, cPump,go_sem, simprocAttr]; rfl)); all_goals (intro hc; (try simp only [go_sem, simprocAttr] at hc); try (exfalso; omega))) | with_reducible intro (ep : Nat → Nat) | with_reducible apply_assumption -exfalso -symm only [*])
   exact ⟨_, _, rfl, rfl, rfl, .inr ⟨_, rfl, by rw [hts]; simp [ints]⟩⟩
 ·clear hpt hc0
  rintro f H h19 h18 ⟨⟨h1, h2, h17⟩, e3, e2, h5, h4, hH4, hh⟩
  rcases hh with ⟨hk0, _⟩ | ⟨_, ea, hH5, hH34⟩
  ·omega
  rw [List.take_of_length_le (Nat.le_refl _)] at hH34
  have hl1 : (n.pumps.mapIdx (anyFull by1)).length = n.pumps.length := List.length_mapIdx ..
  have hl2 : (n.pipes.mapIdx (anyFoul by1)).length = n.pipes.length := List.length_mapIdx ..
  obtain ⟨PL, hPL⟩ : ∃ PL, n.pumps.mapIdx (anyFull by1) = PL := ⟨_, rfl⟩
  obtain ⟨FL, hFL⟩ : ∃ FL, n.pipes.mapIdx (anyFoul by1) = FL := ⟨_, rfl⟩
  rw [hPL] at hH34 hl1
  rw [hFL] at hl2
  rw [hPL, hFL]
  repeat' (first | ((fail_if_success (with_reducible refine AW_at (id := 7) ?_)); with_reducible refine sk ?_; intro K hK) | ((with_reducible first | refine rg (md := { base := 0, own := [4, 5, 7, 9, 34, 55] }) (h := ?_) | refine rgS [4, 5, 7, 9] (md := { base := 0, own := [4, 5, 7, 9, 34, 55] }) (h := ?_) | refine nx ?_); try simp (disch := omega) only [h1, h2,go_sem, simprocAttr]) | (with_reducible refine bk ?_) | ((with_reducible refine' cE ?hv ?_ ?_); (case hv => first | rfl | (simp only [h1, h2,go_sem, simprocAttr]; rfl)); all_goals (intro hc; (try simp only [go_sem, simprocAttr] at hc); try (exfalso; omega))) | with_reducible intro (ep : Nat → Nat) | with_reducible apply_assumption -exfalso -symm only [*])
  have hcutE : ∀ f H, (∃ e3 e2 ea, f 5 = .ptr 5 e3 3 0 0 ∧ f 4 = .ptr 4 e2 3 0 0 ∧ H 4 = some (e2, .arr 3 [[.nils, .nils, .int .i64 0]]) ∧ H 5 = some (e3, .arr 3 [[.lst 1 (ints PL), .gr 55 ea n.pipes.length, .int .i64 TK]]) ∧ H 55 = some (ea, .arr 1 (ints FL))) → K f H := by
   clear h1 h2 h5 h4 h17 h18 h19 hH4 hH5
   rintro f H ⟨e3, e2, ea, h3, h2, hH2, hH3, hH41⟩
   refine hK f H ?_
   clear hK
   refine AW_thaw (k := 55) (j := 5) (n := 6) (by decide) hH41 hH3 fun H2 q3 hs2 => ?_
   simp only [List.map_cons, List.map_nil, thawI hl2 (upd_same _ _ _), fzd_lst, fzd_ints, fzd_int] at q3
   have q2 : H2 4 = some (e2, .arr 3 [[.nils, .nils, .int .i64 0]]) := by rw [hs2 _ (by decide) (by decide)]; exact hH2
   repeat' (first | (with_reducible refine sk ?_; intro K hK) | ((with_reducible first | refine rg (md := { base := 0, own := [4, 5, 7, 9, 34, 55] }) (h := ?_) | refine rgS [4, 5, 7, 9] (md := { base := 0, own := [4, 5, 7, 9, 34, 55] }) (h := ?_) | refine nx ?_); try simp (disch := omega) only [h2, h3, q2, q3,go_sem, simprocAttr]) | (with_reducible refine bk ?_) | ((with_reducible refine' cE ?hv ?_ ?_); (case hv => first | rfl | (simp only [h2, h3, q2, q3,go_sem, simprocAttr]; rfl)); all_goals (intro hc; (try simp only [go_sem, simprocAttr] at hc); try (exfalso; omega))) | ((with_reducible refine fe ?_); refine ⟨_, (by simp only [Try.f39, h2, h3, q2, q3,go_sem, simprocAttr]; rfl), ?_⟩; first | rfl | (try simp only [h2, h3, q2, q3,go_sem, simprocAttr, seval])) | with_reducible intro (ep : Nat → Nat) | with_reducible apply_assumption -exfalso -symm only [*])
   unfold truV; rw [hPL, hFL]
  clear hK
  refine AW_thaw (k := 34) (j := 5) (n := 6) (by decide) hH34 hH5 fun H2 q3 hs2 => ?_
  simp only [List.map_cons, List.map_nil, thawI hl1 (upd_same _ _ _), fzd_nils, fzd_int] at q3
  have q2 : H2 4 = some (e2, .arr 3 [[.nils, .nils, .int .i64 0]]) := by rw [hs2 _ (by decide) (by decide)]; exact hH4
  clear hs2 hH5 hH34 hH4
  repeat' (first | (with_reducible refine sk ?_; intro K hK) | ((with_reducible first | refine rg (md := { base := 0, own := [4, 5, 7, 9, 34, 55] }) (h := ?_) | refine rgS [4, 5, 7, 9] (md := { base := 0, own := [4, 5, 7, 9, 34, 55] }) (h := ?_) | refine nx ?_); try simp (disch := omega) only [h1, h2, h4, h5, cNet,go_sem, simprocAttr]) | (with_reducible refine bk ?_) | ((with_reducible refine' cE ?hv ?_ ?_); (case hv => first | rfl | (simp only [h1, h2, h4, h5, cNet,go_sem, simprocAttr]; rfl)); all_goals (intro hc; (try simp only [go_sem, simprocAttr] at hc); try (exfalso; omega))) | with_reducible intro (ep : Nat → Nat) | with_reducible apply_assumption -exfalso -symm only [*])
  refine AW_range tabOK n.pipes.length (fun k f H => (f 1 = .lst 1 (by1.map c32) ∧ f 38 = .lst 4 (n.pipes.map cPipe)) ∧ ∃ e3 e2, f 5 = .ptr 5 e3 3 0 0 ∧ f 4 = .ptr 4 e2 3 0 0 ∧ H 4 = some (e2, .arr 3 [[.nils, .nils, .int .i64 0]]) ∧ ((k = 0 ∧ H 5 = some (e3, .arr 3 [[.lst 1 (ints PL), .nils, .int .i64 TK]])) ∨ (¬ k = 0 ∧ ∃ ea, H 5 = some (e3, .arr 3 [[.lst 1 (ints PL), .gr 55 ea k, .int .i64 TK]]) ∧ H 55 = some (ea, .arr 1 (ints ((n.pipes.take k).mapIdx (anyFoul by1))))))) (by omega) (by rw [hXs]; decide) (by decide) (by (first | rfl | (simp only [go_sem, simprocAttr]; done) | (simp only [go_sem, simprocAttr]; rfl))) (by (first | rfl | (simp only [go_sem, simprocAttr]; done) | (simp only [go_sem, simprocAttr]; rfl)))
   ⟨by (and_intros <;> first | rfl | (simp only [h1, go_sem, simprocAttr]; done) | (simp only [h1, go_sem, simprocAttr]; rfl)), _, _, by (first | rfl | (simp only [h5, go_sem, simprocAttr]; done) | (simp only [h5, go_sem, simprocAttr]; rfl)), by (first | rfl | (simp only [h4, go_sem, simprocAttr]; done) | (simp only [h4, go_sem, simprocAttr]; rfl)), by (first | rfl | (simp only [q2, go_sem, simprocAttr]; done) | (simp only [q2, go_sem, simprocAttr]; rfl)), .inl ⟨rfl, by (first | rfl | (simp only [q3, go_sem, simprocAttr]; done) | (simp only [q3, go_sem, simprocAttr]; rfl))⟩⟩ ?_ ?_
  ·clear h1 h2 h4 h5 h17 h18 h19 q2 q3 hcutE
   rintro k f H hk h40 h39 ⟨⟨h1, h38⟩, e3, e2, h5, h4, hH4, hh⟩
   obtain ⟨x, hx⟩ : ∃ x, n.pipes[k]? = some x := ⟨_, List.getElem?_eq_getElem hk⟩
   have hts := mapIdx_snoc (g := anyFoul by1) hx
   have hxb := (hF.pipe k x hx).2.2
   have hck := hch ((k + 5 : Nat) : Int) (by omega)
   have hpk := pick_ok x.foul (chI by1 ((k + 5 : Nat) : Int)) (by omega) (hcb _)
   have hae : pickS x.foul (chI by1 ((k + 5 : Nat) : Int)) = anyFoul by1 k x := rfl
   have hk5 : (k : Int) + 5 = ((k + 5 : Nat) : Int) := rfl
   rw [hae] at hpk
   simp only [encSpan] at hpk
   refine AW_keep [4, 5, 55] ?_
   rcases hh with ⟨hk0, hH5⟩ | ⟨hk0, ea, hH5, hH55⟩
   ·subst hk0
    refine AW_lose 55 fun H1 g55 hs1 => ?_
    have q5 : H1 5 = some (e3, .arr 3 [[.lst 1 (ints PL), .nils, .int .i64 TK]]) := by rw [hs1 _ (by decide)]; exact hH5
    have q4 : H1 4 = some (e2, .arr 3 [[.nils, .nils, .int .i64 0]]) := by rw [hs1 _ (by decide)]; exact hH4
    have q7 : H1 9 = none := by rw [hs1 _ (by decide)]; rfl
    clear hs1
    repeat' (first | (with_reducible refine sk ?_; intro K hK) | ((first | (with_reducible first | refine rg (md := { base := 0, own := [4, 5, 7, 9, 34, 55] }) (h := ?_) | refine rgS [4, 5, 7, 9] (md := { base := 0, own := [4, 5, 7, 9, 34, 55] }) (h := ?_) | refine nx ?_) | refine pK (hck) ?_ | refine pK (hpk) ?_); try simp (disch := omega) only [h1, h4, h5, h38, h39, h40, q5, q4, q7, g55, hx, hk5, cPipe,go_sem, simprocAttr]) | (with_reducible refine bk ?_) | ((with_reducible refine' cE ?hv ?_ ?_); (case hv => first | rfl | (simp only [h1, h4, h5, h38, h39, h40, q5, q4, q7, g55, hx, hk5, cPipe,go_sem, simprocAttr]; rfl)); all_goals (intro hc; (try simp only [go_sem, simprocAttr] at hc); try (exfalso; omega))) | with_reducible intro (ep : Nat → Nat) | with_reducible apply_assumption -exfalso -symm only [*])
    exact ⟨_, _, rfl, rfl, rfl, .inr ⟨_, rfl, by rw [Nat.zero_add] at hts; rw [hts]; simp [ints]⟩⟩
   ·have hkb : k ≤ 1073741823 := by omega
    have htl : ((n.pipes.take k).mapIdx (anyFoul by1)).length = k := by simp; omega
    repeat' (first | (with_reducible refine sk ?_; intro K hK) | ((first | (with_reducible first | refine rg (md := { base := 0, own := [4, 5, 7, 9, 34, 55] }) (h := ?_) | refine rgS [4, 5, 7, 9] (md := { base := 0, own := [4, 5, 7, 9, 34, 55] }) (h := ?_) | refine nx ?_) | refine pK (hck) ?_ | refine pK (hpk) ?_); try simp (disch := omega) only [h1, h4, h5, h38, h39, h40, hH4, hH5, hH55, hx, hkb, htl, hk5, cPipe,go_sem, simprocAttr]) | (with_reducible refine bk ?_) | ((with_reducible refine' cE ?hv ?_ ?_); (case hv => first | rfl | (simp only [h1, h4, h5, h38, h39, h40, hH4, hH5, hH55, hx, hkb, htl, hk5, cPipe,go_sem, simprocAttr]; rfl)); all_goals (intro hc; (try simp only [go_sem, simprocAttr] at hc); try (exfalso; omega))) | with_reducible intro (ep : Nat → Nat) | with_reducible apply_assumption -exfalso -symm only [*])
    exact ⟨_, _, rfl, rfl, rfl, .inr ⟨_, rfl, by rw [hts]; simp [ints]⟩⟩
  ·clear h1 h2 h4 h5 h17 h18 h19 q2 q3
   rintro f H h40 h39 ⟨⟨h1, h38⟩, e3, e2, h5, h4, hH4, hh⟩
   rcases hh with ⟨hk0, _⟩ | ⟨_, ea, hH5, hH55⟩
   ·omega
   rw [List.take_of_length_le (Nat.le_refl _), hFL] at hH55
   repeat' (first | (with_reducible refine sk ?_; intro K hK) | ((with_reducible first | refine rg (md := { base := 0, own := [4, 5, 7, 9, 34, 55] }) (h := ?_) | refine rgS [4, 5, 7, 9] (md := { base := 0, own := [4, 5, 7, 9, 34, 55] }) (h := ?_) | refine nx ?_); try simp (disch := omega) only [h4, h5,go_sem, simprocAttr]) | (with_reducible refine bk ?_) | ((with_reducible refine' cE ?hv ?_ ?_); (case hv => first | rfl | (simp only [h4, h5,go_sem, simprocAttr]; rfl)); all_goals (intro hc; (try simp only [go_sem, simprocAttr] at hc); try (exfalso; omega))) | with_reducible intro (ep : Nat → Nat) | with_reducible apply_assumption -exfalso -symm only [*])
   exact ⟨e3, e2, ea, by (first | rfl | (simp only [h5, go_sem, simprocAttr]; done) | (simp only [h5, go_sem, simprocAttr]; rfl)), by (first | rfl | (simp only [h4, go_sem, simprocAttr]; done) | (simp only [h4, go_sem, simprocAttr]; rfl)), hH4, hH5, hH55⟩
end Cp
namespace Cp
open Go
theorem lackS_false {n : NetT} {hs : List HeadT} {out : List Int} {best : Bool} : (lackS n hs out best).2 = false ↔ (∀ h ∈ hs, h.least ≤ pressS n hs out best h) ∧ needs hs * n.mins ≤ tankH n best := by
 unfold lackS
 cases hf : lackF n hs out best hs with
 | some x =>
  obtain ⟨h1, h2⟩ : x ∈ hs ∧ pressS n hs out best x < x.least := ⟨List.mem_of_find?_eq_some hf, by simpa using List.find?_some hf⟩
  simp only [Bool.true_eq_false, false_iff, not_and]
  intro h
  have := h x h1
  omega
 | none =>
  have h1 : ∀ h ∈ hs, h.least ≤ pressS n hs out best h := fun h hm => by simpa using List.find?_eq_none.1 hf h hm
  simp only
  split
  ·simp only [Bool.true_eq_false, false_iff, not_and]; intro _; omega
  ·simp only [true_iff]; exact ⟨h1, by omega⟩
theorem capF_mono {out : List Int} {share : Int} {full full' : List Int} (h : ∀ i, nth full i ≤ nth full' i) : ∀ {l : List PumpT} {i : Nat} {a a' : Int}, a ≤ a' → capF out share full l i a ≤ capF out share full' l i a'
 | [], _, _, _, ha => ha
 | p :: l, i, a, a', ha => by
  simp only [capF]
  refine capF_mono h ?_
  have := h i
  split
  ·exact ha
  ·omega
theorem sumV_mono {ps : List PipeT} {m : Nat} {g g' : Nat → Int} (h : ∀ k, g k ≤ g' k) : ∀ {N : Nat}, sumV ps m g N ≤ sumV ps m g' N
 | 0 => by simp [sumV]
 | N + 1 => by
  have h1 := sumV_mono (ps := ps) (m := m) h (N := N)
  have h2 := h (N + 1)
  simp only [sumV]
  split <;> omega
theorem lossG_mono {ps : List PipeT} {L : List HeadT} {foul foul' : List Int} {k : Nat} (h : ∀ i, nth foul i ≤ nth foul' i) (h5 : heads500 L) : lossG ps L foul k ≤ lossG ps L foul' k := by
 have h1 := (flowAt_bnd (ps := ps) (j := k) h5).1
 unfold lossG
 refine upD_mono ?_ (by omega)
 exact Int.mul_le_mul_of_nonneg_right (Int.mul_le_mul_of_nonneg_right (h _) h1) h1
theorem pressG_mono {n : NetT} {L : List HeadT} (h5 : heads500 L) {out full full' foul foul' : List Int} (h1 : ∀ i, nth full i ≤ nth full' i) (h2 : ∀ i, nth foul' i ≤ nth foul i) (h : HeadT) : pressG n L out full foul h ≤ pressG n L out full' foul' h := by
 have e1 : pumpsG n L out full ≤ pumpsG n L out full' := capF_mono h1 (Int.le_refl _)
 have e2 : sumV n.pipes h.node.toNat (lossG n.pipes L foul') n.pipes.length ≤ sumV n.pipes h.node.toNat (lossG n.pipes L foul) n.pipes.length := sumV_mono fun k => lossG_mono h2 h5
 unfold pressG; omega
theorem nth_idx {α : Type} {g : Nat → α → Int} {l : List α} {i : Nat} : nth (l.mapIdx g) i = match l[i]? with | some x => g i x | none => 0 := by
 unfold nth
 rw [List.getElem?_mapIdx]
 cases l[i]? <;> rfl
theorem nth_mapE {α : Type} {g : α → Int} {l : List α} {i : Nat} : nth (l.map g) i = match l[i]? with | some x => g x | none => 0 := by
 unfold nth
 rw [List.getElem?_map]
 cases l[i]? <;> rfl
theorem any_tru {n : NetT} (hF : NetF n) {by1 : List Int} (hby : By by1) : TruF n (n.pumps.mapIdx (anyFull by1)) (n.pipes.mapIdx (anyFoul by1)) where
 lenF := List.length_mapIdx ..
 lenG := List.length_mapIdx ..
 fb := fun x hx => by
  obtain ⟨i, hi, rfl⟩ := List.mem_mapIdx.1 hx
  have h1 := (hF.pump _ (List.getElem_mem hi)).1
  have := pickS_bnd (s := n.pumps[i].full) (n := chI by1 ((i + 1 : Nat) : Int)) (by omega) (chI_bnd hby _).1
  unfold anyFull; omega
 gb := fun x hx => by
  obtain ⟨i, hi, rfl⟩ := List.mem_mapIdx.1 hx
  have h1 := (hF.pipe i _ (List.getElem?_eq_getElem hi)).2.2
  have := pickS_bnd (s := n.pipes[i].foul) (n := chI by1 ((i + 5 : Nat) : Int)) (by omega) (chI_bnd hby _).1
  unfold anyFoul; omega
theorem any_press {n : NetT} (hF : NetF n) {by1 : List Int} (hby : By by1) {L : List HeadT} (h5 : heads500 L) {out : List Int} (ho : outOK n out = true) {h : HeadT} (hn : 1 ≤ h.node ∧ h.node ≤ n.pipes.length) :
  pressS n L out false h ≤ pressG n L out (n.pumps.mapIdx (anyFull by1)) (n.pipes.mapIdx (anyFoul by1)) h ∧ pressG n L out (n.pumps.mapIdx (anyFull by1)) (n.pipes.mapIdx (anyFoul by1)) h ≤ pressS n L out true h := by
 have hfu : ∀ i, nth (n.pumps.map (fullE false)) i ≤ nth (n.pumps.mapIdx (anyFull by1)) i ∧ nth (n.pumps.mapIdx (anyFull by1)) i ≤ nth (n.pumps.map (fullE true)) i := fun i => by
  simp only [nth_idx, nth_mapE]
  cases hi : n.pumps[i]? with
  | none => simp
  | some x =>
   have h1 := (hF.pump x (List.mem_of_getElem? hi)).1
   have := pickS_bnd (s := x.full) (n := chI by1 ((i + 1 : Nat) : Int)) (by omega) (chI_bnd hby _).1
   exact this
 have hfo : ∀ i, nth (n.pipes.map (foulE true)) i ≤ nth (n.pipes.mapIdx (anyFoul by1)) i ∧ nth (n.pipes.mapIdx (anyFoul by1)) i ≤ nth (n.pipes.map (foulE false)) i := fun i => by
  simp only [nth_idx, nth_mapE]
  cases hi : n.pipes[i]? with
  | none => simp
  | some x =>
   have h1 := (hF.pipe i x hi).2.2
   have := pickS_bnd (s := x.foul) (n := chI by1 ((i + 5 : Nat) : Int)) (by omega) (chI_bnd hby _).1
   exact this
 rw [← pressG_end hF h5 ho false hn, ← pressG_end hF h5 ho true hn]
 exact ⟨pressG_mono h5 (fun i => (hfu i).1) (fun i => (hfo i).2) h, pressG_mono h5 (fun i => (hfu i).2) (fun i => (hfo i).1) h⟩
def wellG (n : NetT) (L : List HeadT) (out full foul : List Int) (tank : Int) : Bool := (L.all fun h => decide (h.least ≤ pressG n L out full foul h)) && decide (needs L * n.mins ≤ tank)
theorem wellG_iff {n : NetT} {L : List HeadT} {out full foul : List Int} {tank : Int} : wellG n L out full foul tank = true ↔ (∀ h ∈ L, h.least ≤ pressG n L out full foul h) ∧ needs L * n.mins ≤ tank := by
 simp [wellG]
theorem openH_get {hs : List HeadT} {l : List Int} (hal : ∀ a ∈ l, (headAt hs a).isSome = true) {k : Nat} {a : Int} {x : HeadT} (ha : l[k]? = some a) (hx : headAt hs a = some x) : (openH hs l)[k]? = some x := by
 have h1 := openH_snoc ha hx
 have h2 : (openH hs (l.take k)).length = k := by
  rw [openH_len' fun b hb => hal b (List.mem_of_mem_take hb)]
  have := (List.getElem?_eq_some_iff.1 ha).1
  simp; omega
 have h3 : openH hs l = openH hs (l.take (k + 1)) ++ openH hs (l.drop (k + 1)) := by unfold openH; rw [← List.filterMap_append, List.take_append_drop]
 rw [h3, h1, List.append_assoc, List.getElem?_append_right (by omega), h2]
 simp
theorem true_known {n : NetT} (hF : NetF n) {by1 : List Int} (hby : By by1) {L : List HeadT} (h5 : heads500 L) (hn : ∀ h ∈ L, 1 ≤ h.node ∧ h.node ≤ n.pipes.length) {out : List Int} (ho : outOK n out = true) :
  ((getsS n L).known = 2 → wellG n L out (n.pumps.mapIdx (anyFull by1)) (n.pipes.mapIdx (anyFoul by1)) (pickS n.tank (chI by1 0)) = true) ∧
  ((getsS n L).known = 0 → wellG n L out (n.pumps.mapIdx (anyFull by1)) (n.pipes.mapIdx (anyFoul by1)) (pickS n.tank (chI by1 0)) = false) := by
 have hg := gets_facts hF.out.1 L
 have hp := fun h hm => any_press hF hby h5 ho (hn h hm)
 have ht := pickS_bnd (s := n.tank) (n := chI by1 0) (by have := hF.tank; omega) (chI_bnd hby _).1
 refine ⟨fun h => ?_, fun h => ?_⟩
 ·have hb : (lackS n L out false).2 = false := (hg.yes h).2.2 out ho
  obtain ⟨h1, h2⟩ := lackS_false.1 hb
  have h3 : tankH n false = n.tank.lo := rfl
  refine wellG_iff.2 ⟨fun x hx => ?_, by omega⟩
  have q1 := h1 x hx
  have q2 := (hp x hx).1
  omega
 ·have hb : (!(lackS n L out true).2) = false := hg.no h out ho
  rw [Bool.eq_false_iff]
  intro hw
  obtain ⟨h1, h2⟩ := wellG_iff.1 hw
  have h3 : tankH n true = n.tank.hi := rfl
  have : (lackS n L out true).2 = false := lackS_false.2 ⟨fun x hx => by
   have q1 := h1 x hx
   have q2 := (hp x hx).2
   omega, by omega⟩
  rw [this] at hb
  cases hb
end Cp
namespace Cp
open Go Go.Proofs
set_option maxRecDepth 10000
set_option maxHeartbeats 4000000
theorem well_ok (n : NetT) (hF : NetF n) (l : List Int) (hl : l.length ≤ 100000) (ho : openOK n.heads l = true) (out : List Int) (hno : outOK n out = true) (full foul : List Int) (hT : TruF n full foul) (tank : Int) :
  PureC Try.prog 41 [encNet n, .lst 1 (ints l), .lst 1 (ints out), .agg (truV full foul tank)] (.bool (wellG n (openH n.heads l) out full foul tank)) := by
 obtain ⟨ho1, ho2⟩ := okL_none ho
 have hhl := hF.heads
 have hmn := hF.mins
 have hp := presses_ok n hF l hl out hno full foul hT tank
 have hof : openH n.heads l = opF n.heads l := open_filter hF.ids ho2 ho1
 rw [← hof] at hp
 have hat := fun id => at_ok n (by omega) id
 have hfl := flow_ok n hF l hl ho1
 have h5 := openH_500 hF l
 have hLl := open_le hF.ids ho
 have hlen := openH_len' ho1
 have hnb := needs_bnd h5
 have hge := fun k a x ha hx => openH_get (k := k) (a := a) (x := x) ho1 ha hx
 obtain ⟨L, hL⟩ : ∃ L, openH n.heads l = L := ⟨_, rfl⟩
 simp only [hL] at hp hfl hlen hnb hge h5 ⊢
 have hmul : 0 ≤ needs L * n.mins ∧ needs L * n.mins ≤ 4000 * 600 := ⟨Int.mul_nonneg (by omega) hmn.1, Int.mul_le_mul (by omega) hmn.2 hmn.1 (by omega)⟩
 obtain ⟨g, hg⟩ : ∃ g, pressG n L out full foul = g := ⟨_, rfl⟩
 have hw : wellG n L out full foul tank = ((L.all fun h => decide (h.least ≤ g h)) && decide (needs L * n.mins ≤ tank)) := by unfold wellG; rw [hg]
 rw [hg] at hp
 rw [hw]
 obtain ⟨nm, hnm⟩ : ∃ nm, needs L * n.mins = nm := ⟨_, rfl⟩
 rw [hnm] at hmul ⊢
 simp only [encNet, cNet] at hp hat hfl
 refine PureC_of (fn := Try.f41) tabOK (by kernel_rfl) rfl (by kernel_rfl) (by simp [Try.f41]) (by simp [noids, noid, noidss, go_sem, encNet, cNet, truV]) (by first | rfl | simp [noids, noid, noidss, go_sem, encNet, cNet, truV]) ?_
 intro X hX0 hXs
 repeat' (first | ((fail_if_success (with_reducible refine AW_at (id := 2) ?_)); with_reducible refine sk ?_; intro K hK) | ((first | (with_reducible first | refine rg (h := ?_) | refine nx ?_) | refine pK (hp) ?_); try simp (disch := omega) only [encNet, cNet, truV,go_sem, simprocAttr]) | (with_reducible refine bk ?_) | ((with_reducible refine' cE ?hv ?_ ?_); (case hv => first | rfl | (simp only [encNet, cNet, truV,go_sem, simprocAttr]; rfl)); all_goals (intro hc; (try simp only [go_sem, simprocAttr] at hc); try (exfalso; omega))) | ((with_reducible refine fe ?_); refine ⟨_, (by simp only [Try.f41, encNet, cNet, truV,go_sem, simprocAttr]; rfl), ?_⟩; first | rfl | (try simp only [encNet, cNet, truV,go_sem, simprocAttr, seval])) | with_reducible intro (ep : Nat → Nat) | with_reducible apply_assumption -exfalso -symm only [*])
 have hcut : ∀ f H, f 4 = .pim (cNet n) → f 1 = .lst 1 (ints l) → f 7 = .pim (truV full foul tank) → (L.all fun h => decide (h.least ≤ g h)) = true → K f H := by
  intro f H h4 h1 h7 hall
  refine hK f H ?_
  clear hK
  rw [hall]
  repeat' (first | (with_reducible refine sk ?_; intro K hK) | ((first | (with_reducible first | refine rg (h := ?_) | refine nx ?_) | refine pK (hfl) ?_); try simp (disch := omega) only [h4, h1, h7, hnm, cNet, truV, Bool.true_and,go_sem, simprocAttr]) | (with_reducible refine bk ?_) | ((with_reducible refine' cE ?hv ?_ ?_); (case hv => first | rfl | (simp only [h4, h1, h7, hnm, cNet, truV, Bool.true_and,go_sem, simprocAttr]; rfl)); all_goals (intro hc; (try simp only [go_sem, simprocAttr] at hc); try (exfalso; omega))) | ((with_reducible refine fe ?_); refine ⟨_, (by simp only [Try.f41, h4, h1, h7, hnm, cNet, truV, Bool.true_and,go_sem, simprocAttr]; rfl), ?_⟩; first | rfl | (try simp only [h4, h1, h7, hnm, cNet, truV, Bool.true_and,go_sem, simprocAttr, seval])) | with_reducible intro (ep : Nat → Nat) | with_reducible apply_assumption -exfalso -symm only [*])
 clear hK
 repeat' (first | (with_reducible refine sk ?_; intro K hK) | ((with_reducible first | refine rg (h := ?_) | refine nx ?_); try simp (disch := omega) only [go_sem, simprocAttr]) | (with_reducible refine bk ?_) | ((with_reducible refine' cE ?hv ?_ ?_); (case hv => first | rfl | (simp only [go_sem, simprocAttr]; rfl)); all_goals (intro hc; (try simp only [go_sem, simprocAttr] at hc); try (exfalso; omega))) | with_reducible intro (ep : Nat → Nat) | with_reducible apply_assumption -exfalso -symm only [*])
 refine AW_range tabOK l.length (fun k f H => (f 4 = .pim (cNet n) ∧ f 1 = .lst 1 (ints l) ∧ f 7 = .pim (truV full foul tank) ∧ f 9 = .lst 1 (ints (L.map g)) ∧ f 17 = .lst 1 (ints l)) ∧ (L.all fun h => decide (h.least ≤ g h)) = ((L.drop k).all fun h => decide (h.least ≤ g h))) (by omega) (by rw [hXs]; decide) (by decide) (by (first | rfl | (simp only [go_sem, simprocAttr]; done) | (simp only [go_sem, simprocAttr]; rfl))) (by (first | rfl | (simp only [go_sem, simprocAttr]; done) | (simp only [go_sem, simprocAttr]; rfl)))
  ⟨by (and_intros <;> first | rfl | (simp only [cNet, truV, go_sem, simprocAttr]; done) | (simp only [cNet, truV, go_sem, simprocAttr]; rfl)), rfl⟩ ?_ ?_
 ·clear hcut
  rintro k f H hk h19 h18 ⟨⟨h4, h1, h7, h9, h17⟩, hall⟩
  obtain ⟨a, ha⟩ : ∃ a, l[k]? = some a := ⟨_, List.getElem?_eq_getElem hk⟩
  rcases @atI_at n.heads a with ⟨a1, a2⟩ | ⟨i, y, a0, a1, a2⟩
  ·have := ho1 a (List.mem_of_getElem? ha); rw [a1] at this; simp at this
  ·have hLk := hge k a y ha a1
   rw [drop_cons hLk, List.all_cons] at hall
   have hgk : (L.map g)[k]? = some (g y) := by simp [hLk]
   have hgl : (L.map g).length = L.length := List.length_map ..
   obtain ⟨gl, hgl2⟩ : ∃ gl, L.map g = gl := ⟨_, rfl⟩
   rw [hgl2] at h9 hgk hgl
   by_cases hlt : g y < y.least
   ·have hd : decide (y.least ≤ g y) = false := by simp; omega
    rw [hd, Bool.false_and] at hall
    rw [hall]
    repeat' (first | (with_reducible refine sk ?_; intro K hK) | ((first | (with_reducible first | refine rg (h := ?_) | refine nx ?_) | refine pK (hat a) ?_); try simp (disch := omega) only [h4, h1, h7, h9, h17, h18, h19, ha, a0, a2, hgk, hlt, cNet, cHead, Bool.false_and,go_sem, simprocAttr]) | (with_reducible refine bk ?_) | ((with_reducible refine' cE ?hv ?_ ?_); (case hv => first | rfl | (simp only [h4, h1, h7, h9, h17, h18, h19, ha, a0, a2, hgk, hlt, cNet, cHead, Bool.false_and,go_sem, simprocAttr]; rfl)); all_goals (intro hc; (try simp only [go_sem, simprocAttr] at hc); try (exfalso; omega))) | ((with_reducible refine fe ?_); refine ⟨_, (by simp only [Try.f41, h4, h1, h7, h9, h17, h18, h19, ha, a0, a2, hgk, hlt, cNet, cHead, Bool.false_and,go_sem, simprocAttr]; rfl), ?_⟩; first | rfl | (try simp only [h4, h1, h7, h9, h17, h18, h19, ha, a0, a2, hgk, hlt, cNet, cHead, Bool.false_and,go_sem, simprocAttr, seval])) | with_reducible intro (ep : Nat → Nat) | with_reducible apply_assumption -exfalso -symm only [*])
    all_goals (exfalso; simp at hg)
   ·have hd : decide (y.least ≤ g y) = true := by simp; omega
    rw [hd, Bool.true_and] at hall
    repeat' (first | (with_reducible refine sk ?_; intro K hK) | ((first | (with_reducible first | refine rg (h := ?_) | refine nx ?_) | refine pK (hat a) ?_); try simp (disch := omega) only [h4, h1, h7, h9, h17, h18, h19, ha, a0, a2, hgk, hlt, cNet, cHead,go_sem, simprocAttr]) | (with_reducible refine bk ?_) | ((with_reducible refine' cE ?hv ?_ ?_); (case hv => first | rfl | (simp only [h4, h1, h7, h9, h17, h18, h19, ha, a0, a2, hgk, hlt, cNet, cHead,go_sem, simprocAttr]; rfl)); all_goals (intro hc; (try simp only [go_sem, simprocAttr] at hc); try (exfalso; omega))) | with_reducible intro (ep : Nat → Nat) | with_reducible apply_assumption -exfalso -symm only [*])
    exact ⟨by rw [hgl2], hall⟩
 ·rintro f H h19 h18 ⟨⟨h4, h1, h7, h9, h17⟩, hall⟩
  rw [← hlen, List.drop_length] at hall
  exact hcut _ _ (by (first | rfl | (simp only [h4, go_sem, simprocAttr]; done) | (simp only [h4, go_sem, simprocAttr]; rfl))) (by (first | rfl | (simp only [h1, go_sem, simprocAttr]; done) | (simp only [h1, go_sem, simprocAttr]; rfl))) (by (first | rfl | (simp only [h7, go_sem, simprocAttr]; done) | (simp only [h7, go_sem, simprocAttr]; rfl))) hall
end Cp
namespace Cp
open Go
theorem ACall.imp {P : Program} {fid : FuncId} {args : List Val} {H : Hp} {R R' : Val → Hp → Prop} (h : ACall P fid args H R) (hR : ∀ v H', R v H' → R' v H') : ACall P fid args H R' :=
 ⟨h.1, fun G w xs hr hv => Calls.mono (h.2 G w xs hr hv) (by rintro e w' ⟨v, x, G', H', h1, h2, h3, h4, h5, h6⟩; exact ⟨v, x, G', H', h1, h2, h3, h4, h5, hR _ _ h6⟩)⟩
theorem ACall.weak {P : Program} {fid : FuncId} {args : List Val} {H : Hp} {a b : Val} {R : Hp → Prop} (h : ACall P fid args H fun v H' => v = a ∧ R H') (hw : ∀ G w x, VR G w a x → VR G w b x) : ACall P fid args H fun v H' => v = b ∧ R H' :=
 ⟨h.1, fun G w xs hr hv => Calls.mono (h.2 G w xs hr hv) (by rintro e w' ⟨v, x, G', H', h1, h2, h3, h4, h5, rfl, h6⟩; exact ⟨b, x, G', H', h1, h2, h3, h4, hw _ _ _ h5, rfl, h6⟩)⟩
theorem VR.tup_imp {G : Gh} {w : World} {vs vs' : List Val} {x : Value} (hl : vs.length = vs'.length) (hi : ∀ (i : Nat) (v v' : Val), vs[i]? = some v → vs'[i]? = some v' → ∀ y, VR G w v y → VR G w v' y) (h : VR G w (.tup vs) x) : VR G w (.tup vs') x := by
 cases h with
 | tup _ xs hs hv =>
  refine .tup _ xs (by omega) (fun i v' hi' => ?_)
  have hlt := (List.getElem?_eq_some_iff.1 hi').1
  have h1 : vs[i]? = some vs[i] := List.getElem?_eq_getElem (by omega)
  exact hi i _ _ h1 hi' _ (hv i _ h1)
theorem VR.agg3_nils {G : Gh} {w : World} {a b : Val} {n : Nat} {x : Value} (h : VR G w (.agg [a, b, .nils]) x) : VR G w (.agg [a, b, .lst n []]) x := by
 cases h with
 | agg _ xs hs hc hv =>
  refine .agg _ xs (by simpa using hs) (fun i v hi => ?_) (fun i v hi => ?_)
  ·match i, hi with
   | 0, hi => exact hc 0 v hi
   | 1, hi => exact hc 1 v hi
   | 2, hi => cases hi; rfl
  ·match i, hi with
   | 0, hi => exact hv 0 v hi
   | 1, hi => exact hv 1 v hi
   | 2, hi => cases hi; exact (hv 2 .nils rfl).nils_lst _
end Cp
namespace Cp
open Go Go.Proofs
set_option maxRecDepth 10000
set_option maxHeartbeats 1000000
def GJ (Hz : Hp) (n : NetT) (hs : List HeadT) (e36 e33 e34 e2 e3 e4 e5 ey : Nat) (L0 : AObj) (k : Nat) (H : Hp) : Prop :=
 (∀ j, j < 100 → H j = Hz j) ∧ H 436 = some (e36, .fro 10 [cPlant n hs e33 e34 (n.pipes.length + 1)]) ∧ H 433 = some (e33, .arr 1 (ints (flowL n.pipes (n.pipes.length + 1) hs))) ∧ (∃ ver, H 434 = some (e34, .map ver [])) ∧
 H 602 = some (e2, .arr 3 [[.int .u8 0, .int .i64 0, .nils]]) ∧ H 603 = some (e3, .arr 3 [cTold (getF n hs ((outsL n.pumps.length n.out.toNat).take k)).1]) ∧ H 604 = some (e4, .arr 1 [[.bool (getF n hs ((outsL n.pumps.length n.out.toNat).take k)).2]]) ∧
 H 605 = some (e5, .arr 4 [[.fn (sgF false) [], .fn (sgF true) [], .fn (sgF true) [], .fn (sgF false) []]]) ∧ H 100 = some (ey, L0) ∧ (H 1208 = none ∧ H 1604 = none ∧ H 1605 = none ∧ H 1607 = none)
theorem outsL_len {np o : Nat} (hn : np ≤ 4) (ho : o ≤ 3) : (outsL np o).length ≤ 100000 := by
 have h : ∀ np, np < 5 → ∀ o, o < 4 → (outsL np o).length ≤ 100000 := by decide +kernel
 exact h np (by omega) o (by omega)
theorem gets_ok (n : NetT) (hF : NetF n) (hs : List HeadT) (h5 : heads500 hs) (hsl : hs.length ≤ 12) (hnd : ∀ h ∈ hs, 1 ≤ h.node ∧ h.node ≤ n.pipes.length) (e36 e33 e34 ver : Nat) (H0 : Hp)
  (g36 : H0 436 = some (e36, .fro 10 [cPlant n hs e33 e34 (n.pipes.length + 1)])) (g33 : H0 433 = some (e33, .arr 1 (ints (flowL n.pipes (n.pipes.length + 1) hs)))) (g34 : H0 434 = some (e34, .map ver []))
  (hroom : ∀ j, 600 ≤ j → H0 j = none) (h100 : H0 100 = none) :
  ACall Try.prog 69 [.ptr 436 e36 10 0 0] H0 fun v H' => v = .agg (cTold (getsS n hs)) ∧ ∀ j, j < 100 → H' j = H0 j := by
 refine ACall_ofR (fn := Try.f69) tabOK (by kernel_rfl) rfl (by kernel_rfl) (by simp [Try.f69]) ?_
 intro X hX0 hXs hXr
 have q1 := hroom 601 (by decide)
 have q2 := hroom 602 (by decide)
 have q3 := hroom 603 (by decide)
 have q4 := hroom 604 (by decide)
 have q5 := hroom 605 (by decide)
 have oc := fun H h => outs_call n hF (hs := hs) (e36 := e36) (e33 := e33) (e34 := e34) (k := n.pipes.length + 1) (H := H) h
 repeat' (first | (with_reducible refine sk ?_; intro K hK) | ((first | (with_reducible first | refine rg (md := { base := 600, own := [3, 4, 5, 6], imp := [10] }) (h := ?_) | refine rgS [2, 3, 4, 5, 6] (md := { base := 600, own := [3, 4, 5, 6], imp := [10] }) (h := ?_) | refine nx ?_) | refine pK (ends_ok) ?_); try simp (disch := omega) only [g36, q1, q2, q3, q4, q5,go_sem, simprocAttr]) | (with_reducible refine bk ?_) | ((with_reducible refine' cE ?hv ?_ ?_); (case hv => first | rfl | (simp only [g36, q1, q2, q3, q4, q5,go_sem, simprocAttr]; rfl)); all_goals (intro hc; (try simp only [go_sem, simprocAttr] at hc); try (exfalso; omega))) | ((with_reducible first | refine grdS_split ?_ ?_ | refine lkG_split ?_ ?_) <;> intro hg <;> (try simp (disch := omega) only [hg, g36, q1, q2, q3, q4, q5,go_sem, simprocAttr]) <;> (try simp only [go_sem, simprocAttr] at hg) <;> (try (exfalso; omega))) | (first | refine iK (ends_ok) ?_) | with_reducible intro (ep : Nat → Nat) | with_reducible apply_assumption -exfalso -symm only [*])
 refine iK (oc _ (by (first | rfl | (simp only [g36, go_sem, simprocAttr]; done) | (simp only [g36, go_sem, simprocAttr]; rfl)))) ?_
 rintro v H3 ⟨rfl, rfl⟩
 simp only [go_sem, simprocAttr]
 repeat' (first | (with_reducible refine sk ?_; intro K hK) | ((with_reducible first | refine rg (md := { base := 600, own := [3, 4, 5, 6], imp := [10] }) (h := ?_) | refine rgS [2, 3, 4, 5, 6] (md := { base := 600, own := [3, 4, 5, 6], imp := [10] }) (h := ?_) | refine nx ?_); try simp (disch := omega) only [go_sem, simprocAttr]) | (with_reducible refine bk ?_) | ((with_reducible refine' cE ?hv ?_ ?_); (case hv => first | rfl | (simp only [go_sem, simprocAttr]; rfl)); all_goals (intro hc; (try simp only [go_sem, simprocAttr] at hc); try (exfalso; omega))) | ((with_reducible first | refine grdS_split ?_ ?_ | refine lkG_split ?_ ?_) <;> intro hg <;> (try simp (disch := omega) only [hg, go_sem, simprocAttr]) <;> (try simp only [go_sem, simprocAttr] at hg) <;> (try (exfalso; omega))) | with_reducible intro (ep : Nat → Nat) | with_reducible apply_assumption -exfalso -symm only [*])
 refine AW_block ?_
 refine AW_rangeFunc 100 (by simp only [go_sem, simprocAttr, outsF]; rfl) hXr fun ey => ?_
 generalize hf0 : (upd _ _ _ : Fr) = f0
 generalize hH : (upd (upd (upd (upd (upd (upd (upd H0 _ _) _ _) _ _) _ _) _ _) _ _) _ _ : Hp) = HH
 obtain ⟨e2, e3, e4, e5, k1, k2, k3, k4, k5, G2, G3, G4, G5, Gs⟩ : ∃ e2 e3 e4 e5, f0 1 = .pim [.ptr 436 e36 10 0 0] ∧ f0 2 = .ptr 602 e2 3 0 0 ∧ f0 3 = .ptr 603 e3 3 0 0 ∧ f0 4 = .ptr 604 e4 1 0 0 ∧ f0 5 = .ptr 605 e5 4 0 0 ∧
   HH 602 = some (e2, .arr 3 [[.int .u8 0, .int .i64 0, .nils]]) ∧ HH 603 = some (e3, .arr 3 [[.int .u8 2, .int .i64 0, .nils]]) ∧ HH 604 = some (e4, .arr 1 [[.bool false]]) ∧ HH 605 = some (e5, .arr 4 [[.fn (sgF false) [], .fn (sgF true) [], .fn (sgF true) [], .fn (sgF false) []]]) ∧ ∀ j, ¬ j = 602 → ¬ j = 603 → ¬ j = 604 → ¬ j = 605 → HH j = H0 j := by
  refine ⟨_, _, _, _, by rw [← hf0]; rfl, by rw [← hf0]; rfl, by rw [← hf0]; rfl, by rw [← hf0]; rfl, by rw [← hf0]; rfl, by rw [← hH]; rfl, by rw [← hH]; rfl, by rw [← hH]; rfl, by rw [← hH]; rfl, fun j h1 h2 h3 h4 => ?_⟩
  rw [← hH, upd_ne _ _ h4, upd_ne _ _ h4, upd_ne _ _ h3, upd_ne _ _ h3, upd_ne _ _ h2, upd_ne _ _ h2, upd_ne _ _ h1]
 have G36 := (Gs 436 (by decide) (by decide) (by decide) (by decide)).trans g36
 have G33 := (Gs 433 (by decide) (by decide) (by decide) (by decide)).trans g33
 have G34 := (Gs 434 (by decide) (by decide) (by decide) (by decide)).trans g34
 have Gr : ∀ j, 606 ≤ j → HH j = none := fun j hj => (Gs j (by omega) (by omega) (by omega) (by omega)).trans (hroom j (by omega))
 have Gl : ∀ j, j < 100 → HH j = H0 j := fun j hj => Gs j (by omega) (by omega) (by omega) (by omega)
 have hXs0 : X.sz = 24 := hXs
 clear hf0 hH hXs Gs g36 g33 g34 hroom q1 q2 q3 q4 q5 oc h100
 generalize hL : AObj.loop _ _ _ _ _ _ = L0
 have hll := @outsL_len n.pumps.length n.out.toNat hF.pumps.2 (by have := hF.out.2; have := hF.pumps.2; omega)
 have hmo := fun l => @mem_outs n hF.out.1 l
 refine ⟨fun v H' => GJ H0 n hs e36 e33 e34 e2 e3 e4 e5 ey L0 (outsL n.pumps.length n.out.toNat).length H', values1_ok _ hll _ 100 ey (GJ H0 n hs e36 e33 e34 e2 e3 e4 e5 ey L0) ?_ ?_, ?_⟩
 ·have h0 : getF n hs ((outsL n.pumps.length n.out.toNat).take 0) = (⟨2, 0, []⟩, false) := rfl
  unfold GJ
  rw [h0]
  exact ⟨fun j hj => by rw [upd_ne _ _ (by omega), Gl j hj], by rw [upd_ne _ _ (by decide), G36], by rw [upd_ne _ _ (by decide), G33], ⟨_, by rw [upd_ne _ _ (by decide), G34]⟩, by rw [upd_ne _ _ (by decide), G2], by rw [upd_ne _ _ (by decide), G3]; rfl, by rw [upd_ne _ _ (by decide), G4], by rw [upd_ne _ _ (by decide), G5], upd_same _ _ _,
   by rw [upd_ne _ _ (by decide), Gr _ (by decide)], by rw [upd_ne _ _ (by decide), Gr _ (by decide)], by rw [upd_ne _ _ (by decide), Gr _ (by decide)], by rw [upd_ne _ _ (by decide), Gr _ (by decide)]⟩
 ·clear G36 G33 G34 G2 G3 G4 G5 Gr
  rintro k l Hs hk ⟨jl, j36, j33, ⟨ver', j34⟩, j2, j3, j4, j5, j100, jr0, jr1, jr2, jr3⟩
  have hol := (hmo l).1 (List.mem_of_getElem? hk)
  have hkn := @getF_kn n hs k (outsL n.pumps.length n.out.toNat)
  have hsn := @getF_snoc n hs _ _ _ hk
  generalize getF n hs ((outsL n.pumps.length n.out.toNat).take k) = s at *
  obtain ⟨t, g⟩ := s
  simp only at hkn j3 j4
  subst hL
  refine ⟨_, _, _, _, _, j100, rfl, fun t ht => ?_, fun X1 b h10 h1s h1r => ?_⟩
  ·rw [frL_len, hXs0]
   have ht' : t = 11 := by simpa using ht
   subst ht'; decide
  have hXs : X1.sz = 24 := by rw [h1s, frL_len, hXs0]
  show AW _ _ _ _ _ (upd (frOf (frL f0 X.sz)) 11 (.lst 1 (ints l))) Hs
  have k1' : frOf (frL f0 X.sz) 1 = .pim [.ptr 436 e36 10 0 0] := by rw [frOf_frL, hXs0, if_pos (by decide), k1]
  have k3' : frOf (frL f0 X.sz) 3 = .ptr 603 e3 3 0 0 := by rw [frOf_frL, hXs0, if_pos (by decide), k3]
  have k4' : frOf (frL f0 X.sz) 4 = .ptr 604 e4 1 0 0 := by rw [frOf_frL, hXs0, if_pos (by decide), k4]
  have k5' : frOf (frL f0 X.sz) 5 = .ptr 605 e5 4 0 0 := by rw [frOf_frL, hXs0, if_pos (by decide), k5]
  generalize frOf (frL f0 X.sz) = f1 at k1' k3' k4' k5'
  refine AW_lose 606 fun H1 w6 hs1 => ?_
  repeat' (first | (with_reducible refine sk ?_; intro K hK) | ((with_reducible first | refine rg (md := { base := 600, own := [3, 4, 5, 6], imp := [10] }) (h := ?_) | refine rgS [2, 3, 4, 5, 6] (md := { base := 600, own := [3, 4, 5, 6], imp := [10] }) (h := ?_) | refine nx ?_); try simp (disch := omega) only [k1', k3', k4', k5', w6,go_sem, simprocAttr]) | (with_reducible refine bk ?_) | ((with_reducible refine' cE ?hv ?_ ?_); (case hv => first | rfl | (simp only [k1', k3', k4', k5', w6,go_sem, simprocAttr]; rfl)); all_goals (intro hc; (try simp only [go_sem, simprocAttr] at hc); try (exfalso; omega))) | ((with_reducible first | refine grdS_split ?_ ?_ | refine lkG_split ?_ ?_) <;> intro hg <;> (try simp (disch := omega) only [hg, k1', k3', k4', k5', w6,go_sem, simprocAttr]) <;> (try simp only [go_sem, simprocAttr] at hg) <;> (try (exfalso; omega))) | with_reducible intro (ep : Nat → Nat) | with_reducible apply_assumption -exfalso -symm only [*])
  refine ⟨rfl, _, _, _, _, _, by rw [upd_ne _ _ (by decide), upd_ne _ _ (by decide), hs1 _ (by decide), j100], ?_⟩
  generalize hHs : (upd (upd (upd H1 _ _) _ _) 100 _ : Hp) = HB
  generalize hfB : (upd _ _ _ : Fr) = fB
  obtain ⟨e6, b1, b3, b4, b5, b6, B6, B100, Bs⟩ : ∃ e6, fB 1 = .pim [.ptr 436 e36 10 0 0] ∧ fB 3 = .ptr 603 e3 3 0 0 ∧ fB 4 = .ptr 604 e4 1 0 0 ∧ fB 5 = .ptr 605 e5 4 0 0 ∧ fB 6 = .ptr 606 e6 1 0 0 ∧ HB 606 = some (e6, .arr 1 [[.lst 1 (ints l)]]) ∧ HB 100 = _ ∧ ∀ j, ¬ j = 606 → ¬ j = 100 → HB j = Hs j := by
   refine ⟨_, by rw [← hfB]; simp only [k1', go_sem, simprocAttr], by rw [← hfB]; simp only [k3', go_sem, simprocAttr], by rw [← hfB]; simp only [k4', go_sem, simprocAttr], by rw [← hfB]; simp only [k5', go_sem, simprocAttr], by rw [← hfB]; rfl, by rw [← hHs]; rfl, by rw [← hHs, upd_same], fun j h1 h2 => ?_⟩
   rw [← hHs, upd_ne _ _ h2, upd_ne _ _ h1, upd_ne _ _ h1, hs1 _ h1]
  clear hHs hfB hs1 k1' k3' k4' k5' w6
  have B36 := (Bs 436 (by decide) (by decide)).trans j36
  have B34 := (Bs 434 (by decide) (by decide)).trans j34
  have hst : ∀ (ver' : Nat) (H : Hp), (∀ j, ¬ j = 434 → H j = HB j) → H 434 = some (e34, .map ver' (imap .i64 (offM l))) →
    ACall Try.prog 95 [.pim [.ptr 436 e36 10 0 0], .ptr 605 e5 4 0 0, .ptr 603 e3 3 0 0, .ptr 606 e6 1 0 0, .ptr 604 e4 1 0 0] H fun v H' => v = .tup [] ∧ H' 436 = H 436 ∧ (∃ ver2, H' 434 = some (e34, .map ver2 (imap .i64 (offM l)))) ∧
     ((∀ j, ¬ j = 434 → ¬ j = 603 → ¬ j = 604 → ¬ j = 1705 → H' j = HB j) ∧ H' 603 = some (e3, .arr 3 [cTold (getStep n hs (t, g) l).1]) ∧ H' 604 = some (e4, .arr 1 [[.bool (getStep n hs (t, g) l).2]])) := fun ver' H hH h34 => by
   have hc : ∀ j, ¬ j = 434 → ¬ j = 606 → ¬ j = 100 → H j = Hs j := fun j h1 h2 h3 => (hH j h1).trans (Bs j h2 h3)
   refine (gets1_ok n hF hs h5 hsl hnd l hol e36 e33 e34 ver' e3 e4 e5 e6 t hkn g H ((hc _ (by decide) (by decide) (by decide)).trans j36) ((hc _ (by decide) (by decide) (by decide)).trans j33) h34 ((hc _ (by decide) (by decide) (by decide)).trans j3) ((hc _ (by decide) (by decide) (by decide)).trans j4) ((hc _ (by decide) (by decide) (by decide)).trans j5) ((hH _ (by decide)).trans B6)
    ⟨(hc _ (by decide) (by decide) (by decide)).trans jr0, (hc _ (by decide) (by decide) (by decide)).trans jr1, (hc _ (by decide) (by decide) (by decide)).trans jr2, (hc _ (by decide) (by decide) (by decide)).trans jr3⟩).imp ?_
   rintro v H' ⟨hv, hlow, h3, h4⟩
   exact ⟨hv, hlow _ (by decide) (by decide) (by decide), ⟨ver', (hlow _ (by decide) (by decide) (by decide)).trans h34⟩, fun j a1 a2 a3 a4 => (hlow j a2 a3 a4).trans (hH j a1), h3, h4⟩
  have hlo : l.length ≤ 100000 := by
   have h1 := (out_facts hol).2.2
   have h2 := hF.out.2
   have h3 := hF.pumps.2
   omega
  repeat' (first | (with_reducible refine sk ?_; intro K hK) | ((with_reducible first | refine rg (md := { base := 600, own := [], imp := [15] }) (h := ?_) | refine rgS [2, 3, 4, 5, 6] (md := { base := 600, own := [], imp := [15] }) (h := ?_) | refine nx ?_); try simp (disch := omega) only [b1, b3, b4, b5, b6, B36, B6,go_sem, simprocAttr]) | (with_reducible refine bk ?_) | ((with_reducible refine' cE ?hv ?_ ?_); (case hv => first | rfl | (simp only [b1, b3, b4, b5, b6, B36, B6,go_sem, simprocAttr]; rfl)); all_goals (intro hc; (try simp only [go_sem, simprocAttr] at hc); try (exfalso; omega))) | ((with_reducible first | refine grdS_split ?_ ?_ | refine lkG_split ?_ ?_) <;> intro hg <;> (try simp (disch := omega) only [hg, b1, b3, b4, b5, b6, B36, B6,go_sem, simprocAttr]) <;> (try simp only [go_sem, simprocAttr] at hg) <;> (try (exfalso; omega))) | with_reducible intro (ep : Nat → Nat) | with_reducible apply_assumption -exfalso -symm only [*])
  refine iK (without_fro n hs e36 e33 e34 ver' l hlo (out_facts hol).2.1 _ _ HB (by (first | rfl | (simp only [B36, go_sem, simprocAttr]; done) | (simp only [B36, go_sem, simprocAttr]; rfl))) (by (first | rfl | (simp only [B34, go_sem, simprocAttr]; done) | (simp only [B34, go_sem, simprocAttr]; rfl))) _ hst) ?_
  rintro v H3 ⟨rfl, H2, ver2, ⟨hlow, r3, r4⟩, hsame, hm⟩
  have hc : ∀ j, ¬ j = 434 → ¬ j = 603 → ¬ j = 604 → ¬ j = 1705 → H3 j = HB j := fun j h1 h2 h3 h4 => (hsame j h1).trans (hlow j h1 h2 h3 h4)
  have hd : ∀ j, ¬ j = 434 → ¬ j = 603 → ¬ j = 604 → ¬ j = 1705 → ¬ j = 606 → ¬ j = 100 → H3 j = Hs j := fun j h1 h2 h3 h4 h5 h6 => (hc j h1 h2 h3 h4).trans (Bs j h5 h6)
  have C100 := (hc 100 (by decide) (by decide) (by decide) (by decide)).trans B100
  have C3 := (hsame 603 (by decide)).trans r3
  have C4 := (hsame 604 (by decide)).trans r4
  rw [← hsn] at C3 C4
  refine ⟨_, _, _, _, _, _, C100, ?_⟩
  refine ⟨rfl, ?_⟩
  have z : ∀ {o : Option (Nat × AObj)} (j : Nat), ¬ j = 434 → ¬ j = 603 → ¬ j = 604 → ¬ j = 1705 → ¬ j = 606 → ¬ j = 100 → upd H3 100 o j = Hs j := fun j h1 h2 h3 h4 h5 h6 => by rw [upd_ne _ _ h6]; exact hd j h1 h2 h3 h4 h5 h6
  exact ⟨fun j hj => (z j (by omega) (by omega) (by omega) (by omega) (by omega) (by omega)).trans (jl j hj), (z 436 (by decide) (by decide) (by decide) (by decide) (by decide) (by decide)).trans j36, (z 433 (by decide) (by decide) (by decide) (by decide) (by decide) (by decide)).trans j33, ⟨ver2, by rw [upd_ne _ _ (by decide)]; exact hm⟩, (z 602 (by decide) (by decide) (by decide) (by decide) (by decide) (by decide)).trans j2, by rw [upd_ne _ _ (by decide)]; exact C3, by rw [upd_ne _ _ (by decide)]; exact C4,
   (z 605 (by decide) (by decide) (by decide) (by decide) (by decide) (by decide)).trans j5, upd_same _ _ _, (z 1208 (by decide) (by decide) (by decide) (by decide) (by decide) (by decide)).trans jr0, (z 1604 (by decide) (by decide) (by decide) (by decide) (by decide) (by decide)).trans jr1,
   (z 1605 (by decide) (by decide) (by decide) (by decide) (by decide) (by decide)).trans jr2, (z 1607 (by decide) (by decide) (by decide) (by decide) (by decide) (by decide)).trans jr3⟩
 ·clear G36 G33 G34 G2 G3 G4 G5 Gr
  rintro v Hs ⟨jl, j36, j33, ⟨ver', j34⟩, j2, j3, j4, j5, j100, jr0, jr1, jr2, jr3⟩
  rw [List.take_of_length_le (Nat.le_refl _)] at j3 j4
  subst hL
  refine ⟨_, _, _, _, _, _, j100, by simp, ?_⟩
  have hkn := @getF_kn n hs (outsL n.pumps.length n.out.toNat).length (outsL n.pumps.length n.out.toNat)
  rw [List.take_of_length_le (Nat.le_refl _)] at hkn
  obtain ⟨G, hG⟩ : ∃ G, getsS n hs = G := ⟨_, rfl⟩
  have hgs := hG
  unfold getsS at hgs
  generalize getF n hs (outsL n.pumps.length n.out.toNat) = s at *
  obtain ⟨⟨kn, hd, ol⟩, g⟩ := s
  have yl : ∀ j, j < 100 → upd Hs 100 none j = H0 j := fun j hj => by rw [upd_ne _ _ (by omega), jl j hj]
  have y2 : upd Hs 100 none 602 = _ := (upd_ne _ _ (by decide)).trans j2
  have y3 : upd Hs 100 none 603 = _ := (upd_ne _ _ (by decide)).trans j3
  have y4 : upd Hs 100 none 604 = _ := (upd_ne _ _ (by decide)).trans j4
  generalize upd Hs 100 none = H2 at y2 y3 y4 yl
  clear j36 j33 j34 j2 j3 j4 j5 j100 jr0 jr1 jr2 jr3 hmo hll
  simp only at hkn
  rcases hkn with rfl | rfl <;> cases g
  ·simp only [cTold] at y3
   simp only [Bool.false_eq_true, false_and, and_self, if_true, if_false, Int.reduceEq, true_and] at hgs
   repeat' (first | (with_reducible refine sk ?_; intro K hK) | ((with_reducible first | refine rg (md := { base := 600, own := [], imp := [] }) (h := ?_) | refine rgS [2, 3, 4, 5, 6] (md := { base := 600, own := [], imp := [] }) (h := ?_) | refine nx ?_); try simp (disch := omega) only [k1, k2, k3, k4, y2, y3, y4,go_sem, simprocAttr]) | (with_reducible refine bk ?_) | ((with_reducible refine' cE ?hv ?_ ?_); (case hv => first | rfl | (simp only [k1, k2, k3, k4, y2, y3, y4,go_sem, simprocAttr]; rfl)); all_goals (intro hc; (try simp only [go_sem, simprocAttr] at hc); try (exfalso; omega))) | ((with_reducible first | refine grdS_split ?_ ?_ | refine lkG_split ?_ ?_) <;> intro hg <;> (try simp (disch := omega) only [hg, k1, k2, k3, k4, y2, y3, y4,go_sem, simprocAttr]) <;> (try simp only [go_sem, simprocAttr] at hg) <;> (try (exfalso; omega))) | with_reducible intro (ep : Nat → Nat) | with_reducible apply_assumption -exfalso -symm only [*])
   exact FnQ_end (Or.inl rfl) (.refl _) (by simp only [Try.f69, go_sem, simprocAttr, k2]; rfl) ⟨by rw [hG, ← hgs]; simp only [cTold, go_sem, simprocAttr], fun j hj => by (repeat rw [upd_ne _ _ (by omega)]); exact yl j hj⟩
  ·simp only [cTold] at y3
   simp only [Bool.false_eq_true, false_and, and_self, if_true, if_false, Int.reduceEq, true_and] at hgs
   repeat' (first | (with_reducible refine sk ?_; intro K hK) | ((with_reducible first | refine rg (md := { base := 600, own := [], imp := [] }) (h := ?_) | refine rgS [2, 3, 4, 5, 6] (md := { base := 600, own := [], imp := [] }) (h := ?_) | refine nx ?_); try simp (disch := omega) only [k1, k2, k3, k4, y2, y3, y4,go_sem, simprocAttr]) | (with_reducible refine bk ?_) | ((with_reducible refine' cE ?hv ?_ ?_); (case hv => first | rfl | (simp only [k1, k2, k3, k4, y2, y3, y4,go_sem, simprocAttr]; rfl)); all_goals (intro hc; (try simp only [go_sem, simprocAttr] at hc); try (exfalso; omega))) | ((with_reducible first | refine grdS_split ?_ ?_ | refine lkG_split ?_ ?_) <;> intro hg <;> (try simp (disch := omega) only [hg, k1, k2, k3, k4, y2, y3, y4,go_sem, simprocAttr]) <;> (try simp only [go_sem, simprocAttr] at hg) <;> (try (exfalso; omega))) | with_reducible intro (ep : Nat → Nat) | with_reducible apply_assumption -exfalso -symm only [*])
   exact FnQ_end (Or.inl rfl) (.refl _) (by simp only [Try.f69, go_sem, simprocAttr, k2]; rfl) ⟨by rw [hG, ← hgs]; simp only [cTold, go_sem, simprocAttr], fun j hj => by (repeat rw [upd_ne _ _ (by omega)]); exact yl j hj⟩
  ·simp only [cTold] at y3
   simp only [Bool.false_eq_true, false_and, and_self, if_true, if_false, Int.reduceEq, true_and] at hgs
   repeat' (first | (with_reducible refine sk ?_; intro K hK) | ((with_reducible first | refine rg (md := { base := 600, own := [], imp := [] }) (h := ?_) | refine rgS [2, 3, 4, 5, 6] (md := { base := 600, own := [], imp := [] }) (h := ?_) | refine nx ?_); try simp (disch := omega) only [k1, k2, k3, k4, y2, y3, y4,go_sem, simprocAttr]) | (with_reducible refine bk ?_) | ((with_reducible refine' cE ?hv ?_ ?_); (case hv => first | rfl | (simp only [k1, k2, k3, k4, y2, y3, y4,go_sem, simprocAttr]; rfl)); all_goals (intro hc; (try simp only [go_sem, simprocAttr] at hc); try (exfalso; omega))) | ((with_reducible first | refine grdS_split ?_ ?_ | refine lkG_split ?_ ?_) <;> intro hg <;> (try simp (disch := omega) only [hg, k1, k2, k3, k4, y2, y3, y4,go_sem, simprocAttr]) <;> (try simp only [go_sem, simprocAttr] at hg) <;> (try (exfalso; omega))) | with_reducible intro (ep : Nat → Nat) | with_reducible apply_assumption -exfalso -symm only [*])
   exact FnQ_end (Or.inl rfl) (.refl _) (by simp only [Try.f69, go_sem, simprocAttr, k2]; rfl) ⟨by rw [hG, ← hgs]; simp only [cTold, go_sem, simprocAttr], fun j hj => by (repeat rw [upd_ne _ _ (by omega)]); exact yl j hj⟩
  ·simp only [cTold] at y3
   simp only [Bool.false_eq_true, false_and, and_self, if_true, if_false, Int.reduceEq, true_and] at hgs
   repeat' (first | (with_reducible refine sk ?_; intro K hK) | ((with_reducible first | refine rg (md := { base := 600, own := [], imp := [] }) (h := ?_) | refine rgS [2, 3, 4, 5, 6] (md := { base := 600, own := [], imp := [] }) (h := ?_) | refine nx ?_); try simp (disch := omega) only [k1, k2, k3, k4, y2, y3, y4,go_sem, simprocAttr]) | (with_reducible refine bk ?_) | ((with_reducible refine' cE ?hv ?_ ?_); (case hv => first | rfl | (simp only [k1, k2, k3, k4, y2, y3, y4,go_sem, simprocAttr]; rfl)); all_goals (intro hc; (try simp only [go_sem, simprocAttr] at hc); try (exfalso; omega))) | ((with_reducible first | refine grdS_split ?_ ?_ | refine lkG_split ?_ ?_) <;> intro hg <;> (try simp (disch := omega) only [hg, k1, k2, k3, k4, y2, y3, y4,go_sem, simprocAttr]) <;> (try simp only [go_sem, simprocAttr] at hg) <;> (try (exfalso; omega))) | with_reducible intro (ep : Nat → Nat) | with_reducible apply_assumption -exfalso -symm only [*])
   exact FnQ_end (Or.inl rfl) (.refl _) (by simp only [Try.f69, go_sem, simprocAttr, k2]; rfl) ⟨by rw [hG, ← hgs]; simp only [cTold, go_sem, simprocAttr], fun j hj => by (repeat rw [upd_ne _ _ (by omega)]); exact yl j hj⟩
def lackV (t : LackT) : Val := .agg [.int .u8 t.known, .int .i64 t.head, .lst 1 (ints t.out)]
theorem cTold_weak (n : NetT) (h0 : 0 ≤ n.out) (hs : List HeadT) {G : Gh} {w : World} {x : Value} (h : VR G w (.agg (cTold (getsS n hs))) x) : VR G w (lackV (getsS n hs)) x := by
 have hf := gets_facts h0 hs
 unfold cTold at h
 unfold lackV
 split at h
 ·rename_i hk
  rw [(hf.yes hk).2.1]
  exact h.agg3_nils
 ·exact h
theorem getsV_ok (n : NetT) (hF : NetF n) (hs : List HeadT) (h5 : heads500 hs) (hsl : hs.length ≤ 12) (hnd : ∀ h ∈ hs, 1 ≤ h.node ∧ h.node ≤ n.pipes.length) (e36 e33 e34 ver : Nat) (H0 : Hp)
  (g36 : H0 436 = some (e36, .fro 10 [cPlant n hs e33 e34 (n.pipes.length + 1)])) (g33 : H0 433 = some (e33, .arr 1 (ints (flowL n.pipes (n.pipes.length + 1) hs)))) (g34 : H0 434 = some (e34, .map ver []))
  (hroom : ∀ j, 600 ≤ j → H0 j = none) (h100 : H0 100 = none) :
  ACall Try.prog 69 [.ptr 436 e36 10 0 0] H0 fun v H' => v = lackV (getsS n hs) ∧ ∀ j, j < 100 → H' j = H0 j :=
 (gets_ok n hF hs h5 hsl hnd e36 e33 e34 ver H0 g36 g33 g34 hroom h100).weak fun G w x h => cTold_weak n hF.out.1 hs h
end Cp
namespace Cp
open Go Go.Proofs
set_option maxRecDepth 10000
set_option maxHeartbeats 1000000
def lackN : Val := .agg [.int .u8 0, .int .i64 0, .nils]
def lackZ : LackT := ⟨0, 0, []⟩
def getsD (z : Val) (n : NetT) (l : List Int) : Val := if netOK n = true then (if openOK n.heads l = true then .tup [lackV (getsS n (openH n.heads l)), .int .i64 0] else .tup [z, .int .i64 2]) else .tup [z, .int .i64 50]
theorem lackV_noid {t : LackT} : noid (lackV t) = true := by simp only [lackV, noid, noids, noid_ints]; rfl
theorem Gets_ok0 (n : NetT) (hs : NetS n) (l : List Int) (hl : l.length ≤ 100000) : PureC Try.prog 26 [encNet n, .lst 1 (ints l)] (getsD lackN n l) := by
 have hnoid : noid (getsD lackN n l) = true := by unfold getsD; split <;> (try split) <;> (simp only [noid, noids, noidss, lackN, lackV_noid, go_sem, simprocAttr]; rfl)
 have hop := fun H0 => opened_ok n hs l hl H0
 unfold openR at hop
 have hpl := hs.pipes
 simp only [encNet, cNet] at hop
 refine PureC_of (fn := Try.f26) tabOK (by kernel_rfl) rfl (by kernel_rfl) (by simp [Try.f26]) (by simp [noids, noid, noidss, go_sem, encNet, cNet, hnoid]) (by first | rfl | simp [noids, noid, noidss, go_sem, encNet, cNet, hnoid]) ?_
 intro X hX0 hXs
 unfold getsD
 cases hN : netOK n with
 | false =>
  simp only [hN, Bool.false_eq_true, if_false] at hop
  repeat' (first | (with_reducible refine sk ?_; intro K hK) | ((first | (with_reducible first | refine rg (md := { base := 0, own := [4], imp := [11, 19] }) (h := ?_) | refine rgS [4] (md := { base := 0, own := [4], imp := [11, 19] }) (h := ?_) | refine nx ?_) | refine pK (hop _) ?_); try simp (disch := omega) only [encNet, cNet,go_sem, simprocAttr]) | (with_reducible refine bk ?_) | ((with_reducible refine' cE ?hv ?_ ?_); (case hv => first | rfl | (simp only [encNet, cNet,go_sem, simprocAttr]; rfl)); all_goals (intro hc; (try simp only [go_sem, simprocAttr] at hc); try (exfalso; omega))) | (first | refine iK (hop _) ?_) | ((with_reducible refine fe ?_); refine ⟨_, (by simp only [Try.f26, encNet, cNet,go_sem, simprocAttr]; rfl), ?_⟩; first | rfl | (try simp only [encNet, cNet,go_sem, simprocAttr, seval])) | with_reducible intro (ep : Nat → Nat) | with_reducible apply_assumption -exfalso -symm only [*])
  rintro v H3 ⟨hlow, rfl⟩
  have g4 := hlow 4 (by decide)
  simp only [go_sem, simprocAttr] at g4
  simp only [go_sem, simprocAttr]
  repeat' (first | (with_reducible refine sk ?_; intro K hK) | ((with_reducible first | refine rg (md := { base := 0, own := [4], imp := [11, 19] }) (h := ?_) | refine rgS [4] (md := { base := 0, own := [4], imp := [11, 19] }) (h := ?_) | refine nx ?_); try simp (disch := omega) only [g4, lackN,go_sem, simprocAttr]) | (with_reducible refine bk ?_) | ((with_reducible refine' cE ?hv ?_ ?_); (case hv => first | rfl | (simp only [g4, lackN,go_sem, simprocAttr]; rfl)); all_goals (intro hc; (try simp only [go_sem, simprocAttr] at hc); try (exfalso; omega))) | ((with_reducible refine fe ?_); refine ⟨_, (by simp only [Try.f26, g4, lackN,go_sem, simprocAttr]; rfl), ?_⟩; first | rfl | (try simp only [g4, lackN,go_sem, simprocAttr, seval])) | with_reducible intro (ep : Nat → Nat) | with_reducible apply_assumption -exfalso -symm only [*])
 | true =>
  have hF := net_facts hN
  cases hO : openOK n.heads l with
  | false =>
   simp only [hN, hO, Bool.false_eq_true, if_false, if_true] at hop
   repeat' (first | (with_reducible refine sk ?_; intro K hK) | ((first | (with_reducible first | refine rg (md := { base := 0, own := [4], imp := [11, 19] }) (h := ?_) | refine rgS [4] (md := { base := 0, own := [4], imp := [11, 19] }) (h := ?_) | refine nx ?_) | refine pK (hop _) ?_); try simp (disch := omega) only [encNet, cNet,go_sem, simprocAttr]) | (with_reducible refine bk ?_) | ((with_reducible refine' cE ?hv ?_ ?_); (case hv => first | rfl | (simp only [encNet, cNet,go_sem, simprocAttr]; rfl)); all_goals (intro hc; (try simp only [go_sem, simprocAttr] at hc); try (exfalso; omega))) | (first | refine iK (hop _) ?_) | ((with_reducible refine fe ?_); refine ⟨_, (by simp only [Try.f26, encNet, cNet,go_sem, simprocAttr]; rfl), ?_⟩; first | rfl | (try simp only [encNet, cNet,go_sem, simprocAttr, seval])) | with_reducible intro (ep : Nat → Nat) | with_reducible apply_assumption -exfalso -symm only [*])
   rintro v H3 ⟨hlow, rfl⟩
   have g4 := hlow 4 (by decide)
   simp only [go_sem, simprocAttr] at g4
   simp only [go_sem, simprocAttr]
   repeat' (first | (with_reducible refine sk ?_; intro K hK) | ((with_reducible first | refine rg (md := { base := 0, own := [4], imp := [11, 19] }) (h := ?_) | refine rgS [4] (md := { base := 0, own := [4], imp := [11, 19] }) (h := ?_) | refine nx ?_); try simp (disch := omega) only [g4, lackN,go_sem, simprocAttr]) | (with_reducible refine bk ?_) | ((with_reducible refine' cE ?hv ?_ ?_); (case hv => first | rfl | (simp only [g4, lackN,go_sem, simprocAttr]; rfl)); all_goals (intro hc; (try simp only [go_sem, simprocAttr] at hc); try (exfalso; omega))) | ((with_reducible refine fe ?_); refine ⟨_, (by simp only [Try.f26, g4, lackN,go_sem, simprocAttr]; rfl), ?_⟩; first | rfl | (try simp only [g4, lackN,go_sem, simprocAttr, seval])) | with_reducible intro (ep : Nat → Nat) | with_reducible apply_assumption -exfalso -symm only [*])
  | true =>
   simp only [hN, hO, if_true] at hop
   repeat' (first | (with_reducible refine sk ?_; intro K hK) | ((first | (with_reducible first | refine rg (md := { base := 0, own := [4], imp := [11, 19] }) (h := ?_) | refine rgS [4] (md := { base := 0, own := [4], imp := [11, 19] }) (h := ?_) | refine nx ?_) | refine pK (hop _) ?_); try simp (disch := omega) only [encNet, cNet,go_sem, simprocAttr]) | (with_reducible refine bk ?_) | ((with_reducible refine' cE ?hv ?_ ?_); (case hv => first | rfl | (simp only [encNet, cNet,go_sem, simprocAttr]; rfl)); all_goals (intro hc; (try simp only [go_sem, simprocAttr] at hc); try (exfalso; omega))) | (first | refine iK (hop _) ?_) | ((with_reducible refine fe ?_); refine ⟨_, (by simp only [Try.f26, encNet, cNet,go_sem, simprocAttr]; rfl), ?_⟩; first | rfl | (try simp only [encNet, cNet,go_sem, simprocAttr, seval])) | with_reducible intro (ep : Nat → Nat) | with_reducible apply_assumption -exfalso -symm only [*])
   rintro v H3 ⟨hlow, e36, e33, e34, ver, rfl, h36, h33, h34⟩
   have g4 := hlow 4 (by decide)
   simp only [go_sem, simprocAttr] at g4
   simp only [go_sem, simprocAttr]
   repeat' (first | ((fail_if_success (with_reducible refine AW_at (id := 4) ?_)); with_reducible refine sk ?_; intro K hK) | ((with_reducible first | refine rg (md := { base := 0, own := [4], imp := [11, 19] }) (h := ?_) | refine rgS [4] (md := { base := 0, own := [4], imp := [11, 19] }) (h := ?_) | refine nx ?_); try simp (disch := omega) only [h36, h33, h34, g4,go_sem, simprocAttr]) | (with_reducible refine bk ?_) | ((with_reducible refine' cE ?hv ?_ ?_); (case hv => first | rfl | (simp only [h36, h33, h34, g4,go_sem, simprocAttr]; rfl)); all_goals (intro hc; (try simp only [go_sem, simprocAttr] at hc); try (exfalso; omega))) | ((with_reducible refine fe ?_); refine ⟨_, (by simp only [Try.f26, h36, h33, h34, g4,go_sem, simprocAttr]; rfl), ?_⟩; first | rfl | (try simp only [h36, h33, h34, g4,go_sem, simprocAttr, seval])) | with_reducible intro (ep : Nat → Nat) | with_reducible apply_assumption -exfalso -symm only [*])
   refine AW_freeze 436 h36 ?_
   refine AW_keep [4, 433, 434, 436] ?_
   obtain ⟨H4, hH4⟩ : ∃ H4, keep (upd H3 436 (some (e36, .fro 10 [cPlant n (openH n.heads l) e33 e34 (n.pipes.length + 1)]))) [4, 433, 434, 436] = H4 := ⟨_, rfl⟩
   have k36 : H4 436 = some (e36, .fro 10 [cPlant n (openH n.heads l) e33 e34 (n.pipes.length + 1)]) := by rw [← hH4]; rfl
   have k33 : H4 433 = some (e33, .arr 1 (ints (flowL n.pipes (n.pipes.length + 1) (openH n.heads l)))) := by rw [← hH4]; exact h33
   have k34 : H4 434 = some (e34, .map ver []) := by rw [← hH4]; exact h34
   have k4 := (congrFun hH4 4).symm.trans g4
   have kr : ∀ j, 600 ≤ j → H4 j = none := fun j hj => by
    rw [← hH4]; unfold keep; rw [if_neg]; simp; omega
   have k100 : H4 100 = none := by rw [← hH4]; rfl
   rw [hH4]
   clear hH4 h36 h33 h34 g4 hlow hop
   have hgo := getsV_ok n hF _ (openH_500 hF l) (by have := open_le hF.ids hO; have := @openH_len n.heads l; have := hF.heads; omega) (fun h hm => openH_node hF hm) e36 e33 e34 ver H4 k36 k33 k34 kr k100
   repeat' (first | (with_reducible refine sk ?_; intro K hK) | ((first | (with_reducible first | refine rg (md := { base := 0, own := [4], imp := [11, 19] }) (h := ?_) | refine rgS [4] (md := { base := 0, own := [4], imp := [11, 19] }) (h := ?_) | refine nx ?_) | refine pK (hgo) ?_); try simp (disch := omega) only [k36, k4,go_sem, simprocAttr]) | (with_reducible refine bk ?_) | ((with_reducible refine' cE ?hv ?_ ?_); (case hv => first | rfl | (simp only [k36, k4,go_sem, simprocAttr]; rfl)); all_goals (intro hc; (try simp only [go_sem, simprocAttr] at hc); try (exfalso; omega))) | (first | refine iK (hgo) ?_) | with_reducible intro (ep : Nat → Nat) | with_reducible apply_assumption -exfalso -symm only [*])
   rintro v H5 ⟨rfl, hlow⟩
   have g4 := (hlow 4 (by decide)).trans k4
   simp only [go_sem, simprocAttr, lackV, g4]
   repeat' (first | (with_reducible refine sk ?_; intro K hK) | ((with_reducible first | refine rg (md := { base := 0, own := [4], imp := [11, 19] }) (h := ?_) | refine rgS [4] (md := { base := 0, own := [4], imp := [11, 19] }) (h := ?_) | refine nx ?_); try simp (disch := omega) only [g4, lackV,go_sem, simprocAttr]) | (with_reducible refine bk ?_) | ((with_reducible refine' cE ?hv ?_ ?_); (case hv => first | rfl | (simp only [g4, lackV,go_sem, simprocAttr]; rfl)); all_goals (intro hc; (try simp only [go_sem, simprocAttr] at hc); try (exfalso; omega))) | ((with_reducible refine fe ?_); refine ⟨_, (by simp only [Try.f26, g4, lackV,go_sem, simprocAttr]; rfl), ?_⟩; first | rfl | (try simp only [g4, lackV,go_sem, simprocAttr, seval])) | with_reducible intro (ep : Nat → Nat) | with_reducible apply_assumption -exfalso -symm only [*])
theorem Gets_ok (n : NetT) (hs : NetS n) (l : List Int) (hl : l.length ≤ 100000) : PureC Try.prog 26 [encNet n, .lst 1 (ints l)] (getsD (lackV lackZ) n l) := by
 refine (Gets_ok0 n hs l hl).weak ?_ fun G w x h => ?_
 ·unfold getsD; split <;> (try split) <;> (simp only [noid, noids, noidss, lackV_noid, go_sem, simprocAttr]; rfl)
 ·have key : ∀ e, VR G w (.tup [lackN, .int .i64 e]) x → VR G w (.tup [lackV lackZ, .int .i64 e]) x := fun e h => by
   refine VR.tup_imp (vs := [lackN, .int .i64 e]) rfl (fun i v v' h1 h2 y hy => ?_) h
   match i, h1, h2 with
   | 0, h1, h2 => cases h1; cases h2; exact hy.agg3_nils
   | 1, h1, h2 => cases h1; cases h2; exact hy
  unfold getsD at h ⊢
  split
  ·rename_i hN
   rw [if_pos hN] at h
   split
   ·rename_i hO
    rw [if_pos hO] at h
    exact h
   ·rename_i hO
    rw [if_neg hO] at h
    exact key _ h
  ·rename_i hN
   rw [if_neg hN] at h
   exact key _ h
end Cp
namespace Cp
open Go Go.Proofs
set_option maxRecDepth 10000
set_option maxHeartbeats 4000000
theorem true_law (n : NetT) (b : Int) (b0 : 0 ≤ b) (b1 : b ≤ 255) (c : Int) (c0 : 0 ≤ c) (c1 : c ≤ 255) (by1 : List Int) (hby : By by1) (_ : by1.length ≤ maxLen) : PureC Try.prog 6 [encNet n, .int .u8 b, .int .u8 c, .lst 1 (by1.map c32)] (.bool true) := by
 have hrd := ready_ok n
 simp only [encNet, cNet] at hrd
 by_cases hr : (!greatN n && netOK n) = true
 ·have hr2 : greatN n = false ∧ netOK n = true := by simpa using hr
  have hs := great_small hr2.1
  have hF := net_facts hr2.2
  have hpq := hF.pumps
  have hhl := hF.heads
  rw [hr] at hrd
  have hso := some_ok n (by omega) b ⟨b0, b1⟩
  have hid := idle_ok n (by omega) c ⟨c0, c1⟩
  have hopen := some_ok' hF b
  have hno := idle_ok' hF c
  obtain ⟨ho1, ho2⟩ := okL_none hopen
  obtain ⟨q1, q2, q3⟩ := out_facts hno
  have hol : (someL n.heads b).length ≤ n.heads.length := someF_len
  have hoo := hF.out
  have hpr := Press_ok n hs (someL n.heads b) (by omega) (idleL n c) (by omega)
  unfold pressT pressV at hpr
  rw [if_pos hr2.2, if_pos ⟨hopen, hno⟩] at hpr
  have hgt := Gets_ok n hs (someL n.heads b) (by omega)
  unfold getsD at hgt
  rw [if_pos hr2.2, if_pos hopen] at hgt
  have han := anything_ok n hF by1 hby
  have hT := any_tru hF hby
  have hps := presses_ok n hF (someL n.heads b) (by omega) (idleL n c) hno _ _ hT (pickS n.tank (chI by1 0))
  have hwl := well_ok n hF (someL n.heads b) (by omega) hopen (idleL n c) hno _ _ hT (pickS n.tank (chI by1 0))
  have hof : openH n.heads (someL n.heads b) = opF n.heads (someL n.heads b) := open_filter hF.ids ho2 ho1
  rw [← hof] at hps
  have hlen := openH_len' ho1
  have h5 := openH_500 hF (someL n.heads b)
  have hnd := fun h hm => openH_node hF (l := someL n.heads b) (h := h) hm
  have hbt := fun h hm => any_press hF hby h5 hno (hnd h hm)
  obtain ⟨k2, k0⟩ := true_known hF hby h5 hnd hno
  have hkn := (gets_facts hF.out.1 (openH n.heads (someL n.heads b))).kn
  obtain ⟨O, hO⟩ : ∃ O, someL n.heads b = O := ⟨_, rfl⟩
  obtain ⟨I, hI⟩ : ∃ I, idleL n c = I := ⟨_, rfl⟩
  simp only [hO] at *
  simp only [hI] at *
  obtain ⟨L, hL⟩ : ∃ L, openH n.heads O = L := ⟨_, rfl⟩
  simp only [hL] at *
  obtain ⟨FU, hFU⟩ : ∃ x, n.pumps.mapIdx (anyFull by1) = x := ⟨_, rfl⟩
  obtain ⟨FO, hFO⟩ : ∃ x, n.pipes.mapIdx (anyFoul by1) = x := ⟨_, rfl⟩
  obtain ⟨TK, hTK⟩ : ∃ x, pickS n.tank (chI by1 0) = x := ⟨_, rfl⟩
  simp only [hFU, hFO, hTK] at *
  obtain ⟨W, hW⟩ : ∃ W, wellG n L I FU FO TK = W := ⟨_, rfl⟩
  obtain ⟨⟨kn, hd, ou⟩, hG⟩ : ∃ G, getsS n L = G := ⟨_, rfl⟩
  rw [hW] at k2 k0 hwl
  rw [hG] at k2 k0 hkn hgt
  simp only at k2 k0 hkn
  simp only [lackV] at hgt
  have hge : ∀ (k : Nat) (x : HeadT), L[k]? = some x → (L.map (spanS n L I))[k]? = some ⟨pressS n L I false x, pressS n L I true x⟩ ∧ (L.map (pressG n L I FU FO))[k]? = some (pressG n L I FU FO x) := fun k x hx => by
   simp [hx, spanS]
  have hl0 : (L.map (spanS n L I)).length = L.length := List.length_map ..
  have hl1 : (L.map (pressG n L I FU FO)).length = L.length := List.length_map ..
  obtain ⟨S, hS⟩ : ∃ S, L.map (spanS n L I) = S := ⟨_, rfl⟩
  obtain ⟨A, hA⟩ : ∃ A, L.map (pressG n L I FU FO) = A := ⟨_, rfl⟩
  rw [hS] at hpr hl0
  rw [hA] at hps hl1
  simp only [hS, hA] at hge
  simp only [encNet, cNet, truV] at hso hid hpr hps hgt han hwl
  have hSO : (S.length : Int) = O.length := by omega
  have hkb : kn ≤ 2 := by omega
  refine PureC_of (fn := Try.f6) tabOK (by kernel_rfl) rfl (by kernel_rfl) (by simp [Try.f6]) (by simp [noids, noid, noidss, go_sem, encNet, cNet]) (by first | rfl | simp [noids, noid, noidss, go_sem, encNet, cNet]) ?_
  intro X hX0 hXs
  repeat' (first | ((fail_if_success (with_reducible refine AW_at (id := 12) ?_)); with_reducible refine sk ?_; intro K hK) | ((first | (with_reducible first | refine rg (md := { base := 0, own := [14, 16] }) (h := ?_) | refine rgS [14, 16] (md := { base := 0, own := [14, 16] }) (h := ?_) | refine nx ?_) | refine pK (alive_run) ?_ | refine pK (hrd) ?_ | refine pK (hso) ?_ | refine pK (hid) ?_ | refine pK (hpr) ?_ | refine pK (hgt) ?_ | refine pK (han) ?_ | refine pK (hps) ?_ | refine pK (hwl) ?_); try simp (disch := omega) only [encNet, cNet, hSO, hkb, List.length_map,go_sem, simprocAttr]) | (with_reducible refine bk ?_) | ((with_reducible refine' cE ?hv ?_ ?_); (case hv => first | rfl | (simp only [encNet, cNet, hSO, hkb, List.length_map,go_sem, simprocAttr]; rfl)); all_goals (intro hc; (try simp only [go_sem, simprocAttr] at hc); try (exfalso; omega))) | ((with_reducible first | refine grdS_split ?_ ?_ | refine lkG_split ?_ ?_) <;> intro hg <;> (try simp (disch := omega) only [hg, encNet, cNet, hSO, hkb, List.length_map,go_sem, simprocAttr]) <;> (try simp only [go_sem, simprocAttr] at hg) <;> (try (exfalso; omega))) | ((with_reducible refine fe ?_); refine ⟨_, (by simp only [Try.f6, encNet, cNet, hSO, hkb, List.length_map,go_sem, simprocAttr]; rfl), ?_⟩; first | rfl | (try simp only [encNet, cNet, hSO, hkb, List.length_map,go_sem, simprocAttr, seval])) | with_reducible intro (ep : Nat → Nat) | with_reducible apply_assumption -exfalso -symm only [*])
  have hcut : ∀ e14 e16 f H, (f 4 = .pim (cNet n) ∧ f 9 = .bool true ∧ f 10 = .lst 1 (ints O) ∧ f 11 = .lst 1 (ints I) ∧ f 14 = .ptr 14 e14 3 0 0 ∧ f 16 = .ptr 16 e16 3 0 0) ∧ (H 14 = some (e14, .arr 3 [[.int .u8 kn, .int .i64 hd, .lst 1 (ints ou)]]) ∧ H 16 = some (e16, .arr 3 [[.lst 1 (ints FU), .lst 1 (ints FO), .int .i64 TK]])) → K f H := by
   rintro e14 e16 f H ⟨⟨h4, h9, h10, h11, h14, h16⟩, g14, g16⟩
   refine hK f H ?_
   clear hK
   rcases hkn with rfl | rfl | rfl
   ·rw [k0 rfl] at hwl
    repeat' (first | (with_reducible refine sk ?_; intro K hK) | ((first | (with_reducible first | refine rg (md := { base := 0, own := [14, 16] }) (h := ?_) | refine rgS [14, 16] (md := { base := 0, own := [14, 16] }) (h := ?_) | refine nx ?_) | refine pK (hwl) ?_); try simp (disch := omega) only [h4, h9, h10, h11, h14, h16, g14, g16, cNet,go_sem, simprocAttr]) | (with_reducible refine bk ?_) | ((with_reducible refine' cE ?hv ?_ ?_); (case hv => first | rfl | (simp only [h4, h9, h10, h11, h14, h16, g14, g16, cNet,go_sem, simprocAttr]; rfl)); all_goals (intro hc; (try simp only [go_sem, simprocAttr] at hc); try (exfalso; omega))) | ((with_reducible first | refine grdS_split ?_ ?_ | refine lkG_split ?_ ?_) <;> intro hg <;> (try simp (disch := omega) only [hg, h4, h9, h10, h11, h14, h16, g14, g16, cNet,go_sem, simprocAttr]) <;> (try simp only [go_sem, simprocAttr] at hg) <;> (try (exfalso; omega))) | ((with_reducible refine fe ?_); refine ⟨_, (by simp only [Try.f6, h4, h9, h10, h11, h14, h16, g14, g16, cNet,go_sem, simprocAttr]; rfl), ?_⟩; first | rfl | (try simp only [h4, h9, h10, h11, h14, h16, g14, g16, cNet,go_sem, simprocAttr, seval])) | with_reducible intro (ep : Nat → Nat) | with_reducible apply_assumption -exfalso -symm only [*])
   ·cases W
    ·repeat' (first | (with_reducible refine sk ?_; intro K hK) | ((first | (with_reducible first | refine rg (md := { base := 0, own := [14, 16] }) (h := ?_) | refine rgS [14, 16] (md := { base := 0, own := [14, 16] }) (h := ?_) | refine nx ?_) | refine pK (hwl) ?_); try simp (disch := omega) only [h4, h9, h10, h11, h14, h16, g14, g16, cNet,go_sem, simprocAttr]) | (with_reducible refine bk ?_) | ((with_reducible refine' cE ?hv ?_ ?_); (case hv => first | rfl | (simp only [h4, h9, h10, h11, h14, h16, g14, g16, cNet,go_sem, simprocAttr]; rfl)); all_goals (intro hc; (try simp only [go_sem, simprocAttr] at hc); try (exfalso; omega))) | ((with_reducible first | refine grdS_split ?_ ?_ | refine lkG_split ?_ ?_) <;> intro hg <;> (try simp (disch := omega) only [hg, h4, h9, h10, h11, h14, h16, g14, g16, cNet,go_sem, simprocAttr]) <;> (try simp only [go_sem, simprocAttr] at hg) <;> (try (exfalso; omega))) | ((with_reducible refine fe ?_); refine ⟨_, (by simp only [Try.f6, h4, h9, h10, h11, h14, h16, g14, g16, cNet,go_sem, simprocAttr]; rfl), ?_⟩; first | rfl | (try simp only [h4, h9, h10, h11, h14, h16, g14, g16, cNet,go_sem, simprocAttr, seval])) | with_reducible intro (ep : Nat → Nat) | with_reducible apply_assumption -exfalso -symm only [*])
    ·repeat' (first | (with_reducible refine sk ?_; intro K hK) | ((first | (with_reducible first | refine rg (md := { base := 0, own := [14, 16] }) (h := ?_) | refine rgS [14, 16] (md := { base := 0, own := [14, 16] }) (h := ?_) | refine nx ?_) | refine pK (hwl) ?_); try simp (disch := omega) only [h4, h9, h10, h11, h14, h16, g14, g16, cNet,go_sem, simprocAttr]) | (with_reducible refine bk ?_) | ((with_reducible refine' cE ?hv ?_ ?_); (case hv => first | rfl | (simp only [h4, h9, h10, h11, h14, h16, g14, g16, cNet,go_sem, simprocAttr]; rfl)); all_goals (intro hc; (try simp only [go_sem, simprocAttr] at hc); try (exfalso; omega))) | ((with_reducible first | refine grdS_split ?_ ?_ | refine lkG_split ?_ ?_) <;> intro hg <;> (try simp (disch := omega) only [hg, h4, h9, h10, h11, h14, h16, g14, g16, cNet,go_sem, simprocAttr]) <;> (try simp only [go_sem, simprocAttr] at hg) <;> (try (exfalso; omega))) | ((with_reducible refine fe ?_); refine ⟨_, (by simp only [Try.f6, h4, h9, h10, h11, h14, h16, g14, g16, cNet,go_sem, simprocAttr]; rfl), ?_⟩; first | rfl | (try simp only [h4, h9, h10, h11, h14, h16, g14, g16, cNet,go_sem, simprocAttr, seval])) | with_reducible intro (ep : Nat → Nat) | with_reducible apply_assumption -exfalso -symm only [*])
   ·rw [k2 rfl] at hwl
    repeat' (first | (with_reducible refine sk ?_; intro K hK) | ((first | (with_reducible first | refine rg (md := { base := 0, own := [14, 16] }) (h := ?_) | refine rgS [14, 16] (md := { base := 0, own := [14, 16] }) (h := ?_) | refine nx ?_) | refine pK (hwl) ?_); try simp (disch := omega) only [h4, h9, h10, h11, h14, h16, g14, g16, cNet,go_sem, simprocAttr]) | (with_reducible refine bk ?_) | ((with_reducible refine' cE ?hv ?_ ?_); (case hv => first | rfl | (simp only [h4, h9, h10, h11, h14, h16, g14, g16, cNet,go_sem, simprocAttr]; rfl)); all_goals (intro hc; (try simp only [go_sem, simprocAttr] at hc); try (exfalso; omega))) | ((with_reducible first | refine grdS_split ?_ ?_ | refine lkG_split ?_ ?_) <;> intro hg <;> (try simp (disch := omega) only [hg, h4, h9, h10, h11, h14, h16, g14, g16, cNet,go_sem, simprocAttr]) <;> (try simp only [go_sem, simprocAttr] at hg) <;> (try (exfalso; omega))) | ((with_reducible refine fe ?_); refine ⟨_, (by simp only [Try.f6, h4, h9, h10, h11, h14, h16, g14, g16, cNet,go_sem, simprocAttr]; rfl), ?_⟩; first | rfl | (try simp only [h4, h9, h10, h11, h14, h16, g14, g16, cNet,go_sem, simprocAttr, seval])) | with_reducible intro (ep : Nat → Nat) | with_reducible apply_assumption -exfalso -symm only [*])
  clear hK
  repeat' (first | (with_reducible refine sk ?_; intro K hK) | ((first | (with_reducible first | refine rg (md := { base := 0, own := [14, 16] }) (h := ?_) | refine rgS [14, 16] (md := { base := 0, own := [14, 16] }) (h := ?_) | refine nx ?_) | refine pK (hps) ?_); try simp (disch := omega) only [go_sem, simprocAttr]) | (with_reducible refine bk ?_) | ((with_reducible refine' cE ?hv ?_ ?_); (case hv => first | rfl | (simp only [go_sem, simprocAttr]; rfl)); all_goals (intro hc; (try simp only [go_sem, simprocAttr] at hc); try (exfalso; omega))) | ((with_reducible first | refine grdS_split ?_ ?_ | refine lkG_split ?_ ?_) <;> intro hg <;> (try simp (disch := omega) only [hg, go_sem, simprocAttr]) <;> (try simp only [go_sem, simprocAttr] at hg) <;> (try (exfalso; omega))) | with_reducible intro (ep : Nat → Nat) | with_reducible apply_assumption -exfalso -symm only [*])
  refine AW_range tabOK A.length (fun k f H => ∃ e14 e16, (f 4 = .pim (cNet n) ∧ f 9 = .bool true ∧ f 10 = .lst 1 (ints O) ∧ f 11 = .lst 1 (ints I) ∧ f 12 = .lst 2 (S.map cSpan) ∧ f 14 = .ptr 14 e14 3 0 0 ∧ f 16 = .ptr 16 e16 3 0 0 ∧ f 71 = .lst 1 (ints A)) ∧ (H 14 = some (e14, .arr 3 [[.int .u8 kn, .int .i64 hd, .lst 1 (ints ou)]]) ∧ H 16 = some (e16, .arr 3 [[.lst 1 (ints FU), .lst 1 (ints FO), .int .i64 TK]]))) (by omega) (by rw [hXs]; decide) (by decide) (by (first | rfl | (simp only [go_sem, simprocAttr]; done) | (simp only [go_sem, simprocAttr]; rfl))) (by (first | rfl | (simp only [go_sem, simprocAttr]; done) | (simp only [go_sem, simprocAttr]; rfl)))
   ⟨_, _, by (and_intros <;> first | rfl | (simp only [cNet, go_sem, simprocAttr]; done) | (simp only [cNet, go_sem, simprocAttr]; rfl)), by (and_intros <;> first | rfl | (simp only [go_sem, simprocAttr]; done) | (simp only [go_sem, simprocAttr]; rfl))⟩ ?_ ?_
  ·clear hcut
   rintro k f H hk h73 h72 ⟨e14, e16, ⟨h4, h9, h10, h11, h12, h14, h16, h71⟩, g14, g16⟩
   obtain ⟨x, hx⟩ : ∃ x, L[k]? = some x := ⟨_, List.getElem?_eq_getElem (by omega)⟩
   obtain ⟨x1, x2⟩ := hge k x hx
   obtain ⟨p1, p2⟩ := hbt x (List.mem_of_getElem? hx)
   have p3 : ¬ pressG n L I FU FO x < pressS n L I false x := by omega
   have p4 : ¬ pressS n L I true x < pressG n L I FU FO x := by omega
   repeat' (first | (with_reducible refine sk ?_; intro K hK) | ((with_reducible first | refine rg (md := { base := 0, own := [14, 16] }) (h := ?_) | refine rgS [14, 16] (md := { base := 0, own := [14, 16] }) (h := ?_) | refine nx ?_); try simp (disch := omega) only [h4, h9, h10, h11, h12, h14, h16, h71, h72, h73, g14, g16, x1, x2, p3, p4, cSpan,go_sem, simprocAttr]) | (with_reducible refine bk ?_) | ((with_reducible refine' cE ?hv ?_ ?_); (case hv => first | rfl | (simp only [h4, h9, h10, h11, h12, h14, h16, h71, h72, h73, g14, g16, x1, x2, p3, p4, cSpan,go_sem, simprocAttr]; rfl)); all_goals (intro hc; (try simp only [go_sem, simprocAttr] at hc); try (exfalso; omega))) | ((with_reducible first | refine grdS_split ?_ ?_ | refine lkG_split ?_ ?_) <;> intro hg <;> (try simp (disch := omega) only [hg, h4, h9, h10, h11, h12, h14, h16, h71, h72, h73, g14, g16, x1, x2, p3, p4, cSpan,go_sem, simprocAttr]) <;> (try simp only [go_sem, simprocAttr] at hg) <;> (try (exfalso; omega))) | with_reducible intro (ep : Nat → Nat) | with_reducible apply_assumption -exfalso -symm only [*])
   exact ⟨e14, e16, by (and_intros <;> first | rfl | (simp only [h4, h9, h10, h11, h12, h14, h16, h71, go_sem, simprocAttr]; done) | (simp only [h4, h9, h10, h11, h12, h14, h16, h71, go_sem, simprocAttr]; rfl)), rfl, rfl⟩
  ·rintro f H h73 h72 ⟨e14, e16, ⟨h4, h9, h10, h11, h12, h14, h16, h71⟩, g14, g16⟩
   exact hcut e14 e16 _ _ ⟨by (and_intros <;> first | rfl | (simp only [h4, h9, h10, h11, h14, h16, go_sem, simprocAttr]; done) | (simp only [h4, h9, h10, h11, h14, h16, go_sem, simprocAttr]; rfl)), g14, g16⟩
 ·simp only [Bool.not_eq_true] at hr
  rw [hr] at hrd
  refine PureC_of (fn := Try.f6) tabOK (by kernel_rfl) rfl (by kernel_rfl) (by simp [Try.f6]) (by simp [noids, noid, noidss, go_sem, encNet, cNet]) (by first | rfl | simp [noids, noid, noidss, go_sem, encNet, cNet]) ?_
  intro X hX0 hXs
  repeat' (first | (with_reducible refine sk ?_; intro K hK) | ((first | (with_reducible first | refine rg (md := { base := 0, own := [14, 16] }) (h := ?_) | refine rgS [14, 16] (md := { base := 0, own := [14, 16] }) (h := ?_) | refine nx ?_) | refine pK (alive_run) ?_ | refine pK (hrd) ?_); try simp (disch := omega) only [encNet, cNet,go_sem, simprocAttr]) | (with_reducible refine bk ?_) | ((with_reducible refine' cE ?hv ?_ ?_); (case hv => first | rfl | (simp only [encNet, cNet,go_sem, simprocAttr]; rfl)); all_goals (intro hc; (try simp only [go_sem, simprocAttr] at hc); try (exfalso; omega))) | ((with_reducible first | refine grdS_split ?_ ?_ | refine lkG_split ?_ ?_) <;> intro hg <;> (try simp (disch := omega) only [hg, encNet, cNet,go_sem, simprocAttr]) <;> (try simp only [go_sem, simprocAttr] at hg) <;> (try (exfalso; omega))) | ((with_reducible refine fe ?_); refine ⟨_, (by simp only [Try.f6, encNet, cNet,go_sem, simprocAttr]; rfl), ?_⟩; first | rfl | (try simp only [encNet, cNet,go_sem, simprocAttr, seval])) | with_reducible intro (ep : Nat → Nat) | with_reducible apply_assumption -exfalso -symm only [*])
end Cp
namespace Cp
open Go
theorem fit_map {α : Type} {c : α → List Val} : ∀ {xss : List (List Val)}, (∀ es ∈ xss, ∃ x, es = c x) → ∃ l : List α, xss = l.map c
 | [], _ => ⟨[], rfl⟩
 | es :: xss, h => by
  obtain ⟨x, rfl⟩ := h es (by simp)
  obtain ⟨l, rfl⟩ := fit_map fun es he => h es (List.mem_cons_of_mem _ he)
  exact ⟨x :: l, rfl⟩
theorem fit_slice {T : Tab} {n : Nat} {t e sz : Nat} {vs : List Val} {b b2 s1 : Nat} {z z2 : Val} {p p2 : Bool} {k2 : TK} {α : Type} {c : α → List Val} (ht : T t = some { kind := .slice e, sz := s1, bytes := b, zero := z, plain := p })
  (he : T e = some { kind := k2, sz := sz, bytes := b2, zero := z2, plain := p2 }) (h : Fit T (n + 1) t vs) (hc : ∀ es, Fit T n e es → ∃ x, es = c x) : ∃ l : List α, vs = [.lst sz (l.map c)] := by
 simp only [Fit, ht] at h
 obtain ⟨sz', xss, rfl, hs, _, hx⟩ := h
 rw [he] at hs
 cases hs
 obtain ⟨l, rfl⟩ := fit_map (c := c) fun es hes => hc es (hx es hes).2
 exact ⟨l, rfl⟩
theorem fit_struct {T : Tab} {n : Nat} {t sz : Nat} {vs : List Val} {b : Nat} {z : Val} {p : Bool} {fs : List (Nat × Nat)} (ht : T t = some { kind := .struct fs, sz := sz, bytes := b, zero := z, plain := p }) (h : Fit T (n + 1) t vs) :
  vs.length = sz ∧ ∀ q ∈ fs, ∃ fi, T q.2 = some fi ∧ Fit T n q.2 ((vs.drop q.1).take fi.sz) := by
 simp only [Fit, ht] at h
 exact h
theorem fit_int {T : Tab} {n : Nat} {t : Nat} {vs : List Val} {s b : Nat} {z : Val} {p : Bool} {k : IntKind} (ht : T t = some { kind := .int k, sz := s, bytes := b, zero := z, plain := p }) (h : Fit T (n + 1) t vs) : ∃ m, vs = [.int k m] ∧ (Lit.int k m).wf = true := by
 simp only [Fit, ht] at h
 exact h
theorem fit3 {n : Nat} {vs : List Val} (h : Fit tab (n + 1) 3 vs) : ∃ m, vs = [.int .i64 m] := by
 obtain ⟨m, h, _⟩ := fit_int tab_3 h; exact ⟨m, h⟩
theorem fit_two {n : Nat} {vs : List Val} {t b : Nat} {z : Val} {p : Bool} (ht : tab t = some { kind := .struct [(0, 3), (1, 3)], sz := 2, bytes := b, zero := z, plain := p }) (h : Fit tab (n + 2) t vs) : ∃ x y : Int, vs = [.int .i64 x, .int .i64 y] := by
 obtain ⟨hl, hq⟩ := fit_struct ht h
 match vs, hl with
 | [a, b], _ =>
  obtain ⟨fi, e, h0⟩ := hq (0, 3) (by simp)
  rw [tab_3] at e; cases e
  obtain ⟨fi, e, h1⟩ := hq (1, 3) (by simp)
  rw [tab_3] at e; cases e
  obtain ⟨x, hx⟩ := fit3 h0
  obtain ⟨y, hy⟩ := fit3 h1
  simp at hx hy
  exact ⟨x, y, by rw [hx, hy]⟩
theorem fit_span {n : Nat} {vs : List Val} (h : Fit tab (n + 2) 26 vs) : ∃ s : Span, vs = [.int .i64 s.lo, .int .i64 s.hi] := by
 obtain ⟨x, y, h⟩ := fit_two tab_26 h; exact ⟨⟨x, y⟩, h⟩
theorem fit_map2 {α : Type} {c : α → List Val} {p : α → Prop} : ∀ {xss : List (List Val)}, (∀ es ∈ xss, ∃ x, es = c x ∧ p x) → ∃ l : List α, xss = l.map c ∧ ∀ x ∈ l, p x
 | [], _ => ⟨[], rfl, fun x h => by simp at h⟩
 | es :: xss, h => by
  obtain ⟨x, rfl, hp⟩ := h es (by simp)
  obtain ⟨l, rfl, hl⟩ := fit_map2 fun es he => h es (List.mem_cons_of_mem _ he)
  exact ⟨x :: l, rfl, fun y hy => by rcases List.mem_cons.1 hy with rfl | hy; exact hp; exact hl y hy⟩
theorem fit_pipe {n : Nat} {vs : List Val} (h : Fit tab (n + 3) 89 vs) : ∃ x : PipeT, vs = cPipe x := by
 obtain ⟨hl, hq⟩ := fit_struct tab_89 h
 match vs, hl with
 | [a0, a1, a2, a3], _ =>
  obtain ⟨fi, e0, h0⟩ := hq (0, 3) (by simp)
  rw [tab_3] at e0; cases e0
  obtain ⟨fi, e1, h1⟩ := hq (1, 3) (by simp)
  rw [tab_3] at e1; cases e1
  obtain ⟨fi, e2, h2⟩ := hq (2, 26) (by simp)
  rw [tab_26] at e2; cases e2
  obtain ⟨x0, h0⟩ := fit3 h0
  obtain ⟨x1, h1⟩ := fit3 h1
  obtain ⟨x2, h2⟩ := fit_span h2
  simp at h0 h1 h2
  obtain ⟨h2, h2'⟩ := h2
  exact ⟨⟨x0, x1, x2⟩, by rw [h0, h1, h2, h2']; rfl⟩
theorem fit_head {n : Nat} {vs : List Val} (h : Fit tab (n + 3) 61 vs) : ∃ x : HeadT, vs = cHead x := by
 obtain ⟨hl, hq⟩ := fit_struct tab_61 h
 match vs, hl with
 | [a0, a1, a2, a3, a4, a5, a6, a7], _ =>
  obtain ⟨fi, e0, h0⟩ := hq (0, 3) (by simp)
  rw [tab_3] at e0; cases e0
  obtain ⟨fi, e1, h1⟩ := hq (1, 3) (by simp)
  rw [tab_3] at e1; cases e1
  obtain ⟨fi, e2, h2⟩ := hq (2, 3) (by simp)
  rw [tab_3] at e2; cases e2
  obtain ⟨fi, e3, h3⟩ := hq (3, 3) (by simp)
  rw [tab_3] at e3; cases e3
  obtain ⟨fi, e4, h4⟩ := hq (4, 26) (by simp)
  rw [tab_26] at e4; cases e4
  obtain ⟨fi, e5, h5⟩ := hq (6, 26) (by simp)
  rw [tab_26] at e5; cases e5
  obtain ⟨x0, h0⟩ := fit3 h0
  obtain ⟨x1, h1⟩ := fit3 h1
  obtain ⟨x2, h2⟩ := fit3 h2
  obtain ⟨x3, h3⟩ := fit3 h3
  obtain ⟨x4, h4⟩ := fit_span h4
  obtain ⟨x5, h5⟩ := fit_span h5
  simp at h0 h1 h2 h3 h4 h5
  obtain ⟨h4, h4'⟩ := h4
  obtain ⟨h5, h5'⟩ := h5
  exact ⟨⟨x0, x1, x2, x3, x4, x5⟩, by rw [h0, h1, h2, h3, h4, h4', h5, h5']; rfl⟩
theorem fit_pump {n : Nat} {vs : List Val} (h : Fit tab (n + 3) 94 vs) : ∃ x : PumpT, vs = cPump x := by
 obtain ⟨hl, hq⟩ := fit_struct tab_94 h
 match vs, hl with
 | [a0, a1, a2], _ =>
  obtain ⟨fi, e0, h0⟩ := hq (0, 26) (by simp)
  rw [tab_26] at e0; cases e0
  obtain ⟨fi, e1, h1⟩ := hq (2, 3) (by simp)
  rw [tab_3] at e1; cases e1
  obtain ⟨x0, h0⟩ := fit_span h0
  obtain ⟨x1, h1⟩ := fit3 h1
  simp at h0 h1
  obtain ⟨h0, h0'⟩ := h0
  exact ⟨⟨x0, x1⟩, by rw [h0, h0', h1]; rfl⟩
theorem fit_net {n : Nat} {vs : List Val} (h : Fit tab (n + 5) 28 vs) : ∃ x : NetT, vs = cNet x := by
 obtain ⟨hl, hq⟩ := fit_struct tab_28 h
 match vs, hl with
 | [a0, a1, a2, a3, a4, a5, a6], _ =>
  obtain ⟨fi, e0, h0⟩ := hq (0, 22) (by simp)
  rw [tab_22] at e0; cases e0
  obtain ⟨fi, e1, h1⟩ := hq (1, 23) (by simp)
  rw [tab_23] at e1; cases e1
  obtain ⟨fi, e2, h2⟩ := hq (2, 24) (by simp)
  rw [tab_24] at e2; cases e2
  obtain ⟨fi, e3, h3⟩ := hq (3, 3) (by simp)
  rw [tab_3] at e3; cases e3
  obtain ⟨fi, e4, h4⟩ := hq (4, 26) (by simp)
  rw [tab_26] at e4; cases e4
  obtain ⟨fi, e5, h5⟩ := hq (6, 3) (by simp)
  rw [tab_3] at e5; cases e5
  obtain ⟨x0, h0⟩ := fit_slice tab_22 tab_89 h0 fun es he => fit_pipe he
  obtain ⟨x1, h1⟩ := fit_slice tab_23 tab_61 h1 fun es he => fit_head he
  obtain ⟨x2, h2⟩ := fit_slice tab_24 tab_94 h2 fun es he => fit_pump he
  obtain ⟨x3, h3⟩ := fit3 h3
  obtain ⟨x4, h4⟩ := fit_span h4
  obtain ⟨x5, h5⟩ := fit3 h5
  simp at h0 h1 h2 h3 h4 h5
  obtain ⟨h4, h4'⟩ := h4
  exact ⟨⟨x0, x1, x2, x3, x4, x5⟩, by rw [h0, h1, h2, h3, h4, h4', h5]; rfl⟩
theorem arg_byte {a : Val} (h : FitV tab 8 5 a) : ∃ m, a = .int .u8 m ∧ 0 ≤ m ∧ m ≤ 255 := by
 obtain ⟨ti, cs, e, h, _, rfl⟩ := h
 obtain ⟨m, rfl, hw⟩ := fit_int tab_5 h
 rw [tab_5] at e; cases e
 simp [Lit.wf, IntKind.min, IntKind.max, IntKind.signed, IntKind.bits] at hw
 exact ⟨m, rfl, by omega, by omega⟩
theorem arg_by {a : Val} (h : FitV tab 8 72 a) : ∃ l : List Int, a = .lst 1 (l.map c32) ∧ By l ∧ l.length ≤ maxLen := by
 obtain ⟨ti, cs, e, h, _, rfl⟩ := h
 have hk : ∀ n, Fit tab (n + 1) 72 cs → ∃ sz xss, cs = [.lst sz xss] ∧ (tab 90).map (·.sz) = some sz ∧ xss.length ≤ maxLen ∧ ∀ es ∈ xss, es.length = sz ∧ Fit tab n 90 es := fun n h => by
  simp only [Fit, tab_72] at h; exact h
 obtain ⟨sz, xss, rfl, hs, hln, hx⟩ := hk 7 h
 rw [tab_90] at hs; cases hs
 obtain ⟨l, rfl, hl⟩ := fit_map2 (c := c32) (p := fun m => 0 ≤ m ∧ m ≤ 4294967295) fun es hes => by
  obtain ⟨m, rfl, hw⟩ := fit_int tab_90 (hx es hes).2
  simp [Lit.wf, IntKind.min, IntKind.max, IntKind.signed, IntKind.bits] at hw
  exact ⟨m, rfl, by omega, by omega⟩
 rw [tab_72] at e; cases e; exact ⟨l, rfl, hl, by simpa using hln⟩
theorem arg_net {a : Val} (h : FitV tab 8 28 a) : ∃ x : NetT, a = encNet x := by
 obtain ⟨ti, cs, e, h, _, rfl⟩ := h
 obtain ⟨l, rfl⟩ := fit_net h
 rw [tab_28] at e; cases e; exact ⟨l, rfl⟩
end Cp
