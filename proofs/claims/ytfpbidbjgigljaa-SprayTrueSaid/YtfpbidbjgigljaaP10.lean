/- Rules, facts and contracts that the statement's proof leans on. Conditions: none. -/
import Derived.Test.YtfpbidbjgigljaaP9
set_option linter.unusedVariables false
set_option linter.unusedSimpArgs false
set_option linter.unusedSectionVars false
namespace Cp
open Go Go.Proofs
set_option maxRecDepth 10000
set_option maxHeartbeats 1000000
theorem press1_ok (j : Int) (h : PumpT) : PureC Try.prog 57 [.int .i64 j, .agg (cPump h)] (.int .i64 j) := by
 refine PureC_of (fn := Try.f57) tabOK (by kernel_rfl) rfl (by kernel_rfl) (by simp [Try.f57]) (by simp [noids, noid, noidss, go_sem, cPump]) (by first | rfl | simp [noids, noid, noidss, go_sem, cPump]) ?_
 intro X hX0 hXs
 repeat' (first | (with_reducible refine sk ?_; intro K hK) | ((with_reducible first | refine rg (h := ?_) | refine nx ?_); try simp (disch := omega) only [cPump,go_sem, simprocAttr]) | (with_reducible refine bk ?_) | ((with_reducible refine' cE ?hv ?_ ?_); (case hv => first | rfl | (simp only [cPump,go_sem, simprocAttr]; rfl)); all_goals (intro hc; (try simp only [go_sem, simprocAttr] at hc); try (exfalso; omega))) | ((with_reducible refine fe ?_); refine ⟨_, (by simp only [Try.f57, cPump,go_sem, simprocAttr]; rfl), ?_⟩; first | rfl | (try simp only [cPump,go_sem, simprocAttr, seval])) | with_reducible intro (ep : Nat → Nat) | with_reducible apply_assumption -exfalso -symm only [*])
def isPm (ps : List PumpT) (i : Int) : Bool := decide (0 ≤ i ∧ i < ps.length)
def outP (ps : List PumpT) (l : List Int) : List PumpT := l.filterMap fun i => ps[i.toNat]?
theorem outP_snoc {ps : List PumpT} {l : List Int} {k : Nat} {n : Int} {x : PumpT} (hk : l[k]? = some n) (hx : ps[n.toNat]? = some x) : outP ps (l.take (k + 1)) = outP ps (l.take k) ++ [x] := by
 unfold outP; rw [take_snoc' hk, List.filterMap_append]; simp [hx]
theorem isPm_at (ps : List PumpT) (x : Int) : (isPm ps x = false ∧ lastI (fun j => decide ((j : Int) = x)) ps.length = -1) ∨ ∃ (i : Nat) (y : PumpT), ps[i]? = some y ∧ isPm ps x = true ∧ lastI (fun j => decide ((j : Int) = x)) ps.length = i ∧ ps[x.toNat]? = some y := by
 rw [lastI_self]
 by_cases h : 0 ≤ x ∧ x < ps.length
 ·refine .inr ⟨x.toNat, ps[x.toNat]'(by omega), List.getElem?_eq_getElem _, decide_eq_true h, by rw [if_pos h]; omega, List.getElem?_eq_getElem _⟩
 ·exact .inl ⟨decide_eq_false h, by rw [if_neg h]⟩
def listedPT (ps : List PumpT) (l : List Int) : Val := if okL (isPm ps) none l = true then .tup [.lst 3 ((outP ps l).map cPump), .bool true] else .tup [.nils, .bool false]
theorem listedP_ok (ps : List PumpT) (hh : ps.length ≤ 100000) (l : List Int) (hl : l.length ≤ 100000) :
  PureC Try.prog 56 [.lst 3 (ps.map cPump), .lst 1 (ints l), .fn 57 []] (listedPT ps l) := by
 have hnoid : noid (listedPT ps l) = true := by unfold listedPT; split <;> (simp only [noid, noids, noidss, go_sem, simprocAttr, cPump_noid]; rfl)
 refine PureC_of (fn := Try.f56) tabOK (by kernel_rfl) rfl (by kernel_rfl) (by simp [Try.f56]) (by simp [noids, noid, noidss, go_sem, hnoid]) (by first | rfl | simp [noids, noid, noidss, go_sem, hnoid]) ?_
 intro X hX0 hXs
 repeat' (first | (with_reducible refine sk ?_; intro K hK) | ((with_reducible first | refine rg (id := 14) (md := { base := 0, own := [57] }) (h := ?_) | refine rgS (id := 14) [13] (md := { base := 0, own := [57] }) (h := ?_) | refine rg (md := { base := 0, own := [8, 57] }) (h := ?_) | refine rgS [13] (md := { base := 0, own := [8, 57] }) (h := ?_) | refine nx ?_); try simp (disch := omega) only [go_sem, simprocAttr]) | (with_reducible refine bk ?_) | ((with_reducible refine' cE ?hv ?_ ?_); (case hv => first | rfl | (simp only [go_sem, simprocAttr]; rfl)); all_goals (intro hc; (try simp only [go_sem, simprocAttr] at hc); try (exfalso; omega))) | ((with_reducible first | refine grdS_split ?_ ?_ | refine lkG_split ?_ ?_) <;> intro hg <;> (try simp (disch := omega) only [hg, go_sem, simprocAttr]) <;> (try simp only [go_sem, simprocAttr] at hg) <;> (try (exfalso; omega))) | ((with_reducible refine fe ?_); refine ⟨_, (by simp only [Try.f56, go_sem, simprocAttr]; rfl), ?_⟩; first | rfl | (try simp only [go_sem, simprocAttr, seval])) | with_reducible intro (ep : Nat → Nat) | with_reducible apply_assumption -exfalso -symm only [*])
 refine AW_range tabOK l.length (fun k f H => (f 0 = .lst 3 (ps.map cPump) ∧ f 1 = .lst 1 (ints l) ∧ f 2 = .fn 57 [] ∧ f 14 = .lst 1 (ints l)) ∧ (∃ e, f 8 = .gr 8 e (outP ps (l.take k)).length ∧ H 8 = some (e, .arr 3 ((outP ps (l.take k)).map cPump)) ∧ (outP ps (l.take k)).length ≤ k) ∧
   ∃ prev, okL (isPm ps) none l = okL (isPm ps) prev (l.drop k) ∧ (k = 0 ∧ prev = none ∨ ∃ (j : Nat) (y : Int), k = j + 1 ∧ l[j]? = some y ∧ prev = some y)) (by omega) (by rw [hXs]; decide) (by decide) (by (first | rfl | (simp only [go_sem, simprocAttr]; done) | (simp only [go_sem, simprocAttr]; rfl))) (by (first | rfl | (simp only [go_sem, simprocAttr]; done) | (simp only [go_sem, simprocAttr]; rfl)))
  ⟨by (and_intros <;> first | rfl | (simp only [go_sem, simprocAttr]; done) | (simp only [go_sem, simprocAttr]; rfl)), ⟨_, by (first | rfl | (simp only [List.take_zero, outP, List.filterMap_nil, go_sem, simprocAttr]; done) | (simp only [List.take_zero, outP, List.filterMap_nil, go_sem, simprocAttr]; rfl)), by (first | rfl | (simp only [List.take_zero, outP, List.filterMap_nil, go_sem, simprocAttr]; done) | (simp only [List.take_zero, outP, List.filterMap_nil, go_sem, simprocAttr]; rfl)), by simp [outP]⟩, none, by simp, .inl ⟨rfl, rfl⟩⟩ ?_ ?_
 ·rintro k f H hk h16 h15 ⟨⟨h0, h1, h2, h14⟩, ⟨e, h8, hH8, hLk⟩, prev, hr, hp⟩
  obtain ⟨x, hx⟩ : ∃ x, l[k]? = some x := ⟨_, List.getElem?_eq_getElem hk⟩
  rw [drop_cons hx, okL_step] at hr
  refine AW_keep [8] ?_
  repeat' (first | ((fail_if_success (with_reducible refine AW_at (id := 6) ?_)); with_reducible refine sk ?_; intro K hK) | ((with_reducible first | refine rg (id := 14) (md := { base := 0, own := [57] }) (h := ?_) | refine rgS (id := 14) [13] (md := { base := 0, own := [57] }) (h := ?_) | refine rg (md := { base := 0, own := [8, 57] }) (h := ?_) | refine rgS [13] (md := { base := 0, own := [8, 57] }) (h := ?_) | refine nx ?_); try simp (disch := omega) only [h0, h1, h2, h8, h14, h15, h16, hH8, hx,go_sem, simprocAttr]) | (with_reducible refine bk ?_) | ((with_reducible refine' cE ?hv ?_ ?_); (case hv => first | rfl | (simp only [h0, h1, h2, h8, h14, h15, h16, hH8, hx,go_sem, simprocAttr]; rfl)); all_goals (intro hc; (try simp only [go_sem, simprocAttr] at hc); try (exfalso; omega))) | ((with_reducible first | refine grdS_split ?_ ?_ | refine lkG_split ?_ ?_) <;> intro hg <;> (try simp (disch := omega) only [hg, h0, h1, h2, h8, h14, h15, h16, hH8, hx,go_sem, simprocAttr]) <;> (try simp only [go_sem, simprocAttr] at hg) <;> (try (exfalso; omega))) | ((with_reducible refine fe ?_); refine ⟨_, (by simp only [Try.f56, h0, h1, h2, h8, h14, h15, h16, hH8, hx,go_sem, simprocAttr]; rfl), ?_⟩; first | rfl | (try simp only [h0, h1, h2, h8, h14, h15, h16, hH8, hx,go_sem, simprocAttr, seval])) | with_reducible intro (ep : Nat → Nat) | with_reducible apply_assumption -exfalso -symm only [*])
  have hcut : ∀ f H, (f 0 = .lst 3 (ps.map cPump) ∧ f 1 = .lst 1 (ints l) ∧ f 2 = .fn 57 [] ∧ f 14 = .lst 1 (ints l) ∧ f 15 = .int .i64 l.length ∧ f 16 = .int .i64 k ∧ f 8 = .gr 8 e (outP ps (l.take k)).length ∧ f 9 = .int .i64 k ∧ f 10 = .int .i64 x ∧ f 11 = .int .i64 (lastI (fun j => decide ((j : Int) = x)) ps.length)) ∧ H 8 = some (e, .arr 3 ((outP ps (l.take k)).map cPump)) → K f H := by
   clear h0 h1 h2 h8 h14 h15 h16 hH8
   rintro f H ⟨⟨h0, h1, h2, h14, h15, h16, h8, h9, h10, h11⟩, hH8⟩
   refine hK f H ?_
   clear hK
   refine AW_keep [8] ?_
   obtain ⟨L, hLe⟩ : ∃ L, outP ps (l.take k) = L := ⟨_, rfl⟩
   have hsn : ∀ y, ps[x.toNat]? = some y → outP ps (l.take (k + 1)) = L ++ [y] := fun y hy => by rw [← hLe]; exact outP_snoc hx hy
   rw [hLe] at h8 hH8 hLk
   have hL2 : L.length ≤ 1073741823 := by omega
   rcases isPm_at ps x with ⟨a1, a2⟩ | ⟨i, y, a0, a1, a2, a4⟩
   ·rw [a1] at hr
    rw [a2] at h11
    have hres : listedPT ps l = .tup [.nils, .bool false] := by unfold listedPT; rw [hr]; rfl
    rw [hres]
    rcases hp with ⟨rfl, rfl⟩ | ⟨j, z, rfl, hz, rfl⟩
    ·repeat' (first | (with_reducible refine sk ?_; intro K hK) | ((with_reducible first | refine rg (id := 14) (md := { base := 0, own := [57] }) (h := ?_) | refine rgS (id := 14) [13] (md := { base := 0, own := [57] }) (h := ?_) | refine rg (md := { base := 0, own := [8, 57] }) (h := ?_) | refine rgS [13] (md := { base := 0, own := [8, 57] }) (h := ?_) | refine nx ?_); try simp (disch := omega) only [h0, h1, h2, h8, h9, h10, h11, h14, h15, h16, hH8,go_sem, simprocAttr]) | (with_reducible refine bk ?_) | ((with_reducible refine' cE ?hv ?_ ?_); (case hv => first | rfl | (simp only [h0, h1, h2, h8, h9, h10, h11, h14, h15, h16, hH8,go_sem, simprocAttr]; rfl)); all_goals (intro hc; (try simp only [go_sem, simprocAttr] at hc); try (exfalso; omega))) | ((with_reducible first | refine grdS_split ?_ ?_ | refine lkG_split ?_ ?_) <;> intro hg <;> (try simp (disch := omega) only [hg, h0, h1, h2, h8, h9, h10, h11, h14, h15, h16, hH8,go_sem, simprocAttr]) <;> (try simp only [go_sem, simprocAttr] at hg) <;> (try (exfalso; omega))) | ((with_reducible refine fe ?_); refine ⟨_, (by simp only [Try.f56, h0, h1, h2, h8, h9, h10, h11, h14, h15, h16, hH8,go_sem, simprocAttr]; rfl), ?_⟩; first | rfl | (try simp only [h0, h1, h2, h8, h9, h10, h11, h14, h15, h16, hH8,go_sem, simprocAttr, seval])) | with_reducible intro (ep : Nat → Nat) | with_reducible apply_assumption -exfalso -symm only [*])
    ·repeat' (first | (with_reducible refine sk ?_; intro K hK) | ((with_reducible first | refine rg (id := 14) (md := { base := 0, own := [57] }) (h := ?_) | refine rgS (id := 14) [13] (md := { base := 0, own := [57] }) (h := ?_) | refine rg (md := { base := 0, own := [8, 57] }) (h := ?_) | refine rgS [13] (md := { base := 0, own := [8, 57] }) (h := ?_) | refine nx ?_); try simp (disch := omega) only [h0, h1, h2, h8, h9, h10, h11, h14, h15, h16, hH8, hz,go_sem, simprocAttr]) | (with_reducible refine bk ?_) | ((with_reducible refine' cE ?hv ?_ ?_); (case hv => first | rfl | (simp only [h0, h1, h2, h8, h9, h10, h11, h14, h15, h16, hH8, hz,go_sem, simprocAttr]; rfl)); all_goals (intro hc; (try simp only [go_sem, simprocAttr] at hc); try (exfalso; omega))) | ((with_reducible first | refine grdS_split ?_ ?_ | refine lkG_split ?_ ?_) <;> intro hg <;> (try simp (disch := omega) only [hg, h0, h1, h2, h8, h9, h10, h11, h14, h15, h16, hH8, hz,go_sem, simprocAttr]) <;> (try simp only [go_sem, simprocAttr] at hg) <;> (try (exfalso; omega))) | ((with_reducible refine fe ?_); refine ⟨_, (by simp only [Try.f56, h0, h1, h2, h8, h9, h10, h11, h14, h15, h16, hH8, hz,go_sem, simprocAttr]; rfl), ?_⟩; first | rfl | (try simp only [h0, h1, h2, h8, h9, h10, h11, h14, h15, h16, hH8, hz,go_sem, simprocAttr, seval])) | with_reducible intro (ep : Nat → Nat) | with_reducible apply_assumption -exfalso -symm only [*])
   ·rw [a1] at hr
    rw [a2] at h11
    have hi : i < ps.length := (List.getElem?_eq_some_iff.1 a0).1
    have a3 : ¬ (i : Int) < 0 := by omega
    rcases hp with ⟨rfl, rfl⟩ | ⟨j, z, rfl, hz, rfl⟩
    ·replace hsn := hsn y a4
     repeat' (first | (with_reducible refine sk ?_; intro K hK) | ((with_reducible first | refine rg (id := 14) (md := { base := 0, own := [57] }) (h := ?_) | refine rgS (id := 14) [13] (md := { base := 0, own := [57] }) (h := ?_) | refine rg (md := { base := 0, own := [8, 57] }) (h := ?_) | refine rgS [13] (md := { base := 0, own := [8, 57] }) (h := ?_) | refine nx ?_); try simp (disch := omega) only [h0, h1, h2, h8, h9, h10, h11, h14, h15, h16, hH8, a0, a3, hi, hL2, cPump,go_sem, simprocAttr]) | (with_reducible refine bk ?_) | ((with_reducible refine' cE ?hv ?_ ?_); (case hv => first | rfl | (simp only [h0, h1, h2, h8, h9, h10, h11, h14, h15, h16, hH8, a0, a3, hi, hL2, cPump,go_sem, simprocAttr]; rfl)); all_goals (intro hc; (try simp only [go_sem, simprocAttr] at hc); try (exfalso; omega))) | ((with_reducible first | refine grdS_split ?_ ?_ | refine lkG_split ?_ ?_) <;> intro hg <;> (try simp (disch := omega) only [hg, h0, h1, h2, h8, h9, h10, h11, h14, h15, h16, hH8, a0, a3, hi, hL2, cPump,go_sem, simprocAttr]) <;> (try simp only [go_sem, simprocAttr] at hg) <;> (try (exfalso; omega))) | ((with_reducible refine fe ?_); refine ⟨_, (by simp only [Try.f56, h0, h1, h2, h8, h9, h10, h11, h14, h15, h16, hH8, a0, a3, hi, hL2, cPump,go_sem, simprocAttr]; rfl), ?_⟩; first | rfl | (try simp only [h0, h1, h2, h8, h9, h10, h11, h14, h15, h16, hH8, a0, a3, hi, hL2, cPump,go_sem, simprocAttr, seval])) | with_reducible intro (ep : Nat → Nat) | with_reducible apply_assumption -exfalso -symm only [*])
     exact ⟨⟨_, by rw [hsn, List.length_append]; rfl, by rw [hsn, List.map_append]; rfl, by rw [hsn]; simp only [List.length_append, List.length_cons, List.length_nil]; omega⟩, some x, by rw [hr]; simp, .inr ⟨0, x, rfl, hx, rfl⟩⟩
    ·have hj : j < l.length := by omega
     by_cases hle : x ≤ z
     ·have hres : listedPT ps l = .tup [.nils, .bool false] := by
       have : okL (isPm ps) none l = false := by rw [hr]; simp; omega
       unfold listedPT; rw [this]; rfl
      rw [hres]
      repeat' (first | (with_reducible refine sk ?_; intro K hK) | ((with_reducible first | refine rg (id := 14) (md := { base := 0, own := [57] }) (h := ?_) | refine rgS (id := 14) [13] (md := { base := 0, own := [57] }) (h := ?_) | refine rg (md := { base := 0, own := [8, 57] }) (h := ?_) | refine rgS [13] (md := { base := 0, own := [8, 57] }) (h := ?_) | refine nx ?_); try simp (disch := omega) only [h0, h1, h2, h8, h9, h10, h11, h14, h15, h16, hH8, a0, a3, hi, hL2, hz, hj, hle, cPump,go_sem, simprocAttr]) | (with_reducible refine bk ?_) | ((with_reducible refine' cE ?hv ?_ ?_); (case hv => first | rfl | (simp only [h0, h1, h2, h8, h9, h10, h11, h14, h15, h16, hH8, a0, a3, hi, hL2, hz, hj, hle, cPump,go_sem, simprocAttr]; rfl)); all_goals (intro hc; (try simp only [go_sem, simprocAttr] at hc); try (exfalso; omega))) | ((with_reducible first | refine grdS_split ?_ ?_ | refine lkG_split ?_ ?_) <;> intro hg <;> (try simp (disch := omega) only [hg, h0, h1, h2, h8, h9, h10, h11, h14, h15, h16, hH8, a0, a3, hi, hL2, hz, hj, hle, cPump,go_sem, simprocAttr]) <;> (try simp only [go_sem, simprocAttr] at hg) <;> (try (exfalso; omega))) | ((with_reducible refine fe ?_); refine ⟨_, (by simp only [Try.f56, h0, h1, h2, h8, h9, h10, h11, h14, h15, h16, hH8, a0, a3, hi, hL2, hz, hj, hle, cPump,go_sem, simprocAttr]; rfl), ?_⟩; first | rfl | (try simp only [h0, h1, h2, h8, h9, h10, h11, h14, h15, h16, hH8, a0, a3, hi, hL2, hz, hj, hle, cPump,go_sem, simprocAttr, seval])) | with_reducible intro (ep : Nat → Nat) | with_reducible apply_assumption -exfalso -symm only [*])
     ·replace hsn := hsn y a4
      repeat' (first | (with_reducible refine sk ?_; intro K hK) | ((with_reducible first | refine rg (id := 14) (md := { base := 0, own := [57] }) (h := ?_) | refine rgS (id := 14) [13] (md := { base := 0, own := [57] }) (h := ?_) | refine rg (md := { base := 0, own := [8, 57] }) (h := ?_) | refine rgS [13] (md := { base := 0, own := [8, 57] }) (h := ?_) | refine nx ?_); try simp (disch := omega) only [h0, h1, h2, h8, h9, h10, h11, h14, h15, h16, hH8, a0, a3, hi, hL2, hz, hj, hle, cPump,go_sem, simprocAttr]) | (with_reducible refine bk ?_) | ((with_reducible refine' cE ?hv ?_ ?_); (case hv => first | rfl | (simp only [h0, h1, h2, h8, h9, h10, h11, h14, h15, h16, hH8, a0, a3, hi, hL2, hz, hj, hle, cPump,go_sem, simprocAttr]; rfl)); all_goals (intro hc; (try simp only [go_sem, simprocAttr] at hc); try (exfalso; omega))) | ((with_reducible first | refine grdS_split ?_ ?_ | refine lkG_split ?_ ?_) <;> intro hg <;> (try simp (disch := omega) only [hg, h0, h1, h2, h8, h9, h10, h11, h14, h15, h16, hH8, a0, a3, hi, hL2, hz, hj, hle, cPump,go_sem, simprocAttr]) <;> (try simp only [go_sem, simprocAttr] at hg) <;> (try (exfalso; omega))) | ((with_reducible refine fe ?_); refine ⟨_, (by simp only [Try.f56, h0, h1, h2, h8, h9, h10, h11, h14, h15, h16, hH8, a0, a3, hi, hL2, hz, hj, hle, cPump,go_sem, simprocAttr]; rfl), ?_⟩; first | rfl | (try simp only [h0, h1, h2, h8, h9, h10, h11, h14, h15, h16, hH8, a0, a3, hi, hL2, hz, hj, hle, cPump,go_sem, simprocAttr, seval])) | with_reducible intro (ep : Nat → Nat) | with_reducible apply_assumption -exfalso -symm only [*])
      exact ⟨⟨_, by rw [hsn, List.length_append]; rfl, by rw [hsn, List.map_append]; rfl, by rw [hsn]; simp only [List.length_append, List.length_cons, List.length_nil]; omega⟩, some x, by rw [hr]; simp; intro h; omega, .inr ⟨j + 1, x, rfl, hx, rfl⟩⟩
  clear hK
  repeat' (first | (with_reducible refine sk ?_; intro K hK) | ((with_reducible first | refine rg (id := 14) (md := { base := 0, own := [57] }) (h := ?_) | refine rgS (id := 14) [13] (md := { base := 0, own := [57] }) (h := ?_) | refine rg (md := { base := 0, own := [8, 57] }) (h := ?_) | refine rgS [13] (md := { base := 0, own := [8, 57] }) (h := ?_) | refine nx ?_); try simp (disch := omega) only [h0, h1, h2, h8, h14, h15, h16, hH8,go_sem, simprocAttr]) | (with_reducible refine bk ?_) | ((with_reducible refine' cE ?hv ?_ ?_); (case hv => first | rfl | (simp only [h0, h1, h2, h8, h14, h15, h16, hH8,go_sem, simprocAttr]; rfl)); all_goals (intro hc; (try simp only [go_sem, simprocAttr] at hc); try (exfalso; omega))) | ((with_reducible first | refine grdS_split ?_ ?_ | refine lkG_split ?_ ?_) <;> intro hg <;> (try simp (disch := omega) only [hg, h0, h1, h2, h8, h14, h15, h16, hH8,go_sem, simprocAttr]) <;> (try simp only [go_sem, simprocAttr] at hg) <;> (try (exfalso; omega))) | ((with_reducible refine fe ?_); refine ⟨_, (by simp only [Try.f56, h0, h1, h2, h8, h14, h15, h16, hH8,go_sem, simprocAttr]; rfl), ?_⟩; first | rfl | (try simp only [h0, h1, h2, h8, h14, h15, h16, hH8,go_sem, simprocAttr, seval])) | with_reducible intro (ep : Nat → Nat) | with_reducible apply_assumption -exfalso -symm only [*])
  refine AW_range tabOK ps.length (fun i f H => (f 0 = .lst 3 (ps.map cPump) ∧ f 1 = .lst 1 (ints l) ∧ f 2 = .fn 57 [] ∧ f 14 = .lst 1 (ints l) ∧ f 15 = .int .i64 l.length ∧ f 16 = .int .i64 k ∧ f 8 = .gr 8 e (outP ps (l.take k)).length ∧ f 9 = .int .i64 k ∧ f 10 = .int .i64 x ∧ f 21 = .lst 3 (ps.map cPump) ∧ f 11 = .int .i64 (lastI (fun j => decide ((j : Int) = x)) i)) ∧ H 8 = some (e, .arr 3 ((outP ps (l.take k)).map cPump))) (by omega) (by rw [hXs]; decide) (by decide) (by (first | rfl | (simp only [go_sem, simprocAttr]; done) | (simp only [go_sem, simprocAttr]; rfl))) (by (first | rfl | (simp only [go_sem, simprocAttr]; done) | (simp only [go_sem, simprocAttr]; rfl)))
   ⟨by (and_intros <;> first | rfl | (simp only [h0, h1, h2, h8, h14, h15, h16, go_sem, simprocAttr]; done) | (simp only [h0, h1, h2, h8, h14, h15, h16, go_sem, simprocAttr]; rfl)), by (first | rfl | (simp only [hH8, go_sem, simprocAttr]; done) | (simp only [hH8, go_sem, simprocAttr]; rfl))⟩ ?_ ?_
  ·clear h0 h1 h2 h8 h14 h15 h16 hH8 hcut
   rintro i f H hi h23 h22 ⟨⟨h0, h1, h2, h14, h15, h16, h8, h9, h10, h21, h11⟩, hH8⟩
   obtain ⟨y, hy⟩ : ∃ y, ps[i]? = some y := ⟨_, List.getElem?_eq_getElem hi⟩
   have hst : lastI (fun j => decide ((j : Int) = x)) (i + 1) = if (i : Int) = x then (i : Int) else lastI (fun j => decide ((j : Int) = x)) i := by
    simp only [lastI, decide_eq_true_eq]
   have hcl := press1_ok i y
   simp only [cPump] at hcl
   refine AW_keep [8] ?_
   by_cases he : (i : Int) = x
   ·rw [if_pos he] at hst
    rw [hst]
    subst he
    repeat' (first | (with_reducible refine sk ?_; intro K hK) | ((first | (with_reducible first | refine rg (id := 14) (md := { base := 0, own := [57] }) (h := ?_) | refine rgS (id := 14) [13] (md := { base := 0, own := [57] }) (h := ?_) | refine rg (md := { base := 0, own := [8, 57] }) (h := ?_) | refine rgS [13] (md := { base := 0, own := [8, 57] }) (h := ?_) | refine nx ?_) | refine pK (hcl) ?_); try simp (disch := omega) only [h0, h1, h2, h8, h9, h10, h11, h14, h15, h16, h21, h22, h23, hH8, hy, cPump,go_sem, simprocAttr]) | (with_reducible refine bk ?_) | ((with_reducible refine' cE ?hv ?_ ?_); (case hv => first | rfl | (simp only [h0, h1, h2, h8, h9, h10, h11, h14, h15, h16, h21, h22, h23, hH8, hy, cPump,go_sem, simprocAttr]; rfl)); all_goals (intro hc; (try simp only [go_sem, simprocAttr] at hc); try (exfalso; omega))) | ((with_reducible first | refine grdS_split ?_ ?_ | refine lkG_split ?_ ?_) <;> intro hg <;> (try simp (disch := omega) only [hg, h0, h1, h2, h8, h9, h10, h11, h14, h15, h16, h21, h22, h23, hH8, hy, cPump,go_sem, simprocAttr]) <;> (try simp only [go_sem, simprocAttr] at hg) <;> (try (exfalso; omega))) | ((with_reducible refine fe ?_); refine ⟨_, (by simp only [Try.f56, h0, h1, h2, h8, h9, h10, h11, h14, h15, h16, h21, h22, h23, hH8, hy, cPump,go_sem, simprocAttr]; rfl), ?_⟩; first | rfl | (try simp only [h0, h1, h2, h8, h9, h10, h11, h14, h15, h16, h21, h22, h23, hH8, hy, cPump,go_sem, simprocAttr, seval])) | with_reducible intro (ep : Nat → Nat) | with_reducible apply_assumption -exfalso -symm only [*])
   ·rw [if_neg he] at hst
    rw [hst]
    repeat' (first | (with_reducible refine sk ?_; intro K hK) | ((first | (with_reducible first | refine rg (id := 14) (md := { base := 0, own := [57] }) (h := ?_) | refine rgS (id := 14) [13] (md := { base := 0, own := [57] }) (h := ?_) | refine rg (md := { base := 0, own := [8, 57] }) (h := ?_) | refine rgS [13] (md := { base := 0, own := [8, 57] }) (h := ?_) | refine nx ?_) | refine pK (hcl) ?_); try simp (disch := omega) only [h0, h1, h2, h8, h9, h10, h11, h14, h15, h16, h21, h22, h23, hH8, hy, he, cPump,go_sem, simprocAttr]) | (with_reducible refine bk ?_) | ((with_reducible refine' cE ?hv ?_ ?_); (case hv => first | rfl | (simp only [h0, h1, h2, h8, h9, h10, h11, h14, h15, h16, h21, h22, h23, hH8, hy, he, cPump,go_sem, simprocAttr]; rfl)); all_goals (intro hc; (try simp only [go_sem, simprocAttr] at hc); try (exfalso; omega))) | ((with_reducible first | refine grdS_split ?_ ?_ | refine lkG_split ?_ ?_) <;> intro hg <;> (try simp (disch := omega) only [hg, h0, h1, h2, h8, h9, h10, h11, h14, h15, h16, h21, h22, h23, hH8, hy, he, cPump,go_sem, simprocAttr]) <;> (try simp only [go_sem, simprocAttr] at hg) <;> (try (exfalso; omega))) | ((with_reducible refine fe ?_); refine ⟨_, (by simp only [Try.f56, h0, h1, h2, h8, h9, h10, h11, h14, h15, h16, h21, h22, h23, hH8, hy, he, cPump,go_sem, simprocAttr]; rfl), ?_⟩; first | rfl | (try simp only [h0, h1, h2, h8, h9, h10, h11, h14, h15, h16, h21, h22, h23, hH8, hy, he, cPump,go_sem, simprocAttr, seval])) | with_reducible intro (ep : Nat → Nat) | with_reducible apply_assumption -exfalso -symm only [*])
  ·clear h0 h1 h2 h8 h14 h15 h16 hH8
   rintro f H h23 h22 ⟨⟨h0, h1, h2, h14, h15, h16, h8, h9, h10, h21, h11⟩, hH8⟩
   repeat' (first | (with_reducible refine sk ?_; intro K hK) | ((with_reducible first | refine rg (id := 14) (md := { base := 0, own := [57] }) (h := ?_) | refine rgS (id := 14) [13] (md := { base := 0, own := [57] }) (h := ?_) | refine rg (md := { base := 0, own := [8, 57] }) (h := ?_) | refine rgS [13] (md := { base := 0, own := [8, 57] }) (h := ?_) | refine nx ?_); try simp (disch := omega) only [h0, h1, h2, h8, h9, h10, h11, h14, h15, h16, hH8,go_sem, simprocAttr]) | (with_reducible refine bk ?_) | ((with_reducible refine' cE ?hv ?_ ?_); (case hv => first | rfl | (simp only [h0, h1, h2, h8, h9, h10, h11, h14, h15, h16, hH8,go_sem, simprocAttr]; rfl)); all_goals (intro hc; (try simp only [go_sem, simprocAttr] at hc); try (exfalso; omega))) | ((with_reducible first | refine grdS_split ?_ ?_ | refine lkG_split ?_ ?_) <;> intro hg <;> (try simp (disch := omega) only [hg, h0, h1, h2, h8, h9, h10, h11, h14, h15, h16, hH8,go_sem, simprocAttr]) <;> (try simp only [go_sem, simprocAttr] at hg) <;> (try (exfalso; omega))) | ((with_reducible refine fe ?_); refine ⟨_, (by simp only [Try.f56, h0, h1, h2, h8, h9, h10, h11, h14, h15, h16, hH8,go_sem, simprocAttr]; rfl), ?_⟩; first | rfl | (try simp only [h0, h1, h2, h8, h9, h10, h11, h14, h15, h16, hH8,go_sem, simprocAttr, seval])) | with_reducible intro (ep : Nat → Nat) | with_reducible apply_assumption -exfalso -symm only [*])
   exact ⟨by (and_intros <;> first | rfl | (simp only [h0, h1, h2, h8, h9, h10, h11, h14, h15, h16, go_sem, simprocAttr]; done) | (simp only [h0, h1, h2, h8, h9, h10, h11, h14, h15, h16, go_sem, simprocAttr]; rfl)), by (first | rfl | (simp only [hH8, go_sem, simprocAttr]; done) | (simp only [hH8, go_sem, simprocAttr]; rfl))⟩
 ·rintro f H h16 h15 ⟨⟨h0, h1, h2, h14⟩, ⟨e, h8, hH8, hLk⟩, prev, hr, hp⟩
  rw [drop_none (by omega)] at hr
  rw [List.take_of_length_le (Nat.le_refl _)] at h8 hH8
  have hok : okL (isPm ps) none l = true := by rw [hr]; cases prev <;> rfl
  have hres : listedPT ps l = .tup [.lst 3 ((outP ps l).map cPump), .bool true] := by unfold listedPT; rw [if_pos hok]
  repeat' (first | (with_reducible refine sk ?_; intro K hK) | ((with_reducible first | refine rg (id := 14) (md := { base := 0, own := [57] }) (h := ?_) | refine rgS (id := 14) [13] (md := { base := 0, own := [57] }) (h := ?_) | refine rg (md := { base := 0, own := [8, 57] }) (h := ?_) | refine rgS [13] (md := { base := 0, own := [8, 57] }) (h := ?_) | refine nx ?_); try simp (disch := omega) only [h0, h8, hH8,go_sem, simprocAttr]) | (with_reducible refine bk ?_) | ((with_reducible refine' cE ?hv ?_ ?_); (case hv => first | rfl | (simp only [h0, h8, hH8,go_sem, simprocAttr]; rfl)); all_goals (intro hc; (try simp only [go_sem, simprocAttr] at hc); try (exfalso; omega))) | ((with_reducible first | refine grdS_split ?_ ?_ | refine lkG_split ?_ ?_) <;> intro hg <;> (try simp (disch := omega) only [hg, h0, h8, hH8,go_sem, simprocAttr]) <;> (try simp only [go_sem, simprocAttr] at hg) <;> (try (exfalso; omega))) | with_reducible intro (ep : Nat → Nat) | with_reducible apply_assumption -exfalso -symm only [*])
  refine FnP_frz 8 (Or.inl rfl) hH8 ⟨_, (by simp only [Try.f56, go_sem, simprocAttr]; rfl), ?_⟩
  rw [hres]; simp only [go_sem, simprocAttr]
end Cp
namespace Cp
open Go Go.Proofs
set_option maxRecDepth 10000
set_option maxHeartbeats 1000000
def spanS (n : NetT) (hs : List HeadT) (out : List Int) (h : HeadT) : Span := ⟨pressS n hs out false h, pressS n hs out true h⟩
def AllS (k a e : Nat) (l : List Span) (H : Hp) : Prop := (l = [] ∧ H k = some (e, .arr 1 [[.nils]])) ∨ l ≠ [] ∧ ∃ ea, H k = some (e, .arr 1 [[.gr a ea l.length]]) ∧ H a = some (ea, .arr 2 (l.map cSpan))
theorem AllS.same {k a e : Nat} {l : List Span} {H H' : Hp} (h : AllS k a e l H) (h1 : H' k = H k) (h2 : H' a = H a) : AllS k a e l H' := by
 unfold AllS; rw [h1, h2]; exact h
theorem map_snoc {α β : Type} {g : α → β} {l : List α} {k : Nat} {x : α} (h : l[k]? = some x) : (l.take (k + 1)).map g = (l.take k).map g ++ [g x] := by rw [take_snoc' h, List.map_append]; rfl
theorem press2_ok (n : NetT) (hF : NetF n) (hs : List HeadT) (h5 : heads500 hs) (hsl : hs.length ≤ 12) (hnd : ∀ h ∈ hs, 1 ≤ h.node ∧ h.node ≤ n.pipes.length) (out : List Int) (ho : outOK n out = true) (e8 e12 e36 e33 e34 ver : Nat) (H0 : Hp)
  (g8 : H0 8 = some (e8, .arr 1 [[.ptr 436 e36 10 0 0]])) (g12 : H0 12 = some (e12, .arr 1 [[.nils]])) (g36 : H0 436 = some (e36, .arr 10 [cPlant n hs e33 e34 (n.pipes.length + 1)]))
  (g33 : H0 433 = some (e33, .arr 1 (ints (flowL n.pipes (n.pipes.length + 1) hs)))) (g34 : H0 434 = some (e34, .map ver (imap .i64 (offM out)))) :
  ACall Try.prog 59 [.ptr 8 e8 1 0 0, .ptr 12 e12 1 0 0] H0 fun v H' => v = .tup [] ∧ H' 436 = H0 436 ∧ (∃ ver2, H' 434 = some (e34, .map ver2 (imap .i64 (offM out)))) ∧ AllS 12 1528 e12 (hs.map (spanS n hs out)) H' := by
 refine ACall_of (fn := Try.f59) tabOK (by kernel_rfl) rfl (by kernel_rfl) (by simp [Try.f59]) ?_
 intro X hX0 hXs
 refine AW_keep [8, 12, 436, 433, 434] ?_
 repeat' (first | (with_reducible refine sk ?_; intro K hK) | ((first | (with_reducible first | refine rgL [] [20, 25] (md := { base := 1500, own := [2, 4, 28] }) (h := ?_) | refine rgL [2, 4] [20, 25] (md := { base := 1500, own := [2, 4, 28] }) (h := ?_) | refine nx ?_) | refine pK (ends_ok) ?_ | refine lK (ends_ok) ?_); try simp (disch := omega) only [g8, g36, cPlant,go_sem, simprocAttr]) | (with_reducible refine bk ?_) | ((with_reducible refine' cE ?hv ?_ ?_); (case hv => first | rfl | (simp only [g8, g36, cPlant,go_sem, simprocAttr]; rfl)); all_goals (intro hc; (try simp only [go_sem, simprocAttr] at hc); try (exfalso; omega))) | with_reducible intro (ep : Nat → Nat) | with_reducible apply_assumption -exfalso -symm only [*])
 refine AW_range tabOK hs.length (fun k f H => (f 0 = .ptr 8 e8 1 0 0 ∧ f 1 = .ptr 12 e12 1 0 0 ∧ f 9 = .lst 8 (hs.map cHead)) ∧
   (H 8 = some (e8, .arr 1 [[.ptr 436 e36 10 0 0]]) ∧ H 436 = some (e36, .arr 10 [cPlant n hs e33 e34 (n.pipes.length + 1)]) ∧ H 433 = some (e33, .arr 1 (ints (flowL n.pipes (n.pipes.length + 1) hs))) ∧ H 434 = some (e34, .map ver (imap .i64 (offM out)))) ∧
   (∃ e2, f 2 = .ptr 1502 e2 4 0 0 ∧ H 1502 = some (e2, .arr 4 [[.fn (sgF false) [], .fn (sgF true) [], .fn (sgF true) [], .fn (sgF false) []]])) ∧ AllS 12 1528 e12 ((hs.take k).map (spanS n hs out)) H) (by omega) (by rw [hXs]; decide) (by decide) (by (first | rfl | (simp only [go_sem, simprocAttr]; done) | (simp only [go_sem, simprocAttr]; rfl))) (by (first | rfl | (simp only [go_sem, simprocAttr]; done) | (simp only [go_sem, simprocAttr]; rfl)))
  ⟨by (and_intros <;> first | rfl | (simp only [go_sem, simprocAttr]; done) | (simp only [go_sem, simprocAttr]; rfl)), by (and_intros <;> first | rfl | (simp only [g8, g36, g33, g34, cPlant, go_sem, simprocAttr]; done) | (simp only [g8, g36, g33, g34, cPlant, go_sem, simprocAttr]; rfl)), ⟨_, by (first | rfl | (simp only [go_sem, simprocAttr]; done) | (simp only [go_sem, simprocAttr]; rfl)), by (first | rfl | (simp only [go_sem, simprocAttr]; done) | (simp only [go_sem, simprocAttr]; rfl))⟩, .inl ⟨rfl, by (first | rfl | (simp only [g12, go_sem, simprocAttr]; done) | (simp only [g12, go_sem, simprocAttr]; rfl))⟩⟩ ?_ ?_
 ·clear g8 g12 g33 g34
  rintro k f H hk h11 h10 ⟨⟨h0, h1, h9⟩, ⟨g8, g36', g33, g34⟩, ⟨e2, h2, g2⟩, hA⟩
  obtain ⟨x, hx⟩ : ∃ x, hs[k]? = some x := ⟨_, List.getElem?_eq_getElem hk⟩
  rw [map_snoc hx]
  have hLk : ((hs.take k).map (spanS n hs out)).length = k := by simp; omega
  obtain ⟨L, hL⟩ : ∃ L, (hs.take k).map (spanS n hs out) = L := ⟨_, rfl⟩
  rw [hL] at hA hLk ⊢
  have hkb : k + 1 ≤ 1073741824 := by omega
  refine AW_keep [8, 12, 436, 433, 434, 1502, 1528] ?_
  have hA' : AllS 12 1528 e12 L (keep H [8, 12, 436, 433, 434, 1502, 1528]) := hA
  have k8 : keep H [8, 12, 436, 433, 434, 1502, 1528] 8 = some (e8, .arr 1 [[.ptr 436 e36 10 0 0]]) := g8
  have k36 : keep H [8, 12, 436, 433, 434, 1502, 1528] 436 = some (e36, .arr 10 [cPlant n hs e33 e34 (n.pipes.length + 1)]) := g36'
  have k33 : keep H [8, 12, 436, 433, 434, 1502, 1528] 433 = some (e33, .arr 1 (ints (flowL n.pipes (n.pipes.length + 1) hs))) := g33
  have k34 : keep H [8, 12, 436, 433, 434, 1502, 1528] 434 = some (e34, .map ver (imap .i64 (offM out))) := g34
  have k2 : keep H [8, 12, 436, 433, 434, 1502, 1528] 1502 = some (e2, .arr 4 [[.fn (sgF false) [], .fn (sgF true) [], .fn (sgF true) [], .fn (sgF false) []]]) := g2
  have k4 : keep H [8, 12, 436, 433, 434, 1502, 1528] 1504 = none := rfl
  have k08 : keep H [8, 12, 436, 433, 434, 1502, 1528] 1208 = none := rfl
  clear hA g8 g36' g33 g34 g2
  obtain ⟨H2, hH2⟩ : ∃ H2, keep H [8, 12, 436, 433, 434, 1502, 1528] = H2 := ⟨_, rfl⟩
  rw [hH2] at hA' k8 k36 k33 k34 k2 k4 k08 ⊢
  clear hH2
  refine sk ?_
  intro K hK
  have hcut : ∀ f H, ((f 0 = .ptr 8 e8 1 0 0 ∧ f 1 = .ptr 12 e12 1 0 0 ∧ f 9 = .lst 8 (hs.map cHead) ∧ f 2 = .ptr 1502 e2 4 0 0 ∧ f 11 = .int .i64 k ∧ f 10 = .int .i64 hs.length) ∧ (H 8 = some (e8, .arr 1 [[.ptr 436 e36 10 0 0]]) ∧ H 436 = some (e36, .arr 10 [cPlant n hs e33 e34 (n.pipes.length + 1)]) ∧ H 433 = some (e33, .arr 1 (ints (flowL n.pipes (n.pipes.length + 1) hs))) ∧ H 434 = some (e34, .map ver (imap .i64 (offM out))) ∧ H 1502 = some (e2, .arr 4 [[.fn (sgF false) [], .fn (sgF true) [], .fn (sgF true) [], .fn (sgF false) []]]) ∧ H 1208 = none) ∧ AllS 12 1528 e12 L H ∧ ∃ e4, f 4 = .ptr 1504 e4 8 0 0 ∧ H 1504 = some (e4, .arr 8 [cHead x])) → K f H := by
   clear h0 h1 h2 h9 h10 h11 k8 k36 k33 k34 k2 k4 k08 hA'
   rintro f H ⟨⟨h0, h1, h9, h2, h11, h10⟩, ⟨k8, k36, k33, k34, k2, k08⟩, hA, e4, h4, k4⟩
   refine hK f H ?_
   clear hK
   have hP : PlH n hs out e36 e33 e34 H := ⟨by rw [k36]; rfl, by rw [k33]; rfl, ver, by rw [k34]; rfl⟩
   have hxm := List.mem_of_getElem? hx
   have hp0 := pressure_look n hF hs h5 (by omega) out ho false x (hnd x hxm) e36 e33 e34 H hP k08
   have hp1 := pressure_look n hF hs h5 (by omega) out ho true x (hnd x hxm) e36 e33 e34 H hP k08
   simp only [encHead, cHead, endV, Bool.not_false, Bool.not_true] at hp0 hp1
   have hsp : cSpan (spanS n hs out x) = [.int .i64 (pressS n hs out false x), .int .i64 (pressS n hs out true x)] := rfl
   rcases hA with ⟨hLn, hA⟩ | ⟨hLn, ea, hA1, hA2⟩
   ·subst hLn
    simp only [List.length_nil] at hLk
    repeat' (first | (with_reducible refine sk ?_; intro K hK) | ((first | (with_reducible first | refine rgL [] [20, 25] (md := { base := 1500, own := [2, 4, 28] }) (h := ?_) | refine rgL [2, 4] [20, 25] (md := { base := 1500, own := [2, 4, 28] }) (h := ?_) | refine nx ?_) | refine pK (hp0) ?_ | refine pK (hp1) ?_ | refine lK (hp0) ?_ | refine lK (hp1) ?_); try simp (disch := omega) only [h0, h1, h2, h4, h9, h10, h11, k8, k2, k4, hA, cHead,go_sem, simprocAttr]) | (with_reducible refine bk ?_) | ((with_reducible refine' cE ?hv ?_ ?_); (case hv => first | rfl | (simp only [h0, h1, h2, h4, h9, h10, h11, k8, k2, k4, hA, cHead,go_sem, simprocAttr]; rfl)); all_goals (intro hc; (try simp only [go_sem, simprocAttr] at hc); try (exfalso; omega))) | with_reducible intro (ep : Nat → Nat) | with_reducible apply_assumption -exfalso -symm only [*])
    exact ⟨⟨k36, k33, k34⟩, ⟨_, rfl, rfl⟩, .inr ⟨by simp, _, by simp only [go_sem, simprocAttr]; rfl, by simp only [go_sem, simprocAttr]; rfl⟩⟩
   ·have hlb : L.length ≤ 1073741823 := by omega
    repeat' (first | (with_reducible refine sk ?_; intro K hK) | ((first | (with_reducible first | refine rgL [] [20, 25] (md := { base := 1500, own := [2, 4, 28] }) (h := ?_) | refine rgL [2, 4] [20, 25] (md := { base := 1500, own := [2, 4, 28] }) (h := ?_) | refine nx ?_) | refine pK (hp0) ?_ | refine pK (hp1) ?_ | refine lK (hp0) ?_ | refine lK (hp1) ?_); try simp (disch := omega) only [h0, h1, h2, h4, h9, h10, h11, k8, k2, k4, hA1, hA2, hlb, cHead,go_sem, simprocAttr]) | (with_reducible refine bk ?_) | ((with_reducible refine' cE ?hv ?_ ?_); (case hv => first | rfl | (simp only [h0, h1, h2, h4, h9, h10, h11, k8, k2, k4, hA1, hA2, hlb, cHead,go_sem, simprocAttr]; rfl)); all_goals (intro hc; (try simp only [go_sem, simprocAttr] at hc); try (exfalso; omega))) | with_reducible intro (ep : Nat → Nat) | with_reducible apply_assumption -exfalso -symm only [*])
    exact ⟨⟨k36, k33, k34⟩, ⟨_, rfl, rfl⟩, .inr ⟨by simp, _, by simp only [go_sem, simprocAttr, List.length_append]; rfl, by simp only [go_sem, simprocAttr, List.map_append]; rfl⟩⟩
  clear hK
  repeat' (first | (with_reducible refine sk ?_; intro K hK) | ((with_reducible first | refine rgL [] [20, 25] (md := { base := 1500, own := [2, 4, 28] }) (h := ?_) | refine rgL [2, 4] [20, 25] (md := { base := 1500, own := [2, 4, 28] }) (h := ?_) | refine nx ?_); try simp (disch := omega) only [h0, h1, h2, h9, h10, h11, hx, k4, cHead,go_sem, simprocAttr]) | (with_reducible refine bk ?_) | ((with_reducible refine' cE ?hv ?_ ?_); (case hv => first | rfl | (simp only [h0, h1, h2, h9, h10, h11, hx, k4, cHead,go_sem, simprocAttr]; rfl)); all_goals (intro hc; (try simp only [go_sem, simprocAttr] at hc); try (exfalso; omega))) | with_reducible intro (ep : Nat → Nat) | with_reducible apply_assumption -exfalso -symm only [*])
  exact ⟨by (and_intros <;> first | rfl | (simp only [h0, h1, h2, h9, h10, h11, go_sem, simprocAttr]; done) | (simp only [h0, h1, h2, h9, h10, h11, go_sem, simprocAttr]; rfl)), by (and_intros <;> first | rfl | (simp only [k8, k36, k33, k34, k2, k08, go_sem, simprocAttr]; done) | (simp only [k8, k36, k33, k34, k2, k08, go_sem, simprocAttr]; rfl)), hA'.same (by simp only [go_sem, simprocAttr]) (by simp only [go_sem, simprocAttr]), _, by (first | rfl | (simp only [go_sem, simprocAttr]; done) | (simp only [go_sem, simprocAttr]; rfl)), by (first | rfl | (simp only [cHead, go_sem, simprocAttr]; done) | (simp only [cHead, go_sem, simprocAttr]; rfl))⟩
 ·clear g8 g12 g33 g34
  rintro f H h11 h10 ⟨⟨h0, h1, h9⟩, ⟨g8, g36', g33, g34⟩, ⟨e2, h2, g2⟩, hA⟩
  rw [List.take_of_length_le (Nat.le_refl _)] at hA
  refine FnQ_end (Or.inr rfl) (.refl _) (by simp only [Try.f59, go_sem, simprocAttr]; rfl) ?_
  exact ⟨by simp only [go_sem, simprocAttr], by rw [g36', g36], ⟨ver, g34⟩, hA⟩
end Cp
namespace Cp
open Go
theorem PureC.weak {P : Program} {fid : FuncId} {args : List Val} {v v' : Val} (h : PureC P fid args v) (hn : noid v' = true) (hw : ∀ G w x, VR G w v x → VR G w v' x) : PureC P fid args v' :=
 ⟨h.1, h.2.1, hn, fun G w xs hR hv => Calls.mono (h.2.2.2 G w xs hR hv) (by rintro e w' ⟨x, I', h1, h2, h3, h4⟩; exact ⟨x, I', h1, h2, h3, hw _ _ _ h4⟩)⟩
theorem VR.tup_nils {G : Gh} {w : World} {n : Nat} {cs : List Val} {x : Value} (h : VR G w (.tup (.nils :: cs)) x) : VR G w (.tup (.lst n [] :: cs)) x := by
 cases h with
 | tup _ xs hs hv =>
  refine .tup _ xs (by simpa using hs) (fun i v hi => ?_)
  cases i with
  | zero => cases hi; exact (hv 0 .nils rfl).nils_lst _
  | succ i => exact hv (i + 1) v hi
end Cp
namespace Cp
open Go Go.Proofs
set_option maxRecDepth 10000
set_option maxHeartbeats 1000000
def spansV (L : List Span) : Val := if L = [] then .nils else .lst 2 (L.map cSpan)
def pressV (g : List Span → Val) (n : NetT) (l out : List Int) : Val := if netOK n = true then (if openOK n.heads l = true ∧ outOK n out = true then .tup [g ((openH n.heads l).map (spanS n (openH n.heads l) out)), .int .i64 0] else .tup [.nils, .int .i64 2]) else .tup [.nils, .int .i64 50]
def pressT (n : NetT) (l out : List Int) : Val := pressV (fun L => .lst 2 (L.map cSpan)) n l out
theorem outOK_eq {n : NetT} {out : List Int} : outOK n out = (okL (isPm n.pumps) none out && decide ((out.length : Int) ≤ n.out)) := rfl
theorem Press_ok0 (n : NetT) (hs : NetS n) (l : List Int) (hl : l.length ≤ 100000) (out : List Int) (hol : out.length ≤ 100000) : PureC Try.prog 19 [encNet n, .lst 1 (ints l), .lst 1 (ints out)] (pressV spansV n l out) := by
 have hnoid : noid (pressV spansV n l out) = true := by unfold pressV spansV; split <;> (try split) <;> (try split) <;> (simp only [noid, noids, noidss, go_sem, simprocAttr, cSpan_noid]; rfl)
 have hop := fun H0 => opened_ok n hs l hl H0
 unfold openR at hop
 have hpl := hs.pipes
 have hpq := hs.pumps
 have hli := listedP_ok n.pumps (by omega) out hol
 unfold listedPT at hli
 simp only [encNet, cNet] at hop
 refine PureC_of (fn := Try.f19) tabOK (by kernel_rfl) rfl (by kernel_rfl) (by simp [Try.f19]) (by simp [noids, noid, noidss, go_sem, encNet, cNet, hnoid]) (by first | rfl | simp [noids, noid, noidss, go_sem, encNet, cNet, hnoid]) ?_
 intro X hX0 hXs
 unfold pressV
 cases hN : netOK n with
 | false =>
  simp only [hN, Bool.false_eq_true, if_false] at hop
  repeat' (first | (with_reducible refine sk ?_; intro K hK) | ((first | (with_reducible first | refine rg (md := { base := 0, own := [8, 12], imp := [16, 41] }) (h := ?_) | refine rgS [8, 12] (md := { base := 0, own := [8, 12], imp := [16, 41] }) (h := ?_) | refine nx ?_) | refine pK (hop _) ?_); try simp (disch := omega) only [encNet, cNet,go_sem, simprocAttr]) | (with_reducible refine bk ?_) | ((with_reducible refine' cE ?hv ?_ ?_); (case hv => first | rfl | (simp only [encNet, cNet,go_sem, simprocAttr]; rfl)); all_goals (intro hc; (try simp only [go_sem, simprocAttr] at hc); try (exfalso; omega))) | ((with_reducible first | refine grdS_split ?_ ?_ | refine lkG_split ?_ ?_) <;> intro hg <;> (try simp (disch := omega) only [hg, encNet, cNet,go_sem, simprocAttr]) <;> (try simp only [go_sem, simprocAttr] at hg) <;> (try (exfalso; omega))) | (first | refine iK (hop _) ?_) | ((with_reducible refine fe ?_); refine ⟨_, (by simp only [Try.f19, encNet, cNet,go_sem, simprocAttr]; rfl), ?_⟩; first | rfl | (try simp only [encNet, cNet,go_sem, simprocAttr, seval])) | with_reducible intro (ep : Nat → Nat) | with_reducible apply_assumption -exfalso -symm only [*])
  rintro v H3 ⟨hlow, rfl⟩
  have g8 : H3 8 = none := hlow 8 (by decide)
  have g12 : H3 12 = none := hlow 12 (by decide)
  simp only [go_sem, simprocAttr, g8]
  repeat' (first | (with_reducible refine sk ?_; intro K hK) | ((with_reducible first | refine rg (md := { base := 0, own := [8, 12], imp := [16, 41] }) (h := ?_) | refine rgS [8, 12] (md := { base := 0, own := [8, 12], imp := [16, 41] }) (h := ?_) | refine nx ?_); try simp (disch := omega) only [g8, g12,go_sem, simprocAttr]) | (with_reducible refine bk ?_) | ((with_reducible refine' cE ?hv ?_ ?_); (case hv => first | rfl | (simp only [g8, g12,go_sem, simprocAttr]; rfl)); all_goals (intro hc; (try simp only [go_sem, simprocAttr] at hc); try (exfalso; omega))) | ((with_reducible first | refine grdS_split ?_ ?_ | refine lkG_split ?_ ?_) <;> intro hg <;> (try simp (disch := omega) only [hg, g8, g12,go_sem, simprocAttr]) <;> (try simp only [go_sem, simprocAttr] at hg) <;> (try (exfalso; omega))) | ((with_reducible refine fe ?_); refine ⟨_, (by simp only [Try.f19, g8, g12,go_sem, simprocAttr]; rfl), ?_⟩; first | rfl | (try simp only [g8, g12,go_sem, simprocAttr, seval])) | with_reducible intro (ep : Nat → Nat) | with_reducible apply_assumption -exfalso -symm only [*])
 | true =>
  have hF := net_facts hN
  cases hO : openOK n.heads l with
  | false =>
   simp only [hN, hO, Bool.false_eq_true, if_false, if_true, false_and] at hop ⊢
   repeat' (first | (with_reducible refine sk ?_; intro K hK) | ((first | (with_reducible first | refine rg (md := { base := 0, own := [8, 12], imp := [16, 41] }) (h := ?_) | refine rgS [8, 12] (md := { base := 0, own := [8, 12], imp := [16, 41] }) (h := ?_) | refine nx ?_) | refine pK (hop _) ?_); try simp (disch := omega) only [encNet, cNet,go_sem, simprocAttr]) | (with_reducible refine bk ?_) | ((with_reducible refine' cE ?hv ?_ ?_); (case hv => first | rfl | (simp only [encNet, cNet,go_sem, simprocAttr]; rfl)); all_goals (intro hc; (try simp only [go_sem, simprocAttr] at hc); try (exfalso; omega))) | ((with_reducible first | refine grdS_split ?_ ?_ | refine lkG_split ?_ ?_) <;> intro hg <;> (try simp (disch := omega) only [hg, encNet, cNet,go_sem, simprocAttr]) <;> (try simp only [go_sem, simprocAttr] at hg) <;> (try (exfalso; omega))) | (first | refine iK (hop _) ?_) | ((with_reducible refine fe ?_); refine ⟨_, (by simp only [Try.f19, encNet, cNet,go_sem, simprocAttr]; rfl), ?_⟩; first | rfl | (try simp only [encNet, cNet,go_sem, simprocAttr, seval])) | with_reducible intro (ep : Nat → Nat) | with_reducible apply_assumption -exfalso -symm only [*])
   rintro v H3 ⟨hlow, rfl⟩
   have g8 : H3 8 = none := hlow 8 (by decide)
   have g12 : H3 12 = none := hlow 12 (by decide)
   simp only [go_sem, simprocAttr, g8]
   repeat' (first | (with_reducible refine sk ?_; intro K hK) | ((with_reducible first | refine rg (md := { base := 0, own := [8, 12], imp := [16, 41] }) (h := ?_) | refine rgS [8, 12] (md := { base := 0, own := [8, 12], imp := [16, 41] }) (h := ?_) | refine nx ?_); try simp (disch := omega) only [g8, g12,go_sem, simprocAttr]) | (with_reducible refine bk ?_) | ((with_reducible refine' cE ?hv ?_ ?_); (case hv => first | rfl | (simp only [g8, g12,go_sem, simprocAttr]; rfl)); all_goals (intro hc; (try simp only [go_sem, simprocAttr] at hc); try (exfalso; omega))) | ((with_reducible first | refine grdS_split ?_ ?_ | refine lkG_split ?_ ?_) <;> intro hg <;> (try simp (disch := omega) only [hg, g8, g12,go_sem, simprocAttr]) <;> (try simp only [go_sem, simprocAttr] at hg) <;> (try (exfalso; omega))) | ((with_reducible refine fe ?_); refine ⟨_, (by simp only [Try.f19, g8, g12,go_sem, simprocAttr]; rfl), ?_⟩; first | rfl | (try simp only [g8, g12,go_sem, simprocAttr, seval])) | with_reducible intro (ep : Nat → Nat) | with_reducible apply_assumption -exfalso -symm only [*])
  | true =>
   cases hno : outOK n out with
   | false =>
    simp only [hN, hO, if_true, true_and, Bool.false_eq_true, if_false] at hop ⊢
    repeat' (first | (with_reducible refine sk ?_; intro K hK) | ((first | (with_reducible first | refine rg (md := { base := 0, own := [8, 12], imp := [16, 41] }) (h := ?_) | refine rgS [8, 12] (md := { base := 0, own := [8, 12], imp := [16, 41] }) (h := ?_) | refine nx ?_) | refine pK (hop _) ?_); try simp (disch := omega) only [encNet, cNet,go_sem, simprocAttr]) | (with_reducible refine bk ?_) | ((with_reducible refine' cE ?hv ?_ ?_); (case hv => first | rfl | (simp only [encNet, cNet,go_sem, simprocAttr]; rfl)); all_goals (intro hc; (try simp only [go_sem, simprocAttr] at hc); try (exfalso; omega))) | ((with_reducible first | refine grdS_split ?_ ?_ | refine lkG_split ?_ ?_) <;> intro hg <;> (try simp (disch := omega) only [hg, encNet, cNet,go_sem, simprocAttr]) <;> (try simp only [go_sem, simprocAttr] at hg) <;> (try (exfalso; omega))) | (first | refine iK (hop _) ?_) | ((with_reducible refine fe ?_); refine ⟨_, (by simp only [Try.f19, encNet, cNet,go_sem, simprocAttr]; rfl), ?_⟩; first | rfl | (try simp only [encNet, cNet,go_sem, simprocAttr, seval])) | with_reducible intro (ep : Nat → Nat) | with_reducible apply_assumption -exfalso -symm only [*])
    rintro v H3 ⟨hlow, e36, e33, e34, ver, rfl, h36, h33, h34⟩
    have g8 : H3 8 = none := hlow 8 (by decide)
    have g12 : H3 12 = none := hlow 12 (by decide)
    clear hlow
    simp only [go_sem, simprocAttr, g8]
    cases hP : okL (isPm n.pumps) none out with
    | false =>
     rw [hP] at hli
     repeat' (first | (with_reducible refine sk ?_; intro K hK) | ((first | (with_reducible first | refine rg (md := { base := 0, own := [8, 12], imp := [16, 41] }) (h := ?_) | refine rgS [8, 12] (md := { base := 0, own := [8, 12], imp := [16, 41] }) (h := ?_) | refine nx ?_) | refine pK (hli) ?_); try simp (disch := omega) only [g8, g12, h36, cNet,go_sem, simprocAttr]) | (with_reducible refine bk ?_) | ((with_reducible refine' cE ?hv ?_ ?_); (case hv => first | rfl | (simp only [g8, g12, h36, cNet,go_sem, simprocAttr]; rfl)); all_goals (intro hc; (try simp only [go_sem, simprocAttr] at hc); try (exfalso; omega))) | ((with_reducible first | refine grdS_split ?_ ?_ | refine lkG_split ?_ ?_) <;> intro hg <;> (try simp (disch := omega) only [hg, g8, g12, h36, cNet,go_sem, simprocAttr]) <;> (try simp only [go_sem, simprocAttr] at hg) <;> (try (exfalso; omega))) | (first | refine iK (hli) ?_) | ((with_reducible refine fe ?_); refine ⟨_, (by simp only [Try.f19, g8, g12, h36, cNet,go_sem, simprocAttr]; rfl), ?_⟩; first | rfl | (try simp only [g8, g12, h36, cNet,go_sem, simprocAttr, seval])) | with_reducible intro (ep : Nat → Nat) | with_reducible apply_assumption -exfalso -symm only [*])
    | true =>
     rw [hP] at hli
     have hlo2 : n.out < (out.length : Int) := by
      rw [outOK_eq, hP] at hno
      simpa using hno
     repeat' (first | (with_reducible refine sk ?_; intro K hK) | ((first | (with_reducible first | refine rg (md := { base := 0, own := [8, 12], imp := [16, 41] }) (h := ?_) | refine rgS [8, 12] (md := { base := 0, own := [8, 12], imp := [16, 41] }) (h := ?_) | refine nx ?_) | refine pK (hli) ?_); try simp (disch := omega) only [g8, g12, h36, hlo2, cNet,go_sem, simprocAttr]) | (with_reducible refine bk ?_) | ((with_reducible refine' cE ?hv ?_ ?_); (case hv => first | rfl | (simp only [g8, g12, h36, hlo2, cNet,go_sem, simprocAttr]; rfl)); all_goals (intro hc; (try simp only [go_sem, simprocAttr] at hc); try (exfalso; omega))) | ((with_reducible first | refine grdS_split ?_ ?_ | refine lkG_split ?_ ?_) <;> intro hg <;> (try simp (disch := omega) only [hg, g8, g12, h36, hlo2, cNet,go_sem, simprocAttr]) <;> (try simp only [go_sem, simprocAttr] at hg) <;> (try (exfalso; omega))) | (first | refine iK (hli) ?_) | ((with_reducible refine fe ?_); refine ⟨_, (by simp only [Try.f19, g8, g12, h36, hlo2, cNet,go_sem, simprocAttr]; rfl), ?_⟩; first | rfl | (try simp only [g8, g12, h36, hlo2, cNet,go_sem, simprocAttr, seval])) | with_reducible intro (ep : Nat → Nat) | with_reducible apply_assumption -exfalso -symm only [*])
   | true =>
    simp only [hN, hO, if_true, and_self] at hop ⊢
    obtain ⟨o1, o2, o3⟩ := out_facts hno
    have hno' := hno
    rw [outOK_eq, Bool.and_eq_true] at hno'
    rw [hno'.1] at hli
    have hlo2 : ¬ n.out < (out.length : Int) := by omega
    have h5 := openH_500 hF l
    have hLn := fun h hm => openH_node hF (l := l) (h := h) hm
    have hLl := open_le hF.ids hO
    have hLl2 := @openH_len n.heads l
    have hhl := hF.heads
    obtain ⟨L, hL⟩ : ∃ L, openH n.heads l = L := ⟨_, rfl⟩
    rw [hL] at h5 hLn hLl2 ⊢
    simp only [hL] at hop
    obtain ⟨S, hS⟩ : ∃ S, L.map (spanS n L out) = S := ⟨_, rfl⟩
    rw [hS]
    repeat' (first | (with_reducible refine sk ?_; intro K hK) | ((first | (with_reducible first | refine rg (md := { base := 0, own := [8, 12], imp := [16, 41] }) (h := ?_) | refine rgS [8, 12] (md := { base := 0, own := [8, 12], imp := [16, 41] }) (h := ?_) | refine nx ?_) | refine pK (hop _) ?_); try simp (disch := omega) only [encNet, cNet,go_sem, simprocAttr]) | (with_reducible refine bk ?_) | ((with_reducible refine' cE ?hv ?_ ?_); (case hv => first | rfl | (simp only [encNet, cNet,go_sem, simprocAttr]; rfl)); all_goals (intro hc; (try simp only [go_sem, simprocAttr] at hc); try (exfalso; omega))) | ((with_reducible first | refine grdS_split ?_ ?_ | refine lkG_split ?_ ?_) <;> intro hg <;> (try simp (disch := omega) only [hg, encNet, cNet,go_sem, simprocAttr]) <;> (try simp only [go_sem, simprocAttr] at hg) <;> (try (exfalso; omega))) | (first | refine iK (hop _) ?_) | ((with_reducible refine fe ?_); refine ⟨_, (by simp only [Try.f19, encNet, cNet,go_sem, simprocAttr]; rfl), ?_⟩; first | rfl | (try simp only [encNet, cNet,go_sem, simprocAttr, seval])) | with_reducible intro (ep : Nat → Nat) | with_reducible apply_assumption -exfalso -symm only [*])
    rintro v H3 ⟨hlow, e36, e33, e34, ver, rfl, h36, h33, h34⟩
    have g8 : H3 8 = none := hlow 8 (by decide)
    have g12 : H3 12 = none := hlow 12 (by decide)
    clear hlow
    simp only [go_sem, simprocAttr, g8]
    repeat' (first | (with_reducible refine sk ?_; intro K hK) | ((first | (with_reducible first | refine rg (md := { base := 0, own := [8, 12], imp := [16, 41] }) (h := ?_) | refine rgS [8, 12] (md := { base := 0, own := [8, 12], imp := [16, 41] }) (h := ?_) | refine nx ?_) | refine pK (hli) ?_); try simp (disch := omega) only [g8, g12, h36, h33, h34, hlo2, cNet,go_sem, simprocAttr]) | (with_reducible refine bk ?_) | ((with_reducible refine' cE ?hv ?_ ?_); (case hv => first | rfl | (simp only [g8, g12, h36, h33, h34, hlo2, cNet,go_sem, simprocAttr]; rfl)); all_goals (intro hc; (try simp only [go_sem, simprocAttr] at hc); try (exfalso; omega))) | ((with_reducible first | refine grdS_split ?_ ?_ | refine lkG_split ?_ ?_) <;> intro hg <;> (try simp (disch := omega) only [hg, g8, g12, h36, h33, h34, hlo2, cNet,go_sem, simprocAttr]) <;> (try simp only [go_sem, simprocAttr] at hg) <;> (try (exfalso; omega))) | (first | refine iK (hli) ?_) | ((with_reducible refine fe ?_); refine ⟨_, (by simp only [Try.f19, g8, g12, h36, h33, h34, hlo2, cNet,go_sem, simprocAttr]; rfl), ?_⟩; first | rfl | (try simp only [g8, g12, h36, h33, h34, hlo2, cNet,go_sem, simprocAttr, seval])) | with_reducible intro (ep : Nat → Nat) | with_reducible apply_assumption -exfalso -symm only [*])
    refine iK (without_ok n L _ _ _ _ out hol o2 _ _ (by simp) _ (by (first | rfl | (simp only [h36, go_sem, simprocAttr]; done) | (simp only [h36, go_sem, simprocAttr]; rfl))) (by (first | rfl | (simp only [h34, go_sem, simprocAttr]; done) | (simp only [h34, go_sem, simprocAttr]; rfl))) (AllS 12 1528 _ S) (fun ver' H hlow hm => hS ▸ press2_ok n hF L h5 (by omega) hLn out hno _ _ _ _ _ ver' H (by rw [hlow _ (by decide)]; (first | rfl | (simp only [go_sem, simprocAttr]; done) | (simp only [go_sem, simprocAttr]; rfl))) (by rw [hlow _ (by decide)]; (first | rfl | (simp only [go_sem, simprocAttr]; done) | (simp only [go_sem, simprocAttr]; rfl))) (by rw [hlow _ (by decide)]; (first | rfl | (simp only [h36, go_sem, simprocAttr]; done) | (simp only [h36, go_sem, simprocAttr]; rfl))) (by rw [hlow _ (by decide)]; (first | rfl | (simp only [h33, go_sem, simprocAttr]; done) | (simp only [h33, go_sem, simprocAttr]; rfl))) hm)) ?_
    rintro v H4 ⟨rfl, H5, ver2, hA, hsame, hm⟩
    rcases hA with ⟨hSn, h12⟩ | ⟨hSn, ea, h12, h28⟩
    ·have q12 := (hsame 12 (by decide)).trans h12
     have hV : spansV S = .nils := by unfold spansV; rw [if_pos hSn]
     rw [hV] at hK
     simp only [go_sem, simprocAttr]
     repeat' (first | (with_reducible refine sk ?_; intro K hK) | ((with_reducible first | refine rg (md := { base := 0, own := [8, 12], imp := [16, 41] }) (h := ?_) | refine rgS [8, 12] (md := { base := 0, own := [8, 12], imp := [16, 41] }) (h := ?_) | refine nx ?_); try simp (disch := omega) only [q12,go_sem, simprocAttr]) | (with_reducible refine bk ?_) | ((with_reducible refine' cE ?hv ?_ ?_); (case hv => first | rfl | (simp only [q12,go_sem, simprocAttr]; rfl)); all_goals (intro hc; (try simp only [go_sem, simprocAttr] at hc); try (exfalso; omega))) | ((with_reducible first | refine grdS_split ?_ ?_ | refine lkG_split ?_ ?_) <;> intro hg <;> (try simp (disch := omega) only [hg, q12,go_sem, simprocAttr]) <;> (try simp only [go_sem, simprocAttr] at hg) <;> (try (exfalso; omega))) | ((with_reducible refine fe ?_); refine ⟨_, (by simp only [Try.f19, q12,go_sem, simprocAttr]; rfl), ?_⟩; first | rfl | (try simp only [q12,go_sem, simprocAttr, seval])) | with_reducible intro (ep : Nat → Nat) | with_reducible apply_assumption -exfalso -symm only [*])
    ·have q12 := (hsame 12 (by decide)).trans h12
     have q28 := (hsame 1528 (by decide)).trans h28
     have hV : spansV S = .lst 2 (S.map cSpan) := by unfold spansV; rw [if_neg hSn]
     rw [hV] at hK
     simp only [go_sem, simprocAttr]
     repeat' (first | (with_reducible refine sk ?_; intro K hK) | ((with_reducible first | refine rg (md := { base := 0, own := [8, 12], imp := [16, 41] }) (h := ?_) | refine rgS [8, 12] (md := { base := 0, own := [8, 12], imp := [16, 41] }) (h := ?_) | refine nx ?_); try simp (disch := omega) only [q12,go_sem, simprocAttr]) | (with_reducible refine bk ?_) | ((with_reducible refine' cE ?hv ?_ ?_); (case hv => first | rfl | (simp only [q12,go_sem, simprocAttr]; rfl)); all_goals (intro hc; (try simp only [go_sem, simprocAttr] at hc); try (exfalso; omega))) | ((with_reducible first | refine grdS_split ?_ ?_ | refine lkG_split ?_ ?_) <;> intro hg <;> (try simp (disch := omega) only [hg, q12,go_sem, simprocAttr]) <;> (try simp only [go_sem, simprocAttr] at hg) <;> (try (exfalso; omega))) | with_reducible intro (ep : Nat → Nat) | with_reducible apply_assumption -exfalso -symm only [*])
     refine FnP_frz 1528 (Or.inl rfl) (by (first | rfl | (simp only [q28, go_sem, simprocAttr]; done) | (simp only [q28, go_sem, simprocAttr]; rfl))) ⟨_, (by simp only [Try.f19, go_sem, simprocAttr]; rfl), ?_⟩
     simp only [go_sem, simprocAttr, q28, List.length_map]
theorem Press_ok (n : NetT) (hs : NetS n) (l : List Int) (hl : l.length ≤ 100000) (out : List Int) (hol : out.length ≤ 100000) : PureC Try.prog 19 [encNet n, .lst 1 (ints l), .lst 1 (ints out)] (pressT n l out) := by
 have h := Press_ok0 n hs l hl out hol
 unfold pressT
 unfold pressV at h ⊢
 split
 ·rename_i hN
  rw [if_pos hN] at h
  split
  ·rename_i hO
   rw [if_pos hO] at h
   unfold spansV at h
   split at h
   ·rename_i he
    rw [he]
    exact h.weak rfl fun G w x hx => hx.tup_nils
   ·exact h
  ·rename_i hO
   rw [if_neg hO] at h
   exact h
 ·rename_i hN
  rw [if_neg hN] at h
  exact h
end Cp
namespace Cp
open Go Go.Proofs
set_option maxRecDepth 10000
set_option maxHeartbeats 4000000
theorem thawI {k ea m : Nat} {L : List Int} {H2 : Hp} (hl : L.length = m) (h : H2 k = some (ea, .fro 1 (ints L))) : fzd H2 6 (.gr k ea m) = .lst 1 (ints L) := by
 have e2 : (ints L).map (fun es => es.map (fzd H2 5)) = ints L := by unfold ints; rw [List.map_map]; exact List.map_congr_left fun s _ => rfl
 simp only [fzd, h, ints_len, hl, and_self, if_true]
 exact congrArg _ e2
end Cp
namespace Cp
open Go Go.Proofs
set_option maxRecDepth 10000
set_option maxHeartbeats 4000000
end Cp
namespace Cp
open Go
def combos : Nat → List Int → List (List Int)
 | 0, _ => [[]]
 | _ + 1, [] => []
 | k + 1, x :: l => (combos k l).map (x :: ·) ++ combos (k + 1) l
def outsL (np o : Nat) : List (List Int) := (List.range (o + 1)).flatMap fun k => combos k ((List.range np).map Int.ofNat)
end Cp
namespace Cp
open Go Go.Proofs
set_option maxRecDepth 10000
set_option maxHeartbeats 2000000
end Cp
namespace Cp
open Go Go.Proofs
set_option maxRecDepth 10000
set_option maxHeartbeats 4000000
end Cp
namespace Cp
open Go Go.Proofs
set_option maxRecDepth 10000
set_option maxHeartbeats 4000000
end Cp
namespace Cp
open Go Go.Proofs
def outV (l : List Int) : Val := match l with | [] => .nils | _ => .lst 1 (ints l)
def outsV (np o : Nat) : Val := .fn 114 [.pim [.lst 1 ((outsL np o).map fun l => [outV l])]]
section
variable (A B t1 t2 t3 : Val) (p0 p1 p2 p3 : List Val)
abbrev plArg (A B t1 t2 t3 : Val) (ps : List (List Val)) (o : Int) : Val := .pim [A, B, .lst 3 ps, .int .i64 o, t1, t2, t3]
theorem outs_10 (h : noids [plArg A B t1 t2 t3 [p0] 0] = true) : PureC Try.prog 94 [plArg A B t1 t2 t3 [p0] 0] (outsV 1 0) := run_allG (n := 400) tabOK mix look_ok h (by rfl) (by kernel_rfl)
theorem outs_20 (h : noids [plArg A B t1 t2 t3 [p0, p1] 0] = true) : PureC Try.prog 94 [plArg A B t1 t2 t3 [p0, p1] 0] (outsV 2 0) := run_allG (n := 400) tabOK mix look_ok h (by rfl) (by kernel_rfl)
theorem outs_21 (h : noids [plArg A B t1 t2 t3 [p0, p1] 1] = true) : PureC Try.prog 94 [plArg A B t1 t2 t3 [p0, p1] 1] (outsV 2 1) := run_allG (n := 400) tabOK mix look_ok h (by rfl) (by kernel_rfl)
theorem outs_30 (h : noids [plArg A B t1 t2 t3 [p0, p1, p2] 0] = true) : PureC Try.prog 94 [plArg A B t1 t2 t3 [p0, p1, p2] 0] (outsV 3 0) := run_allG (n := 400) tabOK mix look_ok h (by rfl) (by kernel_rfl)
theorem outs_31 (h : noids [plArg A B t1 t2 t3 [p0, p1, p2] 1] = true) : PureC Try.prog 94 [plArg A B t1 t2 t3 [p0, p1, p2] 1] (outsV 3 1) := run_allG (n := 400) tabOK mix look_ok h (by rfl) (by kernel_rfl)
theorem outs_32 (h : noids [plArg A B t1 t2 t3 [p0, p1, p2] 2] = true) : PureC Try.prog 94 [plArg A B t1 t2 t3 [p0, p1, p2] 2] (outsV 3 2) := run_allG (n := 400) tabOK mix look_ok h (by rfl) (by kernel_rfl)
theorem outs_40 (h : noids [plArg A B t1 t2 t3 [p0, p1, p2, p3] 0] = true) : PureC Try.prog 94 [plArg A B t1 t2 t3 [p0, p1, p2, p3] 0] (outsV 4 0) := run_allG (n := 400) tabOK mix look_ok h (by rfl) (by kernel_rfl)
theorem outs_41 (h : noids [plArg A B t1 t2 t3 [p0, p1, p2, p3] 1] = true) : PureC Try.prog 94 [plArg A B t1 t2 t3 [p0, p1, p2, p3] 1] (outsV 4 1) := run_allG (n := 400) tabOK mix look_ok h (by rfl) (by kernel_rfl)
theorem outs_42 (h : noids [plArg A B t1 t2 t3 [p0, p1, p2, p3] 2] = true) : PureC Try.prog 94 [plArg A B t1 t2 t3 [p0, p1, p2, p3] 2] (outsV 4 2) := run_allG (n := 400) tabOK mix look_ok h (by rfl) (by kernel_rfl)
theorem outs_43 (h : noids [plArg A B t1 t2 t3 [p0, p1, p2, p3] 3] = true) : PureC Try.prog 94 [plArg A B t1 t2 t3 [p0, p1, p2, p3] 3] (outsV 4 3) := run_allG (n := 400) tabOK mix look_ok h (by rfl) (by kernel_rfl)
end
end Cp
namespace Cp
open Go Go.Proofs
theorem VR.outV {G : Gh} {w : World} {l : List Int} {x : Value} (h : VR G w (Cp.outV l) x) : VR G w (.lst 1 (ints l)) x := by
 cases l with
 | nil => exact VR.nils_lst 1 h
 | cons a l => exact h
theorem VR.outsW {G : Gh} {w : World} {g : FuncId} {L : List (List Int)} {x : Value} (h : VR G w (.fn g [.pim [.lst 1 (L.map fun l => [Cp.outV l])]]) x) : VR G w (.fn g [.pim [.lst 1 (L.map fun l => [.lst 1 (ints l)])]]) x := by
 have key : ∀ (i : Nat) (es : List Val), (L.map fun l => [Val.lst 1 (ints l)])[i]? = some es → ∃ l, es = [.lst 1 (ints l)] ∧ (L.map fun l => [Cp.outV l])[i]? = some [Cp.outV l] := by
  intro i es hi
  rw [List.getElem?_map, Option.map_eq_some_iff] at hi
  obtain ⟨l, hl, rfl⟩ := hi
  exact ⟨l, rfl, by rw [List.getElem?_map, hl]; rfl⟩
 have hc : ∀ l : List Int, (Cp.outV l).cell = true := fun l => by cases l <;> rfl
 have hl : ∀ x, VR G w (.lst 1 (L.map fun l => [Cp.outV l])) x → VR G w (.lst 1 (L.map fun l => [.lst 1 (ints l)])) x := by
  intro x h
  cases h with
  | lst _ _ a cap ys hcap hsz ha hcc hv =>
   have e : (L.map fun l => [Cp.outV l]).length = (L.map fun l => [Val.lst 1 (ints l)]).length := by simp
   rw [e]
   refine .lst 1 _ a cap ys (by rw [← e]; exact hcap) (fun i es hi => ?_) (fun hne => ?_) (fun i es hi j v hj => ?_) (fun i es hi j v hj => ?_)
   ·obtain ⟨l, rfl, _⟩ := key i es hi; rfl
   ·have hne' : (L.map fun l => [Cp.outV l]) ≠ [] := fun h0 => hne (List.eq_nil_of_length_eq_zero (by rw [← e, h0]; rfl))
    obtain ⟨b, off, h1, h2, h3⟩ := ha hne'
    refine ⟨b, off, h1, h2, fun i es hi j v hj => ?_⟩
    obtain ⟨l, rfl, h4⟩ := key i es hi
    cases j with
    | zero => exact h3 i _ h4 0 _ rfl
    | succ j => simp at hj
   ·obtain ⟨l, rfl, _⟩ := key i es hi
    cases j with
    | zero => cases hj; rfl
    | succ j => simp at hj
   ·obtain ⟨l, rfl, h4⟩ := key i es hi
    cases j with
    | zero => cases hj; exact (hv i _ h4 0 _ rfl).outV
    | succ j => simp at hj
 cases h with
 | fn f cs xs hs hv =>
  refine .fn _ _ xs hs (fun i v hi => ?_)
  cases i with
  | succ i => simp at hi
  | zero =>
   cases hi
   have h0 := hv 0 _ rfl
   generalize xs.getD 0 undef = y at h0 ⊢
   cases h0 with
   | pim _ b off ys hI hm hc hv =>
    refine .pim _ b off ys hI (fun j v hj => ?_) (fun j v hj => ?_) (fun j v hj => ?_)
    ·cases j with
     | zero => exact hm 0 _ rfl
     | succ j => simp at hj
    ·cases j with
     | zero => cases hj; rfl
     | succ j => simp at hj
    ·cases j with
     | zero => cases hj; exact hl _ (hv 0 _ rfl)
     | succ j => simp at hj
def outsF (np o : Nat) : Val := .fn 114 [.pim [.lst 1 ((outsL np o).map fun l => [.lst 1 (ints l)])]]
theorem noid_ints (l : List Int) : noidss (ints l) = true := noidss_of fun v hv => by
 simp only [ints, List.mem_map] at hv
 obtain ⟨_, _, rfl⟩ := hv
 rfl
theorem noid_outsF (np o : Nat) : noid (outsF np o) = true := by
 simp only [outsF, noid, noids, Bool.and_true]
 exact noidss_of fun v hv => by
  simp only [List.mem_map] at hv
  obtain ⟨l, _, rfl⟩ := hv
  simp only [noids, noid, noid_ints, Bool.and_true]
theorem noid_cNet (n : NetT) : noids (cNet n) = true := by
 have h1 : noidss (n.pipes.map cPipe) = true := noidss_of fun v hv => by
  simp only [List.mem_map] at hv
  obtain ⟨_, _, rfl⟩ := hv
  rfl
 have h2 : noidss (n.heads.map cHead) = true := noidss_of fun v hv => by
  simp only [List.mem_map] at hv
  obtain ⟨_, _, rfl⟩ := hv
  rfl
 have h3 : noidss (n.pumps.map cPump) = true := noidss_of fun v hv => by
  simp only [List.mem_map] at hv
  obtain ⟨_, _, rfl⟩ := hv
  rfl
 simp only [cNet, noids, noid, h1, h2, h3, Bool.and_true]
theorem outs_ok (n : NetT) (hF : NetF n) : PureC Try.prog 94 [.pim (cNet n)] (outsF n.pumps.length n.out.toNat) := by
 obtain ⟨hp1, hp2⟩ := hF.pumps
 obtain ⟨ho1, ho2⟩ := hF.out
 have hn : noids [.pim (cNet n)] = true := by simp only [noids, noid, noid_cNet, Bool.and_true]
 refine PureC.weak (v := outsV n.pumps.length n.out.toNat) ?_ (noid_outsF _ _) (fun G w x h => h.outsW)
 obtain ⟨pipes, heads, pumps, out, tank, mins⟩ := n
 simp only [cNet] at *
 match pumps, hp1, hp2, ho2 with
 | [a], _, _, ho2 =>
  obtain rfl : out = 0 := by simp at ho2; omega
  exact outs_10 _ _ _ _ _ _ hn
 | [a, b], _, _, ho2 =>
  have : out = 0 ∨ out = 1 := by simp at ho2; omega
  rcases this with rfl | rfl
  ·exact outs_20 _ _ _ _ _ _ _ hn
  ·exact outs_21 _ _ _ _ _ _ _ hn
 | [a, b, c], _, _, ho2 =>
  have : out = 0 ∨ out = 1 ∨ out = 2 := by simp at ho2; omega
  rcases this with rfl | rfl | rfl
  ·exact outs_30 _ _ _ _ _ _ _ _ hn
  ·exact outs_31 _ _ _ _ _ _ _ _ hn
  ·exact outs_32 _ _ _ _ _ _ _ _ hn
 | [a, b, c, d], _, _, ho2 =>
  have : out = 0 ∨ out = 1 ∨ out = 2 ∨ out = 3 := by simp at ho2; omega
  rcases this with rfl | rfl | rfl | rfl
  ·exact outs_40 _ _ _ _ _ _ _ _ _ hn
  ·exact outs_41 _ _ _ _ _ _ _ _ _ hn
  ·exact outs_42 _ _ _ _ _ _ _ _ _ hn
  ·exact outs_43 _ _ _ _ _ _ _ _ _ hn
 | _ :: _ :: _ :: _ :: _ :: _, _, h, _ => simp at h
end Cp
namespace Cp
open Go Go.Proofs
set_option maxRecDepth 10000
theorem outs_at {L : List (List Int)} {k : Nat} {l : List Int} (h : L[k]? = some l) : (L.map fun l => [Val.lst 1 (ints l)])[k]? = some [.lst 1 (ints l)] := by rw [List.getElem?_map, h]; rfl
theorem values1_ok (L : List (List Int)) (hL : L.length ≤ 100000) (H0 : Hp) (ky ey : Nat) (J : Nat → Hp → Prop) (hJ0 : J 0 H0)
  (hY : ∀ k l H, L[k]? = some l → J k H → RoundC Try.prog ky ey [.lst 1 (ints l)] H (fun v H' => v = .bool true ∧ J (k + 1) H')) :
  ACall Try.prog 114 [.yld ky ey, .pim [.lst 1 (L.map fun l => [.lst 1 (ints l)])]] H0 (fun v H' => J L.length H') := by
 refine ACall_of (fn := Try.f114) tabOK (by kernel_rfl) rfl (by kernel_rfl) (by simp [Try.f114]) ?_
 intro X hX0 hXs
 repeat' (first | (with_reducible refine sk ?_; intro K hK) | ((with_reducible first | refine AW_regY (id := 3) tabOK { base := 2000, own := [] } [] [] (by rw [hXs]; decide +kernel) ?_ | refine rg (md := { base := 2000, own := [] }) (h := ?_) | refine nx ?_); try simp (disch := omega) only [go_sem, simprocAttr]) | (with_reducible refine bk ?_) | ((with_reducible refine' cE ?hv ?_ ?_); (case hv => first | rfl | (simp only [go_sem, simprocAttr]; rfl)); all_goals (intro hc; (try simp only [go_sem, simprocAttr] at hc); try (exfalso; omega))) | with_reducible intro (ep : Nat → Nat) | with_reducible apply_assumption -exfalso -symm only [*])
 refine AW_range tabOK L.length (fun k f H => (f 0 = .yld ky ey ∧ f 5 = .lst 1 (L.map fun l => [.lst 1 (ints l)])) ∧ J k H) (by omega) (by rw [hXs]; decide) (by decide) (by (first | rfl | (simp only [go_sem, simprocAttr]; done) | (simp only [go_sem, simprocAttr]; rfl))) (by (first | rfl | (simp only [go_sem, simprocAttr]; done) | (simp only [go_sem, simprocAttr]; rfl)))
   ⟨by (and_intros <;> first | rfl | (simp only [go_sem, simprocAttr]; done) | (simp only [go_sem, simprocAttr]; rfl)), hJ0⟩ ?_ ?_
 ·rintro k f H hk h7 h6 ⟨⟨h0, h5⟩, hJ⟩
  obtain ⟨l, hl⟩ : ∃ x, L[k]? = some x := ⟨_, List.getElem?_eq_getElem hk⟩
  have hla := outs_at hl
  repeat' (first | (with_reducible refine sk ?_; intro K hK) | ((with_reducible first | refine AW_regY (id := 3) tabOK { base := 2000, own := [] } [] [] (by rw [hXs]; decide +kernel) ?_ | refine rg (md := { base := 2000, own := [] }) (h := ?_) | refine nx ?_); try simp (disch := omega) only [h0, h5, h6, h7, hla,go_sem, simprocAttr]) | (with_reducible refine bk ?_) | ((with_reducible refine' cE ?hv ?_ ?_); (case hv => first | rfl | (simp only [h0, h5, h6, h7, hla,go_sem, simprocAttr]; rfl)); all_goals (intro hc; (try simp only [go_sem, simprocAttr] at hc); try (exfalso; omega))) | with_reducible intro (ep : Nat → Nat) | with_reducible apply_assumption -exfalso -symm only [*])
  refine yldK_intro (hY k l _ hl hJ) ?_
  rintro v H3 ⟨rfl, hJ3⟩
  simp only [go_sem, simprocAttr]
  repeat' (first | (with_reducible refine sk ?_; intro K hK) | ((with_reducible first | refine AW_regY (id := 3) tabOK { base := 2000, own := [] } [] [] (by rw [hXs]; decide +kernel) ?_ | refine rg (md := { base := 2000, own := [] }) (h := ?_) | refine nx ?_); try simp (disch := omega) only [h0, h5, h6, h7, hJ3,go_sem, simprocAttr]) | (with_reducible refine bk ?_) | ((with_reducible refine' cE ?hv ?_ ?_); (case hv => first | rfl | (simp only [h0, h5, h6, h7, hJ3,go_sem, simprocAttr]; rfl)); all_goals (intro hc; (try simp only [go_sem, simprocAttr] at hc); try (exfalso; omega))) | with_reducible intro (ep : Nat → Nat) | with_reducible apply_assumption -exfalso -symm only [*])
 ·rintro f H h7 h6 ⟨⟨h0, h5⟩, hJ⟩
  exact FnQ_end (Or.inr rfl) (.refl _) (by simp only [Try.f114, go_sem, simprocAttr]; rfl) hJ
end Cp
namespace Cp
open Go Go.Proofs
set_option maxRecDepth 10000
set_option maxHeartbeats 1000000
def lackF (n : NetT) (hs : List HeadT) (out : List Int) (best : Bool) (l : List HeadT) : Option HeadT := l.find? fun h => decide (pressS n hs out best h < h.least)
def lackO (o : Option HeadT) : Int × Bool := match o with | some h => (h.id, true) | none => (0, false)
def tankH (n : NetT) (best : Bool) : Int := if best = true then n.tank.hi else n.tank.lo
def lackS (n : NetT) (hs : List HeadT) (out : List Int) (best : Bool) : Int × Bool :=
 match lackF n hs out best hs with
 | some h => (h.id, true)
 | none => if tankH n best < needs hs * n.mins then (-1, true) else (0, false)
def cLk (p : Int × Bool) : List Val := [.int .i64 p.1, .bool p.2]
theorem lacks_look (n : NetT) (hF : NetF n) (hs : List HeadT) (h5 : heads500 hs) (hsl : hs.length ≤ 12) (hnd : ∀ h ∈ hs, 1 ≤ h.node ∧ h.node ≤ n.pipes.length) (out : List Int) (ho : outOK n out = true) (best : Bool) (e36 e33 e34 : Nat) (H : Hp) (hP : PlH n hs out e36 e33 e34 H)
  (hroom : H 1208 = none ∧ H 1604 = none ∧ H 1605 = none ∧ H 1607 = none) :
  LookC Try.prog 96 [.ptr 436 e36 10 0 0, endV best] H (.agg (cLk (lackS n hs out best))) := by
 obtain ⟨h36, h33, ver, h34⟩ := hP
 obtain ⟨r0, r1, r2, r3⟩ := hroom
 have hr0 : frz1 (H 1208) = none := by rw [r0]; rfl
 have hr1 : frz1 (H 1604) = none := by rw [r1]; rfl
 have hr2 : frz1 (H 1605) = none := by rw [r2]; rfl
 have hr3 : frz1 (H 1607) = none := by rw [r3]; rfl
 clear r0 r1 r2 r3
 have hnb := needs_bnd h5
 have hfl : (flowL n.pipes (n.pipes.length + 1) hs)[0]? = some (needs hs) := by rw [flowL_get (by omega), flowAt_zero]
 refine LookC_of (fn := Try.f96) tabOK (by kernel_rfl) rfl (by kernel_rfl) (by simp [Try.f96]) rfl ?_
 intro X hX0 hXs
 repeat' (first | ((fail_if_success (with_reducible refine AW_at (id := 2) ?_)); with_reducible refine sk ?_; intro K hK) | ((with_reducible first | refine rgL [] [21] (md := { base := 1600, own := [] }) (h := ?_) | refine rgL [4, 5, 7] [21] (md := { base := 1600, own := [] }) (h := ?_) | refine nx ?_); try simp (disch := omega) only [h36, h33, h34, hr0, hr1, hr2, hr3, cPlant, endV,go_sem, simprocAttr]) | (with_reducible refine bk ?_) | ((with_reducible refine' cE ?hv ?_ ?_); (case hv => first | rfl | (simp only [h36, h33, h34, hr0, hr1, hr2, hr3, cPlant, endV,go_sem, simprocAttr]; rfl)); all_goals (intro hc; (try simp only [go_sem, simprocAttr] at hc); try (exfalso; omega))) | ((with_reducible first | refine grdS_split ?_ ?_ | refine lkG_split ?_ ?_) <;> intro hg <;> (try simp (disch := omega) only [hg, h36, h33, h34, hr0, hr1, hr2, hr3, cPlant, endV,go_sem, simprocAttr]) <;> (try simp only [go_sem, simprocAttr] at hg) <;> (try (exfalso; omega))) | ((with_reducible refine fe ?_); refine ⟨_, (by simp only [Try.f96, h36, h33, h34, hr0, hr1, hr2, hr3, cPlant, endV,go_sem, simprocAttr]; rfl), ?_⟩; first | rfl | (try simp only [h36, h33, h34, hr0, hr1, hr2, hr3, cPlant, endV,go_sem, simprocAttr, seval])) | with_reducible intro (ep : Nat → Nat) | with_reducible apply_assumption -exfalso -symm only [*])
 have hcut : ∀ e4 e5 f H, (f 0 = .ptr 436 e36 10 0 0 ∧ f 3 = .pim [.fn (sgF best) [], .fn (sgF (!best)) []] ∧ f 4 = .ptr 1604 e4 2 0 0 ∧ f 5 = .ptr 1605 e5 2 0 0) ∧ (H 436 = some (e36, .fro 10 [cPlant n hs e33 e34 (n.pipes.length + 1)]) ∧ H 433 = some (e33, .fro 1 (ints (flowL n.pipes (n.pipes.length + 1) hs))) ∧
   H 1604 = some (e4, .arr 2 [[.int .i64 0, .bool false]]) ∧ H 1605 = some (e5, .arr 2 [cLk (lackO (lackF n hs out best hs))])) → K f H := by
  rintro e4 e5 f H ⟨⟨h0, h3, h4, h5'⟩, g36, g33, g4, g5⟩
  refine hK f H ?_
  clear hK
  have hlp : 0 < n.pipes.length + 1 := by omega
  have hsg := sg_ok best n.tank
  have htd : (if best = true then n.tank.hi else n.tank.lo) = tankH n best := rfl
  rw [htd] at hsg
  simp only [encSpan] at hsg
  have hmn := hF.mins
  have hmul : 0 ≤ needs hs * n.mins ∧ needs hs * n.mins ≤ 6000 * 600 := ⟨Int.mul_nonneg (by omega) hmn.1, Int.mul_le_mul (by omega) hmn.2 hmn.1 (by omega)⟩
  unfold lackS
  cases hfo : lackF n hs out best hs with
  | some x =>
   rw [hfo] at g5
   simp only [lackO, cLk] at g5
   repeat' (first | (with_reducible refine sk ?_; intro K hK) | ((first | (with_reducible first | refine rgL [] [21] (md := { base := 1600, own := [] }) (h := ?_) | refine rgL [4, 5, 7] [21] (md := { base := 1600, own := [] }) (h := ?_) | refine nx ?_) | refine pK (hsg) ?_ | refine lK (hsg) ?_); try simp (disch := omega) only [h0, h3, h4, h5', g36, g33, g4, g5, hlp, hfl, flowL_len, cPlant, cLk,go_sem, simprocAttr]) | (with_reducible refine bk ?_) | ((with_reducible refine' cE ?hv ?_ ?_); (case hv => first | rfl | (simp only [h0, h3, h4, h5', g36, g33, g4, g5, hlp, hfl, flowL_len, cPlant, cLk,go_sem, simprocAttr]; rfl)); all_goals (intro hc; (try simp only [go_sem, simprocAttr] at hc); try (exfalso; omega))) | ((with_reducible first | refine grdS_split ?_ ?_ | refine lkG_split ?_ ?_) <;> intro hg <;> (try simp (disch := omega) only [hg, h0, h3, h4, h5', g36, g33, g4, g5, hlp, hfl, flowL_len, cPlant, cLk,go_sem, simprocAttr]) <;> (try simp only [go_sem, simprocAttr] at hg) <;> (try (exfalso; omega))) | ((with_reducible refine fe ?_); refine ⟨_, (by simp only [Try.f96, h0, h3, h4, h5', g36, g33, g4, g5, hlp, hfl, flowL_len, cPlant, cLk,go_sem, simprocAttr]; rfl), ?_⟩; first | rfl | (try simp only [h0, h3, h4, h5', g36, g33, g4, g5, hlp, hfl, flowL_len, cPlant, cLk,go_sem, simprocAttr, seval])) | with_reducible intro (ep : Nat → Nat) | with_reducible apply_assumption -exfalso -symm only [*])
   all_goals (exfalso; simp at hg)
  | none =>
   rw [hfo] at g5
   simp only [lackO, cLk] at g5
   by_cases hlt : tankH n best < needs hs * n.mins
   ·repeat' (first | (with_reducible refine sk ?_; intro K hK) | ((first | (with_reducible first | refine rgL [] [21] (md := { base := 1600, own := [] }) (h := ?_) | refine rgL [4, 5, 7] [21] (md := { base := 1600, own := [] }) (h := ?_) | refine nx ?_) | refine pK (hsg) ?_ | refine lK (hsg) ?_); try simp (disch := omega) only [h0, h3, h4, h5', g36, g33, g4, g5, hlp, hfl, hlt, flowL_len, cPlant, cLk,go_sem, simprocAttr]) | (with_reducible refine bk ?_) | ((with_reducible refine' cE ?hv ?_ ?_); (case hv => first | rfl | (simp only [h0, h3, h4, h5', g36, g33, g4, g5, hlp, hfl, hlt, flowL_len, cPlant, cLk,go_sem, simprocAttr]; rfl)); all_goals (intro hc; (try simp only [go_sem, simprocAttr] at hc); try (exfalso; omega))) | ((with_reducible first | refine grdS_split ?_ ?_ | refine lkG_split ?_ ?_) <;> intro hg <;> (try simp (disch := omega) only [hg, h0, h3, h4, h5', g36, g33, g4, g5, hlp, hfl, hlt, flowL_len, cPlant, cLk,go_sem, simprocAttr]) <;> (try simp only [go_sem, simprocAttr] at hg) <;> (try (exfalso; omega))) | ((with_reducible refine fe ?_); refine ⟨_, (by simp only [Try.f96, h0, h3, h4, h5', g36, g33, g4, g5, hlp, hfl, hlt, flowL_len, cPlant, cLk,go_sem, simprocAttr]; rfl), ?_⟩; first | rfl | (try simp only [h0, h3, h4, h5', g36, g33, g4, g5, hlp, hfl, hlt, flowL_len, cPlant, cLk,go_sem, simprocAttr, seval])) | with_reducible intro (ep : Nat → Nat) | with_reducible apply_assumption -exfalso -symm only [*])
    all_goals (exfalso; simp at hg)
   ·repeat' (first | (with_reducible refine sk ?_; intro K hK) | ((first | (with_reducible first | refine rgL [] [21] (md := { base := 1600, own := [] }) (h := ?_) | refine rgL [4, 5, 7] [21] (md := { base := 1600, own := [] }) (h := ?_) | refine nx ?_) | refine pK (hsg) ?_ | refine lK (hsg) ?_); try simp (disch := omega) only [h0, h3, h4, h5', g36, g33, g4, g5, hlp, hfl, hlt, flowL_len, cPlant, cLk,go_sem, simprocAttr]) | (with_reducible refine bk ?_) | ((with_reducible refine' cE ?hv ?_ ?_); (case hv => first | rfl | (simp only [h0, h3, h4, h5', g36, g33, g4, g5, hlp, hfl, hlt, flowL_len, cPlant, cLk,go_sem, simprocAttr]; rfl)); all_goals (intro hc; (try simp only [go_sem, simprocAttr] at hc); try (exfalso; omega))) | ((with_reducible first | refine grdS_split ?_ ?_ | refine lkG_split ?_ ?_) <;> intro hg <;> (try simp (disch := omega) only [hg, h0, h3, h4, h5', g36, g33, g4, g5, hlp, hfl, hlt, flowL_len, cPlant, cLk,go_sem, simprocAttr]) <;> (try simp only [go_sem, simprocAttr] at hg) <;> (try (exfalso; omega))) | ((with_reducible refine fe ?_); refine ⟨_, (by simp only [Try.f96, h0, h3, h4, h5', g36, g33, g4, g5, hlp, hfl, hlt, flowL_len, cPlant, cLk,go_sem, simprocAttr]; rfl), ?_⟩; first | rfl | (try simp only [h0, h3, h4, h5', g36, g33, g4, g5, hlp, hfl, hlt, flowL_len, cPlant, cLk,go_sem, simprocAttr, seval])) | with_reducible intro (ep : Nat → Nat) | with_reducible apply_assumption -exfalso -symm only [*])
 clear hK
 repeat' (first | (with_reducible refine sk ?_; intro K hK) | ((with_reducible first | refine rgL [] [21] (md := { base := 1600, own := [] }) (h := ?_) | refine rgL [4, 5, 7] [21] (md := { base := 1600, own := [] }) (h := ?_) | refine nx ?_); try simp (disch := omega) only [h36, h33, h34, hr0, hr1, hr2, hr3, cPlant,go_sem, simprocAttr]) | (with_reducible refine bk ?_) | ((with_reducible refine' cE ?hv ?_ ?_); (case hv => first | rfl | (simp only [h36, h33, h34, hr0, hr1, hr2, hr3, cPlant,go_sem, simprocAttr]; rfl)); all_goals (intro hc; (try simp only [go_sem, simprocAttr] at hc); try (exfalso; omega))) | ((with_reducible first | refine grdS_split ?_ ?_ | refine lkG_split ?_ ?_) <;> intro hg <;> (try simp (disch := omega) only [hg, h36, h33, h34, hr0, hr1, hr2, hr3, cPlant,go_sem, simprocAttr]) <;> (try simp only [go_sem, simprocAttr] at hg) <;> (try (exfalso; omega))) | with_reducible intro (ep : Nat → Nat) | with_reducible apply_assumption -exfalso -symm only [*])
 refine AW_range tabOK hs.length (fun k f H => ∃ e4 e5, (f 0 = .ptr 436 e36 10 0 0 ∧ f 3 = .pim [.fn (sgF best) [], .fn (sgF (!best)) []] ∧ f 4 = .ptr 1604 e4 2 0 0 ∧ f 5 = .ptr 1605 e5 2 0 0 ∧ f 12 = .lst 8 (hs.map cHead)) ∧ (H 436 = some (e36, .fro 10 [cPlant n hs e33 e34 (n.pipes.length + 1)]) ∧ H 433 = some (e33, .fro 1 (ints (flowL n.pipes (n.pipes.length + 1) hs))) ∧ H 434 = some (e34, .frm ver (imap .i64 (offM out))) ∧
   H 1604 = some (e4, .arr 2 [[.int .i64 0, .bool false]]) ∧ H 1605 = some (e5, .arr 2 [[.int .i64 0, .bool false]])) ∧ lackF n hs out best hs = lackF n hs out best (hs.drop k)) (by omega) (by rw [hXs]; decide) (by decide) (by (first | rfl | (simp only [h36, go_sem, simprocAttr]; done) | (simp only [h36, go_sem, simprocAttr]; rfl))) (by (first | rfl | (simp only [h36, go_sem, simprocAttr]; done) | (simp only [h36, go_sem, simprocAttr]; rfl)))
  ⟨_, _, by (and_intros <;> first | rfl | (simp only [h36, go_sem, simprocAttr]; done) | (simp only [h36, go_sem, simprocAttr]; rfl)), by (and_intros <;> first | rfl | (simp only [h36, h33, h34, cPlant, go_sem, simprocAttr]; done) | (simp only [h36, h33, h34, cPlant, go_sem, simprocAttr]; rfl)), by simp⟩ ?_ ?_
 ·clear h36 h33 h34 hr0 hr1 hr2 hr3
  rintro k f H hk h14 h13 ⟨e4, e5, ⟨h0, h3, h4, h5', h12⟩, ⟨g36, g33, g34, g4, g5⟩, hr⟩
  obtain ⟨x, hx⟩ : ∃ x, hs[k]? = some x := ⟨_, List.getElem?_eq_getElem hk⟩
  rw [drop_cons hx] at hr
  simp only [lackF, List.find?_cons] at hr
  have hxm := List.mem_of_getElem? hx
  refine AW_keep [436, 433, 434, 1604, 1605] ?_
  have k36 : keep H [436, 433, 434, 1604, 1605] 436 = some (e36, .fro 10 [cPlant n hs e33 e34 (n.pipes.length + 1)]) := g36
  have k33 : keep H [436, 433, 434, 1604, 1605] 433 = some (e33, .fro 1 (ints (flowL n.pipes (n.pipes.length + 1) hs))) := g33
  have k34 : keep H [436, 433, 434, 1604, 1605] 434 = some (e34, .frm ver (imap .i64 (offM out))) := g34
  have k4 : keep H [436, 433, 434, 1604, 1605] 1604 = some (e4, .arr 2 [[.int .i64 0, .bool false]]) := g4
  have k5 : keep H [436, 433, 434, 1604, 1605] 1605 = some (e5, .arr 2 [[.int .i64 0, .bool false]]) := g5
  have k7 : keep H [436, 433, 434, 1604, 1605] 1607 = none := rfl
  have k08 : keep H [436, 433, 434, 1604, 1605] 1208 = none := rfl
  clear g36 g33 g34 g4 g5
  obtain ⟨H2, hH2⟩ : ∃ H2, keep H [436, 433, 434, 1604, 1605] = H2 := ⟨_, rfl⟩
  rw [hH2] at k36 k33 k34 k4 k5 k7 k08 ⊢
  clear hH2
  have hp0 : ∀ e7 cs, LookC Try.prog 61 [.ptr 436 e36 10 0 0, encHead x, endV best] (upd (upd H2 1607 (some (e7, .arr 8 [List.replicate 8 (.int .i64 0)]))) 1607 (some (e7, .arr 8 cs))) (.int .i64 (pressS n hs out best x)) := fun e7 cs =>
   pressure_look n hF hs h5 (by omega) out ho best x (hnd x hxm) e36 e33 e34 _ ⟨by rw [upd_ne _ _ (by decide), upd_ne _ _ (by decide), k36]; rfl, by rw [upd_ne _ _ (by decide), upd_ne _ _ (by decide), k33]; rfl, ver, by rw [upd_ne _ _ (by decide), upd_ne _ _ (by decide), k34]; rfl⟩ (by rw [upd_ne _ _ (by decide), upd_ne _ _ (by decide), k08])
  simp only [encHead, cHead, endV] at hp0
  by_cases hlt : pressS n hs out best x < x.least
  ·rw [decide_eq_true hlt] at hr
   have hfo : lackF n hs out best hs = some x := hr
   have hcut' := fun (f : Fr) (H : Hp) (h : (f 0 = .ptr 436 e36 10 0 0 ∧ f 3 = .pim [.fn (sgF best) [], .fn (sgF (!best)) []] ∧ f 4 = .ptr 1604 e4 2 0 0 ∧ f 5 = .ptr 1605 e5 2 0 0) ∧ (H 436 = some (e36, .fro 10 [cPlant n hs e33 e34 (n.pipes.length + 1)]) ∧ H 433 = some (e33, .fro 1 (ints (flowL n.pipes (n.pipes.length + 1) hs))) ∧
     H 1604 = some (e4, .arr 2 [[.int .i64 0, .bool false]]) ∧ H 1605 = some (e5, .arr 2 [[.int .i64 x.id, .bool true]]))) => hcut e4 e5 f H ⟨h.1, h.2.1, h.2.2.1, h.2.2.2.1, by rw [hfo]; exact h.2.2.2.2⟩
   clear hcut
   repeat' (first | (with_reducible refine sk ?_; intro K hK) | ((first | (with_reducible first | refine rgL [] [21] (md := { base := 1600, own := [] }) (h := ?_) | refine rgL [4, 5, 7] [21] (md := { base := 1600, own := [] }) (h := ?_) | refine nx ?_) | refine pK (hp0 _ _) ?_ | refine lK (hp0 _ _) ?_); try simp (disch := omega) only [h0, h3, h4, h5', h12, h13, h14, k36, k33, k34, k4, k5, k7, hx, hlt, cHead,go_sem, simprocAttr]) | (with_reducible refine bk ?_) | ((with_reducible refine' cE ?hv ?_ ?_); (case hv => first | rfl | (simp only [h0, h3, h4, h5', h12, h13, h14, k36, k33, k34, k4, k5, k7, hx, hlt, cHead,go_sem, simprocAttr]; rfl)); all_goals (intro hc; (try simp only [go_sem, simprocAttr] at hc); try (exfalso; omega))) | ((with_reducible first | refine grdS_split ?_ ?_ | refine lkG_split ?_ ?_) <;> intro hg <;> (try simp (disch := omega) only [hg, h0, h3, h4, h5', h12, h13, h14, k36, k33, k34, k4, k5, k7, hx, hlt, cHead,go_sem, simprocAttr]) <;> (try simp only [go_sem, simprocAttr] at hg) <;> (try (exfalso; omega))) | with_reducible intro (ep : Nat → Nat) | with_reducible apply_assumption -exfalso -symm only [*])
   exact ⟨by (and_intros <;> first | rfl | (simp only [h0, h3, h4, h5', go_sem, simprocAttr]; done) | (simp only [h0, h3, h4, h5', go_sem, simprocAttr]; rfl)), by (and_intros <;> first | rfl | (simp only [k36, k33, k4, k5, cHead, go_sem, simprocAttr]; done) | (simp only [k36, k33, k4, k5, cHead, go_sem, simprocAttr]; rfl))⟩
  ·rw [decide_eq_false hlt] at hr
   repeat' (first | (with_reducible refine sk ?_; intro K hK) | ((first | (with_reducible first | refine rgL [] [21] (md := { base := 1600, own := [] }) (h := ?_) | refine rgL [4, 5, 7] [21] (md := { base := 1600, own := [] }) (h := ?_) | refine nx ?_) | refine pK (hp0 _ _) ?_ | refine lK (hp0 _ _) ?_); try simp (disch := omega) only [h0, h3, h4, h5', h12, h13, h14, k36, k33, k34, k4, k5, k7, hx, hlt, cHead,go_sem, simprocAttr]) | (with_reducible refine bk ?_) | ((with_reducible refine' cE ?hv ?_ ?_); (case hv => first | rfl | (simp only [h0, h3, h4, h5', h12, h13, h14, k36, k33, k34, k4, k5, k7, hx, hlt, cHead,go_sem, simprocAttr]; rfl)); all_goals (intro hc; (try simp only [go_sem, simprocAttr] at hc); try (exfalso; omega))) | ((with_reducible first | refine grdS_split ?_ ?_ | refine lkG_split ?_ ?_) <;> intro hg <;> (try simp (disch := omega) only [hg, h0, h3, h4, h5', h12, h13, h14, k36, k33, k34, k4, k5, k7, hx, hlt, cHead,go_sem, simprocAttr]) <;> (try simp only [go_sem, simprocAttr] at hg) <;> (try (exfalso; omega))) | with_reducible intro (ep : Nat → Nat) | with_reducible apply_assumption -exfalso -symm only [*])
   exact ⟨e4, e5, by (and_intros <;> first | rfl | (simp only [h0, h3, h4, h5', h12, go_sem, simprocAttr]; done) | (simp only [h0, h3, h4, h5', h12, go_sem, simprocAttr]; rfl)), by (and_intros <;> first | rfl | (simp only [k36, k33, k34, k4, k5, go_sem, simprocAttr]; done) | (simp only [k36, k33, k34, k4, k5, go_sem, simprocAttr]; rfl)), hr⟩
 ·clear h36 h33 h34 hr0 hr1 hr2 hr3
  rintro f H h14 h13 ⟨e4, e5, ⟨h0, h3, h4, h5', h12⟩, ⟨g36, g33, g34, g4, g5⟩, hr⟩
  rw [drop_none (Nat.le_refl _)] at hr
  have hfo : lackF n hs out best hs = none := hr
  refine hcut e4 e5 _ _ ⟨⟨h0, h3, h4, h5'⟩, g36, g33, g4, by rw [hfo]; exact g5⟩
end Cp
namespace Cp
open Go Go.Proofs
set_option maxRecDepth 10000
set_option maxHeartbeats 1000000
theorem without_fro (n : NetT) (hs : List HeadT) (e36 e33 e34 ver : Nat) (out : List Int) (hlo : out.length ≤ 100000) (hp : out.Pairwise (· < ·)) (g : FuncId) (caps : List Val) (H0 : Hp)
  (h36 : H0 436 = some (e36, .fro 10 [cPlant n hs e33 e34 (n.pipes.length + 1)])) (h34 : H0 434 = some (e34, .map ver [])) (R : Hp → Prop)
  (hg : ∀ (ver' : Nat) (H : Hp), (∀ j, ¬ j = 434 → H j = H0 j) → H 434 = some (e34, .map ver' (imap .i64 (offM out))) → ACall Try.prog g caps H fun v H' => v = .tup [] ∧ H' 436 = H 436 ∧ (∃ ver2, H' 434 = some (e34, .map ver2 (imap .i64 (offM out)))) ∧ R H') :
  ACall Try.prog 58 [.ptr 436 e36 10 0 0, .lst 1 (ints out), .fn g caps] H0 fun v H' => v = .tup [] ∧ ∃ H2 ver2, R H2 ∧ (∀ j, ¬ j = 434 → H' j = H2 j) ∧ H' 434 = some (e34, .map ver2 []) := by
 refine ACall_of (fn := Try.f58) tabOK (by kernel_rfl) rfl (by kernel_rfl) (by simp [Try.f58]) ?_
 intro X hX0 hXs
 repeat' (first | ((fail_if_success (with_reducible refine AW_at (id := 0) ?_)); with_reducible refine sk ?_; intro K hK) | ((with_reducible first | refine rg (md := { base := 1400, own := [], imp := [23] }) (h := ?_) | refine nx ?_); try simp (disch := omega) only [go_sem, simprocAttr]) | (with_reducible refine bk ?_) | ((with_reducible refine' cE ?hv ?_ ?_); (case hv => first | rfl | (simp only [go_sem, simprocAttr]; rfl)); all_goals (intro hc; (try simp only [go_sem, simprocAttr] at hc); try (exfalso; omega))) | ((with_reducible refine fe ?_); refine ⟨_, (by simp only [Try.f58, go_sem, simprocAttr]; rfl), ?_⟩; first | rfl | (try simp only [go_sem, simprocAttr, seval])) | with_reducible intro (ep : Nat → Nat) | with_reducible apply_assumption -exfalso -symm only [*])
 have hcut : ∀ f H, (f 0 = .ptr 436 e36 10 0 0 ∧ f 1 = .lst 1 (ints out) ∧ f 2 = .fn g caps) ∧ (∀ j, ¬ j = 434 → H j = H0 j) ∧ (∃ ver', H 434 = some (e34, .map ver' (imap .i64 (offM out)))) → K f H := by
  rintro f H ⟨⟨h0, h1, h2⟩, hlow, ver', hm⟩
  refine hK f H ?_
  clear hK
  have k36 : H 436 = some (e36, .fro 10 [cPlant n hs e33 e34 (n.pipes.length + 1)]) := by rw [hlow _ (by decide), h36]
  repeat' (first | ((fail_if_success (with_reducible refine AW_at (id := 6) ?_)); with_reducible refine sk ?_; intro K hK) | ((first | (with_reducible first | refine rg (md := { base := 1400, own := [], imp := [23] }) (h := ?_) | refine nx ?_) | refine pK (hg ver' H hlow hm) ?_); try simp (disch := omega) only [h0, h1, h2,go_sem, simprocAttr]) | (with_reducible refine bk ?_) | ((with_reducible refine' cE ?hv ?_ ?_); (case hv => first | rfl | (simp only [h0, h1, h2,go_sem, simprocAttr]; rfl)); all_goals (intro hc; (try simp only [go_sem, simprocAttr] at hc); try (exfalso; omega))) | (first | refine iK (hg ver' H hlow hm) ?_) | ((with_reducible refine fe ?_); refine ⟨_, (by simp only [Try.f58, h0, h1, h2,go_sem, simprocAttr]; rfl), ?_⟩; first | rfl | (try simp only [h0, h1, h2,go_sem, simprocAttr, seval])) | with_reducible intro (ep : Nat → Nat) | with_reducible apply_assumption -exfalso -symm only [*])
  rintro v H2 ⟨rfl, k36', ⟨ver2, hm2⟩, hR⟩
  rw [k36] at k36'
  simp only [go_sem, simprocAttr]
  repeat' (first | (with_reducible refine sk ?_; intro K hK) | ((with_reducible first | refine rg (md := { base := 1400, own := [], imp := [23] }) (h := ?_) | refine nx ?_); try simp (disch := omega) only [h0, h1,go_sem, simprocAttr]) | (with_reducible refine bk ?_) | ((with_reducible refine' cE ?hv ?_ ?_); (case hv => first | rfl | (simp only [h0, h1,go_sem, simprocAttr]; rfl)); all_goals (intro hc; (try simp only [go_sem, simprocAttr] at hc); try (exfalso; omega))) | with_reducible intro (ep : Nat → Nat) | with_reducible apply_assumption -exfalso -symm only [*])
  refine AW_range tabOK out.length (fun k f H => (f 0 = .ptr 436 e36 10 0 0 ∧ f 24 = .lst 1 (ints out)) ∧ (∀ j, ¬ j = 434 → H j = H2 j) ∧ ∃ v, H 434 = some (e34, .map v (imap .i64 (offM (out.drop k))))) (by omega) (by rw [hXs]; decide) (by decide) (by (first | rfl | (simp only [go_sem, simprocAttr]; done) | (simp only [go_sem, simprocAttr]; rfl))) (by (first | rfl | (simp only [go_sem, simprocAttr]; done) | (simp only [go_sem, simprocAttr]; rfl)))
   ⟨by (and_intros <;> first | rfl | (simp only [h0, h1, go_sem, simprocAttr]; done) | (simp only [h0, h1, go_sem, simprocAttr]; rfl)), fun j _ => rfl, ver2, by rw [List.drop_zero]; exact hm2⟩ ?_ ?_
  ·clear h0 h1 h2 hm
   rintro k f H3 hk h26 h25 ⟨⟨h0, h24⟩, hlow3, v, hm⟩
   obtain ⟨x, hx⟩ : ∃ x, out[k]? = some x := ⟨_, List.getElem?_eq_getElem hk⟩
   have q36 : H3 436 = some (e36, .fro 10 [cPlant n hs e33 e34 (n.pipes.length + 1)]) := by rw [hlow3 _ (by decide), k36']
   rw [drop_cons hx] at hm
   have hf : findI x (offM (x :: out.drop (k + 1))) 0 = some (0, .bool true) := by simp [offM, findI]
   have he : (imap .i64 (offM (x :: out.drop (k + 1)))).eraseIdx 0 = imap .i64 (offM (out.drop (k + 1))) := by simp [imap, offM]
   repeat' (first | (with_reducible refine sk ?_; intro K hK) | ((with_reducible first | refine rg (md := { base := 1400, own := [], imp := [23] }) (h := ?_) | refine nx ?_); try simp (disch := omega) only [h0, h24, h25, h26, hx, q36, hm, hf, he, cPlant,go_sem, simprocAttr]) | (with_reducible refine bk ?_) | ((with_reducible refine' cE ?hv ?_ ?_); (case hv => first | rfl | (simp only [h0, h24, h25, h26, hx, q36, hm, hf, he, cPlant,go_sem, simprocAttr]; rfl)); all_goals (intro hc; (try simp only [go_sem, simprocAttr] at hc); try (exfalso; omega))) | with_reducible intro (ep : Nat → Nat) | with_reducible apply_assumption -exfalso -symm only [*])
   exact ⟨fun j hj => by rw [if_neg hj]; exact hlow3 j hj, _, rfl⟩
  ·clear h0 h1 h2 hm
   rintro f H3 h26 h25 ⟨⟨h0, h24⟩, hlow3, v, hm⟩
   rw [drop_none (Nat.le_refl _)] at hm
   refine FnQ_end (Or.inr rfl) (.refl _) (by simp only [Try.f58, go_sem, simprocAttr]; rfl) ?_
   exact ⟨rfl, H2, v, hR, hlow3, hm⟩
 clear hK
 repeat' (first | (with_reducible refine sk ?_; intro K hK) | ((with_reducible first | refine rg (md := { base := 1400, own := [], imp := [23] }) (h := ?_) | refine nx ?_); try simp (disch := omega) only [go_sem, simprocAttr]) | (with_reducible refine bk ?_) | ((with_reducible refine' cE ?hv ?_ ?_); (case hv => first | rfl | (simp only [go_sem, simprocAttr]; rfl)); all_goals (intro hc; (try simp only [go_sem, simprocAttr] at hc); try (exfalso; omega))) | with_reducible intro (ep : Nat → Nat) | with_reducible apply_assumption -exfalso -symm only [*])
 refine AW_range tabOK out.length (fun k f H => (f 0 = .ptr 436 e36 10 0 0 ∧ f 1 = .lst 1 (ints out) ∧ f 2 = .fn g caps ∧ f 10 = .lst 1 (ints out)) ∧ (∀ j, ¬ j = 434 → H j = H0 j) ∧ ∃ v, H 434 = some (e34, .map v (imap .i64 (offM (out.take k))))) (by omega) (by rw [hXs]; decide) (by decide) (by (first | rfl | (simp only [go_sem, simprocAttr]; done) | (simp only [go_sem, simprocAttr]; rfl))) (by (first | rfl | (simp only [go_sem, simprocAttr]; done) | (simp only [go_sem, simprocAttr]; rfl)))
  ⟨by (and_intros <;> first | rfl | (simp only [go_sem, simprocAttr]; done) | (simp only [go_sem, simprocAttr]; rfl)), fun j _ => rfl, ver, by rw [List.take_zero]; exact h34⟩ ?_ ?_
 ·clear hcut
  rintro k f H3 hk h12 h11 ⟨⟨h0, h1, h2, h10⟩, hlow3, v, hm⟩
  obtain ⟨x, hx⟩ : ∃ x, out[k]? = some x := ⟨_, List.getElem?_eq_getElem hk⟩
  have q36 : H3 436 = some (e36, .fro 10 [cPlant n hs e33 e34 (n.pipes.length + 1)]) := by rw [hlow3 _ (by decide), h36]
  have hf : findI x (offM (out.take k)) 0 = none := findI_end (v := .any) fun p hq => by
   obtain ⟨y, hy, rfl⟩ := List.mem_map.1 hq
   obtain ⟨i, hi⟩ := List.mem_iff_getElem?.1 hy
   have hik : i < k := by have := (List.getElem?_eq_some_iff.1 hi).1; simp at this; omega
   rw [List.getElem?_take_of_lt hik] at hi
   obtain ⟨z1, rfl⟩ := List.getElem?_eq_some_iff.1 hi
   obtain ⟨z2, rfl⟩ := List.getElem?_eq_some_iff.1 hx
   have := List.pairwise_iff_getElem.1 hp i k z1 z2 hik
   simp only; omega
  repeat' (first | (with_reducible refine sk ?_; intro K hK) | ((with_reducible first | refine rg (md := { base := 1400, own := [], imp := [23] }) (h := ?_) | refine nx ?_); try simp (disch := omega) only [h0, h1, h2, h10, h11, h12, hx, q36, hm, hf, cPlant,go_sem, simprocAttr]) | (with_reducible refine bk ?_) | ((with_reducible refine' cE ?hv ?_ ?_); (case hv => first | rfl | (simp only [h0, h1, h2, h10, h11, h12, hx, q36, hm, hf, cPlant,go_sem, simprocAttr]; rfl)); all_goals (intro hc; (try simp only [go_sem, simprocAttr] at hc); try (exfalso; omega))) | with_reducible intro (ep : Nat → Nat) | with_reducible apply_assumption -exfalso -symm only [*])
  exact ⟨fun j hj => by rw [if_neg hj]; exact hlow3 j hj, _, by rw [offM_snoc, take_snoc' hx]⟩
 ·rintro f H3 h12 h11 ⟨⟨h0, h1, h2, h10⟩, hlow3, v, hm⟩
  rw [List.take_of_length_le (Nat.le_refl _)] at hm
  repeat' (first | (with_reducible refine sk ?_; intro K hK) | ((with_reducible first | refine rg (md := { base := 1400, own := [], imp := [23] }) (h := ?_) | refine nx ?_); try simp (disch := omega) only [h0, h1, h2,go_sem, simprocAttr]) | (with_reducible refine bk ?_) | ((with_reducible refine' cE ?hv ?_ ?_); (case hv => first | rfl | (simp only [h0, h1, h2,go_sem, simprocAttr]; rfl)); all_goals (intro hc; (try simp only [go_sem, simprocAttr] at hc); try (exfalso; omega))) | with_reducible intro (ep : Nat → Nat) | with_reducible apply_assumption -exfalso -symm only [*])
  exact ⟨by (and_intros <;> first | rfl | (simp only [h0, h1, h2, go_sem, simprocAttr]; done) | (simp only [h0, h1, h2, go_sem, simprocAttr]; rfl)), hlow3, v, hm⟩
end Cp
namespace Cp
open Go Go.Proofs
set_option maxRecDepth 10000
set_option maxHeartbeats 1000000
theorem xf155 {a : Int} {b : Bool} : xfield tab 155 (.agg [.int .i64 a, .bool b]) 1 = some (.bool b) := by rfl
def getStep (n : NetT) (hs : List HeadT) (s : LackT × Bool) (out : List Int) : LackT × Bool :=
 (if (lackS n hs out false).2 = true ∧ s.1.known = 2 then ⟨0, (lackS n hs out false).1, out⟩ else s.1, s.2 || !(lackS n hs out true).2)
def cTold (t : LackT) : List Val := [.int .u8 t.known, .int .i64 t.head, if t.known = 2 then .nils else .lst 1 (ints t.out)]
theorem gets1_ok (n : NetT) (hF : NetF n) (hs : List HeadT) (h5 : heads500 hs) (hsl : hs.length ≤ 12) (hnd : ∀ h ∈ hs, 1 ≤ h.node ∧ h.node ≤ n.pipes.length) (out : List Int) (ho : outOK n out = true) (e36 e33 e34 ver e3 e4 e5 e6 : Nat) (t : LackT) (ht : t.known = 0 ∨ t.known = 2) (g : Bool) (H0 : Hp)
  (g36 : H0 436 = some (e36, .fro 10 [cPlant n hs e33 e34 (n.pipes.length + 1)])) (g33 : H0 433 = some (e33, .arr 1 (ints (flowL n.pipes (n.pipes.length + 1) hs)))) (g34 : H0 434 = some (e34, .map ver (imap .i64 (offM out))))
  (g3 : H0 603 = some (e3, .arr 3 [cTold t])) (g4 : H0 604 = some (e4, .arr 1 [[.bool g]])) (g5 : H0 605 = some (e5, .arr 4 [[.fn (sgF false) [], .fn (sgF true) [], .fn (sgF true) [], .fn (sgF false) []]])) (g6 : H0 606 = some (e6, .arr 1 [[.lst 1 (ints out)]]))
  (hroom : H0 1208 = none ∧ H0 1604 = none ∧ H0 1605 = none ∧ H0 1607 = none) :
  ACall Try.prog 95 [.pim [.ptr 436 e36 10 0 0], .ptr 605 e5 4 0 0, .ptr 603 e3 3 0 0, .ptr 606 e6 1 0 0, .ptr 604 e4 1 0 0] H0 fun v H' => v = .tup [] ∧ (∀ j, ¬ j = 603 → ¬ j = 604 → ¬ j = 1705 → H' j = H0 j) ∧
   H' 603 = some (e3, .arr 3 [cTold (getStep n hs (t, g) out).1]) ∧ H' 604 = some (e4, .arr 1 [[.bool (getStep n hs (t, g) out).2]]) := by
 refine ACall_of (fn := Try.f95) tabOK (by kernel_rfl) rfl (by kernel_rfl) (by simp [Try.f95]) ?_
 intro X hX0 hXs
 refine AW_lose 1705 fun H1 w5 hs1 => ?_
 obtain ⟨r0, r1, r2, r3⟩ := hroom
 have k36 := (hs1 436 (by decide)).trans g36
 have k33 := (hs1 433 (by decide)).trans g33
 have k34 := (hs1 434 (by decide)).trans g34
 have k3 := (hs1 603 (by decide)).trans g3
 have k4 := (hs1 604 (by decide)).trans g4
 have k5 := (hs1 605 (by decide)).trans g5
 have k6 := (hs1 606 (by decide)).trans g6
 have lk : ∀ (best : Bool) (H : Hp), (∀ j, ¬ j = 603 → ¬ j = 604 → ¬ j = 1705 → H j = H0 j) → LookC Try.prog 96 [.ptr 436 e36 10 0 0, endV best] H (.agg (cLk (lackS n hs out best))) := fun best H h =>
  lacks_look n hF hs h5 hsl hnd out ho best e36 e33 e34 H ⟨by rw [h _ (by decide) (by decide) (by decide), g36]; rfl, by rw [h _ (by decide) (by decide) (by decide), g33]; rfl, ver, by rw [h _ (by decide) (by decide) (by decide), g34]; rfl⟩
   ⟨by rw [h _ (by decide) (by decide) (by decide), r0], by rw [h _ (by decide) (by decide) (by decide), r1], by rw [h _ (by decide) (by decide) (by decide), r2], by rw [h _ (by decide) (by decide) (by decide), r3]⟩
 have hsame : ∀ j, ¬ j = 603 → ¬ j = 604 → ¬ j = 1705 → H1 j = H0 j := fun j _ _ h => hs1 j h
 simp only [getStep]
 obtain ⟨⟨i0, b0⟩, hl0⟩ : ∃ p, lackS n hs out false = p := ⟨_, rfl⟩
 obtain ⟨⟨i1, b1⟩, hl1⟩ : ∃ p, lackS n hs out true = p := ⟨_, rfl⟩
 have l0 := lk false H1 hsame
 have l1 := lk true
 rw [hl0] at l0 ⊢
 rw [hl1] at l1 ⊢
 simp only [endV, cLk, Bool.not_false, Bool.not_true] at l0 l1
 clear lk hs1 g36 g33 g34 g3 g4 g5 g6 r0 r1 r2 r3
 simp only [cTold] at k3 ⊢
 cases b0 <;> cases b1 <;> cases g <;> rcases ht with ht | ht <;> simp only [ht] at k3
 ·repeat' (first | (with_reducible refine sk ?_; intro K hK) | ((first | (with_reducible first | refine rgL [] [9, 26] (md := { base := 1700, own := [] }) (h := ?_) | refine rgL [5] [9, 26] (md := { base := 1700, own := [] }) (h := ?_) | refine nx ?_) | refine pK (l0) ?_ | refine pK (l1 _ (fun j q1 q2 q3 => by simp only [upd_ne _ _ q1, upd_ne _ _ q2, upd_ne _ _ q3]; exact hsame j q1 q2 q3)) ?_ | refine lK (l0) ?_ | refine lK (l1 _ (fun j q1 q2 q3 => by simp only [upd_ne _ _ q1, upd_ne _ _ q2, upd_ne _ _ q3]; exact hsame j q1 q2 q3)) ?_); try simp (disch := omega) only [k36, k3, k4, k5, k6, w5, ht, xf155,go_sem, simprocAttr]) | (with_reducible refine bk ?_) | ((with_reducible refine' cE ?hv ?_ ?_); (case hv => first | rfl | (simp only [k36, k3, k4, k5, k6, w5, ht, xf155,go_sem, simprocAttr]; rfl)); all_goals (intro hc; (try simp only [go_sem, simprocAttr] at hc); try (exfalso; omega))) | ((with_reducible first | refine grdS_split ?_ ?_ | refine lkG_split ?_ ?_) <;> intro hg <;> (try simp (disch := omega) only [hg, k36, k3, k4, k5, k6, w5, ht, xf155,go_sem, simprocAttr]) <;> (try simp only [go_sem, simprocAttr] at hg) <;> (try (exfalso; omega))) | with_reducible intro (ep : Nat → Nat) | with_reducible apply_assumption -exfalso -symm only [*])
  refine FnQ_end (Or.inr rfl) (.refl _) (by simp only [Try.f95, go_sem, simprocAttr]; rfl) ?_
  exact ⟨rfl, fun j q1 q2 q3 => by simp only [upd_ne _ _ q1, upd_ne _ _ q2, upd_ne _ _ q3]; exact hsame j q1 q2 q3, by (first | rfl | (simp only [k3, ht, go_sem, simprocAttr]; done) | (simp only [k3, ht, go_sem, simprocAttr]; rfl)), by (first | rfl | (simp only [k4, go_sem, simprocAttr]; done) | (simp only [k4, go_sem, simprocAttr]; rfl))⟩
 ·repeat' (first | (with_reducible refine sk ?_; intro K hK) | ((first | (with_reducible first | refine rgL [] [9, 26] (md := { base := 1700, own := [] }) (h := ?_) | refine rgL [5] [9, 26] (md := { base := 1700, own := [] }) (h := ?_) | refine nx ?_) | refine pK (l0) ?_ | refine pK (l1 _ (fun j q1 q2 q3 => by simp only [upd_ne _ _ q1, upd_ne _ _ q2, upd_ne _ _ q3]; exact hsame j q1 q2 q3)) ?_ | refine lK (l0) ?_ | refine lK (l1 _ (fun j q1 q2 q3 => by simp only [upd_ne _ _ q1, upd_ne _ _ q2, upd_ne _ _ q3]; exact hsame j q1 q2 q3)) ?_); try simp (disch := omega) only [k36, k3, k4, k5, k6, w5, ht, xf155,go_sem, simprocAttr]) | (with_reducible refine bk ?_) | ((with_reducible refine' cE ?hv ?_ ?_); (case hv => first | rfl | (simp only [k36, k3, k4, k5, k6, w5, ht, xf155,go_sem, simprocAttr]; rfl)); all_goals (intro hc; (try simp only [go_sem, simprocAttr] at hc); try (exfalso; omega))) | ((with_reducible first | refine grdS_split ?_ ?_ | refine lkG_split ?_ ?_) <;> intro hg <;> (try simp (disch := omega) only [hg, k36, k3, k4, k5, k6, w5, ht, xf155,go_sem, simprocAttr]) <;> (try simp only [go_sem, simprocAttr] at hg) <;> (try (exfalso; omega))) | with_reducible intro (ep : Nat → Nat) | with_reducible apply_assumption -exfalso -symm only [*])
  refine FnQ_end (Or.inr rfl) (.refl _) (by simp only [Try.f95, go_sem, simprocAttr]; rfl) ?_
  exact ⟨rfl, fun j q1 q2 q3 => by simp only [upd_ne _ _ q1, upd_ne _ _ q2, upd_ne _ _ q3]; exact hsame j q1 q2 q3, by (first | rfl | (simp only [k3, ht, go_sem, simprocAttr]; done) | (simp only [k3, ht, go_sem, simprocAttr]; rfl)), by (first | rfl | (simp only [k4, go_sem, simprocAttr]; done) | (simp only [k4, go_sem, simprocAttr]; rfl))⟩
 ·repeat' (first | (with_reducible refine sk ?_; intro K hK) | ((first | (with_reducible first | refine rgL [] [9, 26] (md := { base := 1700, own := [] }) (h := ?_) | refine rgL [5] [9, 26] (md := { base := 1700, own := [] }) (h := ?_) | refine nx ?_) | refine pK (l0) ?_ | refine pK (l1 _ (fun j q1 q2 q3 => by simp only [upd_ne _ _ q1, upd_ne _ _ q2, upd_ne _ _ q3]; exact hsame j q1 q2 q3)) ?_ | refine lK (l0) ?_ | refine lK (l1 _ (fun j q1 q2 q3 => by simp only [upd_ne _ _ q1, upd_ne _ _ q2, upd_ne _ _ q3]; exact hsame j q1 q2 q3)) ?_); try simp (disch := omega) only [k36, k3, k4, k5, k6, w5, ht, xf155,go_sem, simprocAttr]) | (with_reducible refine bk ?_) | ((with_reducible refine' cE ?hv ?_ ?_); (case hv => first | rfl | (simp only [k36, k3, k4, k5, k6, w5, ht, xf155,go_sem, simprocAttr]; rfl)); all_goals (intro hc; (try simp only [go_sem, simprocAttr] at hc); try (exfalso; omega))) | ((with_reducible first | refine grdS_split ?_ ?_ | refine lkG_split ?_ ?_) <;> intro hg <;> (try simp (disch := omega) only [hg, k36, k3, k4, k5, k6, w5, ht, xf155,go_sem, simprocAttr]) <;> (try simp only [go_sem, simprocAttr] at hg) <;> (try (exfalso; omega))) | with_reducible intro (ep : Nat → Nat) | with_reducible apply_assumption -exfalso -symm only [*])
  refine FnQ_end (Or.inr rfl) (.refl _) (by simp only [Try.f95, go_sem, simprocAttr]; rfl) ?_
  exact ⟨rfl, fun j q1 q2 q3 => by simp only [upd_ne _ _ q1, upd_ne _ _ q2, upd_ne _ _ q3]; exact hsame j q1 q2 q3, by (first | rfl | (simp only [k3, ht, go_sem, simprocAttr]; done) | (simp only [k3, ht, go_sem, simprocAttr]; rfl)), by (first | rfl | (simp only [k4, go_sem, simprocAttr]; done) | (simp only [k4, go_sem, simprocAttr]; rfl))⟩
 ·repeat' (first | (with_reducible refine sk ?_; intro K hK) | ((first | (with_reducible first | refine rgL [] [9, 26] (md := { base := 1700, own := [] }) (h := ?_) | refine rgL [5] [9, 26] (md := { base := 1700, own := [] }) (h := ?_) | refine nx ?_) | refine pK (l0) ?_ | refine pK (l1 _ (fun j q1 q2 q3 => by simp only [upd_ne _ _ q1, upd_ne _ _ q2, upd_ne _ _ q3]; exact hsame j q1 q2 q3)) ?_ | refine lK (l0) ?_ | refine lK (l1 _ (fun j q1 q2 q3 => by simp only [upd_ne _ _ q1, upd_ne _ _ q2, upd_ne _ _ q3]; exact hsame j q1 q2 q3)) ?_); try simp (disch := omega) only [k36, k3, k4, k5, k6, w5, ht, xf155,go_sem, simprocAttr]) | (with_reducible refine bk ?_) | ((with_reducible refine' cE ?hv ?_ ?_); (case hv => first | rfl | (simp only [k36, k3, k4, k5, k6, w5, ht, xf155,go_sem, simprocAttr]; rfl)); all_goals (intro hc; (try simp only [go_sem, simprocAttr] at hc); try (exfalso; omega))) | ((with_reducible first | refine grdS_split ?_ ?_ | refine lkG_split ?_ ?_) <;> intro hg <;> (try simp (disch := omega) only [hg, k36, k3, k4, k5, k6, w5, ht, xf155,go_sem, simprocAttr]) <;> (try simp only [go_sem, simprocAttr] at hg) <;> (try (exfalso; omega))) | with_reducible intro (ep : Nat → Nat) | with_reducible apply_assumption -exfalso -symm only [*])
  refine FnQ_end (Or.inr rfl) (.refl _) (by simp only [Try.f95, go_sem, simprocAttr]; rfl) ?_
  exact ⟨rfl, fun j q1 q2 q3 => by simp only [upd_ne _ _ q1, upd_ne _ _ q2, upd_ne _ _ q3]; exact hsame j q1 q2 q3, by (first | rfl | (simp only [k3, ht, go_sem, simprocAttr]; done) | (simp only [k3, ht, go_sem, simprocAttr]; rfl)), by (first | rfl | (simp only [k4, go_sem, simprocAttr]; done) | (simp only [k4, go_sem, simprocAttr]; rfl))⟩
 ·repeat' (first | (with_reducible refine sk ?_; intro K hK) | ((first | (with_reducible first | refine rgL [] [9, 26] (md := { base := 1700, own := [] }) (h := ?_) | refine rgL [5] [9, 26] (md := { base := 1700, own := [] }) (h := ?_) | refine nx ?_) | refine pK (l0) ?_ | refine pK (l1 _ (fun j q1 q2 q3 => by simp only [upd_ne _ _ q1, upd_ne _ _ q2, upd_ne _ _ q3]; exact hsame j q1 q2 q3)) ?_ | refine lK (l0) ?_ | refine lK (l1 _ (fun j q1 q2 q3 => by simp only [upd_ne _ _ q1, upd_ne _ _ q2, upd_ne _ _ q3]; exact hsame j q1 q2 q3)) ?_); try simp (disch := omega) only [k36, k3, k4, k5, k6, w5, ht, xf155,go_sem, simprocAttr]) | (with_reducible refine bk ?_) | ((with_reducible refine' cE ?hv ?_ ?_); (case hv => first | rfl | (simp only [k36, k3, k4, k5, k6, w5, ht, xf155,go_sem, simprocAttr]; rfl)); all_goals (intro hc; (try simp only [go_sem, simprocAttr] at hc); try (exfalso; omega))) | ((with_reducible first | refine grdS_split ?_ ?_ | refine lkG_split ?_ ?_) <;> intro hg <;> (try simp (disch := omega) only [hg, k36, k3, k4, k5, k6, w5, ht, xf155,go_sem, simprocAttr]) <;> (try simp only [go_sem, simprocAttr] at hg) <;> (try (exfalso; omega))) | with_reducible intro (ep : Nat → Nat) | with_reducible apply_assumption -exfalso -symm only [*])
  refine FnQ_end (Or.inr rfl) (.refl _) (by simp only [Try.f95, go_sem, simprocAttr]; rfl) ?_
  exact ⟨rfl, fun j q1 q2 q3 => by simp only [upd_ne _ _ q1, upd_ne _ _ q2, upd_ne _ _ q3]; exact hsame j q1 q2 q3, by (first | rfl | (simp only [k3, ht, go_sem, simprocAttr]; done) | (simp only [k3, ht, go_sem, simprocAttr]; rfl)), by (first | rfl | (simp only [k4, go_sem, simprocAttr]; done) | (simp only [k4, go_sem, simprocAttr]; rfl))⟩
 ·repeat' (first | (with_reducible refine sk ?_; intro K hK) | ((first | (with_reducible first | refine rgL [] [9, 26] (md := { base := 1700, own := [] }) (h := ?_) | refine rgL [5] [9, 26] (md := { base := 1700, own := [] }) (h := ?_) | refine nx ?_) | refine pK (l0) ?_ | refine pK (l1 _ (fun j q1 q2 q3 => by simp only [upd_ne _ _ q1, upd_ne _ _ q2, upd_ne _ _ q3]; exact hsame j q1 q2 q3)) ?_ | refine lK (l0) ?_ | refine lK (l1 _ (fun j q1 q2 q3 => by simp only [upd_ne _ _ q1, upd_ne _ _ q2, upd_ne _ _ q3]; exact hsame j q1 q2 q3)) ?_); try simp (disch := omega) only [k36, k3, k4, k5, k6, w5, ht, xf155,go_sem, simprocAttr]) | (with_reducible refine bk ?_) | ((with_reducible refine' cE ?hv ?_ ?_); (case hv => first | rfl | (simp only [k36, k3, k4, k5, k6, w5, ht, xf155,go_sem, simprocAttr]; rfl)); all_goals (intro hc; (try simp only [go_sem, simprocAttr] at hc); try (exfalso; omega))) | ((with_reducible first | refine grdS_split ?_ ?_ | refine lkG_split ?_ ?_) <;> intro hg <;> (try simp (disch := omega) only [hg, k36, k3, k4, k5, k6, w5, ht, xf155,go_sem, simprocAttr]) <;> (try simp only [go_sem, simprocAttr] at hg) <;> (try (exfalso; omega))) | with_reducible intro (ep : Nat → Nat) | with_reducible apply_assumption -exfalso -symm only [*])
  refine FnQ_end (Or.inr rfl) (.refl _) (by simp only [Try.f95, go_sem, simprocAttr]; rfl) ?_
  exact ⟨rfl, fun j q1 q2 q3 => by simp only [upd_ne _ _ q1, upd_ne _ _ q2, upd_ne _ _ q3]; exact hsame j q1 q2 q3, by (first | rfl | (simp only [k3, ht, go_sem, simprocAttr]; done) | (simp only [k3, ht, go_sem, simprocAttr]; rfl)), by (first | rfl | (simp only [k4, go_sem, simprocAttr]; done) | (simp only [k4, go_sem, simprocAttr]; rfl))⟩
 ·repeat' (first | (with_reducible refine sk ?_; intro K hK) | ((first | (with_reducible first | refine rgL [] [9, 26] (md := { base := 1700, own := [] }) (h := ?_) | refine rgL [5] [9, 26] (md := { base := 1700, own := [] }) (h := ?_) | refine nx ?_) | refine pK (l0) ?_ | refine pK (l1 _ (fun j q1 q2 q3 => by simp only [upd_ne _ _ q1, upd_ne _ _ q2, upd_ne _ _ q3]; exact hsame j q1 q2 q3)) ?_ | refine lK (l0) ?_ | refine lK (l1 _ (fun j q1 q2 q3 => by simp only [upd_ne _ _ q1, upd_ne _ _ q2, upd_ne _ _ q3]; exact hsame j q1 q2 q3)) ?_); try simp (disch := omega) only [k36, k3, k4, k5, k6, w5, ht, xf155,go_sem, simprocAttr]) | (with_reducible refine bk ?_) | ((with_reducible refine' cE ?hv ?_ ?_); (case hv => first | rfl | (simp only [k36, k3, k4, k5, k6, w5, ht, xf155,go_sem, simprocAttr]; rfl)); all_goals (intro hc; (try simp only [go_sem, simprocAttr] at hc); try (exfalso; omega))) | ((with_reducible first | refine grdS_split ?_ ?_ | refine lkG_split ?_ ?_) <;> intro hg <;> (try simp (disch := omega) only [hg, k36, k3, k4, k5, k6, w5, ht, xf155,go_sem, simprocAttr]) <;> (try simp only [go_sem, simprocAttr] at hg) <;> (try (exfalso; omega))) | with_reducible intro (ep : Nat → Nat) | with_reducible apply_assumption -exfalso -symm only [*])
  refine FnQ_end (Or.inr rfl) (.refl _) (by simp only [Try.f95, go_sem, simprocAttr]; rfl) ?_
  exact ⟨rfl, fun j q1 q2 q3 => by simp only [upd_ne _ _ q1, upd_ne _ _ q2, upd_ne _ _ q3]; exact hsame j q1 q2 q3, by (first | rfl | (simp only [k3, ht, go_sem, simprocAttr]; done) | (simp only [k3, ht, go_sem, simprocAttr]; rfl)), by (first | rfl | (simp only [k4, go_sem, simprocAttr]; done) | (simp only [k4, go_sem, simprocAttr]; rfl))⟩
 ·repeat' (first | (with_reducible refine sk ?_; intro K hK) | ((first | (with_reducible first | refine rgL [] [9, 26] (md := { base := 1700, own := [] }) (h := ?_) | refine rgL [5] [9, 26] (md := { base := 1700, own := [] }) (h := ?_) | refine nx ?_) | refine pK (l0) ?_ | refine pK (l1 _ (fun j q1 q2 q3 => by simp only [upd_ne _ _ q1, upd_ne _ _ q2, upd_ne _ _ q3]; exact hsame j q1 q2 q3)) ?_ | refine lK (l0) ?_ | refine lK (l1 _ (fun j q1 q2 q3 => by simp only [upd_ne _ _ q1, upd_ne _ _ q2, upd_ne _ _ q3]; exact hsame j q1 q2 q3)) ?_); try simp (disch := omega) only [k36, k3, k4, k5, k6, w5, ht, xf155,go_sem, simprocAttr]) | (with_reducible refine bk ?_) | ((with_reducible refine' cE ?hv ?_ ?_); (case hv => first | rfl | (simp only [k36, k3, k4, k5, k6, w5, ht, xf155,go_sem, simprocAttr]; rfl)); all_goals (intro hc; (try simp only [go_sem, simprocAttr] at hc); try (exfalso; omega))) | ((with_reducible first | refine grdS_split ?_ ?_ | refine lkG_split ?_ ?_) <;> intro hg <;> (try simp (disch := omega) only [hg, k36, k3, k4, k5, k6, w5, ht, xf155,go_sem, simprocAttr]) <;> (try simp only [go_sem, simprocAttr] at hg) <;> (try (exfalso; omega))) | with_reducible intro (ep : Nat → Nat) | with_reducible apply_assumption -exfalso -symm only [*])
  refine FnQ_end (Or.inr rfl) (.refl _) (by simp only [Try.f95, go_sem, simprocAttr]; rfl) ?_
  exact ⟨rfl, fun j q1 q2 q3 => by simp only [upd_ne _ _ q1, upd_ne _ _ q2, upd_ne _ _ q3]; exact hsame j q1 q2 q3, by (first | rfl | (simp only [k3, ht, go_sem, simprocAttr]; done) | (simp only [k3, ht, go_sem, simprocAttr]; rfl)), by (first | rfl | (simp only [k4, go_sem, simprocAttr]; done) | (simp only [k4, go_sem, simprocAttr]; rfl))⟩
 ·repeat' (first | (with_reducible refine sk ?_; intro K hK) | ((first | (with_reducible first | refine rgL [] [9, 26] (md := { base := 1700, own := [] }) (h := ?_) | refine rgL [5] [9, 26] (md := { base := 1700, own := [] }) (h := ?_) | refine nx ?_) | refine pK (l0) ?_ | refine pK (l1 _ (fun j q1 q2 q3 => by simp only [upd_ne _ _ q1, upd_ne _ _ q2, upd_ne _ _ q3]; exact hsame j q1 q2 q3)) ?_ | refine lK (l0) ?_ | refine lK (l1 _ (fun j q1 q2 q3 => by simp only [upd_ne _ _ q1, upd_ne _ _ q2, upd_ne _ _ q3]; exact hsame j q1 q2 q3)) ?_); try simp (disch := omega) only [k36, k3, k4, k5, k6, w5, ht, xf155,go_sem, simprocAttr]) | (with_reducible refine bk ?_) | ((with_reducible refine' cE ?hv ?_ ?_); (case hv => first | rfl | (simp only [k36, k3, k4, k5, k6, w5, ht, xf155,go_sem, simprocAttr]; rfl)); all_goals (intro hc; (try simp only [go_sem, simprocAttr] at hc); try (exfalso; omega))) | ((with_reducible first | refine grdS_split ?_ ?_ | refine lkG_split ?_ ?_) <;> intro hg <;> (try simp (disch := omega) only [hg, k36, k3, k4, k5, k6, w5, ht, xf155,go_sem, simprocAttr]) <;> (try simp only [go_sem, simprocAttr] at hg) <;> (try (exfalso; omega))) | with_reducible intro (ep : Nat → Nat) | with_reducible apply_assumption -exfalso -symm only [*])
  refine FnQ_end (Or.inr rfl) (.refl _) (by simp only [Try.f95, go_sem, simprocAttr]; rfl) ?_
  exact ⟨rfl, fun j q1 q2 q3 => by simp only [upd_ne _ _ q1, upd_ne _ _ q2, upd_ne _ _ q3]; exact hsame j q1 q2 q3, by (first | rfl | (simp only [k3, ht, go_sem, simprocAttr]; done) | (simp only [k3, ht, go_sem, simprocAttr]; rfl)), by (first | rfl | (simp only [k4, go_sem, simprocAttr]; done) | (simp only [k4, go_sem, simprocAttr]; rfl))⟩
 ·repeat' (first | (with_reducible refine sk ?_; intro K hK) | ((first | (with_reducible first | refine rgL [] [9, 26] (md := { base := 1700, own := [] }) (h := ?_) | refine rgL [5] [9, 26] (md := { base := 1700, own := [] }) (h := ?_) | refine nx ?_) | refine pK (l0) ?_ | refine pK (l1 _ (fun j q1 q2 q3 => by simp only [upd_ne _ _ q1, upd_ne _ _ q2, upd_ne _ _ q3]; exact hsame j q1 q2 q3)) ?_ | refine lK (l0) ?_ | refine lK (l1 _ (fun j q1 q2 q3 => by simp only [upd_ne _ _ q1, upd_ne _ _ q2, upd_ne _ _ q3]; exact hsame j q1 q2 q3)) ?_); try simp (disch := omega) only [k36, k3, k4, k5, k6, w5, ht, xf155,go_sem, simprocAttr]) | (with_reducible refine bk ?_) | ((with_reducible refine' cE ?hv ?_ ?_); (case hv => first | rfl | (simp only [k36, k3, k4, k5, k6, w5, ht, xf155,go_sem, simprocAttr]; rfl)); all_goals (intro hc; (try simp only [go_sem, simprocAttr] at hc); try (exfalso; omega))) | ((with_reducible first | refine grdS_split ?_ ?_ | refine lkG_split ?_ ?_) <;> intro hg <;> (try simp (disch := omega) only [hg, k36, k3, k4, k5, k6, w5, ht, xf155,go_sem, simprocAttr]) <;> (try simp only [go_sem, simprocAttr] at hg) <;> (try (exfalso; omega))) | with_reducible intro (ep : Nat → Nat) | with_reducible apply_assumption -exfalso -symm only [*])
  refine FnQ_end (Or.inr rfl) (.refl _) (by simp only [Try.f95, go_sem, simprocAttr]; rfl) ?_
  exact ⟨rfl, fun j q1 q2 q3 => by simp only [upd_ne _ _ q1, upd_ne _ _ q2, upd_ne _ _ q3]; exact hsame j q1 q2 q3, by (first | rfl | (simp only [k3, ht, go_sem, simprocAttr]; done) | (simp only [k3, ht, go_sem, simprocAttr]; rfl)), by (first | rfl | (simp only [k4, go_sem, simprocAttr]; done) | (simp only [k4, go_sem, simprocAttr]; rfl))⟩
 ·repeat' (first | (with_reducible refine sk ?_; intro K hK) | ((first | (with_reducible first | refine rgL [] [9, 26] (md := { base := 1700, own := [] }) (h := ?_) | refine rgL [5] [9, 26] (md := { base := 1700, own := [] }) (h := ?_) | refine nx ?_) | refine pK (l0) ?_ | refine pK (l1 _ (fun j q1 q2 q3 => by simp only [upd_ne _ _ q1, upd_ne _ _ q2, upd_ne _ _ q3]; exact hsame j q1 q2 q3)) ?_ | refine lK (l0) ?_ | refine lK (l1 _ (fun j q1 q2 q3 => by simp only [upd_ne _ _ q1, upd_ne _ _ q2, upd_ne _ _ q3]; exact hsame j q1 q2 q3)) ?_); try simp (disch := omega) only [k36, k3, k4, k5, k6, w5, ht, xf155,go_sem, simprocAttr]) | (with_reducible refine bk ?_) | ((with_reducible refine' cE ?hv ?_ ?_); (case hv => first | rfl | (simp only [k36, k3, k4, k5, k6, w5, ht, xf155,go_sem, simprocAttr]; rfl)); all_goals (intro hc; (try simp only [go_sem, simprocAttr] at hc); try (exfalso; omega))) | ((with_reducible first | refine grdS_split ?_ ?_ | refine lkG_split ?_ ?_) <;> intro hg <;> (try simp (disch := omega) only [hg, k36, k3, k4, k5, k6, w5, ht, xf155,go_sem, simprocAttr]) <;> (try simp only [go_sem, simprocAttr] at hg) <;> (try (exfalso; omega))) | with_reducible intro (ep : Nat → Nat) | with_reducible apply_assumption -exfalso -symm only [*])
  refine FnQ_end (Or.inr rfl) (.refl _) (by simp only [Try.f95, go_sem, simprocAttr]; rfl) ?_
  exact ⟨rfl, fun j q1 q2 q3 => by simp only [upd_ne _ _ q1, upd_ne _ _ q2, upd_ne _ _ q3]; exact hsame j q1 q2 q3, by (first | rfl | (simp only [k3, ht, go_sem, simprocAttr]; done) | (simp only [k3, ht, go_sem, simprocAttr]; rfl)), by (first | rfl | (simp only [k4, go_sem, simprocAttr]; done) | (simp only [k4, go_sem, simprocAttr]; rfl))⟩
 ·repeat' (first | (with_reducible refine sk ?_; intro K hK) | ((first | (with_reducible first | refine rgL [] [9, 26] (md := { base := 1700, own := [] }) (h := ?_) | refine rgL [5] [9, 26] (md := { base := 1700, own := [] }) (h := ?_) | refine nx ?_) | refine pK (l0) ?_ | refine pK (l1 _ (fun j q1 q2 q3 => by simp only [upd_ne _ _ q1, upd_ne _ _ q2, upd_ne _ _ q3]; exact hsame j q1 q2 q3)) ?_ | refine lK (l0) ?_ | refine lK (l1 _ (fun j q1 q2 q3 => by simp only [upd_ne _ _ q1, upd_ne _ _ q2, upd_ne _ _ q3]; exact hsame j q1 q2 q3)) ?_); try simp (disch := omega) only [k36, k3, k4, k5, k6, w5, ht, xf155,go_sem, simprocAttr]) | (with_reducible refine bk ?_) | ((with_reducible refine' cE ?hv ?_ ?_); (case hv => first | rfl | (simp only [k36, k3, k4, k5, k6, w5, ht, xf155,go_sem, simprocAttr]; rfl)); all_goals (intro hc; (try simp only [go_sem, simprocAttr] at hc); try (exfalso; omega))) | ((with_reducible first | refine grdS_split ?_ ?_ | refine lkG_split ?_ ?_) <;> intro hg <;> (try simp (disch := omega) only [hg, k36, k3, k4, k5, k6, w5, ht, xf155,go_sem, simprocAttr]) <;> (try simp only [go_sem, simprocAttr] at hg) <;> (try (exfalso; omega))) | with_reducible intro (ep : Nat → Nat) | with_reducible apply_assumption -exfalso -symm only [*])
  refine FnQ_end (Or.inr rfl) (.refl _) (by simp only [Try.f95, go_sem, simprocAttr]; rfl) ?_
  exact ⟨rfl, fun j q1 q2 q3 => by simp only [upd_ne _ _ q1, upd_ne _ _ q2, upd_ne _ _ q3]; exact hsame j q1 q2 q3, by (first | rfl | (simp only [k3, ht, go_sem, simprocAttr]; done) | (simp only [k3, ht, go_sem, simprocAttr]; rfl)), by (first | rfl | (simp only [k4, go_sem, simprocAttr]; done) | (simp only [k4, go_sem, simprocAttr]; rfl))⟩
 ·repeat' (first | (with_reducible refine sk ?_; intro K hK) | ((first | (with_reducible first | refine rgL [] [9, 26] (md := { base := 1700, own := [] }) (h := ?_) | refine rgL [5] [9, 26] (md := { base := 1700, own := [] }) (h := ?_) | refine nx ?_) | refine pK (l0) ?_ | refine pK (l1 _ (fun j q1 q2 q3 => by simp only [upd_ne _ _ q1, upd_ne _ _ q2, upd_ne _ _ q3]; exact hsame j q1 q2 q3)) ?_ | refine lK (l0) ?_ | refine lK (l1 _ (fun j q1 q2 q3 => by simp only [upd_ne _ _ q1, upd_ne _ _ q2, upd_ne _ _ q3]; exact hsame j q1 q2 q3)) ?_); try simp (disch := omega) only [k36, k3, k4, k5, k6, w5, ht, xf155,go_sem, simprocAttr]) | (with_reducible refine bk ?_) | ((with_reducible refine' cE ?hv ?_ ?_); (case hv => first | rfl | (simp only [k36, k3, k4, k5, k6, w5, ht, xf155,go_sem, simprocAttr]; rfl)); all_goals (intro hc; (try simp only [go_sem, simprocAttr] at hc); try (exfalso; omega))) | ((with_reducible first | refine grdS_split ?_ ?_ | refine lkG_split ?_ ?_) <;> intro hg <;> (try simp (disch := omega) only [hg, k36, k3, k4, k5, k6, w5, ht, xf155,go_sem, simprocAttr]) <;> (try simp only [go_sem, simprocAttr] at hg) <;> (try (exfalso; omega))) | with_reducible intro (ep : Nat → Nat) | with_reducible apply_assumption -exfalso -symm only [*])
  refine FnQ_end (Or.inr rfl) (.refl _) (by simp only [Try.f95, go_sem, simprocAttr]; rfl) ?_
  exact ⟨rfl, fun j q1 q2 q3 => by simp only [upd_ne _ _ q1, upd_ne _ _ q2, upd_ne _ _ q3]; exact hsame j q1 q2 q3, by (first | rfl | (simp only [k3, ht, go_sem, simprocAttr]; done) | (simp only [k3, ht, go_sem, simprocAttr]; rfl)), by (first | rfl | (simp only [k4, go_sem, simprocAttr]; done) | (simp only [k4, go_sem, simprocAttr]; rfl))⟩
 ·repeat' (first | (with_reducible refine sk ?_; intro K hK) | ((first | (with_reducible first | refine rgL [] [9, 26] (md := { base := 1700, own := [] }) (h := ?_) | refine rgL [5] [9, 26] (md := { base := 1700, own := [] }) (h := ?_) | refine nx ?_) | refine pK (l0) ?_ | refine pK (l1 _ (fun j q1 q2 q3 => by simp only [upd_ne _ _ q1, upd_ne _ _ q2, upd_ne _ _ q3]; exact hsame j q1 q2 q3)) ?_ | refine lK (l0) ?_ | refine lK (l1 _ (fun j q1 q2 q3 => by simp only [upd_ne _ _ q1, upd_ne _ _ q2, upd_ne _ _ q3]; exact hsame j q1 q2 q3)) ?_); try simp (disch := omega) only [k36, k3, k4, k5, k6, w5, ht, xf155,go_sem, simprocAttr]) | (with_reducible refine bk ?_) | ((with_reducible refine' cE ?hv ?_ ?_); (case hv => first | rfl | (simp only [k36, k3, k4, k5, k6, w5, ht, xf155,go_sem, simprocAttr]; rfl)); all_goals (intro hc; (try simp only [go_sem, simprocAttr] at hc); try (exfalso; omega))) | ((with_reducible first | refine grdS_split ?_ ?_ | refine lkG_split ?_ ?_) <;> intro hg <;> (try simp (disch := omega) only [hg, k36, k3, k4, k5, k6, w5, ht, xf155,go_sem, simprocAttr]) <;> (try simp only [go_sem, simprocAttr] at hg) <;> (try (exfalso; omega))) | with_reducible intro (ep : Nat → Nat) | with_reducible apply_assumption -exfalso -symm only [*])
  refine FnQ_end (Or.inr rfl) (.refl _) (by simp only [Try.f95, go_sem, simprocAttr]; rfl) ?_
  exact ⟨rfl, fun j q1 q2 q3 => by simp only [upd_ne _ _ q1, upd_ne _ _ q2, upd_ne _ _ q3]; exact hsame j q1 q2 q3, by (first | rfl | (simp only [k3, ht, go_sem, simprocAttr]; done) | (simp only [k3, ht, go_sem, simprocAttr]; rfl)), by (first | rfl | (simp only [k4, go_sem, simprocAttr]; done) | (simp only [k4, go_sem, simprocAttr]; rfl))⟩
 ·repeat' (first | (with_reducible refine sk ?_; intro K hK) | ((first | (with_reducible first | refine rgL [] [9, 26] (md := { base := 1700, own := [] }) (h := ?_) | refine rgL [5] [9, 26] (md := { base := 1700, own := [] }) (h := ?_) | refine nx ?_) | refine pK (l0) ?_ | refine pK (l1 _ (fun j q1 q2 q3 => by simp only [upd_ne _ _ q1, upd_ne _ _ q2, upd_ne _ _ q3]; exact hsame j q1 q2 q3)) ?_ | refine lK (l0) ?_ | refine lK (l1 _ (fun j q1 q2 q3 => by simp only [upd_ne _ _ q1, upd_ne _ _ q2, upd_ne _ _ q3]; exact hsame j q1 q2 q3)) ?_); try simp (disch := omega) only [k36, k3, k4, k5, k6, w5, ht, xf155,go_sem, simprocAttr]) | (with_reducible refine bk ?_) | ((with_reducible refine' cE ?hv ?_ ?_); (case hv => first | rfl | (simp only [k36, k3, k4, k5, k6, w5, ht, xf155,go_sem, simprocAttr]; rfl)); all_goals (intro hc; (try simp only [go_sem, simprocAttr] at hc); try (exfalso; omega))) | ((with_reducible first | refine grdS_split ?_ ?_ | refine lkG_split ?_ ?_) <;> intro hg <;> (try simp (disch := omega) only [hg, k36, k3, k4, k5, k6, w5, ht, xf155,go_sem, simprocAttr]) <;> (try simp only [go_sem, simprocAttr] at hg) <;> (try (exfalso; omega))) | with_reducible intro (ep : Nat → Nat) | with_reducible apply_assumption -exfalso -symm only [*])
  refine FnQ_end (Or.inr rfl) (.refl _) (by simp only [Try.f95, go_sem, simprocAttr]; rfl) ?_
  exact ⟨rfl, fun j q1 q2 q3 => by simp only [upd_ne _ _ q1, upd_ne _ _ q2, upd_ne _ _ q3]; exact hsame j q1 q2 q3, by (first | rfl | (simp only [k3, ht, go_sem, simprocAttr]; done) | (simp only [k3, ht, go_sem, simprocAttr]; rfl)), by (first | rfl | (simp only [k4, go_sem, simprocAttr]; done) | (simp only [k4, go_sem, simprocAttr]; rfl))⟩
 ·repeat' (first | (with_reducible refine sk ?_; intro K hK) | ((first | (with_reducible first | refine rgL [] [9, 26] (md := { base := 1700, own := [] }) (h := ?_) | refine rgL [5] [9, 26] (md := { base := 1700, own := [] }) (h := ?_) | refine nx ?_) | refine pK (l0) ?_ | refine pK (l1 _ (fun j q1 q2 q3 => by simp only [upd_ne _ _ q1, upd_ne _ _ q2, upd_ne _ _ q3]; exact hsame j q1 q2 q3)) ?_ | refine lK (l0) ?_ | refine lK (l1 _ (fun j q1 q2 q3 => by simp only [upd_ne _ _ q1, upd_ne _ _ q2, upd_ne _ _ q3]; exact hsame j q1 q2 q3)) ?_); try simp (disch := omega) only [k36, k3, k4, k5, k6, w5, ht, xf155,go_sem, simprocAttr]) | (with_reducible refine bk ?_) | ((with_reducible refine' cE ?hv ?_ ?_); (case hv => first | rfl | (simp only [k36, k3, k4, k5, k6, w5, ht, xf155,go_sem, simprocAttr]; rfl)); all_goals (intro hc; (try simp only [go_sem, simprocAttr] at hc); try (exfalso; omega))) | ((with_reducible first | refine grdS_split ?_ ?_ | refine lkG_split ?_ ?_) <;> intro hg <;> (try simp (disch := omega) only [hg, k36, k3, k4, k5, k6, w5, ht, xf155,go_sem, simprocAttr]) <;> (try simp only [go_sem, simprocAttr] at hg) <;> (try (exfalso; omega))) | with_reducible intro (ep : Nat → Nat) | with_reducible apply_assumption -exfalso -symm only [*])
  refine FnQ_end (Or.inr rfl) (.refl _) (by simp only [Try.f95, go_sem, simprocAttr]; rfl) ?_
  exact ⟨rfl, fun j q1 q2 q3 => by simp only [upd_ne _ _ q1, upd_ne _ _ q2, upd_ne _ _ q3]; exact hsame j q1 q2 q3, by (first | rfl | (simp only [k3, ht, go_sem, simprocAttr]; done) | (simp only [k3, ht, go_sem, simprocAttr]; rfl)), by (first | rfl | (simp only [k4, go_sem, simprocAttr]; done) | (simp only [k4, go_sem, simprocAttr]; rfl))⟩
end Cp
namespace Cp
open Go Go.Proofs
set_option maxRecDepth 10000
set_option maxHeartbeats 1000000
def getF (n : NetT) (hs : List HeadT) (L : List (List Int)) : LackT × Bool := L.foldl (getStep n hs) (⟨2, 0, []⟩, false)
def getsS (n : NetT) (hs : List HeadT) : LackT :=
 if (getF n hs (outsL n.pumps.length n.out.toNat)).2 = true ∧ (getF n hs (outsL n.pumps.length n.out.toNat)).1.known = 0 then { (getF n hs (outsL n.pumps.length n.out.toNat)).1 with known := 1 } else (getF n hs (outsL n.pumps.length n.out.toNat)).1
theorem getF_snoc {n : NetT} {hs : List HeadT} {L : List (List Int)} {k : Nat} {l : List Int} (h : L[k]? = some l) : getF n hs (L.take (k + 1)) = getStep n hs (getF n hs (L.take k)) l := by
 unfold getF; rw [take_snoc' h, List.foldl_append]; rfl
theorem getStep_kn {n : NetT} {hs : List HeadT} {s : LackT × Bool} {l : List Int} (h : s.1.known = 0 ∨ s.1.known = 2) : (getStep n hs s l).1.known = 0 ∨ (getStep n hs s l).1.known = 2 := by
 unfold getStep
 simp only
 split
 ·exact .inl rfl
 ·exact h
theorem getF_kn {n : NetT} {hs : List HeadT} : ∀ (k : Nat) (L : List (List Int)), (getF n hs (L.take k)).1.known = 0 ∨ (getF n hs (L.take k)).1.known = 2
 | 0, L => .inr rfl
 | k + 1, L => by
  cases h : L[k]? with
  | some l => rw [getF_snoc h]; exact getStep_kn (getF_kn k L)
  | none =>
   have hk : L.length ≤ k := List.getElem?_eq_none_iff.1 h
   have := getF_kn (n := n) (hs := hs) k L
   rw [List.take_of_length_le hk] at this
   rw [List.take_of_length_le (by omega)]
   exact this
theorem fzd_plant {n : NetT} {hs : List HeadT} {e36 e33 e34 k : Nat} {H : Hp} (h : H 436 = some (e36, .fro 10 [cPlant n hs e33 e34 k])) : fzd H 3 (.ptr 436 e36 10 0 0) = .pim ((cPlant n hs e33 e34 k).map (fzd H 2)) := by
 simp [fzd, h]
theorem take_plant {n : NetT} {hs : List HeadT} {e33 e34 k : Nat} {H : Hp} : ((cPlant n hs e33 e34 k).map (fzd H 2)).take 7 = cNet n := by
 simp [cPlant, cNet, fzd, cPipe, cHead, cPump, List.map_map, Function.comp_def]
theorem outs_call (n : NetT) (hF : NetF n) {hs : List HeadT} {e36 e33 e34 k : Nat} {H : Hp} (h : H 436 = some (e36, .fro 10 [cPlant n hs e33 e34 k])) :
  ACall Try.prog 94 [.ptr 436 e36 10 0 0] H fun v' H' => v' = outsF n.pumps.length n.out.toNat ∧ H' = H :=
 PureC.acall_fro 7 (by rw [take_plant]; exact outs_ok n hF) (fzd_plant h)
end Cp
namespace Cp
open Go
def badO (n : NetT) (hs : List HeadT) (o : List Int) : Bool := (lackS n hs o false).2
def goodO (n : NetT) (hs : List HeadT) (o : List Int) : Bool := !(lackS n hs o true).2
theorem getF_gen {n : NetT} {hs : List HeadT} : ∀ (L : List (List Int)) (s : LackT × Bool), (s.1.known = 0 ∨ s.1.known = 2) →
  L.foldl (getStep n hs) s = (if s.1.known = 2 then (match L.find? (badO n hs) with | none => s.1 | some o => ⟨0, (lackS n hs o false).1, o⟩) else s.1, s.2 || L.any (goodO n hs))
 | [], s, h => by rcases h with h | h <;> simp
 | o :: L, s, h => by
  rw [List.foldl_cons, getF_gen L _ (getStep_kn h)]
  have e2 : (getStep n hs s o).2 = (s.2 || goodO n hs o) := rfl
  have e1 : (getStep n hs s o).1 = if badO n hs o = true ∧ s.1.known = 2 then ⟨0, (lackS n hs o false).1, o⟩ else s.1 := rfl
  rw [e2, e1, List.any_cons, Bool.or_assoc, List.find?_cons]
  rcases h with h | h
  ·have : ¬ s.1.known = 2 := by omega
   simp only [this, and_false, if_false]
  ·cases hb : badO n hs o with
   | false => simp only [hb, Bool.false_eq_true, false_and, if_false, h, if_true]
   | true => simp [hb, h]
theorem getsS_eq (n : NetT) (hs : List HeadT) : getsS n hs = match (outsL n.pumps.length n.out.toNat).find? (badO n hs) with
  | none => ⟨2, 0, []⟩
  | some o => ⟨if (outsL n.pumps.length n.out.toNat).any (goodO n hs) = true then 1 else 0, (lackS n hs o false).1, o⟩ := by
 have h := getF_gen (n := n) (hs := hs) (outsL n.pumps.length n.out.toNat) (⟨2, 0, []⟩, false) (.inr rfl)
 have h' : getF n hs (outsL n.pumps.length n.out.toNat) = _ := h
 unfold getsS
 rw [h']
 cases hf : (outsL n.pumps.length n.out.toNat).find? (badO n hs) with
 | none => simp
 | some o =>
  cases hg : (outsL n.pumps.length n.out.toNat).any (goodO n hs) <;> simp
theorem mem_combos : ∀ {m : List Int} {k : Nat} {l : List Int}, l ∈ combos k m ↔ l.Sublist m ∧ l.length = k
 | [], 0, l => by
  simp only [combos, List.mem_singleton, List.sublist_nil]
  exact ⟨fun h => ⟨h, by rw [h]; rfl⟩, fun h => h.1⟩
 | [], k + 1, l => by
  simp only [combos, List.not_mem_nil, List.sublist_nil, false_iff, not_and]
  intro h; subst h; simp
 | x :: m, 0, l => by
  simp only [combos, List.mem_singleton, List.length_eq_zero_iff]
  exact ⟨fun h => ⟨by subst h; exact List.nil_sublist _, h⟩, fun h => h.2⟩
 | x :: m, k + 1, l => by
  simp only [combos, List.mem_append, List.mem_map]
  constructor
  ·rintro (⟨t, ht, rfl⟩ | h)
   ·obtain ⟨h1, h2⟩ := mem_combos.1 ht
    exact ⟨h1.cons_cons x, by simp [h2]⟩
   ·obtain ⟨h1, h2⟩ := mem_combos.1 h
    exact ⟨h1.cons x, h2⟩
  ·rintro ⟨h1, h2⟩
   cases h1 with
   | cons _ h => exact .inr (mem_combos.2 ⟨h, h2⟩)
   | cons_cons _ h => exact .inl ⟨_, mem_combos.2 ⟨h, by simpa using h2⟩, rfl⟩
theorem sub_of_pair : ∀ {m l : List Int}, m.Pairwise (· < ·) → l.Pairwise (· < ·) → (∀ a ∈ l, a ∈ m) → l.Sublist m
 | _, [], _, _, _ => List.nil_sublist _
 | [], a :: l, _, _, h => by have := h a (by simp); simp at this
 | x :: m, a :: l, hm, hl, h => by
  obtain ⟨hm1, hm2⟩ := List.pairwise_cons.1 hm
  obtain ⟨hl1, hl2⟩ := List.pairwise_cons.1 hl
  have key : ∀ b ∈ l, x < b → b ∈ m := fun b hb hxb => by
   rcases List.mem_cons.1 (h b (by simp [hb])) with rfl | h1
   ·omega
   ·exact h1
  rcases List.mem_cons.1 (h a (by simp)) with rfl | h1
  ·exact (sub_of_pair hm2 hl2 fun b hb => key b hb (hl1 b hb)).cons_cons _
  ·refine (sub_of_pair hm2 hl fun b hb => ?_).cons x
   rcases List.mem_cons.1 hb with rfl | hb
   ·exact h1
   ·exact key b hb (Int.lt_trans (hm1 _ h1) (hl1 b hb))
theorem range_pair (np : Nat) : ((List.range np).map Int.ofNat).Pairwise (· < ·) := by
 rw [List.pairwise_map]
 exact List.pairwise_lt_range.imp fun h => by simpa using h
theorem mem_rangeI {np : Nat} {a : Int} : a ∈ (List.range np).map Int.ofNat ↔ 0 ≤ a ∧ a < np := by
 simp only [List.mem_map, List.mem_range]
 constructor
 ·rintro ⟨i, hi, rfl⟩; simp; omega
 ·rintro ⟨h1, h2⟩; exact ⟨a.toNat, by omega, by simp; omega⟩
theorem mem_outsL {np o : Nat} {l : List Int} : l ∈ outsL np o ↔ (∀ a ∈ l, 0 ≤ a ∧ a < np) ∧ l.Pairwise (· < ·) ∧ l.length ≤ o := by
 simp only [outsL, List.mem_flatMap, List.mem_range, mem_combos]
 constructor
 ·rintro ⟨k, hk, h1, h2⟩
  exact ⟨fun a ha => mem_rangeI.1 (h1.subset ha), (range_pair np).sublist h1, by omega⟩
 ·rintro ⟨h1, h2, h3⟩
  exact ⟨l.length, by omega, sub_of_pair (range_pair np) h2 fun a ha => mem_rangeI.2 (h1 a ha), rfl⟩
theorem mem_outs {n : NetT} (h0 : 0 ≤ n.out) {l : List Int} : l ∈ outsL n.pumps.length n.out.toNat ↔ outOK n l = true := by
 rw [mem_outsL]
 constructor
 ·rintro ⟨h1, h2, h3⟩
  unfold outOK
  rw [Bool.and_eq_true]
  exact ⟨okL_of (fun a ha => by simpa [isPump] using h1 a ha) h2 (fun c hc => by cases hc), by simp; omega⟩
 ·intro h
  obtain ⟨h1, h2, h3⟩ := out_facts h
  exact ⟨h1, h2, by omega⟩
def lexB : List Int → List Int → Prop
 | a :: l, b :: m => a < b ∨ (a = b ∧ lexB l m)
 | _, _ => False
def befO (a b : List Int) : Prop := a.length < b.length ∨ (a.length = b.length ∧ lexB a b)
theorem combos_pair : ∀ {m : List Int} {k : Nat}, m.Pairwise (· < ·) → (combos k m).Pairwise lexB
 | m, 0, _ => by unfold combos; simp
 | [], k + 1, _ => by simp [combos]
 | x :: m, k + 1, h => by
  obtain ⟨h1, h2⟩ := List.pairwise_cons.1 h
  simp only [combos]
  rw [List.pairwise_append]
  refine ⟨?_, combos_pair h2, ?_⟩
  ·rw [List.pairwise_map]
   exact (combos_pair h2).imp fun h => .inr ⟨rfl, h⟩
  ·intro a ha b hb
   rw [List.mem_map] at ha
   obtain ⟨t, ht, rfl⟩ := ha
   obtain ⟨q1, q2⟩ := mem_combos.1 hb
   cases b with
   | nil => simp at q2
   | cons y b => exact .inl (h1 y (q1.subset (by simp)))
theorem outsL_pair (np o : Nat) : (outsL np o).Pairwise befO := by
 unfold outsL
 rw [List.pairwise_flatMap]
 refine ⟨fun k hk => ?_, ?_⟩
 ·have hl : ∀ a ∈ combos k ((List.range np).map Int.ofNat), a.length = k := fun a ha => (mem_combos.1 ha).2
  exact (combos_pair (range_pair np)).imp_of_mem fun ha hb h => .inr ⟨by rw [hl _ ha, hl _ hb], h⟩
 ·refine List.pairwise_lt_range.imp fun {i j} hij a ha b hb => .inl ?_
  rw [(mem_combos.1 ha).2, (mem_combos.1 hb).2]; exact hij
theorem find_first {α : Type} {R : α → α → Prop} {p : α → Bool} : ∀ {l : List α} {x : α}, l.Pairwise R → l.find? p = some x → x ∈ l ∧ p x = true ∧ ∀ y ∈ l, p y = true → y = x ∨ R x y
 | [], x, _, h => by simp at h
 | a :: l, x, hp, h => by
  obtain ⟨h1, h2⟩ := List.pairwise_cons.1 hp
  rw [List.find?_cons] at h
  split at h
  ·rename_i hpa
   cases h
   refine ⟨by simp, hpa, fun y hy hpy => ?_⟩
   rcases List.mem_cons.1 hy with rfl | hy
   ·exact .inl rfl
   ·exact .inr (h1 y hy)
  ·rename_i hpa
   obtain ⟨q1, q2, q3⟩ := find_first h2 h
   refine ⟨by simp [q1], q2, fun y hy hpy => ?_⟩
   rcases List.mem_cons.1 hy with rfl | hy
   ·rw [hpa] at hpy; cases hpy
   ·exact q3 y hy hpy
structure GetF (n : NetT) (hs : List HeadT) (t : LackT) : Prop where
 kn : t.known = 0 ∨ t.known = 1 ∨ t.known = 2
 yes : t.known = 2 → t.head = 0 ∧ t.out = [] ∧ ∀ o, outOK n o = true → badO n hs o = false
 bad : ¬ t.known = 2 → outOK n t.out = true ∧ badO n hs t.out = true ∧ t.head = (lackS n hs t.out false).1 ∧ ∀ o, outOK n o = true → badO n hs o = true → o = t.out ∨ befO t.out o
 no : t.known = 0 → ∀ o, outOK n o = true → goodO n hs o = false
 op : t.known = 1 → ∃ o, outOK n o = true ∧ goodO n hs o = true
theorem gets_facts {n : NetT} (h0 : 0 ≤ n.out) (hs : List HeadT) : GetF n hs (getsS n hs) := by
 rw [getsS_eq]
 have hm := fun l => @mem_outs n h0 l
 obtain ⟨L, hL⟩ : ∃ L, outsL n.pumps.length n.out.toNat = L := ⟨_, rfl⟩
 have hp : L.Pairwise befO := hL ▸ outsL_pair _ _
 rw [hL] at hm ⊢
 cases hf : L.find? (badO n hs) with
 | none =>
  refine ⟨.inr (.inr rfl), fun _ => ⟨rfl, rfl, fun o ho => ?_⟩, fun h => (h rfl).elim, fun h => (by cases h), fun h => (by cases h)⟩
  have := List.find?_eq_none.1 hf o ((hm o).2 ho)
  simpa using this
 | some o =>
  obtain ⟨q1, q2, q3⟩ := find_first hp hf
  simp only
  cases hg : L.any (goodO n hs) with
  | true =>
   simp only [if_true]
   refine ⟨.inr (.inl rfl), fun h => (by cases h), fun _ => ⟨(hm o).1 q1, q2, rfl, fun o' h1 h2 => q3 o' ((hm o').2 h1) h2⟩, fun h => (by cases h), fun _ => ?_⟩
   obtain ⟨x, hx, hx2⟩ := List.any_eq_true.1 hg
   exact ⟨x, (hm x).1 hx, hx2⟩
  | false =>
   simp only [Bool.false_eq_true, if_false]
   refine ⟨.inl rfl, fun h => (by cases h), fun _ => ⟨(hm o).1 q1, q2, rfl, fun o' h1 h2 => q3 o' ((hm o').2 h1) h2⟩, fun _ o' h1 => ?_, fun h => (by cases h)⟩
   have := List.any_eq_false.1 hg o' ((hm o').2 h1)
   simpa using this
end Cp
