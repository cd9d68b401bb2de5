/- Rules, facts and contracts that the statement's proof leans on. Conditions: none. -/
import Derived.Test.YtioeikglibjefaaP10
set_option linter.unusedVariables false
set_option linter.unusedSimpArgs false
set_option linter.unusedSectionVars false
namespace Cp
open Go Go.Proofs
set_option maxRecDepth 10000
set_option maxHeartbeats 4000000
theorem not_same {l : List Brc} (hs : l.Pairwise brLt) {k : Nat} {b : Brc} (hb : l[k]? = some b) : ∀ x ∈ l.take k, ¬ sameL b x := fun x hx h => by
  obtain ⟨j, hj⟩ := List.getElem?_of_mem hx
  obtain ⟨hjl, hje⟩ := List.getElem?_eq_some_iff.1 hj
  simp only [List.length_take] at hjl
  have hx2 : l[j]? = some x := by rw [← hj, List.getElem?_take, if_pos (by omega)]
  obtain ⟨p1, rfl⟩ := List.getElem?_eq_some_iff.1 hx2
  obtain ⟨p2, rfl⟩ := List.getElem?_eq_some_iff.1 hb
  have := (List.pairwise_iff_getElem.1 hs) j k p1 p2 (by omega)
  unfold brLt at this; unfold sameL at h; omega
def amongB (few all : List Brc) : Bool := few.all fun b => decide (knownOf all b ≠ 0)
theorem among_ok (few all : List Brc) (hs : all.Pairwise brLt) (hf : few.length ≤ 100000) (ha : all.length ≤ 100000) : PureC Try.prog 42 [.lst 4 (few.map cBrc), .lst 4 (all.map cBrc)] (.bool (amongB few all)) := by
  refine PureC_of (fn := Try.f42) tabOK (by kernel_rfl) rfl (by kernel_rfl) (by simp [Try.f42]) (by simp [noids, noid, noidss, go_sem]) (by first | rfl | simp [noids, noid, noidss, go_sem]) ?_
  intro X hX0 hXs
  repeat' (first | (with_reducible refine sk ?_; intro K hK) | ((with_reducible first | refine rg (md := { base := 0, own := [7, 9, 10] }) (h := ?_) | refine rgS [7, 9] (md := { base := 0, own := [7, 9, 10] }) (h := ?_) | refine nx ?_); try simp (disch := omega) only [go_sem, simprocAttr]) | (with_reducible refine bk ?_) | ((with_reducible refine' cE ?hv ?_ ?_); (case hv => first | rfl | (simp only [go_sem, simprocAttr]; rfl)); all_goals (intro hc; (try simp only [go_sem, simprocAttr] at hc); try (exfalso; omega))) | ((with_reducible refine fe ?_); refine ⟨_, (by simp only [Try.f42, go_sem, simprocAttr]; rfl), ?_⟩; first | rfl | (try simp only [go_sem, simprocAttr, seval])) | with_reducible intro (ep : Nat → Nat) | with_reducible apply_assumption -exfalso -symm only [*])
  refine AW_range tabOK all.length (fun k f H => (f 0 = .lst 4 (few.map cBrc) ∧ f 11 = .lst 4 (all.map cBrc)) ∧ ∃ e v, f 5 = .map 10 e ∧ H 10 = some (e, .map v (kmap vKn (all.take k)))) (by omega) (by rw [hXs]; decide) (by decide) (by (first | rfl | (simp only [go_sem, simprocAttr]; done) | (simp only [go_sem, simprocAttr]; rfl))) (by (first | rfl | (simp only [go_sem, simprocAttr]; done) | (simp only [go_sem, simprocAttr]; rfl))) ⟨by (and_intros <;> first | rfl | (simp only [go_sem, simprocAttr]; done) | (simp only [go_sem, simprocAttr]; rfl)), _, _, by (first | rfl | (simp only [go_sem, simprocAttr]; done) | (simp only [go_sem, simprocAttr]; rfl)), by (first | rfl | (simp only [kmap, go_sem, simprocAttr]; done) | (simp only [kmap, go_sem, simprocAttr]; rfl))⟩ ?_ ?_
  · rintro k f H hk h13 h12 ⟨⟨h0, h11⟩, e, v, h5, hH⟩
    obtain ⟨b, hb⟩ : ∃ b, all[k]? = some b := ⟨_, List.getElem?_eq_getElem hk⟩
    have hfi := xfind_kmap (b := b) (v := vKn) (all.take k) 0
    rw [findB_none (not_same hs hb), limK] at hfi
    refine AW_keep [10] ?_
    repeat' (first | (with_reducible refine sk ?_; intro K hK) | ((with_reducible first | refine rg (md := { base := 0, own := [7, 9, 10] }) (h := ?_) | refine rgS [7, 9] (md := { base := 0, own := [7, 9, 10] }) (h := ?_) | refine nx ?_); try simp (disch := omega) only [h0, h5, h11, h12, h13, hH, hb, hfi, cBrc,go_sem, simprocAttr]) | (with_reducible refine bk ?_) | ((with_reducible refine' cE ?hv ?_ ?_); (case hv => first | rfl | (simp only [h0, h5, h11, h12, h13, hH, hb, hfi, cBrc,go_sem, simprocAttr]; rfl)); all_goals (intro hc; (try simp only [go_sem, simprocAttr] at hc); try (exfalso; omega))) | ((with_reducible refine fe ?_); refine ⟨_, (by simp only [Try.f42, h0, h5, h11, h12, h13, hH, hb, hfi, cBrc,go_sem, simprocAttr]; rfl), ?_⟩; first | rfl | (try simp only [h0, h5, h11, h12, h13, hH, hb, hfi, cBrc,go_sem, simprocAttr, seval])) | with_reducible intro (ep : Nat → Nat) | with_reducible apply_assumption -exfalso -symm only [*])
    exact ⟨_, _, rfl, by rw [take_snoc' hb, ← kmap_snoc]; rfl⟩
  · rintro f H h13 h12 ⟨⟨h0, h11⟩, e, v, h5, hH⟩
    rw [List.take_of_length_le (Nat.le_refl _)] at hH
    repeat' (first | (with_reducible refine sk ?_; intro K hK) | ((with_reducible first | refine rg (md := { base := 0, own := [7, 9, 10] }) (h := ?_) | refine rgS [7, 9] (md := { base := 0, own := [7, 9, 10] }) (h := ?_) | refine nx ?_); try simp (disch := omega) only [h0, h5, hH,go_sem, simprocAttr]) | (with_reducible refine bk ?_) | ((with_reducible refine' cE ?hv ?_ ?_); (case hv => first | rfl | (simp only [h0, h5, hH,go_sem, simprocAttr]; rfl)); all_goals (intro hc; (try simp only [go_sem, simprocAttr] at hc); try (exfalso; omega))) | ((with_reducible refine fe ?_); refine ⟨_, (by simp only [Try.f42, h0, h5, hH,go_sem, simprocAttr]; rfl), ?_⟩; first | rfl | (try simp only [h0, h5, hH,go_sem, simprocAttr, seval])) | with_reducible intro (ep : Nat → Nat) | with_reducible apply_assumption -exfalso -symm only [*])
    refine AW_range tabOK few.length (fun k f H => f 28 = .lst 4 (few.map cBrc) ∧ amongB few all = amongB (few.drop k) all ∧ ∃ e v, f 5 = .map 10 e ∧ H 10 = some (e, .map v (kmap vKn all))) (by omega) (by rw [hXs]; decide) (by decide) (by (first | rfl | (simp only [go_sem, simprocAttr]; done) | (simp only [go_sem, simprocAttr]; rfl))) (by (first | rfl | (simp only [go_sem, simprocAttr]; done) | (simp only [go_sem, simprocAttr]; rfl))) ⟨by (first | rfl | (simp only [h0, go_sem, simprocAttr]; done) | (simp only [h0, go_sem, simprocAttr]; rfl)), by simp, _, _, by (first | rfl | (simp only [h5, go_sem, simprocAttr]; done) | (simp only [h5, go_sem, simprocAttr]; rfl)), by (first | rfl | (simp only [hH, go_sem, simprocAttr]; done) | (simp only [hH, go_sem, simprocAttr]; rfl))⟩ ?_ ?_
    · clear h0 h5 hH h11 h12 h13
      rintro k f H hk h30 h29 ⟨h28, hr, e, v, h5, hH⟩
      obtain ⟨b, hb⟩ : ∃ b, few[k]? = some b := ⟨_, List.getElem?_eq_getElem hk⟩
      have hfi := xfind_kmap (b := b) (v := vKn) all 0
      have hkn := findB_known (b := b) (l := all) (i := 0)
      rw [limK] at hfi
      refine AW_keep [10] ?_
      repeat' (first | (with_reducible refine sk ?_; intro K hK) | ((with_reducible first | refine rg (md := { base := 0, own := [7, 9, 10] }) (h := ?_) | refine rgS [7, 9] (md := { base := 0, own := [7, 9, 10] }) (h := ?_) | refine nx ?_); try simp (disch := omega) only [h5, h28, h29, h30, hH, hb, hfi, hkn, cBrc,go_sem, simprocAttr]) | (with_reducible refine bk ?_) | ((with_reducible refine' cE ?hv ?_ ?_); (case hv => first | rfl | (simp only [h5, h28, h29, h30, hH, hb, hfi, hkn, cBrc,go_sem, simprocAttr]; rfl)); all_goals (intro hc; (try simp only [go_sem, simprocAttr] at hc); try (exfalso; omega))) | ((with_reducible refine fe ?_); refine ⟨_, (by simp only [Try.f42, h5, h28, h29, h30, hH, hb, hfi, hkn, cBrc,go_sem, simprocAttr]; rfl), ?_⟩; first | rfl | (try simp only [h5, h28, h29, h30, hH, hb, hfi, hkn, cBrc,go_sem, simprocAttr, seval])) | with_reducible intro (ep : Nat → Nat) | with_reducible apply_assumption -exfalso -symm only [*])
      · rw [hr, drop_cons hb]; simp [amongB, hc]
      · exact ⟨by rw [hr, drop_cons hb]; simp [amongB, hc], _, _, rfl, rfl⟩
    · clear h0 h5 hH h11 h12 h13
      rintro f H h30 h29 ⟨h28, hr, e, v, h5, hH⟩
      repeat' (first | (with_reducible refine sk ?_; intro K hK) | ((with_reducible first | refine rg (md := { base := 0, own := [7, 9, 10] }) (h := ?_) | refine rgS [7, 9] (md := { base := 0, own := [7, 9, 10] }) (h := ?_) | refine nx ?_); try simp (disch := omega) only [h5, hH,go_sem, simprocAttr]) | (with_reducible refine bk ?_) | ((with_reducible refine' cE ?hv ?_ ?_); (case hv => first | rfl | (simp only [h5, hH,go_sem, simprocAttr]; rfl)); all_goals (intro hc; (try simp only [go_sem, simprocAttr] at hc); try (exfalso; omega))) | ((with_reducible refine fe ?_); refine ⟨_, (by simp only [Try.f42, h5, hH,go_sem, simprocAttr]; rfl), ?_⟩; first | rfl | (try simp only [h5, hH,go_sem, simprocAttr, seval])) | with_reducible intro (ep : Nat → Nat) | with_reducible apply_assumption -exfalso -symm only [*])
      rw [hr]; simp [amongB]
end Cp
namespace Cp
open Go Go.Proofs
set_option maxRecDepth 10000
set_option maxHeartbeats 4000000
def c32 (m : Int) : List Val := [.int .u32 m]
@[go_sem] theorem c32_noid {l : List Int} : noidss (l.map c32) = true := noidss_map fun _ => rfl
def chI (l : List Int) (i : Int) : Int := if l.length = 0 then 0 else (l[(i.tmod l.length).toNat]?).getD 0
def By (l : List Int) : Prop := ∀ m ∈ l, 0 ≤ m ∧ m ≤ 4294967295
theorem chI_bnd {l : List Int} (hl : By l) (i : Int) : 0 ≤ chI l i ∧ chI l i ≤ 4294967295 := by
  unfold chI
  split
  · omega
  · cases hq : l[(i.tmod l.length).toNat]? with
    | none => simp
    | some x => exact hl x (List.mem_of_getElem? hq)
theorem choose_ok (l : List Int) (i : Int) (hi : 0 ≤ i) : PureC Try.prog 37 [.lst 1 (l.map c32), .int .i64 i] (.int .u32 (chI l i)) := by
  by_cases h0 : l.length = 0
  · have hnil : l = [] := List.eq_nil_of_length_eq_zero h0
    subst hnil
    refine PureC_of (fn := Try.f37) tabOK (by kernel_rfl) rfl (by kernel_rfl) (by simp [Try.f37]) (by simp [noids, noid, noidss, go_sem]) (by first | rfl | simp [noids, noid, noidss, go_sem]) ?_
    intro X hX0 hXs
    repeat' (first | (with_reducible refine sk ?_; intro K hK) | ((with_reducible first | refine rg (h := ?_) | refine nx ?_); try simp (disch := omega) only [go_sem, simprocAttr]) | (with_reducible refine bk ?_) | ((with_reducible refine' cE ?hv ?_ ?_); (case hv => first | rfl | (simp only [go_sem, simprocAttr]; rfl)); all_goals (intro hc; (try simp only [go_sem, simprocAttr] at hc); try (exfalso; omega))) | ((with_reducible refine fe ?_); refine ⟨_, (by simp only [Try.f37, go_sem, simprocAttr]; rfl), ?_⟩; first | rfl | (try simp only [go_sem, simprocAttr, seval])) | with_reducible intro (ep : Nat → Nat) | with_reducible apply_assumption -exfalso -symm only [*])
  · have hz : ¬ (l.length : Int) = 0 := by omega
    have hpos : (0 : Int) < (l.length : Int) := by clear hi; omega
    have h1 : 0 ≤ i.tmod l.length := Int.tmod_nonneg _ hi
    have h2 : i.tmod l.length < l.length := Int.tmod_lt_of_pos _ hpos
    obtain ⟨j, hj⟩ : ∃ j : Nat, i.tmod l.length = j := ⟨(i.tmod l.length).toNat, (Int.toNat_of_nonneg h1).symm⟩
    obtain ⟨x, hx⟩ : ∃ x, l[j]? = some x := ⟨_, List.getElem?_eq_getElem (by rw [hj] at h2; exact Int.ofNat_lt.1 h2)⟩
    have hv : chI l i = x := by unfold chI; rw [if_neg h0, hj, Int.toNat_natCast, hx]; rfl
    rw [hv]
    refine PureC_of (fn := Try.f37) tabOK (by kernel_rfl) rfl (by kernel_rfl) (by simp [Try.f37]) (by simp [noids, noid, noidss, go_sem]) (by first | rfl | simp [noids, noid, noidss, go_sem]) ?_
    intro X hX0 hXs
    repeat' (first | (with_reducible refine sk ?_; intro K hK) | ((with_reducible first | refine rg (h := ?_) | refine nx ?_); try simp (disch := omega) only [hz, hj, hx, c32,go_sem, simprocAttr]) | (with_reducible refine bk ?_) | ((with_reducible refine' cE ?hv ?_ ?_); (case hv => first | rfl | (simp only [hz, hj, hx, c32,go_sem, simprocAttr]; rfl)); all_goals (intro hc; (try simp only [go_sem, simprocAttr] at hc); try (exfalso; omega))) | ((with_reducible refine fe ?_); refine ⟨_, (by simp only [Try.f37, hz, hj, hx, c32,go_sem, simprocAttr]; rfl), ?_⟩; first | rfl | (try simp only [hz, hj, hx, c32,go_sem, simprocAttr, seval])) | with_reducible intro (ep : Nat → Nat) | with_reducible apply_assumption -exfalso -symm only [*])
end Cp
namespace Cp
open Go Go.Proofs
set_option maxRecDepth 10000
set_option maxHeartbeats 4000000
theorem twinA_ok (r : RunT) (hr : RunSm r) (hne : ¬ r.rows.length = 0) (hnc : ¬ r.cpls.length = 0) (H0 : Hp) : ACall Try.prog 15 [encRun r] H0 (fun v H' => (∀ j, j < 600 → H' j = H0 j) ∧
    ∃ e, v = .agg [.int .i64 r.id, .lst 2 (r.curve.map cPt), .gr 612 e r.cpls.length, .lst 2 (r.rows.map cRow), .int .i64 r.gauge.lo, .int .i64 r.gauge.hi] ∧ H' 612 = some (e, .arr 6 (r.cpls.map cCpl))) := by
  have hb := hr.b
  have hb1 : r.curve.length ≤ 1073741824 := by have := hr.curve; omega
  have hb2 : r.cpls.length ≤ 1073741824 := by have := hr.cpls; omega
  have hb3 : r.rows.length ≤ 1073741824 := by have := hr.rows; omega
  refine ACall_of (fn := Try.f15) tabOK (by kernel_rfl) rfl (by kernel_rfl) (by simp [Try.f15]) ?_
  intro X hX0 hXs
  refine AW_lose 601 fun H1 g1 hs1 => ?_
  refine AW_lose 602 fun H2 g2 hs2 => ?_
  refine AW_lose 612 fun H3 g12 hs3 => ?_
  refine AW_lose 617 fun H4 g17 hs4 => ?_
  have g1' : H4 601 = none := by rw [hs4 _ (by decide), hs3 _ (by decide), hs2 _ (by decide), g1]
  have g2' : H4 602 = none := by rw [hs4 _ (by decide), hs3 _ (by decide), g2]
  have g12' : H4 612 = none := by rw [hs4 _ (by decide), g12]
  have hlow : ∀ j, j < 600 → H4 j = H0 j := fun j hj => by rw [hs4 _ (by omega), hs3 _ (by omega), hs2 _ (by omega), hs1 _ (by omega)]
  clear hs1 hs2 hs3 hs4 g1 g2 g12
  repeat' (first | (with_reducible refine sk ?_; intro K hK) | ((with_reducible first | refine rg (md := { base := 600, own := [1, 12, 17] }) (h := ?_) | refine rgS [2] (md := { base := 600, own := [1, 12, 17] }) (h := ?_) | refine nx ?_); try simp (disch := omega) only [encRun, cRun, hb1, hb2, hb3, hne, hnc, g1', g2', g12', g17,go_sem, simprocAttr]) | (with_reducible refine bk ?_) | ((with_reducible refine' cE ?hv ?_ ?_); (case hv => first | rfl | (simp only [encRun, cRun, hb1, hb2, hb3, hne, hnc, g1', g2', g12', g17,go_sem, simprocAttr]; rfl)); all_goals (intro hc; (try simp only [go_sem, simprocAttr] at hc); try (exfalso; omega))) | ((with_reducible refine fe ?_); refine ⟨_, (by simp only [Try.f15, encRun, cRun, hb1, hb2, hb3, hne, hnc, g1', g2', g12', g17,go_sem, simprocAttr]; rfl), ?_⟩; first | rfl | (try simp only [encRun, cRun, hb1, hb2, hb3, hne, hnc, g1', g2', g12', g17,go_sem, simprocAttr, seval])) | with_reducible intro (ep : Nat → Nat) | with_reducible apply_assumption -exfalso -symm only [*])
  refine AW_block (AW_loop (fun n f H => ∃ k : Nat, n = r.rows.length - k ∧ k ≤ r.rows.length ∧ (f 3 = .int .i64 k) ∧ (∀ j, j < 600 → H j = H0 j) ∧ ∃ e1 e2 e12 e17 x, f 1 = .ptr 601 e1 6 0 0 ∧ H 601 = some (e1, .arr 6 [[.int .i64 r.id, .lst 2 (r.curve.map cPt), .gr 612 e12 r.cpls.length, .gr 617 e17 r.rows.length, .int .i64 r.gauge.lo, .int .i64 r.gauge.hi]]) ∧ f 2 = .ptr 602 e2 6 0 0 ∧ H 602 = some (e2, .arr 6 [x]) ∧ x.length = 6 ∧ H 617 = some (e17, .arr 2 (r.rows.map cRow)) ∧ H 612 = some (e12, .arr 6 (r.cpls.map cCpl))) r.rows.length
    ⟨0, by simp, Nat.zero_le _, by (first | rfl | (simp only [go_sem, simprocAttr]; done) | (simp only [go_sem, simprocAttr]; rfl)), fun j hj => by simp only [upd]; (repeat rw [if_neg (by omega)]); exact hlow j hj, _, _, _, _, _, by (first | rfl | (simp only [go_sem, simprocAttr]; done) | (simp only [go_sem, simprocAttr]; rfl)), by (first | rfl | (simp only [go_sem, simprocAttr]; done) | (simp only [go_sem, simprocAttr]; rfl)), by (first | rfl | (simp only [go_sem, simprocAttr]; done) | (simp only [go_sem, simprocAttr]; rfl)), by (first | rfl | (simp only [go_sem, simprocAttr]; done) | (simp only [go_sem, simprocAttr]; rfl)), rfl, by (first | rfl | (simp only [go_sem, simprocAttr]; done) | (simp only [go_sem, simprocAttr]; rfl)), by (first | rfl | (simp only [go_sem, simprocAttr]; done) | (simp only [go_sem, simprocAttr]; rfl))⟩ ?_)
  clear g1' g2' g12' g17 hlow
  rintro n f H ⟨k, rfl, hk, h3, hlow, e1, e2, e12, e17, x, h1, hH1, h2, hH2, hx, hH17, hH12⟩
  match x, hx with
  | [x0, x1, x2, x3, x4, x5], _ =>
  by_cases hlt : k < r.rows.length
  · obtain ⟨y, hy⟩ : ∃ y, r.rows[k]? = some y := ⟨_, List.getElem?_eq_getElem hlt⟩
    have hyd : y.deg.length ≤ 1073741824 := by have := hr.degs y (List.mem_of_getElem? hy); omega
    have hset := map_set_self (g := cRow) hy
    simp only [cRow] at hset
    repeat' (first | (with_reducible refine sk ?_; intro K hK) | ((with_reducible first | refine rg (md := { base := 600, own := [1, 12, 17] }) (h := ?_) | refine rgS [2] (md := { base := 600, own := [1, 12, 17] }) (h := ?_) | refine nx ?_); try simp (disch := omega) only [h1, h2, h3, hH1, hH2, hH17, hH12, hy, hyd, hlt, cRow,go_sem, simprocAttr]) | (with_reducible refine bk ?_) | ((with_reducible refine' cE ?hv ?_ ?_); (case hv => first | rfl | (simp only [h1, h2, h3, hH1, hH2, hH17, hH12, hy, hyd, hlt, cRow,go_sem, simprocAttr]; rfl)); all_goals (intro hc; (try simp only [go_sem, simprocAttr] at hc); try (exfalso; omega))) | ((with_reducible refine fe ?_); refine ⟨_, (by simp only [Try.f15, h1, h2, h3, hH1, hH2, hH17, hH12, hy, hyd, hlt, cRow,go_sem, simprocAttr]; rfl), ?_⟩; first | rfl | (try simp only [h1, h2, h3, hH1, hH2, hH17, hH12, hy, hyd, hlt, cRow,go_sem, simprocAttr, seval])) | with_reducible intro (ep : Nat → Nat) | with_reducible apply_assumption -exfalso -symm only [*])
    exact ⟨r.rows.length - (k + 1), by omega, k + 1, rfl, by omega, rfl, fun j hj => by (try simp only [upd]); (repeat rw [if_neg (by omega)]); exact hlow j hj, _, _, _, _, _, rfl, rfl, rfl, rfl, rfl, by rw [hset], rfl⟩
  · repeat' (first | (with_reducible refine sk ?_; intro K hK) | ((with_reducible first | refine rg (md := { base := 600, own := [1, 12, 17] }) (h := ?_) | refine rgS [2] (md := { base := 600, own := [1, 12, 17] }) (h := ?_) | refine nx ?_); try simp (disch := omega) only [h1, h2, h3, hH1, hH2, hH17, hH12,go_sem, simprocAttr]) | (with_reducible refine bk ?_) | ((with_reducible refine' cE ?hv ?_ ?_); (case hv => first | rfl | (simp only [h1, h2, h3, hH1, hH2, hH17, hH12,go_sem, simprocAttr]; rfl)); all_goals (intro hc; (try simp only [go_sem, simprocAttr] at hc); try (exfalso; omega))) | with_reducible intro (ep : Nat → Nat) | with_reducible apply_assumption -exfalso -symm only [*])
    refine FnQ_end (Or.inl rfl) (.step 617 e17 2 (r.rows.map cRow) (by simp only [go_sem, simprocAttr, hH17]) (.refl _)) (by simp only [Try.f15, go_sem, simprocAttr, h1, h2, hH1, hH2]; rfl) ?_
    refine ⟨fun j hj => by (try simp only [upd]); (repeat rw [if_neg (by omega)]); exact hlow j hj, e12, ?_, ?_⟩
    · simp only [go_sem, simprocAttr, hH12]; rfl
    · simp only [go_sem, simprocAttr, hH12]
end Cp
namespace Cp
open Go
def FirstAt (l : List Brc) (t : Int) (j : Nat) (x : Int) : Prop := (x = 0 ∧ ∀ i b, i < j → l[i]? = some b → ¬ b.m ≤ t) ∨ (1 ≤ j ∧ ∃ b, l[0]? = some b ∧ b.m ≤ t ∧ x = b.m ∧ 1 ≤ b.m)
def SureAt (l : List Brc) (t : Int) (j : Nat) (x : Int) : Prop := (x = 0 ∧ ∀ i b, i < j → l[i]? = some b → b.m ≤ t → ¬ b.known = 2) ∨ (∃ i b, i < j ∧ l[i]? = some b ∧ b.m ≤ t ∧ b.known = 2 ∧ x = b.m ∧ 1 ≤ b.m ∧ ∀ k c, k < i → l[k]? = some c → ¬ c.known = 2)
variable {l : List Brc} {t x : Int} {j : Nat} {b : Brc}
theorem FirstAt.over (h : FirstAt l t j x) (hb : l[j]? = some b) (hm : ¬ b.m ≤ t) : FirstAt l t (j + 1) x := by
  rcases h with ⟨rfl, h⟩ | ⟨h1, c, h2⟩
  · refine .inl ⟨rfl, fun i c hi hc => ?_⟩
    by_cases hij : i = j
    · subst hij; rw [hb] at hc; cases hc; exact hm
    · exact h i c (by omega) hc
  · exact .inr ⟨by omega, c, h2⟩
theorem FirstAt.new (hs : l.Pairwise brLt) (h : FirstAt l t j 0) (hb : l[j]? = some b) (hm : b.m ≤ t) (h1 : 1 ≤ b.m) : FirstAt l t (j + 1) b.m := by
  rcases h with ⟨_, h⟩ | ⟨_, c, _, _, hc, h1⟩
  · cases j with
    | zero => exact .inr ⟨by omega, b, hb, hm, rfl, h1⟩
    | succ j =>
      exfalso
      obtain ⟨a, ha⟩ : ∃ a, l[0]? = some a := ⟨_, List.getElem?_eq_getElem (by have := (List.getElem?_eq_some_iff.1 hb).1; omega)⟩
      have h0 := h 0 a (by omega) ha
      have := sorted_m hs (Nat.zero_le _) ha hb
      omega
  · omega
theorem FirstAt.old (h : FirstAt l t j x) (hx : ¬ x = 0) : FirstAt l t (j + 1) x := by
  rcases h with ⟨rfl, _⟩ | ⟨h1, c, h2⟩
  · exact absurd rfl hx
  · exact .inr ⟨by omega, c, h2⟩
theorem SureAt.over (h : SureAt l t j x) (hb : l[j]? = some b) (hm : b.m ≤ t → ¬ b.known = 2) : SureAt l t (j + 1) x := by
  rcases h with ⟨rfl, h⟩ | ⟨i, c, h1, h2⟩
  · refine .inl ⟨rfl, fun i c hi hc => ?_⟩
    by_cases hij : i = j
    · subst hij; rw [hb] at hc; cases hc; exact hm
    · exact h i c (by omega) hc
  · exact .inr ⟨i, c, by omega, h2⟩
theorem SureAt.new (hs : l.Pairwise brLt) (h : SureAt l t j 0) (hb : l[j]? = some b) (hm : b.m ≤ t) (h1 : 1 ≤ b.m) (hk : b.known = 2) : SureAt l t (j + 1) b.m := by
  rcases h with ⟨_, h⟩ | ⟨i, c, _, _, _, _, hc, h1, _⟩
  · exact .inr ⟨j, b, by omega, hb, hm, hk, rfl, h1, fun k c hkj hc => h k c hkj hc (by have := sorted_m hs (Nat.le_of_lt hkj) hc hb; omega)⟩
  · omega
theorem SureAt.old (h : SureAt l t j x) (hx : ¬ x = 0) : SureAt l t (j + 1) x := by
  rcases h with ⟨rfl, _⟩ | ⟨i, c, h1, h2⟩
  · exact absurd rfl hx
  · exact .inr ⟨i, c, by omega, h2⟩
end Cp
namespace Cp
open Go
section
variable {r : RunT} {u : RulesT} {n : Nat}
end
end Cp
namespace Cp
end Cp
namespace Cp
open Go
structure LooserSt (s s' : StepT) : Prop where
  frm : s'.frm = s.frm
  part : s.part ≤ s'.part ∧ s'.part ≤ 1000
def LooserL : List StepT → List StepT → Prop
  | [], [] => True
  | s :: l, s' :: l' => LooserSt s s' ∧ LooserL l l'
  | _, _ => False
structure Looser (u u' : RulesT) : Prop where
  steps : LooserL u.steps u'.steps
  single : u.single ≤ u'.single ∧ u'.single ≤ 2000
  sfrom : u.sfrom ≤ u'.sfrom ∧ u'.sfrom ≤ 600
  press : -100 ≤ u'.press.lo ∧ u'.press.lo ≤ u.press.lo ∧ u'.press.hi = u.press.hi
  pfrom : u.pfrom ≤ u'.pfrom ∧ u'.pfrom ≤ 600
def Under (l l' : List Brc) : Prop := ∀ b ∈ l', ∃ a ∈ l, sameL b a ∧ b.known ≤ a.known
theorem Under.app {a b a' b' : List Brc} (h1 : Under a a') (h2 : Under b b') : Under (a ++ b) (a' ++ b') := fun x hx => by
  rcases List.mem_append.1 hx with hx | hx
  · obtain ⟨y, h3, h4⟩ := h1 x hx; exact ⟨y, List.mem_append_left _ h3, h4⟩
  · obtain ⟨y, h3, h4⟩ := h2 x hx; exact ⟨y, List.mem_append_right _ h3, h4⟩
theorem Under.nil {l : List Brc} : Under l [] := fun b hb => by simp at hb
theorem Under.rfl' {l : List Brc} : Under l l := fun b hb => ⟨b, hb, ⟨rfl, rfl, rfl⟩, Int.le_refl _⟩
theorem brLt_of_same {a b : Brc} (h : sameL a b) : ¬ brLt a b ∧ ¬ brLt b a := by unfold sameL at h; unfold brLt; omega
theorem knownOf_mem : ∀ {l : List Brc} {b a : Brc}, l.Pairwise brLt → a ∈ l → sameL b a → knownOf l b = a.known
  | x :: l, b, a, hs, ha, hsa => by
    rw [List.pairwise_cons] at hs
    unfold knownOf
    rw [List.find?_cons]
    by_cases h : sameL b x
    · have : a = x := by
        rcases List.mem_cons.1 ha with rfl | ha
        · rfl
        · exfalso
          have h1 := hs.1 a ha
          exact (brLt_of_same (a := x) (b := a) (by unfold sameL at *; omega)).1 h1
      simp [h, this]
    · simp only [decide_eq_false h]
      rcases List.mem_cons.1 ha with rfl | ha
      · exact absurd hsa h
      · exact knownOf_mem hs.2 ha hsa
theorem oneB_known {r : RunT} {u : RulesT} {b : Brc} (h : b ∈ leftS r u) : 1 ≤ b.known ∧ b.known ≤ 2 := by
  obtain ⟨k, _, _, h⟩ := leftB_mem h
  have hO : ∀ {n m q c : Int}, 0 ≤ n ∧ n ≤ 2 → b ∈ oneB m q c n → 1 ≤ b.known ∧ b.known ≤ 2 := fun hb h => by
    obtain ⟨rfl, hn⟩ := oneB_mem h
    simp only; omega
  simp only [minB, List.mem_append] at h
  rcases h with ((h | h) | h) | h
  · unfold blindB at h; split at h <;> simp at h; subst h; simp
  · unfold areaS at h
    split at h
    · simp [oneB] at h
    · exact hO outK_bnd h
  · unfold singB at h; split at h
    · simp at h
    · obtain ⟨i, c, _, _, rfl, hn⟩ := singL_mem h
      have : 0 ≤ singS r u c i (k : Int) ∧ singS r u c i (k : Int) ≤ 2 := outK_bnd
      simp only; omega
  · unfold pressB at h; split at h
    · simp at h
    · exact hO outK_bnd h
end Cp
namespace Cp
end Cp
namespace Cp
open Go Go.Proofs
set_option maxRecDepth 10000
end Cp
namespace Cp
open Go Go.Proofs
set_option maxRecDepth 10000
theorem ready_ok (r : RunT) (u : RulesT) : PureC Try.prog 34 [encRun r, encRules u] (.bool (!greatS r u && decide (checkE r u = 0))) := by
  by_cases hg : greatS r u = true
  · refine PureC_of (fn := Try.f34) tabOK (by kernel_rfl) rfl (by kernel_rfl) (by simp [Try.f34]) (by simp [noids, noid, noidss, go_sem, encRun, cRun, encRules, cRules]) (by first | rfl | simp [noids, noid, noidss, go_sem, encRun, cRun, encRules, cRules]) ?_
    intro X hX0 hXs
    repeat' (first | (with_reducible refine sk ?_; intro K hK) | ((first | (with_reducible first | refine rg (h := ?_) | refine nx ?_) | refine pK (great_ok r u) ?_); try simp (disch := omega) only [encRun, cRun, encRules, cRules, hg,go_sem, simprocAttr]) | (with_reducible refine bk ?_) | ((with_reducible refine' cE ?hv ?_ ?_); (case hv => first | rfl | (simp only [encRun, cRun, encRules, cRules, hg,go_sem, simprocAttr]; rfl)); all_goals (intro hc; (try simp only [go_sem, simprocAttr] at hc); try (exfalso; omega))) | ((with_reducible first | refine grdS_split ?_ ?_ | refine lkG_split ?_ ?_) <;> intro hg <;> (try simp (disch := omega) only [hg, encRun, cRun, encRules, cRules, hg,go_sem, simprocAttr]) <;> (try simp only [go_sem, simprocAttr] at hg) <;> (try (exfalso; omega))) | ((with_reducible refine fe ?_); refine ⟨_, (by simp only [Try.f34, encRun, cRun, encRules, cRules, hg,go_sem, simprocAttr]; rfl), ?_⟩; first | rfl | (try simp only [encRun, cRun, encRules, cRules, hg,go_sem, simprocAttr, seval])) | with_reducible intro (ep : Nat → Nat) | with_reducible apply_assumption -exfalso -symm only [*])
    try simp [hg]
  · simp only [Bool.not_eq_true] at hg
    obtain ⟨hsm, hst⟩ := great_sm hg
    refine PureC_of (fn := Try.f34) tabOK (by kernel_rfl) rfl (by kernel_rfl) (by simp [Try.f34]) (by simp [noids, noid, noidss, go_sem, encRun, cRun, encRules, cRules]) (by first | rfl | simp [noids, noid, noidss, go_sem, encRun, cRun, encRules, cRules]) ?_
    intro X hX0 hXs
    repeat' (first | (with_reducible refine sk ?_; intro K hK) | ((first | (with_reducible first | refine rg (h := ?_) | refine nx ?_) | refine pK (great_ok r u) ?_ | refine pK (rcheck_ok r u hsm.b ⟨by omega⟩) ?_); try simp (disch := omega) only [encRun, cRun, encRules, cRules, hg,go_sem, simprocAttr]) | (with_reducible refine bk ?_) | ((with_reducible refine' cE ?hv ?_ ?_); (case hv => first | rfl | (simp only [encRun, cRun, encRules, cRules, hg,go_sem, simprocAttr]; rfl)); all_goals (intro hc; (try simp only [go_sem, simprocAttr] at hc); try (exfalso; omega))) | ((with_reducible first | refine grdS_split ?_ ?_ | refine lkG_split ?_ ?_) <;> intro hg <;> (try simp (disch := omega) only [hg, encRun, cRun, encRules, cRules, hg,go_sem, simprocAttr]) <;> (try simp only [go_sem, simprocAttr] at hg) <;> (try (exfalso; omega))) | ((with_reducible refine fe ?_); refine ⟨_, (by simp only [Try.f34, encRun, cRun, encRules, cRules, hg,go_sem, simprocAttr]; rfl), ?_⟩; first | rfl | (try simp only [encRun, cRun, encRules, cRules, hg,go_sem, simprocAttr, seval])) | with_reducible intro (ep : Nat → Nat) | with_reducible apply_assumption -exfalso -symm only [*])
    all_goals try simp [hg]
end Cp
namespace Cp
open Go
theorem fit_map {α : Type} {c : α → List Val} : ∀ {xss : List (List Val)}, (∀ es ∈ xss, ∃ x, es = c x) → ∃ l : List α, xss = l.map c
  | [], _ => ⟨[], rfl⟩
  | es :: xss, h => by
    obtain ⟨x, rfl⟩ := h es (by simp)
    obtain ⟨l, rfl⟩ := fit_map fun es he => h es (List.mem_cons_of_mem _ he)
    exact ⟨x :: l, rfl⟩
theorem fit_slice {T : Tab} {n : Nat} {t e sz : Nat} {vs : List Val} {b b2 s1 : Nat} {z z2 : Val} {p p2 : Bool} {k2 : TK} {α : Type} {c : α → List Val} (ht : T t = some { kind := .slice e, sz := s1, bytes := b, zero := z, plain := p })
    (he : T e = some { kind := k2, sz := sz, bytes := b2, zero := z2, plain := p2 }) (h : Fit T (n + 1) t vs) (hc : ∀ es, Fit T n e es → ∃ x, es = c x) : ∃ l : List α, vs = [.lst sz (l.map c)] := by
  simp only [Fit, ht] at h
  obtain ⟨sz', xss, rfl, hs, _, hx⟩ := h
  rw [he] at hs
  cases hs
  obtain ⟨l, rfl⟩ := fit_map (c := c) fun es hes => hc es (hx es hes).2
  exact ⟨l, rfl⟩
theorem fit_struct {T : Tab} {n : Nat} {t sz : Nat} {vs : List Val} {b : Nat} {z : Val} {p : Bool} {fs : List (Nat × Nat)} (ht : T t = some { kind := .struct fs, sz := sz, bytes := b, zero := z, plain := p }) (h : Fit T (n + 1) t vs) :
    vs.length = sz ∧ ∀ q ∈ fs, ∃ fi, T q.2 = some fi ∧ Fit T n q.2 ((vs.drop q.1).take fi.sz) := by
  simp only [Fit, ht] at h
  exact h
theorem fit_int {T : Tab} {n : Nat} {t : Nat} {vs : List Val} {s b : Nat} {z : Val} {p : Bool} {k : IntKind} (ht : T t = some { kind := .int k, sz := s, bytes := b, zero := z, plain := p }) (h : Fit T (n + 1) t vs) : ∃ m, vs = [.int k m] ∧ (Lit.int k m).wf = true := by
  simp only [Fit, ht] at h
  exact h
theorem fit3 {n : Nat} {vs : List Val} (h : Fit tab (n + 1) 3 vs) : ∃ m, vs = [.int .i64 m] := by
  obtain ⟨m, h, _⟩ := fit_int tab_3 h; exact ⟨m, h⟩
theorem fit_ints {n : Nat} {vs : List Val} {t b s1 : Nat} {z : Val} {p : Bool} (ht : tab t = some { kind := .slice 3, sz := s1, bytes := b, zero := z, plain := p }) (h : Fit tab (n + 2) t vs) : ∃ l : List Int, vs = [.lst 1 (ints l)] := by
  obtain ⟨l, rfl⟩ := fit_slice (c := fun m : Int => [Val.int .i64 m]) ht tab_3 h fun es he => fit3 he
  exact ⟨l, rfl⟩
theorem fit_two {n : Nat} {vs : List Val} {t b : Nat} {z : Val} {p : Bool} (ht : tab t = some { kind := .struct [(0, 3), (1, 3)], sz := 2, bytes := b, zero := z, plain := p }) (h : Fit tab (n + 2) t vs) : ∃ x y : Int, vs = [.int .i64 x, .int .i64 y] := by
  obtain ⟨hl, hq⟩ := fit_struct ht h
  match vs, hl with
  | [a, b], _ =>
    obtain ⟨fi, e, h0⟩ := hq (0, 3) (by simp)
    rw [tab_3] at e; cases e
    obtain ⟨fi, e, h1⟩ := hq (1, 3) (by simp)
    rw [tab_3] at e; cases e
    obtain ⟨x, hx⟩ := fit3 h0
    obtain ⟨y, hy⟩ := fit3 h1
    simp at hx hy
    exact ⟨x, y, by rw [hx, hy]⟩
theorem fit_span {n : Nat} {vs : List Val} (h : Fit tab (n + 2) 26 vs) : ∃ s : Span, vs = [.int .i64 s.lo, .int .i64 s.hi] := by
  obtain ⟨x, y, h⟩ := fit_two tab_26 h; exact ⟨⟨x, y⟩, h⟩
theorem fit_pt {n : Nat} {vs : List Val} (h : Fit tab (n + 2) 93 vs) : ∃ x : Pt, vs = cPt x := by
  obtain ⟨x, y, h⟩ := fit_two tab_93 h; exact ⟨⟨x, y⟩, h⟩
theorem fit_step {n : Nat} {vs : List Val} (h : Fit tab (n + 2) 85 vs) : ∃ x : StepT, vs = cStep x := by
  obtain ⟨x, y, h⟩ := fit_two tab_85 h; exact ⟨⟨x, y⟩, h⟩
theorem fit_cpl {n : Nat} {vs : List Val} (h : Fit tab (n + 3) 76 vs) : ∃ x : Cpl, vs = cCpl x := by
  obtain ⟨hl, hq⟩ := fit_struct tab_76 h
  match vs, hl with
  | [a, b, c, d, e, f], _ =>
    obtain ⟨fi, e0, h0⟩ := hq (0, 3) (by simp)
    rw [tab_3] at e0; cases e0
    obtain ⟨fi, e1, h1⟩ := hq (1, 26) (by simp)
    rw [tab_26] at e1; cases e1
    obtain ⟨fi, e2, h2⟩ := hq (3, 26) (by simp)
    rw [tab_26] at e2; cases e2
    obtain ⟨fi, e3, h3⟩ := hq (5, 3) (by simp)
    rw [tab_3] at e3; cases e3
    obtain ⟨x0, h0⟩ := fit3 h0
    obtain ⟨x1, h1⟩ := fit_span h1
    obtain ⟨x2, h2⟩ := fit_span h2
    obtain ⟨x3, h3⟩ := fit3 h3
    simp at h0 h1 h2 h3
    obtain ⟨h1, h1'⟩ := h1
    obtain ⟨h2, h2'⟩ := h2
    exact ⟨⟨x0, x1, x2, x3⟩, by rw [h0, h1, h1', h2, h2', h3]; rfl⟩
theorem fit_row {n : Nat} {vs : List Val} (h : Fit tab (n + 3) 89 vs) : ∃ x : RowT, vs = cRow x := by
  obtain ⟨hl, hq⟩ := fit_struct tab_89 h
  match vs, hl with
  | [a, b], _ =>
    obtain ⟨fi, e0, h0⟩ := hq (0, 87) (by simp)
    rw [tab_87] at e0; cases e0
    obtain ⟨fi, e1, h1⟩ := hq (1, 3) (by simp)
    rw [tab_3] at e1; cases e1
    obtain ⟨x0, h0⟩ := fit_ints tab_87 h0
    obtain ⟨x1, h1⟩ := fit3 h1
    simp at h0 h1
    exact ⟨⟨x0, x1⟩, by rw [h0, h1]; rfl⟩
theorem fit_pts {n : Nat} {vs : List Val} (h : Fit tab (n + 3) 22 vs) : ∃ l : List Pt, vs = [.lst 2 (l.map cPt)] := fit_slice tab_22 tab_93 h fun es he => fit_pt he
theorem fit_run {n : Nat} {vs : List Val} (h : Fit tab (n + 5) 28 vs) : ∃ r : RunT, vs = cRun r := by
  obtain ⟨hl, hq⟩ := fit_struct tab_28 h
  match vs, hl with
  | [a, b, c, d, e, f], _ =>
    obtain ⟨fi, e0, h0⟩ := hq (0, 3) (by simp)
    rw [tab_3] at e0; cases e0
    obtain ⟨fi, e1, h1⟩ := hq (1, 22) (by simp)
    rw [tab_22] at e1; cases e1
    obtain ⟨fi, e2, h2⟩ := hq (2, 23) (by simp)
    rw [tab_23] at e2; cases e2
    obtain ⟨fi, e3, h3⟩ := hq (3, 24) (by simp)
    rw [tab_24] at e3; cases e3
    obtain ⟨fi, e4, h4⟩ := hq (4, 26) (by simp)
    rw [tab_26] at e4; cases e4
    obtain ⟨x0, h0⟩ := fit3 h0
    obtain ⟨x1, h1⟩ := fit_pts h1
    obtain ⟨x2, h2⟩ := fit_slice tab_23 tab_76 h2 fun es he => fit_cpl he
    obtain ⟨x3, h3⟩ := fit_slice tab_24 tab_89 h3 fun es he => fit_row he
    obtain ⟨x4, h4⟩ := fit_span h4
    simp at h0 h1 h2 h3 h4
    obtain ⟨h4, h4'⟩ := h4
    exact ⟨⟨x0, x1, x2, x3, x4⟩, by rw [h0, h1, h2, h3, h4, h4']; rfl⟩
theorem fit_rules {n : Nat} {vs : List Val} (h : Fit tab (n + 5) 31 vs) : ∃ u : RulesT, vs = cRules u := by
  obtain ⟨hl, hq⟩ := fit_struct tab_31 h
  match vs, hl with
  | [a, b, c, d, e, f], _ =>
    obtain ⟨fi, e0, h0⟩ := hq (0, 29) (by simp)
    rw [tab_29] at e0; cases e0
    obtain ⟨fi, e1, h1⟩ := hq (1, 3) (by simp)
    rw [tab_3] at e1; cases e1
    obtain ⟨fi, e2, h2⟩ := hq (2, 3) (by simp)
    rw [tab_3] at e2; cases e2
    obtain ⟨fi, e3, h3⟩ := hq (3, 26) (by simp)
    rw [tab_26] at e3; cases e3
    obtain ⟨fi, e4, h4⟩ := hq (5, 3) (by simp)
    rw [tab_3] at e4; cases e4
    obtain ⟨x0, h0⟩ := fit_slice tab_29 tab_85 h0 fun es he => fit_step he
    obtain ⟨x1, h1⟩ := fit3 h1
    obtain ⟨x2, h2⟩ := fit3 h2
    obtain ⟨x3, h3⟩ := fit_span h3
    obtain ⟨x4, h4⟩ := fit3 h4
    simp at h0 h1 h2 h3 h4
    obtain ⟨h3, h3'⟩ := h3
    exact ⟨⟨x0, x1, x2, x3, x4⟩, by rw [h0, h1, h2, h3, h3', h4]; rfl⟩
theorem arg_run {a : Val} (h : FitV tab 8 28 a) : ∃ r : RunT, a = encRun r := by
  obtain ⟨ti, cs, e, h, _, rfl⟩ := h
  obtain ⟨l, rfl⟩ := fit_run h
  rw [tab_28] at e; cases e; exact ⟨l, rfl⟩
theorem arg_rules {a : Val} (h : FitV tab 8 31 a) : ∃ r : RulesT, a = encRules r := by
  obtain ⟨ti, cs, e, h, _, rfl⟩ := h
  obtain ⟨l, rfl⟩ := fit_rules h
  rw [tab_31] at e; cases e; exact ⟨l, rfl⟩
end Cp
namespace Cp
open Go Go.Proofs
set_option maxRecDepth 10000
set_option maxHeartbeats 4000000
theorem AW_gen {P : Program} {X : Cx} {ro : Option Nat} {c : Code} {Q : Exit → Fr → Hp → Prop} {f : Fr} {H : Hp} {I : Fr → Hp → Prop} (h0 : I f H) (h : ∀ f H, I f H → AW P ro X c Q f H) : AW P ro X c Q f H := h f H h0
def LooP (r : RunT) (u : RulesT) (l : List Int) (f : Fr) : Prop := f 2 = .lst 1 (l.map c32) ∧ f 3 = .pim (cRun r) ∧ f 4 = .pim (cRules u) ∧ f 7 = .bool true
end Cp
namespace Cp
open Go
structure WiderC (c c' : Cpl) : Prop where
  id : c'.id = c.id
  brk : c'.brk = c.brk
  err : -50 ≤ c'.err.lo ∧ c'.err.lo ≤ c.err.lo ∧ c.err.hi ≤ c'.err.hi ∧ c'.err.hi ≤ 50
  lag : 0 ≤ c'.lag.lo ∧ c'.lag.lo ≤ c.lag.lo ∧ c.lag.hi ≤ c'.lag.hi ∧ c'.lag.hi ≤ 3
def WiderL : List Cpl → List Cpl → Prop
  | [], [] => True
  | c :: l, c' :: l' => WiderC c c' ∧ WiderL l l'
  | _, _ => False
structure Wider (r r' : RunT) : Prop where
  id : r'.id = r.id
  curve : r'.curve = r.curve
  cpls : WiderL r.cpls r'.cpls
  rows : r'.rows = r.rows
  gauge : r'.gauge.lo = r.gauge.lo ∧ r.gauge.hi ≤ r'.gauge.hi ∧ r'.gauge.hi ≤ 20
theorem widerL_len : ∀ {l l' : List Cpl}, WiderL l l' → l'.length = l.length
  | [], [], _ => rfl
  | _ :: l, _ :: l', h => by simp [widerL_len h.2]
  | [], _ :: _, h => h.elim
  | _ :: _, [], h => h.elim
theorem widerL_get : ∀ {l l' : List Cpl} {i : Nat} {c : Cpl}, WiderL l l' → l[i]? = some c → ∃ c', l'[i]? = some c' ∧ WiderC c c'
  | [], _, i, c, _, hc => by simp at hc
  | a :: l, a' :: l', 0, c, h, hc => by simp at hc; subst hc; exact ⟨a', rfl, h.1⟩
  | a :: l, a' :: l', i + 1, c, h, hc => by
    obtain ⟨c', h1, h2⟩ := widerL_get (i := i) h.2 (by simpa using hc)
    exact ⟨c', by simpa using h1, h2⟩
  | _ :: _, [], _, _, h, _ => h.elim
theorem widerL_of : ∀ {l S : List Cpl}, S.length = l.length → (∀ (i : Nat) (s s' : Cpl), l[i]? = some s → S[i]? = some s' → WiderC s s') → WiderL l S
  | [], [], _, _ => trivial
  | s :: l, s' :: S, hl, h => ⟨h 0 s s' rfl rfl, widerL_of (by simpa using hl) fun i a b ha hb => h (i + 1) a b (by simpa using ha) (by simpa using hb)⟩
  | [], _ :: _, hl, _ => by simp at hl
  | _ :: _, [], hl, _ => by simp at hl
theorem wider_wk {m : Int} : ∀ {l l' : List Cpl} {k : Nat}, WiderL l l' → wkFrom m k l' = wkFrom m k l
  | [], [], _, _ => rfl
  | c :: l, c' :: l', k, h => by
    have hw : works c' m = works c m := by unfold works; rw [h.1.brk]
    simp only [wkFrom, hw, wider_wk h.2]
  | [], _ :: _, _, h => h.elim
  | _ :: _, [], _, h => h.elim
theorem ext_at {g : Int → Int} {lo : Int} : ∀ (n : Nat), (∃ j : Nat, j ≤ n ∧ extLo g lo n = g (lo + j)) ∧ (∃ j : Nat, j ≤ n ∧ extHi g lo n = g (lo + j)) ∧ (∀ j : Nat, j ≤ n → extLo g lo n ≤ g (lo + j) ∧ g (lo + j) ≤ extHi g lo n)
  | 0 => ⟨⟨0, Nat.le_refl _, by simp [extLo]⟩, ⟨0, Nat.le_refl _, by simp [extHi]⟩, fun j hj => by
    obtain rfl : j = 0 := by omega
    simp [extLo, extHi]⟩
  | n + 1 => by
    obtain ⟨⟨a, ha, e1⟩, ⟨b, hb, e2⟩, h⟩ := ext_at n
    simp only [extLo, extHi]
    refine ⟨?_, ?_, fun j hj => ?_⟩
    · rcases Int.le_total (extLo g lo n) (g (lo + ((n + 1 : Nat) : Int))) with h1 | h1
      · exact ⟨a, by omega, by rw [Int.min_eq_left h1, e1]⟩
      · exact ⟨n + 1, Nat.le_refl _, by rw [Int.min_eq_right h1]⟩
    · rcases Int.le_total (extHi g lo n) (g (lo + ((n + 1 : Nat) : Int))) with h1 | h1
      · exact ⟨n + 1, Nat.le_refl _, by rw [Int.max_eq_right h1]⟩
      · exact ⟨b, by omega, by rw [Int.max_eq_left h1, e2]⟩
    · by_cases hjn : j = n + 1
      · subst hjn; omega
      · have := h j (by omega); omega
theorem ext_wide {g : Int → Int} {lo lo' : Int} {n n' : Nat} (h1 : lo' ≤ lo) (h2 : lo + n ≤ lo' + n') : extLo g lo' n' ≤ extLo g lo n ∧ extHi g lo n ≤ extHi g lo' n' := by
  obtain ⟨⟨a, ha, e1⟩, ⟨b, hb, e2⟩, _⟩ := ext_at (g := g) (lo := lo) n
  obtain ⟨_, _, h⟩ := ext_at (g := g) (lo := lo') n'
  have ka := h (lo + a - lo').toNat (by omega)
  have kb := h (lo + b - lo').toNat (by omega)
  rw [show lo' + ((lo + a - lo').toNat : Int) = lo + a by omega] at ka
  rw [show lo' + ((lo + b - lo').toNat : Int) = lo + b by omega] at kb
  omega
section
variable {r r' : RunT} {u : RulesT}
theorem wider_truth (hW : Wider r r') (hF : RunF r) {c c' : Cpl} {i : Nat} (hc : r.cpls[i]? = some c) (hcc : WiderC c c') {m : Int} : (truth r' c' i m).lo ≤ (truth r c i m).lo ∧ (truth r c i m).hi ≤ (truth r' c' i m).hi := by
  have hcf := hF.cpl i c hc
  have he := hcc.err; have hl := hcc.lag
  have hg : readLag r' c' i m = readLag r c i m := by
    funext lag
    unfold readLag readAt lastRow
    rw [hW.rows, hcc.brk]
  have := ext_wide (g := readLag r c i m) (lo := c.lag.lo) (lo' := c'.lag.lo) (n := (c.lag.hi - c.lag.lo).toNat) (n' := (c'.lag.hi - c'.lag.lo).toNat) (by omega) (by omega)
  unfold truth
  rw [hg]
  simp only
  omega
theorem wider_sum (hW : Wider r r') (hF : RunF r) {m : Int} : ∀ (l : List Nat), sumLo r' m l ≤ sumLo r m l ∧ sumHi r m l ≤ sumHi r' m l
  | [] => ⟨Int.le_refl _, Int.le_refl _⟩
  | i :: l => by
    have ih := wider_sum hW hF (m := m) l
    simp only [sumLo, sumHi]
    cases hq : r.cpls[i]? with
    | none =>
      have : r'.cpls[i]? = none := by
        have := widerL_len hW.cpls
        rw [List.getElem?_eq_none_iff] at hq ⊢; omega
      rw [this]; simp only; omega
    | some c =>
      obtain ⟨c', h1, h2⟩ := widerL_get hW.cpls hq
      have := wider_truth hW hF hq h2 (m := m)
      rw [h1]; simp only; omega
theorem wider_wk' (hW : Wider r r') {m : Int} : wk r' m = wk r m := wider_wk hW.cpls
theorem wider_mean (hW : Wider r r') (hF : RunF r) {m : Int} : (meanS r' m).lo ≤ (meanS r m).lo ∧ (meanS r m).hi ≤ (meanS r' m).hi := by
  have := wider_sum hW hF (m := m) (wk r m)
  unfold meanS
  rw [wider_wk' hW]
  have hq : 0 ≤ 840 / ((wk r m).length : Int) := Int.ediv_nonneg (by decide) (by omega)
  exact ⟨Int.mul_le_mul_of_nonneg_right this.1 hq, Int.mul_le_mul_of_nonneg_right this.2 hq⟩
theorem wider_cum (hW : Wider r r') (hF : RunF r) : ∀ (k : Nat), cumLo r' k ≤ cumLo r k ∧ cumHi r k ≤ cumHi r' k ∧ cumC r' k = cumC r k
  | 0 => ⟨Int.le_refl _, Int.le_refl _, rfl⟩
  | k + 1 => by
    obtain ⟨h1, h2, h3⟩ := wider_cum hW hF k
    have := wider_mean hW hF (m := ((k + 1 : Nat) : Int))
    simp only [cumLo, cumHi, cumC, wider_wk' hW, hW.curve]
    split <;> omega
theorem outK_cov {s s' o : Span} (hs : s.lo ≤ s.hi) (h1 : s'.lo ≤ s.lo) (h2 : s.hi ≤ s'.hi) : (outK s o ≠ 0 → outK s' o ≠ 0) ∧ (outK s' o = 2 → outK s o = 2) := by
  unfold outK
  split <;> split <;> (try split) <;> (try split) <;> omega
def CovL (l l' : List Brc) : Prop := (∀ a ∈ l, ∃ b ∈ l', sameL a b) ∧ ∀ b ∈ l', b.known = 2 → ∃ a ∈ l, sameL b a ∧ a.known = 2
theorem CovL.nil : CovL [] [] := ⟨fun a h => by simp at h, fun a h => by simp at h⟩
theorem CovL.rfl' {l : List Brc} : CovL l l := ⟨fun a h => ⟨a, h, rfl, rfl, rfl⟩, fun a h hk => ⟨a, h, ⟨rfl, rfl, rfl⟩, hk⟩⟩
theorem CovL.app {a b a' b' : List Brc} (h1 : CovL a a') (h2 : CovL b b') : CovL (a ++ b) (a' ++ b') := by
  refine ⟨fun x hx => ?_, fun x hx hk => ?_⟩
  · rcases List.mem_append.1 hx with hx | hx
    · obtain ⟨y, h3, h4⟩ := h1.1 x hx; exact ⟨y, List.mem_append_left _ h3, h4⟩
    · obtain ⟨y, h3, h4⟩ := h2.1 x hx; exact ⟨y, List.mem_append_right _ h3, h4⟩
  · rcases List.mem_append.1 hx with hx | hx
    · obtain ⟨y, h3, h4⟩ := h1.2 x hx hk; exact ⟨y, List.mem_append_left _ h3, h4⟩
    · obtain ⟨y, h3, h4⟩ := h2.2 x hx hk; exact ⟨y, List.mem_append_right _ h3, h4⟩
theorem cov_oneB {m q c n n' : Int} (h : (n ≠ 0 → n' ≠ 0) ∧ (n' = 2 → n = 2)) : CovL (oneB m q c n) (oneB m q c n') := by
  refine ⟨fun a ha => ?_, fun b hb hk => ?_⟩
  · obtain ⟨rfl, hn⟩ := oneB_mem ha
    exact ⟨⟨m, q, c, n'⟩, by unfold oneB; rw [if_neg (h.1 hn)]; simp, rfl, rfl, rfl⟩
  · obtain ⟨rfl, hn⟩ := oneB_mem hb
    have := h.2 hk
    exact ⟨⟨m, q, c, n⟩, by unfold oneB; rw [if_neg (by omega)]; simp, ⟨rfl, rfl, rfl⟩, this⟩
theorem wider_singL (hW : Wider r r') (hF : RunF r) {m : Int} (hm : 1 ≤ m) (hm2 : m ≤ r.rows.length) : ∀ (l : List Nat), (∀ i ∈ l, i ∈ wk r m) → CovL (singL r u m l) (singL r' u m l)
  | [], _ => CovL.nil
  | i :: l, h => by
    simp only [singL]
    refine CovL.app ?_ (wider_singL hW hF hm hm2 l fun j hj => h j (by simp [hj]))
    obtain ⟨c, hc, hw⟩ := wk_mem.1 (h i (by simp))
    obtain ⟨c', h1, h2⟩ := widerL_get hW.cpls hc
    have hb := truth_bounds hF hc hm hm2 hw
    have ht := wider_truth hW hF hc h2 (m := m)
    unfold singI
    rw [hc, h1]
    simp only [h2.id]
    refine cov_oneB ?_
    unfold singS
    rw [hW.curve]
    exact outK_cov (by omega) ht.1 ht.2
theorem wider_min (hW : Wider r r') (hF : RunF r) (hdeg : ∀ m : Int, 0 ≤ m → m ≤ lastM r.curve → 0 ≤ degAt r.curve m ∧ degAt r.curve m ≤ 2000) {k : Nat} (hk : 1 ≤ k) (hk2 : k ≤ r.rows.length) : CovL (minB r u k) (minB r' u k) := by
  obtain ⟨c1, c2, c3⟩ := wider_cum hW hF k
  have hcb := cum_bounds hF hdeg k hk2
  have hg := hW.gauge
  have hgf := hF.gauge
  unfold minB
  refine CovL.app (CovL.app (CovL.app ?_ ?_) ?_) ?_
  · unfold blindB; rw [wider_wk' hW]; exact CovL.rfl'
  · refine cov_oneB ?_
    unfold areaS
    rw [c3]
    split
    · exact ⟨fun h => h, fun h => h⟩
    · exact outK_cov (by simp only; omega) (by simp only; omega) (by simp only; omega)
  · unfold singB; rw [wider_wk' hW]
    split
    · exact CovL.nil
    · exact wider_singL hW hF (by omega) (by omega) _ fun i h => h
  · unfold pressB
    split
    · exact CovL.nil
    · refine cov_oneB ?_
      unfold pressS pressAt
      rw [hW.rows]
      exact outK_cov (by simp only; omega) (by simp only; omega) (by simp only; omega)
theorem wider_left (hW : Wider r r') (hF : RunF r) (hdeg : ∀ m : Int, 0 ≤ m → m ≤ lastM r.curve → 0 ≤ degAt r.curve m ∧ degAt r.curve m ≤ 2000) : ∀ (k : Nat), k ≤ r.rows.length → CovL (leftB r u k) (leftB r' u k)
  | 0, _ => CovL.nil
  | k + 1, hk => by
    simp only [leftB]
    exact CovL.app (wider_left hW hF hdeg k (by omega)) (wider_min hW hF hdeg (by omega) hk)
theorem wider_cpls : ∀ {l l' : List Cpl} {last : Int}, WiderL l l' → cplsFrom last l = true → cplsFrom last l' = true
  | [], [], _, _, _ => rfl
  | c :: l, c' :: l', last, h, hs => by
    obtain ⟨hc, h2⟩ := h
    have he := hc.err; have hl := hc.lag; have hb := hc.brk; have hi := hc.id
    simp only [cplsFrom, cplOK, Bool.and_eq_true, decide_eq_true_eq] at hs ⊢
    rw [hi]
    exact ⟨by omega, wider_cpls h2 hs.2⟩
  | [], _ :: _, _, h, _ => h.elim
  | _ :: _, [], _, h, _ => h.elim
theorem wider_ok (hW : Wider r r') (h : runOK r = true) : runOK r' = true := by
  have hl := widerL_len hW.cpls
  have hg := hW.gauge
  simp only [runOK, headOK, Bool.and_eq_true, decide_eq_true_eq] at h ⊢
  obtain ⟨⟨⟨h1, h2⟩, h3⟩, h4⟩ := h
  rw [hW.curve, hW.rows, hW.id, hl]
  exact ⟨⟨⟨h1, by omega⟩, wider_cpls hW.cpls h3⟩, h4⟩
end
theorem cov_count {l l' : List Brc} (h : CovL l l') (hs : l'.Pairwise brLt) {n : Int} (hm : ∀ b ∈ l', b.m - 1 ≤ n) : countL l' n ≤ countL l n := by
  unfold countL
  cases h' : l[0]? with
  | none =>
    simp only
    cases hl : l'[0]? with
    | none => simp
    | some a => have := hm a (List.mem_of_getElem? hl); simp only; omega
  | some a =>
    obtain ⟨b, hb, hsa⟩ := h.1 a (List.mem_of_getElem? h')
    obtain ⟨j, hj⟩ := List.getElem?_of_mem hb
    obtain ⟨x, hx⟩ : ∃ x, l'[0]? = some x := ⟨_, List.getElem?_eq_getElem (by have := (List.getElem?_eq_some_iff.1 hj).1; omega)⟩
    have := sorted_m hs (Nat.zero_le j) hx hj
    rw [hx]; unfold sameL at hsa; simp only; omega
end Cp
namespace Cp
open Go Go.Proofs
set_option maxRecDepth 10000
set_option maxHeartbeats 4000000
theorem AW_wid {P : Program} {X : Cx} {ro : Option Nat} {c : Code} {Q : Exit → Fr → Hp → Prop} {f : Fr} {H : Hp} {r : RunT} {S : List Cpl} {e e12 : Nat} (h : H 8 = some (e, .arr 6 [[.int .i64 r.id, .lst 2 (r.curve.map cPt), .gr 612 e12 S.length, .lst 2 (r.rows.map cRow), .int .i64 r.gauge.lo, .int .i64 r.gauge.hi]])) (h6 : H 612 = some (e12, .arr 6 (S.map cCpl))) (k : ∀ H2 : Hp, H2 8 = some (e, .arr 6 [[.int .i64 r.id, .lst 2 (r.curve.map cPt), .lst 6 (S.map cCpl), .lst 2 (r.rows.map cRow), .int .i64 r.gauge.lo, .int .i64 r.gauge.hi]]) → AW P ro X c Q f H2) : AW P ro X c Q f H := by
  refine AW_thaw (k := 612) (j := 8) (n := 6) (by decide) h6 h fun H2 h2 _ => k H2 ?_
  rw [h2]
  obtain ⟨H', hH'⟩ : ∃ H', upd H 612 (some (e12, .fro 6 (S.map cCpl))) = H' := ⟨_, rfl⟩
  have h606 : H' 612 = some (e12, .fro 6 (S.map cCpl)) := by rw [← hH', upd_same]
  rw [hH']
  have e2 : (S.map cCpl).map (fun es => es.map (fzd H' 5)) = S.map cCpl := by rw [List.map_map]; exact List.map_congr_left fun s _ => rfl
  have e1 : fzd H' 6 (.gr 612 e12 S.length) = .lst 6 (S.map cCpl) := by
    simp only [fzd, h606, List.length_map, and_self, if_true]
    exact congrArg _ e2
  have e3 : fzd H' 6 (.lst 2 (r.curve.map cPt)) = .lst 2 (r.curve.map cPt) := fzd_noid _ _ (by simp only [noid, cPt_noid])
  have e4 : fzd H' 6 (.lst 2 (r.rows.map cRow)) = .lst 2 (r.rows.map cRow) := fzd_noid _ _ (by simp only [noid, cRow_noid])
  simp only [List.map_cons, List.map_nil, e1, e3, e4]; rfl
theorem wider_law (r : RunT) (u : RulesT) (l : List Int) (hl : By l) : PureC Try.prog 10 [encRun r, encRules u, .lst 1 (l.map c32)] (.bool true) := by
  by_cases hr : (!greatS r u && decide (checkE r u = 0)) = true
  · have hr2 : greatS r u = false ∧ checkE r u = 0 := by simpa using hr
    obtain ⟨hsm, hst⟩ := great_sm hr2.1
    obtain ⟨h1, h2⟩ := check0 hr2.2
    have hu : RulesB u := ⟨by omega⟩
    have hF := run_facts h1
    have hU := rules_facts h2
    have hrl := hF.rows
    have hcl := hF.cpls
    have hgf := hF.gauge
    refine PureC_of (fn := Try.f10) tabOK (by kernel_rfl) rfl (by kernel_rfl) (by simp [Try.f10]) (by simp [noids, noid, noidss, go_sem, encRun, cRun, encRules, cRules]) (by first | rfl | simp [noids, noid, noidss, go_sem, encRun, cRun, encRules, cRules]) ?_
    intro X hX0 hXs
    repeat' (first | ((fail_if_success (with_reducible refine AW_at (id := 7) ?_)); with_reducible refine sk ?_; intro K hK) | ((first | (with_reducible first | refine rg (md := { base := 0, own := [8, 21, 23, 195], imp := [33] }) (h := ?_) | refine rgS [8, 21, 23] (md := { base := 0, own := [8, 21, 23, 195], imp := [33] }) (h := ?_) | refine nx ?_) | refine pK (alive_run) ?_ | refine pK (ready_ok r u) ?_ | refine pK (twinA_ok r hsm (by omega) (by omega) _) ?_); try simp (disch := omega) only [encRun, cRun, encRules, cRules, hr,go_sem, simprocAttr]) | (with_reducible refine bk ?_) | ((with_reducible refine' cE ?hv ?_ ?_); (case hv => first | rfl | (simp only [encRun, cRun, encRules, cRules, hr,go_sem, simprocAttr]; rfl)); all_goals (intro hc; (try simp only [go_sem, simprocAttr] at hc); try (exfalso; omega))) | ((with_reducible first | refine grdS_split ?_ ?_ | refine lkG_split ?_ ?_) <;> intro hg <;> (try simp (disch := omega) only [hg, encRun, cRun, encRules, cRules, hr,go_sem, simprocAttr]) <;> (try simp only [go_sem, simprocAttr] at hg) <;> (try (exfalso; omega))) | (first | refine iK (alive_run) ?_ | refine iK (ready_ok r u) ?_ | refine iK (twinA_ok r hsm (by omega) (by omega) _) ?_) | ((with_reducible refine fe ?_); refine ⟨_, (by simp only [Try.f10, encRun, cRun, encRules, cRules, hr,go_sem, simprocAttr]; rfl), ?_⟩; first | rfl | (try simp only [encRun, cRun, encRules, cRules, hr,go_sem, simprocAttr, seval])) | with_reducible intro (ep : Nat → Nat) | with_reducible apply_assumption -exfalso -symm only [*])
    rintro v H3 ⟨hs3, e12, rfl, hH12⟩
    have g8 : H3 8 = none := hs3 8 (by decide)
    simp only [g8, go_sem, simprocAttr]
    repeat' (first | ((fail_if_success (with_reducible refine AW_at (id := 7) ?_)); with_reducible refine sk ?_; intro K hK) | ((with_reducible first | refine rg (md := { base := 0, own := [8, 21, 23, 195] }) (h := ?_) | refine rgS [8, 21, 23] (md := { base := 0, own := [8, 21, 23, 195] }) (h := ?_) | refine nx ?_); try simp (disch := omega) only [g8, hH12,go_sem, simprocAttr]) | (with_reducible refine bk ?_) | ((with_reducible refine' cE ?hv ?_ ?_); (case hv => first | rfl | (simp only [g8, hH12,go_sem, simprocAttr]; rfl)); all_goals (intro hc; (try simp only [go_sem, simprocAttr] at hc); try (exfalso; omega))) | ((with_reducible first | refine grdS_split ?_ ?_ | refine lkG_split ?_ ?_) <;> intro hg <;> (try simp (disch := omega) only [hg, g8, hH12,go_sem, simprocAttr]) <;> (try simp only [go_sem, simprocAttr] at hg) <;> (try (exfalso; omega))) | ((with_reducible refine fe ?_); refine ⟨_, (by simp only [Try.f10, g8, hH12,go_sem, simprocAttr]; rfl), ?_⟩; first | rfl | (try simp only [g8, hH12,go_sem, simprocAttr, seval])) | with_reducible intro (ep : Nat → Nat) | with_reducible apply_assumption -exfalso -symm only [*])
    have hcut7 : ∀ f H, (∃ S e e12, LooP r u l f ∧ f 8 = .ptr 8 e 6 0 0 ∧ H 8 = some (e, .arr 6 [[.int .i64 r.id, .lst 2 (r.curve.map cPt), .gr 612 e12 S.length, .lst 2 (r.rows.map cRow), .int .i64 r.gauge.lo, .int .i64 r.gauge.hi]]) ∧ H 612 = some (e12, .arr 6 (S.map cCpl)) ∧ WiderL r.cpls S) → K f H := by
      rintro f H ⟨S, e, e12, ⟨h2', h3, h4, h7⟩, h8, hH, hH12, hS⟩
      refine hK f H ?_
      clear hK
      refine AW_wid hH hH12 fun H2 hH => ?_
      have b4 := chI_bnd hl 4
      have z4 : ¬ 20 - r.gauge.hi + 1 = 0 := by omega
      have p4 : 0 ≤ (chI l 4).tmod (20 - r.gauge.hi + 1) := Int.tmod_nonneg _ b4.1
      have q4 : (chI l 4).tmod (20 - r.gauge.hi + 1) < 20 - r.gauge.hi + 1 := Int.tmod_lt_of_pos _ (by omega)
      obtain ⟨d, hd⟩ : ∃ d, (chI l 4).tmod (20 - r.gauge.hi + 1) = d := ⟨_, rfl⟩
      rw [hd] at p4 q4
      obtain ⟨w, hw⟩ : ∃ w : RunT, w = ⟨r.id, r.curve, S, r.rows, ⟨r.gauge.lo, r.gauge.hi + d⟩⟩ := ⟨_, rfl⟩
      have hW : Wider r w := by rw [hw]; exact ⟨rfl, rfl, hS, rfl, rfl, by simp only; omega, by simp only; omega⟩
      have hwr : w.rows = r.rows := hW.rows
      have h1w := wider_ok hW h1
      have hFw := run_facts h1w
      have hSl := widerL_len hS
      have hsw : RunSm w := ⟨by rw [hW.curve]; exact hsm.curve, by rw [widerL_len hW.cpls]; exact hsm.cpls, by rw [hwr]; exact hsm.rows, by rw [hwr]; exact hsm.degs⟩
      have hcw : checkE w u = 0 := by unfold checkE; rw [if_pos h1w, if_pos h2]
      have hdeg := fun m => deg_bnd (l := r.curve) hF.curve (m := m)
      have hcov : CovL (leftS r u) (leftS w u) := by
        have := wider_left (u := u) hW hF hdeg r.rows.length (Nat.le_refl _)
        unfold leftS; rw [hwr]; exact this
      have hL := Left_ok r u hsm.b hu
      have hL' := Left_ok w u hsw.b hu
      have hC := Counts_ok r u hsm.b hu
      have hC' := Counts_ok w u hsw.b hu
      rw [leftT, if_pos hr2.2] at hL
      rw [leftT, if_pos hcw] at hL'
      rw [countT, if_pos hr2.2] at hC
      rw [countT, if_pos hcw, hwr] at hC'
      have hpa : (leftS r u).Pairwise brLt := leftB_pair hF
      have hpb : (leftS w u).Pairwise brLt := leftB_pair hFw
      have hla : (leftS r u).length ≤ 1000 := by
        have := leftB_len (u := u) hF r.rows.length
        have : (leftS r u).length ≤ 11 * r.rows.length := this
        omega
      have hlb : (leftS w u).length ≤ 1000 := by
        have := leftB_len (u := u) hFw w.rows.length
        have : (leftS w u).length ≤ 11 * w.rows.length := this
        rw [hwr] at this; omega
      have hco := cov_count hcov hpb (n := r.rows.length) fun b hb => by have := left_m hb; rw [hwr] at this; omega
      have hka : ∀ a ∈ leftS r u, knownOf (leftS w u) a ≠ 0 := fun a ha => by
        obtain ⟨b, hb, hs⟩ := hcov.1 a ha
        rw [knownOf_mem hpb hb hs]
        have := oneB_known hb; omega
      have hkb : ∀ b ∈ leftS w u, b.known = 2 → knownOf (leftS r u) b = 2 := fun b hb hk => by
        obtain ⟨a, ha, hs, hk2⟩ := hcov.2 b hb hk
        rw [knownOf_mem hpa ha hs, hk2]
      obtain ⟨A, hA⟩ : ∃ A, leftS r u = A := ⟨_, rfl⟩
      obtain ⟨B, hB⟩ : ∃ B, leftS w u = B := ⟨_, rfl⟩
      rw [hA] at hL hC hpa hla hco hka hkb
      rw [hB] at hL' hC' hlb hpb hco hka hkb
      obtain ⟨n1, hn1⟩ : ∃ n, countL A r.rows.length = n := ⟨_, rfl⟩
      obtain ⟨n2, hn2⟩ : ∃ n, countL B r.rows.length = n := ⟨_, rfl⟩
      rw [hn1] at hC hco
      rw [hn2] at hC' hco
      have ham := among_ok A B hpb (by omega) (by omega)
      have hamt : amongB A B = true := by
        simp only [amongB, List.all_eq_true, decide_eq_true_eq]
        exact hka
      rw [hamt] at ham
      rw [hw] at hL' hC'
      simp only [encRun, cRun] at hL' hC'
      clear hcov hW hwr h1w hFw hsw hcw hA hB hn1 hn2 hw
      repeat' (first | ((fail_if_success (with_reducible refine AW_at (id := 23) ?_)); with_reducible refine sk ?_; intro K hK) | ((first | (with_reducible first | refine rg (md := { base := 0, own := [8, 21, 23, 195] }) (h := ?_) | refine rgS [8, 21, 23] (md := { base := 0, own := [8, 21, 23, 195] }) (h := ?_) | refine nx ?_) | refine pK (choose_ok l 4 (by omega)) ?_ | refine pK (hL) ?_ | refine pK (hL') ?_ | refine pK (hC) ?_ | refine pK (hC') ?_ | refine pK (ham) ?_); try simp (disch := omega) only [h2', h3, h4, h7, h8, hH, z4, hd, hco, cRun, cRules,go_sem, simprocAttr]) | (with_reducible refine bk ?_) | ((with_reducible refine' cE ?hv ?_ ?_); (case hv => first | rfl | (simp only [h2', h3, h4, h7, h8, hH, z4, hd, hco, cRun, cRules,go_sem, simprocAttr]; rfl)); all_goals (intro hc; (try simp only [go_sem, simprocAttr] at hc); try (exfalso; omega))) | ((with_reducible first | refine grdS_split ?_ ?_ | refine lkG_split ?_ ?_) <;> intro hg <;> (try simp (disch := omega) only [hg, h2', h3, h4, h7, h8, hH, z4, hd, hco, cRun, cRules,go_sem, simprocAttr]) <;> (try simp only [go_sem, simprocAttr] at hg) <;> (try (exfalso; omega))) | ((with_reducible refine fe ?_); refine ⟨_, (by simp only [Try.f10, h2', h3, h4, h7, h8, hH, z4, hd, hco, cRun, cRules,go_sem, simprocAttr]; rfl), ?_⟩; first | rfl | (try simp only [h2', h3, h4, h7, h8, hH, z4, hd, hco, cRun, cRules,go_sem, simprocAttr, seval])) | with_reducible intro (ep : Nat → Nat) | with_reducible apply_assumption -exfalso -symm only [*])
      refine AW_gen (I := fun f H => f 7 = .bool true ∧ f 11 = .lst 4 (A.map cBrc) ∧ f 13 = .lst 4 (B.map cBrc)) ⟨by (first | rfl | (simp only [h7, go_sem, simprocAttr]; done) | (simp only [h7, go_sem, simprocAttr]; rfl)), by (first | rfl | (simp only [go_sem, simprocAttr]; done) | (simp only [go_sem, simprocAttr]; rfl)), by (first | rfl | (simp only [go_sem, simprocAttr]; done) | (simp only [go_sem, simprocAttr]; rfl))⟩ ?_
      clear h2' h3 h4 h7 h8 hH
      rintro f H ⟨h7, h11, h13⟩
      refine AW_keep [] ?_
      repeat' (first | (with_reducible refine sk ?_; intro K hK) | ((with_reducible first | refine rg (md := { base := 0, own := [8, 21, 23, 195] }) (h := ?_) | refine rgS [8, 21, 23] (md := { base := 0, own := [8, 21, 23, 195] }) (h := ?_) | refine nx ?_); try simp (disch := omega) only [h7, h11, h13,go_sem, simprocAttr]) | (with_reducible refine bk ?_) | ((with_reducible refine' cE ?hv ?_ ?_); (case hv => first | rfl | (simp only [h7, h11, h13,go_sem, simprocAttr]; rfl)); all_goals (intro hc; (try simp only [go_sem, simprocAttr] at hc); try (exfalso; omega))) | ((with_reducible first | refine grdS_split ?_ ?_ | refine lkG_split ?_ ?_) <;> intro hg <;> (try simp (disch := omega) only [hg, h7, h11, h13,go_sem, simprocAttr]) <;> (try simp only [go_sem, simprocAttr] at hg) <;> (try (exfalso; omega))) | ((with_reducible refine fe ?_); refine ⟨_, (by simp only [Try.f10, h7, h11, h13,go_sem, simprocAttr]; rfl), ?_⟩; first | rfl | (try simp only [h7, h11, h13,go_sem, simprocAttr, seval])) | with_reducible intro (ep : Nat → Nat) | with_reducible apply_assumption -exfalso -symm only [*])
      refine AW_range tabOK A.length (fun k f H => (f 7 = .bool true ∧ f 13 = .lst 4 (B.map cBrc) ∧ f 196 = .lst 4 (A.map cBrc)) ∧ ∃ e v, f 19 = .map 195 e ∧ H 195 = some (e, .map v (kmap vKn (A.take k)))) (by omega) (by rw [hXs]; decide) (by decide) (by (first | rfl | (simp only [go_sem, simprocAttr]; done) | (simp only [go_sem, simprocAttr]; rfl))) (by (first | rfl | (simp only [go_sem, simprocAttr]; done) | (simp only [go_sem, simprocAttr]; rfl))) ⟨by (and_intros <;> first | rfl | (simp only [h7, h13, go_sem, simprocAttr]; done) | (simp only [h7, h13, go_sem, simprocAttr]; rfl)), _, _, by (first | rfl | (simp only [go_sem, simprocAttr]; done) | (simp only [go_sem, simprocAttr]; rfl)), by (first | rfl | (simp only [kmap, go_sem, simprocAttr]; done) | (simp only [kmap, go_sem, simprocAttr]; rfl))⟩ ?_ ?_
      · clear h7 h11 h13
        rintro k f H hk h198 h197 ⟨⟨h7, h13, h196⟩, e, v, h19, hH⟩
        obtain ⟨b, hb⟩ : ∃ b, A[k]? = some b := ⟨_, List.getElem?_eq_getElem hk⟩
        have hfi := xfind_kmap (b := b) (v := vKn) (A.take k) 0
        rw [findB_none (not_same hpa hb), limK] at hfi
        refine AW_keep [195] ?_
        repeat' (first | (with_reducible refine sk ?_; intro K hK) | ((with_reducible first | refine rg (md := { base := 0, own := [8, 21, 23, 195] }) (h := ?_) | refine rgS [8, 21, 23] (md := { base := 0, own := [8, 21, 23, 195] }) (h := ?_) | refine nx ?_); try simp (disch := omega) only [h7, h13, h196, h197, h198, h19, hH, hb, hfi, cBrc,go_sem, simprocAttr]) | (with_reducible refine bk ?_) | ((with_reducible refine' cE ?hv ?_ ?_); (case hv => first | rfl | (simp only [h7, h13, h196, h197, h198, h19, hH, hb, hfi, cBrc,go_sem, simprocAttr]; rfl)); all_goals (intro hc; (try simp only [go_sem, simprocAttr] at hc); try (exfalso; omega))) | ((with_reducible first | refine grdS_split ?_ ?_ | refine lkG_split ?_ ?_) <;> intro hg <;> (try simp (disch := omega) only [hg, h7, h13, h196, h197, h198, h19, hH, hb, hfi, cBrc,go_sem, simprocAttr]) <;> (try simp only [go_sem, simprocAttr] at hg) <;> (try (exfalso; omega))) | ((with_reducible refine fe ?_); refine ⟨_, (by simp only [Try.f10, h7, h13, h196, h197, h198, h19, hH, hb, hfi, cBrc,go_sem, simprocAttr]; rfl), ?_⟩; first | rfl | (try simp only [h7, h13, h196, h197, h198, h19, hH, hb, hfi, cBrc,go_sem, simprocAttr, seval])) | with_reducible intro (ep : Nat → Nat) | with_reducible apply_assumption -exfalso -symm only [*])
        exact ⟨_, _, rfl, by rw [take_snoc' hb, ← kmap_snoc]; rfl⟩
      · clear h7 h11 h13
        rintro f H h198 h197 ⟨⟨h7, h13, h196⟩, e, v, h19, hH⟩
        rw [List.take_of_length_le (Nat.le_refl _)] at hH
        repeat' (first | (with_reducible refine sk ?_; intro K hK) | ((with_reducible first | refine rg (md := { base := 0, own := [8, 21, 23, 195] }) (h := ?_) | refine rgS [8, 21, 23] (md := { base := 0, own := [8, 21, 23, 195] }) (h := ?_) | refine nx ?_); try simp (disch := omega) only [h7, h13, h19, hH,go_sem, simprocAttr]) | (with_reducible refine bk ?_) | ((with_reducible refine' cE ?hv ?_ ?_); (case hv => first | rfl | (simp only [h7, h13, h19, hH,go_sem, simprocAttr]; rfl)); all_goals (intro hc; (try simp only [go_sem, simprocAttr] at hc); try (exfalso; omega))) | ((with_reducible first | refine grdS_split ?_ ?_ | refine lkG_split ?_ ?_) <;> intro hg <;> (try simp (disch := omega) only [hg, h7, h13, h19, hH,go_sem, simprocAttr]) <;> (try simp only [go_sem, simprocAttr] at hg) <;> (try (exfalso; omega))) | ((with_reducible refine fe ?_); refine ⟨_, (by simp only [Try.f10, h7, h13, h19, hH,go_sem, simprocAttr]; rfl), ?_⟩; first | rfl | (try simp only [h7, h13, h19, hH,go_sem, simprocAttr, seval])) | with_reducible intro (ep : Nat → Nat) | with_reducible apply_assumption -exfalso -symm only [*])
        refine AW_range tabOK B.length (fun k f H => (f 7 = .bool true ∧ f 213 = .lst 4 (B.map cBrc)) ∧ ∃ e v, f 19 = .map 195 e ∧ H 195 = some (e, .map v (kmap vKn A))) (by omega) (by rw [hXs]; decide) (by decide) (by (first | rfl | (simp only [go_sem, simprocAttr]; done) | (simp only [go_sem, simprocAttr]; rfl))) (by (first | rfl | (simp only [go_sem, simprocAttr]; done) | (simp only [go_sem, simprocAttr]; rfl))) ⟨by (and_intros <;> first | rfl | (simp only [h7, h13, go_sem, simprocAttr]; done) | (simp only [h7, h13, go_sem, simprocAttr]; rfl)), _, _, by (first | rfl | (simp only [h19, go_sem, simprocAttr]; done) | (simp only [h19, go_sem, simprocAttr]; rfl)), by (first | rfl | (simp only [hH, go_sem, simprocAttr]; done) | (simp only [hH, go_sem, simprocAttr]; rfl))⟩ ?_ ?_
        · clear h7 h13 h19 hH h196 h197 h198
          rintro k f H hk h215 h214 ⟨⟨h7, h213⟩, e, v, h19, hH⟩
          obtain ⟨b, hb⟩ : ∃ b, B[k]? = some b := ⟨_, List.getElem?_eq_getElem hk⟩
          have hkb1 := hkb b (List.mem_of_getElem? hb)
          have hfi := xfind_kmap (b := b) (v := vKn) A 0
          have hlk := findB_known (b := b) (l := A) (i := 0)
          rw [limK] at hfi
          refine AW_keep [195] ?_
          by_cases hk2 : b.known = 2
          · have hkk := hkb1 hk2
            repeat' (first | (with_reducible refine sk ?_; intro K hK) | ((with_reducible first | refine rg (md := { base := 0, own := [8, 21, 23, 195] }) (h := ?_) | refine rgS [8, 21, 23] (md := { base := 0, own := [8, 21, 23, 195] }) (h := ?_) | refine nx ?_); try simp (disch := omega) only [h7, h19, h213, h214, h215, hH, hb, hfi, hlk, hk2, hkk, cBrc,go_sem, simprocAttr]) | (with_reducible refine bk ?_) | ((with_reducible refine' cE ?hv ?_ ?_); (case hv => first | rfl | (simp only [h7, h19, h213, h214, h215, hH, hb, hfi, hlk, hk2, hkk, cBrc,go_sem, simprocAttr]; rfl)); all_goals (intro hc; (try simp only [go_sem, simprocAttr] at hc); try (exfalso; omega))) | ((with_reducible first | refine grdS_split ?_ ?_ | refine lkG_split ?_ ?_) <;> intro hg <;> (try simp (disch := omega) only [hg, h7, h19, h213, h214, h215, hH, hb, hfi, hlk, hk2, hkk, cBrc,go_sem, simprocAttr]) <;> (try simp only [go_sem, simprocAttr] at hg) <;> (try (exfalso; omega))) | ((with_reducible refine fe ?_); refine ⟨_, (by simp only [Try.f10, h7, h19, h213, h214, h215, hH, hb, hfi, hlk, hk2, hkk, cBrc,go_sem, simprocAttr]; rfl), ?_⟩; first | rfl | (try simp only [h7, h19, h213, h214, h215, hH, hb, hfi, hlk, hk2, hkk, cBrc,go_sem, simprocAttr, seval])) | with_reducible intro (ep : Nat → Nat) | with_reducible apply_assumption -exfalso -symm only [*])
            exact ⟨_, _, rfl, rfl⟩
          · repeat' (first | (with_reducible refine sk ?_; intro K hK) | ((with_reducible first | refine rg (md := { base := 0, own := [8, 21, 23, 195] }) (h := ?_) | refine rgS [8, 21, 23] (md := { base := 0, own := [8, 21, 23, 195] }) (h := ?_) | refine nx ?_); try simp (disch := omega) only [h7, h19, h213, h214, h215, hH, hb, hfi, hlk, hk2, cBrc,go_sem, simprocAttr]) | (with_reducible refine bk ?_) | ((with_reducible refine' cE ?hv ?_ ?_); (case hv => first | rfl | (simp only [h7, h19, h213, h214, h215, hH, hb, hfi, hlk, hk2, cBrc,go_sem, simprocAttr]; rfl)); all_goals (intro hc; (try simp only [go_sem, simprocAttr] at hc); try (exfalso; omega))) | ((with_reducible first | refine grdS_split ?_ ?_ | refine lkG_split ?_ ?_) <;> intro hg <;> (try simp (disch := omega) only [hg, h7, h19, h213, h214, h215, hH, hb, hfi, hlk, hk2, cBrc,go_sem, simprocAttr]) <;> (try simp only [go_sem, simprocAttr] at hg) <;> (try (exfalso; omega))) | ((with_reducible refine fe ?_); refine ⟨_, (by simp only [Try.f10, h7, h19, h213, h214, h215, hH, hb, hfi, hlk, hk2, cBrc,go_sem, simprocAttr]; rfl), ?_⟩; first | rfl | (try simp only [h7, h19, h213, h214, h215, hH, hb, hfi, hlk, hk2, cBrc,go_sem, simprocAttr, seval])) | with_reducible intro (ep : Nat → Nat) | with_reducible apply_assumption -exfalso -symm only [*])
            exact ⟨_, _, rfl, rfl⟩
        · clear h7 h13 h19 hH h196 h197 h198
          rintro f H h215 h214 ⟨⟨h7, h213⟩, e, v, h19, hH⟩
          repeat' (first | (with_reducible refine sk ?_; intro K hK) | ((with_reducible first | refine rg (md := { base := 0, own := [8, 21, 23, 195] }) (h := ?_) | refine rgS [8, 21, 23] (md := { base := 0, own := [8, 21, 23, 195] }) (h := ?_) | refine nx ?_); try simp (disch := omega) only [h7,go_sem, simprocAttr]) | (with_reducible refine bk ?_) | ((with_reducible refine' cE ?hv ?_ ?_); (case hv => first | rfl | (simp only [h7,go_sem, simprocAttr]; rfl)); all_goals (intro hc; (try simp only [go_sem, simprocAttr] at hc); try (exfalso; omega))) | ((with_reducible first | refine grdS_split ?_ ?_ | refine lkG_split ?_ ?_) <;> intro hg <;> (try simp (disch := omega) only [hg, h7,go_sem, simprocAttr]) <;> (try simp only [go_sem, simprocAttr] at hg) <;> (try (exfalso; omega))) | ((with_reducible refine fe ?_); refine ⟨_, (by simp only [Try.f10, h7,go_sem, simprocAttr]; rfl), ?_⟩; first | rfl | (try simp only [h7,go_sem, simprocAttr, seval])) | with_reducible intro (ep : Nat → Nat) | with_reducible apply_assumption -exfalso -symm only [*])
    clear hK
    repeat' (first | (with_reducible refine sk ?_; intro K hK) | ((with_reducible first | refine rg (md := { base := 0, own := [8, 21, 23, 195] }) (h := ?_) | refine rgS [8, 21, 23] (md := { base := 0, own := [8, 21, 23, 195] }) (h := ?_) | refine nx ?_); try simp (disch := omega) only [g8, hH12,go_sem, simprocAttr]) | (with_reducible refine bk ?_) | ((with_reducible refine' cE ?hv ?_ ?_); (case hv => first | rfl | (simp only [g8, hH12,go_sem, simprocAttr]; rfl)); all_goals (intro hc; (try simp only [go_sem, simprocAttr] at hc); try (exfalso; omega))) | ((with_reducible first | refine grdS_split ?_ ?_ | refine lkG_split ?_ ?_) <;> intro hg <;> (try simp (disch := omega) only [hg, g8, hH12,go_sem, simprocAttr]) <;> (try simp only [go_sem, simprocAttr] at hg) <;> (try (exfalso; omega))) | ((with_reducible refine fe ?_); refine ⟨_, (by simp only [Try.f10, g8, hH12,go_sem, simprocAttr]; rfl), ?_⟩; first | rfl | (try simp only [g8, hH12,go_sem, simprocAttr, seval])) | with_reducible intro (ep : Nat → Nat) | with_reducible apply_assumption -exfalso -symm only [*])
    refine AW_range tabOK r.cpls.length (fun k f H => LooP r u l f ∧ ∃ e, f 8 = .ptr 8 e 6 0 0 ∧ H 8 = some (e, .arr 6 [[.int .i64 r.id, .lst 2 (r.curve.map cPt), .gr 612 e12 r.cpls.length, .lst 2 (r.rows.map cRow), .int .i64 r.gauge.lo, .int .i64 r.gauge.hi]]) ∧ ∃ S : List Cpl, H 612 = some (e12, .arr 6 (S.map cCpl)) ∧ S.length = r.cpls.length ∧ (∀ (i : Nat) (s s' : Cpl), i < k → r.cpls[i]? = some s → S[i]? = some s' → WiderC s s') ∧ ∀ i, k ≤ i → S[i]? = r.cpls[i]?) (by omega) (by rw [hXs]; decide) (by decide) (by (first | rfl | (simp only [hH12, go_sem, simprocAttr]; done) | (simp only [hH12, go_sem, simprocAttr]; rfl))) (by (first | rfl | (simp only [hH12, go_sem, simprocAttr]; done) | (simp only [hH12, go_sem, simprocAttr]; rfl)))
      ⟨⟨by (first | rfl | (simp only [go_sem, simprocAttr]; done) | (simp only [go_sem, simprocAttr]; rfl)), by (first | rfl | (simp only [cRun, go_sem, simprocAttr]; done) | (simp only [cRun, go_sem, simprocAttr]; rfl)), by (first | rfl | (simp only [cRules, go_sem, simprocAttr]; done) | (simp only [cRules, go_sem, simprocAttr]; rfl)), by (first | rfl | (simp only [go_sem, simprocAttr]; done) | (simp only [go_sem, simprocAttr]; rfl))⟩, _, by (first | rfl | (simp only [go_sem, simprocAttr]; done) | (simp only [go_sem, simprocAttr]; rfl)), by (first | rfl | (simp only [go_sem, simprocAttr]; done) | (simp only [go_sem, simprocAttr]; rfl)), r.cpls, by (first | rfl | (simp only [hH12, go_sem, simprocAttr]; done) | (simp only [hH12, go_sem, simprocAttr]; rfl)), rfl, fun i s s' h => by omega, fun i _ => rfl⟩ ?_ ?_
    · clear hcut7 hH12 g8 hs3
      rintro k f H hk h37 h36 ⟨⟨h2', h3, h4, h7⟩, e, h8, hH, S, hH12, hSl, hS1, hS2⟩
      obtain ⟨c, hc⟩ : ∃ c, r.cpls[k]? = some c := ⟨_, List.getElem?_eq_getElem hk⟩
      have hSk : S[k]? = some c := by rw [hS2 k (Nat.le_refl _)]; exact hc
      have hcf := hF.cpl k c hc
      have hget : ∀ x, ((S.map cCpl).set k x)[k]? = some x := fun x => List.getElem?_set_self (by simp; omega)
      have hss : ∀ x y, ((S.map cCpl).set k x).set k y = (S.map cCpl).set k y := fun x y => List.set_set ..
      have c1 := chI_bnd hl (k : Int)
      have c2 := chI_bnd hl ((k + 1 : Nat) : Int)
      have c3 := chI_bnd hl ((k : Int) + 2)
      have c4 := chI_bnd hl ((k : Int) + 3)
      have z1 : ¬ c.err.lo + 50 + 1 = 0 := by omega
      have z2 : ¬ 50 - c.err.hi + 1 = 0 := by omega
      have z3 : ¬ c.lag.lo + 1 = 0 := by omega
      have z4 : ¬ 3 - c.lag.hi + 1 = 0 := by omega
      have p1 : 0 ≤ (chI l (k : Int)).tmod (c.err.lo + 50 + 1) := Int.tmod_nonneg _ c1.1
      have q1 : (chI l (k : Int)).tmod (c.err.lo + 50 + 1) < c.err.lo + 50 + 1 := Int.tmod_lt_of_pos _ (by omega)
      have p2 : 0 ≤ (chI l ((k + 1 : Nat) : Int)).tmod (50 - c.err.hi + 1) := Int.tmod_nonneg _ c2.1
      have q2 : (chI l ((k + 1 : Nat) : Int)).tmod (50 - c.err.hi + 1) < 50 - c.err.hi + 1 := Int.tmod_lt_of_pos _ (by omega)
      have p3 : 0 ≤ (chI l ((k : Int) + 2)).tmod (c.lag.lo + 1) := Int.tmod_nonneg _ c3.1
      have q3 : (chI l ((k : Int) + 2)).tmod (c.lag.lo + 1) < c.lag.lo + 1 := Int.tmod_lt_of_pos _ (by omega)
      have p4 : 0 ≤ (chI l ((k : Int) + 3)).tmod (3 - c.lag.hi + 1) := Int.tmod_nonneg _ c4.1
      have q4 : (chI l ((k : Int) + 3)).tmod (3 - c.lag.hi + 1) < 3 - c.lag.hi + 1 := Int.tmod_lt_of_pos _ (by omega)
      obtain ⟨d1, hd1⟩ : ∃ d, (chI l (k : Int)).tmod (c.err.lo + 50 + 1) = d := ⟨_, rfl⟩
      obtain ⟨d2, hd2⟩ : ∃ d, (chI l ((k + 1 : Nat) : Int)).tmod (50 - c.err.hi + 1) = d := ⟨_, rfl⟩
      obtain ⟨d3, hd3⟩ : ∃ d, (chI l ((k : Int) + 2)).tmod (c.lag.lo + 1) = d := ⟨_, rfl⟩
      obtain ⟨d4, hd4⟩ : ∃ d, (chI l ((k : Int) + 3)).tmod (3 - c.lag.hi + 1) = d := ⟨_, rfl⟩
      rw [hd1] at p1 q1; rw [hd2] at p2 q2; rw [hd3] at p3 q3; rw [hd4] at p4 q4
      refine AW_keep [8, 612] ?_
      repeat' (first | (with_reducible refine sk ?_; intro K hK) | ((first | (with_reducible first | refine rg (md := { base := 0, own := [8, 21, 23, 195] }) (h := ?_) | refine rgS [8, 21, 23] (md := { base := 0, own := [8, 21, 23, 195] }) (h := ?_) | refine nx ?_) | refine pK (choose_ok l k (by omega)) ?_ | refine pK (choose_ok l ((k + 1 : Nat) : Int) (by omega)) ?_ | refine pK (choose_ok l ((k : Int) + 2) (by omega)) ?_ | refine pK (choose_ok l ((k : Int) + 3) (by omega)) ?_); try simp (disch := omega) only [h2', h3, h4, h7, h8, h36, h37, hH, hH12, hSk, hSl, hk, hget, hss, z1, z2, z3, z4, hd1, hd2, hd3, hd4, cCpl,go_sem, simprocAttr]) | (with_reducible refine bk ?_) | ((with_reducible refine' cE ?hv ?_ ?_); (case hv => first | rfl | (simp only [h2', h3, h4, h7, h8, h36, h37, hH, hH12, hSk, hSl, hk, hget, hss, z1, z2, z3, z4, hd1, hd2, hd3, hd4, cCpl,go_sem, simprocAttr]; rfl)); all_goals (intro hc; (try simp only [go_sem, simprocAttr] at hc); try (exfalso; omega))) | ((with_reducible first | refine grdS_split ?_ ?_ | refine lkG_split ?_ ?_) <;> intro hg <;> (try simp (disch := omega) only [hg, h2', h3, h4, h7, h8, h36, h37, hH, hH12, hSk, hSl, hk, hget, hss, z1, z2, z3, z4, hd1, hd2, hd3, hd4, cCpl,go_sem, simprocAttr]) <;> (try simp only [go_sem, simprocAttr] at hg) <;> (try (exfalso; omega))) | ((with_reducible refine fe ?_); refine ⟨_, (by simp only [Try.f10, h2', h3, h4, h7, h8, h36, h37, hH, hH12, hSk, hSl, hk, hget, hss, z1, z2, z3, z4, hd1, hd2, hd3, hd4, cCpl,go_sem, simprocAttr]; rfl), ?_⟩; first | rfl | (try simp only [h2', h3, h4, h7, h8, h36, h37, hH, hH12, hSk, hSl, hk, hget, hss, z1, z2, z3, z4, hd1, hd2, hd3, hd4, cCpl,go_sem, simprocAttr, seval])) | with_reducible intro (ep : Nat → Nat) | with_reducible apply_assumption -exfalso -symm only [*])
      refine ⟨⟨by (first | rfl | (simp only [h2', go_sem, simprocAttr]; done) | (simp only [h2', go_sem, simprocAttr]; rfl)), by (first | rfl | (simp only [h3, go_sem, simprocAttr]; done) | (simp only [h3, go_sem, simprocAttr]; rfl)), by (first | rfl | (simp only [h4, go_sem, simprocAttr]; done) | (simp only [h4, go_sem, simprocAttr]; rfl)), by (first | rfl | (simp only [h7, go_sem, simprocAttr]; done) | (simp only [h7, go_sem, simprocAttr]; rfl))⟩, _, rfl, rfl, S.set k ⟨c.id, ⟨c.err.lo - d1, c.err.hi + d2⟩, ⟨c.lag.lo - d3, c.lag.hi + d4⟩, c.brk⟩, by rw [List.map_set]; rfl, by simp [hSl], fun i s1 s' hi h1 h2 => ?_, fun i hi => ?_⟩
      · by_cases hik : i = k
        · subst hik
          rw [List.getElem?_set_self (by omega)] at h2
          rw [hc] at h1; cases h1; cases h2
          exact ⟨rfl, rfl, by simp only; omega, by simp only; omega⟩
        · rw [List.getElem?_set_ne (by omega)] at h2
          exact hS1 i s1 s' (by omega) h1 h2
      · rw [List.getElem?_set_ne (by omega)]; exact hS2 i (by omega)
    · rintro f H h37 h36 ⟨⟨h2', h3, h4, h7⟩, e, h8, hH, S, hH12, hSl, hS1, hS2⟩
      repeat' (first | (with_reducible refine sk ?_; intro K hK) | ((with_reducible first | refine rg (md := { base := 0, own := [8, 21, 23, 195] }) (h := ?_) | refine rgS [8, 21, 23] (md := { base := 0, own := [8, 21, 23, 195] }) (h := ?_) | refine nx ?_); try simp (disch := omega) only [h2', h3, h4, h7, h8,go_sem, simprocAttr]) | (with_reducible refine bk ?_) | ((with_reducible refine' cE ?hv ?_ ?_); (case hv => first | rfl | (simp only [h2', h3, h4, h7, h8,go_sem, simprocAttr]; rfl)); all_goals (intro hc; (try simp only [go_sem, simprocAttr] at hc); try (exfalso; omega))) | ((with_reducible first | refine grdS_split ?_ ?_ | refine lkG_split ?_ ?_) <;> intro hg <;> (try simp (disch := omega) only [hg, h2', h3, h4, h7, h8,go_sem, simprocAttr]) <;> (try simp only [go_sem, simprocAttr] at hg) <;> (try (exfalso; omega))) | ((with_reducible refine fe ?_); refine ⟨_, (by simp only [Try.f10, h2', h3, h4, h7, h8,go_sem, simprocAttr]; rfl), ?_⟩; first | rfl | (try simp only [h2', h3, h4, h7, h8,go_sem, simprocAttr, seval])) | with_reducible intro (ep : Nat → Nat) | with_reducible apply_assumption -exfalso -symm only [*])
      exact ⟨S, e, e12, ⟨by (first | rfl | (simp only [h2', go_sem, simprocAttr]; done) | (simp only [h2', go_sem, simprocAttr]; rfl)), by (first | rfl | (simp only [h3, go_sem, simprocAttr]; done) | (simp only [h3, go_sem, simprocAttr]; rfl)), by (first | rfl | (simp only [h4, go_sem, simprocAttr]; done) | (simp only [h4, go_sem, simprocAttr]; rfl)), by (first | rfl | (simp only [h7, go_sem, simprocAttr]; done) | (simp only [h7, go_sem, simprocAttr]; rfl))⟩, by (first | rfl | (simp only [h8, go_sem, simprocAttr]; done) | (simp only [h8, go_sem, simprocAttr]; rfl)), by rw [hSl]; exact hH, hH12, widerL_of hSl fun i s s' h1 h2 => hS1 i s s' (by have := (List.getElem?_eq_some_iff.1 h1).1; omega) h1 h2⟩
  · simp only [Bool.not_eq_true] at hr
    refine PureC_of (fn := Try.f10) tabOK (by kernel_rfl) rfl (by kernel_rfl) (by simp [Try.f10]) (by simp [noids, noid, noidss, go_sem, encRun, cRun, encRules, cRules]) (by first | rfl | simp [noids, noid, noidss, go_sem, encRun, cRun, encRules, cRules]) ?_
    intro X hX0 hXs
    repeat' (first | (with_reducible refine sk ?_; intro K hK) | ((first | (with_reducible first | refine rg (h := ?_) | refine rgS [8, 21, 23] (h := ?_) | refine nx ?_) | refine pK (alive_run) ?_ | refine pK (ready_ok r u) ?_); try simp (disch := omega) only [encRun, cRun, encRules, cRules, hr,go_sem, simprocAttr]) | (with_reducible refine bk ?_) | ((with_reducible refine' cE ?hv ?_ ?_); (case hv => first | rfl | (simp only [encRun, cRun, encRules, cRules, hr,go_sem, simprocAttr]; rfl)); all_goals (intro hc; (try simp only [go_sem, simprocAttr] at hc); try (exfalso; omega))) | ((with_reducible first | refine grdS_split ?_ ?_ | refine lkG_split ?_ ?_) <;> intro hg <;> (try simp (disch := omega) only [hg, encRun, cRun, encRules, cRules, hr,go_sem, simprocAttr]) <;> (try simp only [go_sem, simprocAttr] at hg) <;> (try (exfalso; omega))) | ((with_reducible refine fe ?_); refine ⟨_, (by simp only [Try.f10, encRun, cRun, encRules, cRules, hr,go_sem, simprocAttr]; rfl), ?_⟩; first | rfl | (try simp only [encRun, cRun, encRules, cRules, hr,go_sem, simprocAttr, seval])) | with_reducible intro (ep : Nat → Nat) | with_reducible apply_assumption -exfalso -symm only [*])
end Cp
namespace Cp
open Go
theorem fit_map2 {α : Type} {c : α → List Val} {p : α → Prop} : ∀ {xss : List (List Val)}, (∀ es ∈ xss, ∃ x, es = c x ∧ p x) → ∃ l : List α, xss = l.map c ∧ ∀ x ∈ l, p x
  | [], _ => ⟨[], rfl, fun x h => by simp at h⟩
  | es :: xss, h => by
    obtain ⟨x, rfl, hp⟩ := h es (by simp)
    obtain ⟨l, rfl, hl⟩ := fit_map2 fun es he => h es (List.mem_cons_of_mem _ he)
    exact ⟨x :: l, rfl, fun y hy => by rcases List.mem_cons.1 hy with rfl | hy; exact hp; exact hl y hy⟩
theorem arg_by {a : Val} (h : FitV tab 8 63 a) : ∃ l : List Int, a = .lst 1 (l.map c32) ∧ By l := by
  obtain ⟨ti, cs, e, h, _, rfl⟩ := h
  have hk : ∀ n, Fit tab (n + 1) 63 cs → ∃ sz xss, cs = [.lst sz xss] ∧ (tab 67).map (·.sz) = some sz ∧ xss.length ≤ maxLen ∧ ∀ es ∈ xss, es.length = sz ∧ Fit tab n 67 es := fun n h => by
    simp only [Fit, tab_63] at h; exact h
  obtain ⟨sz, xss, rfl, hs, _, hx⟩ := hk 7 h
  rw [tab_67] at hs; cases hs
  obtain ⟨l, rfl, hl⟩ := fit_map2 (c := c32) (p := fun m => 0 ≤ m ∧ m ≤ 4294967295) fun es hes => by
    obtain ⟨m, rfl, hw⟩ := fit_int tab_67 (hx es hes).2
    simp [Lit.wf, IntKind.min, IntKind.max, IntKind.signed, IntKind.bits] at hw
    exact ⟨m, rfl, by omega, by omega⟩
  rw [tab_63] at e; cases e; exact ⟨l, rfl, hl⟩
end Cp
