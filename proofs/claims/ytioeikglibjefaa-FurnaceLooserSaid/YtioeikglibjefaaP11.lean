/- Rules, facts and contracts that the statement's proof leans on. Conditions: none. -/
import Derived.Test.YtioeikglibjefaaP10
set_option linter.unusedVariables false
set_option linter.unusedSimpArgs false
set_option linter.unusedSectionVars false
namespace Cp
open Go Go.Proofs
set_option maxRecDepth 10000
set_option maxHeartbeats 4000000
theorem not_same {l : List Brc} (hs : l.Pairwise brLt) {k : Nat} {b : Brc} (hb : l[k]? = some b) : ∀ x ∈ l.take k, ¬ sameL b x := fun x hx h => by
  obtain ⟨j, hj⟩ := List.getElem?_of_mem hx
  obtain ⟨hjl, hje⟩ := List.getElem?_eq_some_iff.1 hj
  simp only [List.length_take] at hjl
  have hx2 : l[j]? = some x := by rw [← hj, List.getElem?_take, if_pos (by omega)]
  obtain ⟨p1, rfl⟩ := List.getElem?_eq_some_iff.1 hx2
  obtain ⟨p2, rfl⟩ := List.getElem?_eq_some_iff.1 hb
  have := (List.pairwise_iff_getElem.1 hs) j k p1 p2 (by omega)
  unfold brLt at this; unfold sameL at h; omega
def amongB (few all : List Brc) : Bool := few.all fun b => decide (knownOf all b ≠ 0)
theorem among_ok (few all : List Brc) (hs : all.Pairwise brLt) (hf : few.length ≤ 100000) (ha : all.length ≤ 100000) : PureC Try.prog 42 [.lst 4 (few.map cBrc), .lst 4 (all.map cBrc)] (.bool (amongB few all)) := by
  refine PureC_of (fn := Try.f42) tabOK (by kernel_rfl) rfl (by kernel_rfl) (by simp [Try.f42]) (by simp [noids, noid, noidss, go_sem]) (by first | rfl | simp [noids, noid, noidss, go_sem]) ?_
  intro X hX0 hXs
  repeat' (first | (with_reducible refine sk ?_; intro K hK) | ((with_reducible first | refine rg (md := { base := 0, own := [7, 9, 10] }) (h := ?_) | refine rgS [7, 9] (md := { base := 0, own := [7, 9, 10] }) (h := ?_) | refine nx ?_); try simp (disch := omega) only [go_sem, simprocAttr]) | (with_reducible refine bk ?_) | ((with_reducible refine' cE ?hv ?_ ?_); (case hv => first | rfl | (simp only [go_sem, simprocAttr]; rfl)); all_goals (intro hc; (try simp only [go_sem, simprocAttr] at hc); try (exfalso; omega))) | ((with_reducible refine fe ?_); refine ⟨_, (by simp only [Try.f42, go_sem, simprocAttr]; rfl), ?_⟩; first | rfl | (try simp only [go_sem, simprocAttr, seval])) | with_reducible intro (ep : Nat → Nat) | with_reducible apply_assumption -exfalso -symm only [*])
  refine AW_range tabOK all.length (fun k f H => (f 0 = .lst 4 (few.map cBrc) ∧ f 11 = .lst 4 (all.map cBrc)) ∧ ∃ e v, f 5 = .map 10 e ∧ H 10 = some (e, .map v (kmap vKn (all.take k)))) (by omega) (by rw [hXs]; decide) (by decide) (by (first | rfl | (simp only [go_sem, simprocAttr]; done) | (simp only [go_sem, simprocAttr]; rfl))) (by (first | rfl | (simp only [go_sem, simprocAttr]; done) | (simp only [go_sem, simprocAttr]; rfl))) ⟨by (and_intros <;> first | rfl | (simp only [go_sem, simprocAttr]; done) | (simp only [go_sem, simprocAttr]; rfl)), _, _, by (first | rfl | (simp only [go_sem, simprocAttr]; done) | (simp only [go_sem, simprocAttr]; rfl)), by (first | rfl | (simp only [kmap, go_sem, simprocAttr]; done) | (simp only [kmap, go_sem, simprocAttr]; rfl))⟩ ?_ ?_
  · rintro k f H hk h13 h12 ⟨⟨h0, h11⟩, e, v, h5, hH⟩
    obtain ⟨b, hb⟩ : ∃ b, all[k]? = some b := ⟨_, List.getElem?_eq_getElem hk⟩
    have hfi := xfind_kmap (b := b) (v := vKn) (all.take k) 0
    rw [findB_none (not_same hs hb), limK] at hfi
    refine AW_keep [10] ?_
    repeat' (first | (with_reducible refine sk ?_; intro K hK) | ((with_reducible first | refine rg (md := { base := 0, own := [7, 9, 10] }) (h := ?_) | refine rgS [7, 9] (md := { base := 0, own := [7, 9, 10] }) (h := ?_) | refine nx ?_); try simp (disch := omega) only [h0, h5, h11, h12, h13, hH, hb, hfi, cBrc,go_sem, simprocAttr]) | (with_reducible refine bk ?_) | ((with_reducible refine' cE ?hv ?_ ?_); (case hv => first | rfl | (simp only [h0, h5, h11, h12, h13, hH, hb, hfi, cBrc,go_sem, simprocAttr]; rfl)); all_goals (intro hc; (try simp only [go_sem, simprocAttr] at hc); try (exfalso; omega))) | ((with_reducible refine fe ?_); refine ⟨_, (by simp only [Try.f42, h0, h5, h11, h12, h13, hH, hb, hfi, cBrc,go_sem, simprocAttr]; rfl), ?_⟩; first | rfl | (try simp only [h0, h5, h11, h12, h13, hH, hb, hfi, cBrc,go_sem, simprocAttr, seval])) | with_reducible intro (ep : Nat → Nat) | with_reducible apply_assumption -exfalso -symm only [*])
    exact ⟨_, _, rfl, by rw [take_snoc' hb, ← kmap_snoc]; rfl⟩
  · rintro f H h13 h12 ⟨⟨h0, h11⟩, e, v, h5, hH⟩
    rw [List.take_of_length_le (Nat.le_refl _)] at hH
    repeat' (first | (with_reducible refine sk ?_; intro K hK) | ((with_reducible first | refine rg (md := { base := 0, own := [7, 9, 10] }) (h := ?_) | refine rgS [7, 9] (md := { base := 0, own := [7, 9, 10] }) (h := ?_) | refine nx ?_); try simp (disch := omega) only [h0, h5, hH,go_sem, simprocAttr]) | (with_reducible refine bk ?_) | ((with_reducible refine' cE ?hv ?_ ?_); (case hv => first | rfl | (simp only [h0, h5, hH,go_sem, simprocAttr]; rfl)); all_goals (intro hc; (try simp only [go_sem, simprocAttr] at hc); try (exfalso; omega))) | ((with_reducible refine fe ?_); refine ⟨_, (by simp only [Try.f42, h0, h5, hH,go_sem, simprocAttr]; rfl), ?_⟩; first | rfl | (try simp only [h0, h5, hH,go_sem, simprocAttr, seval])) | with_reducible intro (ep : Nat → Nat) | with_reducible apply_assumption -exfalso -symm only [*])
    refine AW_range tabOK few.length (fun k f H => f 28 = .lst 4 (few.map cBrc) ∧ amongB few all = amongB (few.drop k) all ∧ ∃ e v, f 5 = .map 10 e ∧ H 10 = some (e, .map v (kmap vKn all))) (by omega) (by rw [hXs]; decide) (by decide) (by (first | rfl | (simp only [go_sem, simprocAttr]; done) | (simp only [go_sem, simprocAttr]; rfl))) (by (first | rfl | (simp only [go_sem, simprocAttr]; done) | (simp only [go_sem, simprocAttr]; rfl))) ⟨by (first | rfl | (simp only [h0, go_sem, simprocAttr]; done) | (simp only [h0, go_sem, simprocAttr]; rfl)), by simp, _, _, by (first | rfl | (simp only [h5, go_sem, simprocAttr]; done) | (simp only [h5, go_sem, simprocAttr]; rfl)), by (first | rfl | (simp only [hH, go_sem, simprocAttr]; done) | (simp only [hH, go_sem, simprocAttr]; rfl))⟩ ?_ ?_
    · clear h0 h5 hH h11 h12 h13
      rintro k f H hk h30 h29 ⟨h28, hr, e, v, h5, hH⟩
      obtain ⟨b, hb⟩ : ∃ b, few[k]? = some b := ⟨_, List.getElem?_eq_getElem hk⟩
      have hfi := xfind_kmap (b := b) (v := vKn) all 0
      have hkn := findB_known (b := b) (l := all) (i := 0)
      rw [limK] at hfi
      refine AW_keep [10] ?_
      repeat' (first | (with_reducible refine sk ?_; intro K hK) | ((with_reducible first | refine rg (md := { base := 0, own := [7, 9, 10] }) (h := ?_) | refine rgS [7, 9] (md := { base := 0, own := [7, 9, 10] }) (h := ?_) | refine nx ?_); try simp (disch := omega) only [h5, h28, h29, h30, hH, hb, hfi, hkn, cBrc,go_sem, simprocAttr]) | (with_reducible refine bk ?_) | ((with_reducible refine' cE ?hv ?_ ?_); (case hv => first | rfl | (simp only [h5, h28, h29, h30, hH, hb, hfi, hkn, cBrc,go_sem, simprocAttr]; rfl)); all_goals (intro hc; (try simp only [go_sem, simprocAttr] at hc); try (exfalso; omega))) | ((with_reducible refine fe ?_); refine ⟨_, (by simp only [Try.f42, h5, h28, h29, h30, hH, hb, hfi, hkn, cBrc,go_sem, simprocAttr]; rfl), ?_⟩; first | rfl | (try simp only [h5, h28, h29, h30, hH, hb, hfi, hkn, cBrc,go_sem, simprocAttr, seval])) | with_reducible intro (ep : Nat → Nat) | with_reducible apply_assumption -exfalso -symm only [*])
      · rw [hr, drop_cons hb]; simp [amongB, hc]
      · exact ⟨by rw [hr, drop_cons hb]; simp [amongB, hc], _, _, rfl, rfl⟩
    · clear h0 h5 hH h11 h12 h13
      rintro f H h30 h29 ⟨h28, hr, e, v, h5, hH⟩
      repeat' (first | (with_reducible refine sk ?_; intro K hK) | ((with_reducible first | refine rg (md := { base := 0, own := [7, 9, 10] }) (h := ?_) | refine rgS [7, 9] (md := { base := 0, own := [7, 9, 10] }) (h := ?_) | refine nx ?_); try simp (disch := omega) only [h5, hH,go_sem, simprocAttr]) | (with_reducible refine bk ?_) | ((with_reducible refine' cE ?hv ?_ ?_); (case hv => first | rfl | (simp only [h5, hH,go_sem, simprocAttr]; rfl)); all_goals (intro hc; (try simp only [go_sem, simprocAttr] at hc); try (exfalso; omega))) | ((with_reducible refine fe ?_); refine ⟨_, (by simp only [Try.f42, h5, hH,go_sem, simprocAttr]; rfl), ?_⟩; first | rfl | (try simp only [h5, hH,go_sem, simprocAttr, seval])) | with_reducible intro (ep : Nat → Nat) | with_reducible apply_assumption -exfalso -symm only [*])
      rw [hr]; simp [amongB]
end Cp
namespace Cp
open Go Go.Proofs
set_option maxRecDepth 10000
set_option maxHeartbeats 4000000
def c32 (m : Int) : List Val := [.int .u32 m]
@[go_sem] theorem c32_noid {l : List Int} : noidss (l.map c32) = true := noidss_map fun _ => rfl
def chI (l : List Int) (i : Int) : Int := if l.length = 0 then 0 else (l[(i.tmod l.length).toNat]?).getD 0
def By (l : List Int) : Prop := ∀ m ∈ l, 0 ≤ m ∧ m ≤ 4294967295
theorem chI_bnd {l : List Int} (hl : By l) (i : Int) : 0 ≤ chI l i ∧ chI l i ≤ 4294967295 := by
  unfold chI
  split
  · omega
  · cases hq : l[(i.tmod l.length).toNat]? with
    | none => simp
    | some x => exact hl x (List.mem_of_getElem? hq)
theorem choose_ok (l : List Int) (i : Int) (hi : 0 ≤ i) : PureC Try.prog 37 [.lst 1 (l.map c32), .int .i64 i] (.int .u32 (chI l i)) := by
  by_cases h0 : l.length = 0
  · have hnil : l = [] := List.eq_nil_of_length_eq_zero h0
    subst hnil
    refine PureC_of (fn := Try.f37) tabOK (by kernel_rfl) rfl (by kernel_rfl) (by simp [Try.f37]) (by simp [noids, noid, noidss, go_sem]) (by first | rfl | simp [noids, noid, noidss, go_sem]) ?_
    intro X hX0 hXs
    repeat' (first | (with_reducible refine sk ?_; intro K hK) | ((with_reducible first | refine rg (h := ?_) | refine nx ?_); try simp (disch := omega) only [go_sem, simprocAttr]) | (with_reducible refine bk ?_) | ((with_reducible refine' cE ?hv ?_ ?_); (case hv => first | rfl | (simp only [go_sem, simprocAttr]; rfl)); all_goals (intro hc; (try simp only [go_sem, simprocAttr] at hc); try (exfalso; omega))) | ((with_reducible refine fe ?_); refine ⟨_, (by simp only [Try.f37, go_sem, simprocAttr]; rfl), ?_⟩; first | rfl | (try simp only [go_sem, simprocAttr, seval])) | with_reducible intro (ep : Nat → Nat) | with_reducible apply_assumption -exfalso -symm only [*])
  · have hz : ¬ (l.length : Int) = 0 := by omega
    have hpos : (0 : Int) < (l.length : Int) := by clear hi; omega
    have h1 : 0 ≤ i.tmod l.length := Int.tmod_nonneg _ hi
    have h2 : i.tmod l.length < l.length := Int.tmod_lt_of_pos _ hpos
    obtain ⟨j, hj⟩ : ∃ j : Nat, i.tmod l.length = j := ⟨(i.tmod l.length).toNat, (Int.toNat_of_nonneg h1).symm⟩
    obtain ⟨x, hx⟩ : ∃ x, l[j]? = some x := ⟨_, List.getElem?_eq_getElem (by rw [hj] at h2; exact Int.ofNat_lt.1 h2)⟩
    have hv : chI l i = x := by unfold chI; rw [if_neg h0, hj, Int.toNat_natCast, hx]; rfl
    rw [hv]
    refine PureC_of (fn := Try.f37) tabOK (by kernel_rfl) rfl (by kernel_rfl) (by simp [Try.f37]) (by simp [noids, noid, noidss, go_sem]) (by first | rfl | simp [noids, noid, noidss, go_sem]) ?_
    intro X hX0 hXs
    repeat' (first | (with_reducible refine sk ?_; intro K hK) | ((with_reducible first | refine rg (h := ?_) | refine nx ?_); try simp (disch := omega) only [hz, hj, hx, c32,go_sem, simprocAttr]) | (with_reducible refine bk ?_) | ((with_reducible refine' cE ?hv ?_ ?_); (case hv => first | rfl | (simp only [hz, hj, hx, c32,go_sem, simprocAttr]; rfl)); all_goals (intro hc; (try simp only [go_sem, simprocAttr] at hc); try (exfalso; omega))) | ((with_reducible refine fe ?_); refine ⟨_, (by simp only [Try.f37, hz, hj, hx, c32,go_sem, simprocAttr]; rfl), ?_⟩; first | rfl | (try simp only [hz, hj, hx, c32,go_sem, simprocAttr, seval])) | with_reducible intro (ep : Nat → Nat) | with_reducible apply_assumption -exfalso -symm only [*])
theorem twinRulesA_ok (u : RulesT) (hu : u.steps.length ≤ 1000) (hne : ¬ u.steps.length = 0) (H0 : Hp) : ACall Try.prog 24 [encRules u] H0 (fun v H' => (∀ j, j < 600 → H' j = H0 j) ∧
    ∃ e, v = .agg [.gr 606 e u.steps.length, .int .i64 u.single, .int .i64 u.sfrom, .int .i64 u.press.lo, .int .i64 u.press.hi, .int .i64 u.pfrom] ∧ H' 606 = some (e, .arr 2 (u.steps.map cStep))) := by
  refine ACall_of (fn := Try.f24) tabOK (by kernel_rfl) rfl (by kernel_rfl) (by simp [Try.f24]) ?_
  intro X hX0 hXs
  refine AW_lose 601 fun H1 g1 hs1 => ?_
  refine AW_lose 602 fun H2 g2 hs2 => ?_
  refine AW_lose 606 fun H3 g6 hs3 => ?_
  have g1' : H3 601 = none := by rw [hs3 _ (by decide), hs2 _ (by decide), g1]
  have g2' : H3 602 = none := by rw [hs3 _ (by decide), g2]
  have hlow : ∀ j, j < 600 → H3 j = H0 j := fun j hj => by rw [hs3 _ (by omega), hs2 _ (by omega), hs1 _ (by omega)]
  clear hs1 hs2 hs3 g1 g2
  have hu2 : u.steps.length ≤ 1073741824 := by omega
  repeat' (first | (with_reducible refine sk ?_; intro K hK) | ((with_reducible first | refine rg (md := { base := 600, own := [1, 6] }) (h := ?_) | refine rgS [2] (md := { base := 600, own := [1, 6] }) (h := ?_) | refine nx ?_); try simp (disch := omega) only [encRules, cRules, hu2, hne, g1', g2', g6,go_sem, simprocAttr]) | (with_reducible refine bk ?_) | ((with_reducible refine' cE ?hv ?_ ?_); (case hv => first | rfl | (simp only [encRules, cRules, hu2, hne, g1', g2', g6,go_sem, simprocAttr]; rfl)); all_goals (intro hc; (try simp only [go_sem, simprocAttr] at hc); try (exfalso; omega))) | with_reducible intro (ep : Nat → Nat) | with_reducible apply_assumption -exfalso -symm only [*])
  refine FnQ_end (Or.inl rfl) (.refl _) (by simp only [Try.f24, go_sem, simprocAttr]; rfl) ?_
  refine ⟨fun j hj => ?_, ep 606, ?_, ?_⟩
  · simp only [upd]; (repeat rw [if_neg (by omega)]); exact hlow j hj
  · simp only [go_sem, simprocAttr]; rfl
  · simp only [go_sem, simprocAttr]
end Cp
namespace Cp
open Go
def FirstAt (l : List Brc) (t : Int) (j : Nat) (x : Int) : Prop := (x = 0 ∧ ∀ i b, i < j → l[i]? = some b → ¬ b.m ≤ t) ∨ (1 ≤ j ∧ ∃ b, l[0]? = some b ∧ b.m ≤ t ∧ x = b.m ∧ 1 ≤ b.m)
def SureAt (l : List Brc) (t : Int) (j : Nat) (x : Int) : Prop := (x = 0 ∧ ∀ i b, i < j → l[i]? = some b → b.m ≤ t → ¬ b.known = 2) ∨ (∃ i b, i < j ∧ l[i]? = some b ∧ b.m ≤ t ∧ b.known = 2 ∧ x = b.m ∧ 1 ≤ b.m ∧ ∀ k c, k < i → l[k]? = some c → ¬ c.known = 2)
variable {l : List Brc} {t x : Int} {j : Nat} {b : Brc}
theorem FirstAt.over (h : FirstAt l t j x) (hb : l[j]? = some b) (hm : ¬ b.m ≤ t) : FirstAt l t (j + 1) x := by
  rcases h with ⟨rfl, h⟩ | ⟨h1, c, h2⟩
  · refine .inl ⟨rfl, fun i c hi hc => ?_⟩
    by_cases hij : i = j
    · subst hij; rw [hb] at hc; cases hc; exact hm
    · exact h i c (by omega) hc
  · exact .inr ⟨by omega, c, h2⟩
theorem FirstAt.new (hs : l.Pairwise brLt) (h : FirstAt l t j 0) (hb : l[j]? = some b) (hm : b.m ≤ t) (h1 : 1 ≤ b.m) : FirstAt l t (j + 1) b.m := by
  rcases h with ⟨_, h⟩ | ⟨_, c, _, _, hc, h1⟩
  · cases j with
    | zero => exact .inr ⟨by omega, b, hb, hm, rfl, h1⟩
    | succ j =>
      exfalso
      obtain ⟨a, ha⟩ : ∃ a, l[0]? = some a := ⟨_, List.getElem?_eq_getElem (by have := (List.getElem?_eq_some_iff.1 hb).1; omega)⟩
      have h0 := h 0 a (by omega) ha
      have := sorted_m hs (Nat.zero_le _) ha hb
      omega
  · omega
theorem FirstAt.old (h : FirstAt l t j x) (hx : ¬ x = 0) : FirstAt l t (j + 1) x := by
  rcases h with ⟨rfl, _⟩ | ⟨h1, c, h2⟩
  · exact absurd rfl hx
  · exact .inr ⟨by omega, c, h2⟩
theorem SureAt.over (h : SureAt l t j x) (hb : l[j]? = some b) (hm : b.m ≤ t → ¬ b.known = 2) : SureAt l t (j + 1) x := by
  rcases h with ⟨rfl, h⟩ | ⟨i, c, h1, h2⟩
  · refine .inl ⟨rfl, fun i c hi hc => ?_⟩
    by_cases hij : i = j
    · subst hij; rw [hb] at hc; cases hc; exact hm
    · exact h i c (by omega) hc
  · exact .inr ⟨i, c, by omega, h2⟩
theorem SureAt.new (hs : l.Pairwise brLt) (h : SureAt l t j 0) (hb : l[j]? = some b) (hm : b.m ≤ t) (h1 : 1 ≤ b.m) (hk : b.known = 2) : SureAt l t (j + 1) b.m := by
  rcases h with ⟨_, h⟩ | ⟨i, c, _, _, _, _, hc, h1, _⟩
  · exact .inr ⟨j, b, by omega, hb, hm, hk, rfl, h1, fun k c hkj hc => h k c hkj hc (by have := sorted_m hs (Nat.le_of_lt hkj) hc hb; omega)⟩
  · omega
theorem SureAt.old (h : SureAt l t j x) (hx : ¬ x = 0) : SureAt l t (j + 1) x := by
  rcases h with ⟨rfl, _⟩ | ⟨i, c, h1, h2⟩
  · exact absurd rfl hx
  · exact .inr ⟨i, c, by omega, h2⟩
end Cp
namespace Cp
open Go
section
variable {r : RunT} {u : RulesT} {n : Nat}
end
end Cp
namespace Cp
end Cp
namespace Cp
open Go
structure LooserSt (s s' : StepT) : Prop where
  frm : s'.frm = s.frm
  part : s.part ≤ s'.part ∧ s'.part ≤ 1000
def LooserL : List StepT → List StepT → Prop
  | [], [] => True
  | s :: l, s' :: l' => LooserSt s s' ∧ LooserL l l'
  | _, _ => False
structure Looser (u u' : RulesT) : Prop where
  steps : LooserL u.steps u'.steps
  single : u.single ≤ u'.single ∧ u'.single ≤ 2000
  sfrom : u.sfrom ≤ u'.sfrom ∧ u'.sfrom ≤ 600
  press : -100 ≤ u'.press.lo ∧ u'.press.lo ≤ u.press.lo ∧ u'.press.hi = u.press.hi
  pfrom : u.pfrom ≤ u'.pfrom ∧ u'.pfrom ≤ 600
theorem outK_wide {s o o' : Span} (h2 : o'.lo ≤ o.lo ∧ o.hi ≤ o'.hi) : outK s o' ≤ outK s o := by
  unfold outK
  split <;> split <;> (try split) <;> (try split) <;> omega
theorem looserL_len : ∀ {l l' : List StepT}, LooserL l l' → l'.length = l.length
  | [], [], _ => rfl
  | s :: l, s' :: l', h => by simp [looserL_len h.2]
  | [], _ :: _, h => h.elim
  | _ :: _, [], h => h.elim
theorem looser_steps : ∀ {l l' : List StepT} {last : Int}, LooserL l l' → stepsFrom last l = true → stepsFrom last l' = true
  | [], [], _, _, _ => rfl
  | s :: l, s' :: l', last, h, hs => by
    simp only [stepsFrom, stepOK, Bool.and_eq_true, decide_eq_true_eq] at hs ⊢
    obtain ⟨⟨hf, hp⟩, h2⟩ := h
    rw [hf]
    exact ⟨by omega, looser_steps h2 hs.2⟩
  | [], _ :: _, _, h, _ => h.elim
  | _ :: _, [], _, h, _ => h.elim
theorem looser_ok {u u' : RulesT} (h : Looser u u') (hu : rulesOK u = true) : rulesOK u' = true := by
  have hU := rules_facts hu
  have h1 := h.single; have h2 := h.sfrom; have h3 := h.press; have h4 := h.pfrom; have h5 := looserL_len h.steps
  have g1 := hU.single; have g2 := hU.sfrom; have g3 := hU.press; have g4 := hU.pfrom; have g5 := hU.len
  simp only [rulesOK, limsOK, Bool.and_eq_true, decide_eq_true_eq]
  exact ⟨by omega, looser_steps h.steps hU.from0⟩
theorem looser_part {m : Int} : ∀ {l l' : List StepT} {a a' : Int}, LooserL l l' → a ≤ a' → (a < 0 ↔ a' < 0) → (∀ s ∈ l, 0 ≤ s.part) → partFrom m a l ≤ partFrom m a' l' ∧ (partFrom m a l < 0 ↔ partFrom m a' l' < 0)
  | [], [], a, a', _, h1, h2, _ => ⟨h1, h2⟩
  | s :: l, s' :: l', a, a', h, h1, h2, hp => by
    obtain ⟨⟨hf, hpp⟩, h3⟩ := h
    have := hp s (by simp)
    simp only [partFrom, hf]
    refine looser_part h3 ?_ ?_ fun x hx => hp x (by simp [hx])
    · split <;> omega
    · split <;> omega
  | [], _ :: _, _, _, h, _, _, _ => h.elim
  | _ :: _, [], _, _, h, _, _, _ => h.elim
def Under (l l' : List Brc) : Prop := ∀ b ∈ l', ∃ a ∈ l, sameL b a ∧ b.known ≤ a.known
theorem under_oneB {m q c n n' : Int} (h : n' ≤ n) (h0 : 0 ≤ n') : Under (oneB m q c n) (oneB m q c n') := fun b hb => by
  obtain ⟨rfl, hn⟩ := oneB_mem hb
  exact ⟨⟨m, q, c, n⟩, by unfold oneB; rw [if_neg (by omega)]; simp, ⟨rfl, rfl, rfl⟩, h⟩
theorem Under.app {a b a' b' : List Brc} (h1 : Under a a') (h2 : Under b b') : Under (a ++ b) (a' ++ b') := fun x hx => by
  rcases List.mem_append.1 hx with hx | hx
  · obtain ⟨y, h3, h4⟩ := h1 x hx; exact ⟨y, List.mem_append_left _ h3, h4⟩
  · obtain ⟨y, h3, h4⟩ := h2 x hx; exact ⟨y, List.mem_append_right _ h3, h4⟩
theorem Under.nil {l : List Brc} : Under l [] := fun b hb => by simp at hb
theorem Under.rfl' {l : List Brc} : Under l l := fun b hb => ⟨b, hb, ⟨rfl, rfl, rfl⟩, Int.le_refl _⟩
theorem cumC_pos {r : RunT} (hdeg : ∀ m : Int, 0 ≤ m → m ≤ lastM r.curve → 0 ≤ degAt r.curve m ∧ degAt r.curve m ≤ 2000) : ∀ (k : Nat), (k : Int) ≤ lastM r.curve → 0 ≤ cumC r k
  | 0, _ => by simp [cumC]
  | k + 1, hk => by
    have ih := cumC_pos hdeg k (by omega)
    have := hdeg ((k + 1 : Nat) : Int) (by omega) hk
    simp only [cumC]; split <;> omega
theorem looser_area {r : RunT} {u u' : RulesT} (h : Looser u u') (hU : RulesF u) {k : Nat} (hc : 0 ≤ cumC r k) : areaS r u' k ≤ areaS r u k ∧ 0 ≤ areaS r u' k := by
  obtain ⟨h1, h2⟩ := looser_part (m := (k : Int)) (a := -1) (a' := -1) h.steps (by omega) (by omega) fun s hs => (hU.step s hs).2.1
  have h1 : partS u (k : Int) ≤ partS u' (k : Int) := h1
  have h2 : partS u (k : Int) < 0 ↔ partS u' (k : Int) < 0 := h2
  unfold areaS
  by_cases hn : partS u (k : Int) < 0
  · rw [if_pos hn, if_pos (h2.1 hn)]; omega
  · rw [if_neg hn, if_neg (fun h => hn (h2.2 h))]
    have hm : cumC r k * 840 * partS u (k : Int) ≤ cumC r k * 840 * partS u' (k : Int) := Int.mul_le_mul_of_nonneg_left h1 (by omega)
    refine ⟨outK_wide ⟨?_, ?_⟩, outK_bnd.1⟩
    · simp only; omega
    · simp only; omega
theorem looser_singL {r : RunT} {u u' : RulesT} (h : Looser u u') {m : Int} : ∀ (l : List Nat), Under (singL r u m l) (singL r u' m l)
  | [] => Under.nil
  | i :: l => by
    simp only [singL]
    refine Under.app ?_ (looser_singL h l)
    unfold singI
    have := h.single
    split
    · exact under_oneB (outK_wide ⟨by simp only; omega, by simp only; omega⟩) outK_bnd.1
    · exact Under.nil
theorem looser_min {r : RunT} {u u' : RulesT} (h : Looser u u') (hU : RulesF u) {k : Nat} (hc : 0 ≤ cumC r k) : Under (minB r u k) (minB r u' k) := by
  obtain ⟨a1, a2⟩ := looser_area (r := r) h hU hc
  have h2 := h.sfrom; have h3 := h.press; have h4 := h.pfrom
  unfold minB
  refine Under.app (Under.app (Under.app Under.rfl' (under_oneB a1 a2)) ?_) ?_
  · unfold singB
    by_cases hs : (k : Int) < u'.sfrom
    · rw [if_pos hs]; exact Under.nil
    · rw [if_neg hs, if_neg (by omega)]; exact looser_singL h _
  · unfold pressB
    by_cases hs : (k : Int) < u'.pfrom
    · rw [if_pos hs]; exact Under.nil
    · rw [if_neg hs, if_neg (by omega)]
      exact under_oneB (outK_wide ⟨by omega, by omega⟩) outK_bnd.1
theorem looser_left {r : RunT} {u u' : RulesT} (h : Looser u u') (hU : RulesF u) : ∀ {k : Nat}, (∀ j, j ≤ k → 0 ≤ cumC r j) → Under (leftB r u k) (leftB r u' k)
  | 0, _ => Under.nil
  | k + 1, hc => by
    simp only [leftB]
    exact Under.app (looser_left h hU fun j hj => hc j (by omega)) (looser_min h hU (hc _ (Nat.le_refl _)))
theorem brLt_of_same {a b : Brc} (h : sameL a b) : ¬ brLt a b ∧ ¬ brLt b a := by unfold sameL at h; unfold brLt; omega
theorem knownOf_mem : ∀ {l : List Brc} {b a : Brc}, l.Pairwise brLt → a ∈ l → sameL b a → knownOf l b = a.known
  | x :: l, b, a, hs, ha, hsa => by
    rw [List.pairwise_cons] at hs
    unfold knownOf
    rw [List.find?_cons]
    by_cases h : sameL b x
    · have : a = x := by
        rcases List.mem_cons.1 ha with rfl | ha
        · rfl
        · exfalso
          have h1 := hs.1 a ha
          exact (brLt_of_same (a := x) (b := a) (by unfold sameL at *; omega)).1 h1
      simp [h, this]
    · simp only [decide_eq_false h]
      rcases List.mem_cons.1 ha with rfl | ha
      · exact absurd hsa h
      · exact knownOf_mem hs.2 ha hsa
theorem oneB_known {r : RunT} {u : RulesT} {b : Brc} (h : b ∈ leftS r u) : 1 ≤ b.known ∧ b.known ≤ 2 := by
  obtain ⟨k, _, _, h⟩ := leftB_mem h
  have hO : ∀ {n m q c : Int}, 0 ≤ n ∧ n ≤ 2 → b ∈ oneB m q c n → 1 ≤ b.known ∧ b.known ≤ 2 := fun hb h => by
    obtain ⟨rfl, hn⟩ := oneB_mem h
    simp only; omega
  simp only [minB, List.mem_append] at h
  rcases h with ((h | h) | h) | h
  · unfold blindB at h; split at h <;> simp at h; subst h; simp
  · unfold areaS at h
    split at h
    · simp [oneB] at h
    · exact hO outK_bnd h
  · unfold singB at h; split at h
    · simp at h
    · obtain ⟨i, c, _, _, rfl, hn⟩ := singL_mem h
      have : 0 ≤ singS r u c i (k : Int) ∧ singS r u c i (k : Int) ≤ 2 := outK_bnd
      simp only; omega
  · unfold pressB at h; split at h
    · simp at h
    · exact hO outK_bnd h
theorem under_count {l l' : List Brc} (h : Under l l') (hs : l.Pairwise brLt) {n : Int} (hm : ∀ b ∈ l, b.m ≤ n) : countL l n ≤ countL l' n := by
  unfold countL
  cases h' : l'[0]? with
  | none =>
    simp only
    cases hl : l[0]? with
    | none => simp
    | some a => have := hm a (List.mem_of_getElem? hl); simp only; omega
  | some b =>
    obtain ⟨a, ha, hsa, _⟩ := h b (List.mem_of_getElem? h')
    obtain ⟨j, hj⟩ := List.getElem?_of_mem ha
    obtain ⟨x, hx⟩ : ∃ x, l[0]? = some x := ⟨_, List.getElem?_eq_getElem (by have := (List.getElem?_eq_some_iff.1 hj).1; omega)⟩
    have := sorted_m hs (Nat.zero_le j) hx hj
    rw [hx]; unfold sameL at hsa; simp only; omega
end Cp
namespace Cp
theorem looserL_of : ∀ {l S : List StepT}, S.length = l.length → (∀ (i : Nat) (s s' : StepT), l[i]? = some s → S[i]? = some s' → LooserSt s s') → LooserL l S
  | [], [], _, _ => trivial
  | s :: l, s' :: S, hl, h => ⟨h 0 s s' rfl rfl, looserL_of (by simpa using hl) fun i a b ha hb => h (i + 1) a b (by simpa using ha) (by simpa using hb)⟩
  | [], _ :: _, hl, _ => by simp at hl
  | _ :: _, [], hl, _ => by simp at hl
end Cp
namespace Cp
open Go Go.Proofs
set_option maxRecDepth 10000
end Cp
namespace Cp
open Go Go.Proofs
set_option maxRecDepth 10000
theorem ready_ok (r : RunT) (u : RulesT) : PureC Try.prog 34 [encRun r, encRules u] (.bool (!greatS r u && decide (checkE r u = 0))) := by
  by_cases hg : greatS r u = true
  · refine PureC_of (fn := Try.f34) tabOK (by kernel_rfl) rfl (by kernel_rfl) (by simp [Try.f34]) (by simp [noids, noid, noidss, go_sem, encRun, cRun, encRules, cRules]) (by first | rfl | simp [noids, noid, noidss, go_sem, encRun, cRun, encRules, cRules]) ?_
    intro X hX0 hXs
    repeat' (first | (with_reducible refine sk ?_; intro K hK) | ((first | (with_reducible first | refine rg (h := ?_) | refine nx ?_) | refine pK (great_ok r u) ?_); try simp (disch := omega) only [encRun, cRun, encRules, cRules, hg,go_sem, simprocAttr]) | (with_reducible refine bk ?_) | ((with_reducible refine' cE ?hv ?_ ?_); (case hv => first | rfl | (simp only [encRun, cRun, encRules, cRules, hg,go_sem, simprocAttr]; rfl)); all_goals (intro hc; (try simp only [go_sem, simprocAttr] at hc); try (exfalso; omega))) | ((with_reducible first | refine grdS_split ?_ ?_ | refine lkG_split ?_ ?_) <;> intro hg <;> (try simp (disch := omega) only [hg, encRun, cRun, encRules, cRules, hg,go_sem, simprocAttr]) <;> (try simp only [go_sem, simprocAttr] at hg) <;> (try (exfalso; omega))) | ((with_reducible refine fe ?_); refine ⟨_, (by simp only [Try.f34, encRun, cRun, encRules, cRules, hg,go_sem, simprocAttr]; rfl), ?_⟩; first | rfl | (try simp only [encRun, cRun, encRules, cRules, hg,go_sem, simprocAttr, seval])) | with_reducible intro (ep : Nat → Nat) | with_reducible apply_assumption -exfalso -symm only [*])
    try simp [hg]
  · simp only [Bool.not_eq_true] at hg
    obtain ⟨hsm, hst⟩ := great_sm hg
    refine PureC_of (fn := Try.f34) tabOK (by kernel_rfl) rfl (by kernel_rfl) (by simp [Try.f34]) (by simp [noids, noid, noidss, go_sem, encRun, cRun, encRules, cRules]) (by first | rfl | simp [noids, noid, noidss, go_sem, encRun, cRun, encRules, cRules]) ?_
    intro X hX0 hXs
    repeat' (first | (with_reducible refine sk ?_; intro K hK) | ((first | (with_reducible first | refine rg (h := ?_) | refine nx ?_) | refine pK (great_ok r u) ?_ | refine pK (rcheck_ok r u hsm.b ⟨by omega⟩) ?_); try simp (disch := omega) only [encRun, cRun, encRules, cRules, hg,go_sem, simprocAttr]) | (with_reducible refine bk ?_) | ((with_reducible refine' cE ?hv ?_ ?_); (case hv => first | rfl | (simp only [encRun, cRun, encRules, cRules, hg,go_sem, simprocAttr]; rfl)); all_goals (intro hc; (try simp only [go_sem, simprocAttr] at hc); try (exfalso; omega))) | ((with_reducible first | refine grdS_split ?_ ?_ | refine lkG_split ?_ ?_) <;> intro hg <;> (try simp (disch := omega) only [hg, encRun, cRun, encRules, cRules, hg,go_sem, simprocAttr]) <;> (try simp only [go_sem, simprocAttr] at hg) <;> (try (exfalso; omega))) | ((with_reducible refine fe ?_); refine ⟨_, (by simp only [Try.f34, encRun, cRun, encRules, cRules, hg,go_sem, simprocAttr]; rfl), ?_⟩; first | rfl | (try simp only [encRun, cRun, encRules, cRules, hg,go_sem, simprocAttr, seval])) | with_reducible intro (ep : Nat → Nat) | with_reducible apply_assumption -exfalso -symm only [*])
    all_goals try simp [hg]
end Cp
namespace Cp
open Go
theorem fit_map {α : Type} {c : α → List Val} : ∀ {xss : List (List Val)}, (∀ es ∈ xss, ∃ x, es = c x) → ∃ l : List α, xss = l.map c
  | [], _ => ⟨[], rfl⟩
  | es :: xss, h => by
    obtain ⟨x, rfl⟩ := h es (by simp)
    obtain ⟨l, rfl⟩ := fit_map fun es he => h es (List.mem_cons_of_mem _ he)
    exact ⟨x :: l, rfl⟩
theorem fit_slice {T : Tab} {n : Nat} {t e sz : Nat} {vs : List Val} {b b2 s1 : Nat} {z z2 : Val} {p p2 : Bool} {k2 : TK} {α : Type} {c : α → List Val} (ht : T t = some { kind := .slice e, sz := s1, bytes := b, zero := z, plain := p })
    (he : T e = some { kind := k2, sz := sz, bytes := b2, zero := z2, plain := p2 }) (h : Fit T (n + 1) t vs) (hc : ∀ es, Fit T n e es → ∃ x, es = c x) : ∃ l : List α, vs = [.lst sz (l.map c)] := by
  simp only [Fit, ht] at h
  obtain ⟨sz', xss, rfl, hs, _, hx⟩ := h
  rw [he] at hs
  cases hs
  obtain ⟨l, rfl⟩ := fit_map (c := c) fun es hes => hc es (hx es hes).2
  exact ⟨l, rfl⟩
theorem fit_struct {T : Tab} {n : Nat} {t sz : Nat} {vs : List Val} {b : Nat} {z : Val} {p : Bool} {fs : List (Nat × Nat)} (ht : T t = some { kind := .struct fs, sz := sz, bytes := b, zero := z, plain := p }) (h : Fit T (n + 1) t vs) :
    vs.length = sz ∧ ∀ q ∈ fs, ∃ fi, T q.2 = some fi ∧ Fit T n q.2 ((vs.drop q.1).take fi.sz) := by
  simp only [Fit, ht] at h
  exact h
theorem fit_int {T : Tab} {n : Nat} {t : Nat} {vs : List Val} {s b : Nat} {z : Val} {p : Bool} {k : IntKind} (ht : T t = some { kind := .int k, sz := s, bytes := b, zero := z, plain := p }) (h : Fit T (n + 1) t vs) : ∃ m, vs = [.int k m] ∧ (Lit.int k m).wf = true := by
  simp only [Fit, ht] at h
  exact h
theorem fit3 {n : Nat} {vs : List Val} (h : Fit tab (n + 1) 3 vs) : ∃ m, vs = [.int .i64 m] := by
  obtain ⟨m, h, _⟩ := fit_int tab_3 h; exact ⟨m, h⟩
theorem fit_ints {n : Nat} {vs : List Val} {t b s1 : Nat} {z : Val} {p : Bool} (ht : tab t = some { kind := .slice 3, sz := s1, bytes := b, zero := z, plain := p }) (h : Fit tab (n + 2) t vs) : ∃ l : List Int, vs = [.lst 1 (ints l)] := by
  obtain ⟨l, rfl⟩ := fit_slice (c := fun m : Int => [Val.int .i64 m]) ht tab_3 h fun es he => fit3 he
  exact ⟨l, rfl⟩
theorem fit_two {n : Nat} {vs : List Val} {t b : Nat} {z : Val} {p : Bool} (ht : tab t = some { kind := .struct [(0, 3), (1, 3)], sz := 2, bytes := b, zero := z, plain := p }) (h : Fit tab (n + 2) t vs) : ∃ x y : Int, vs = [.int .i64 x, .int .i64 y] := by
  obtain ⟨hl, hq⟩ := fit_struct ht h
  match vs, hl with
  | [a, b], _ =>
    obtain ⟨fi, e, h0⟩ := hq (0, 3) (by simp)
    rw [tab_3] at e; cases e
    obtain ⟨fi, e, h1⟩ := hq (1, 3) (by simp)
    rw [tab_3] at e; cases e
    obtain ⟨x, hx⟩ := fit3 h0
    obtain ⟨y, hy⟩ := fit3 h1
    simp at hx hy
    exact ⟨x, y, by rw [hx, hy]⟩
theorem fit_span {n : Nat} {vs : List Val} (h : Fit tab (n + 2) 26 vs) : ∃ s : Span, vs = [.int .i64 s.lo, .int .i64 s.hi] := by
  obtain ⟨x, y, h⟩ := fit_two tab_26 h; exact ⟨⟨x, y⟩, h⟩
theorem fit_pt {n : Nat} {vs : List Val} (h : Fit tab (n + 2) 93 vs) : ∃ x : Pt, vs = cPt x := by
  obtain ⟨x, y, h⟩ := fit_two tab_93 h; exact ⟨⟨x, y⟩, h⟩
theorem fit_step {n : Nat} {vs : List Val} (h : Fit tab (n + 2) 85 vs) : ∃ x : StepT, vs = cStep x := by
  obtain ⟨x, y, h⟩ := fit_two tab_85 h; exact ⟨⟨x, y⟩, h⟩
theorem fit_cpl {n : Nat} {vs : List Val} (h : Fit tab (n + 3) 76 vs) : ∃ x : Cpl, vs = cCpl x := by
  obtain ⟨hl, hq⟩ := fit_struct tab_76 h
  match vs, hl with
  | [a, b, c, d, e, f], _ =>
    obtain ⟨fi, e0, h0⟩ := hq (0, 3) (by simp)
    rw [tab_3] at e0; cases e0
    obtain ⟨fi, e1, h1⟩ := hq (1, 26) (by simp)
    rw [tab_26] at e1; cases e1
    obtain ⟨fi, e2, h2⟩ := hq (3, 26) (by simp)
    rw [tab_26] at e2; cases e2
    obtain ⟨fi, e3, h3⟩ := hq (5, 3) (by simp)
    rw [tab_3] at e3; cases e3
    obtain ⟨x0, h0⟩ := fit3 h0
    obtain ⟨x1, h1⟩ := fit_span h1
    obtain ⟨x2, h2⟩ := fit_span h2
    obtain ⟨x3, h3⟩ := fit3 h3
    simp at h0 h1 h2 h3
    obtain ⟨h1, h1'⟩ := h1
    obtain ⟨h2, h2'⟩ := h2
    exact ⟨⟨x0, x1, x2, x3⟩, by rw [h0, h1, h1', h2, h2', h3]; rfl⟩
theorem fit_row {n : Nat} {vs : List Val} (h : Fit tab (n + 3) 89 vs) : ∃ x : RowT, vs = cRow x := by
  obtain ⟨hl, hq⟩ := fit_struct tab_89 h
  match vs, hl with
  | [a, b], _ =>
    obtain ⟨fi, e0, h0⟩ := hq (0, 87) (by simp)
    rw [tab_87] at e0; cases e0
    obtain ⟨fi, e1, h1⟩ := hq (1, 3) (by simp)
    rw [tab_3] at e1; cases e1
    obtain ⟨x0, h0⟩ := fit_ints tab_87 h0
    obtain ⟨x1, h1⟩ := fit3 h1
    simp at h0 h1
    exact ⟨⟨x0, x1⟩, by rw [h0, h1]; rfl⟩
theorem fit_pts {n : Nat} {vs : List Val} (h : Fit tab (n + 3) 22 vs) : ∃ l : List Pt, vs = [.lst 2 (l.map cPt)] := fit_slice tab_22 tab_93 h fun es he => fit_pt he
theorem fit_run {n : Nat} {vs : List Val} (h : Fit tab (n + 5) 28 vs) : ∃ r : RunT, vs = cRun r := by
  obtain ⟨hl, hq⟩ := fit_struct tab_28 h
  match vs, hl with
  | [a, b, c, d, e, f], _ =>
    obtain ⟨fi, e0, h0⟩ := hq (0, 3) (by simp)
    rw [tab_3] at e0; cases e0
    obtain ⟨fi, e1, h1⟩ := hq (1, 22) (by simp)
    rw [tab_22] at e1; cases e1
    obtain ⟨fi, e2, h2⟩ := hq (2, 23) (by simp)
    rw [tab_23] at e2; cases e2
    obtain ⟨fi, e3, h3⟩ := hq (3, 24) (by simp)
    rw [tab_24] at e3; cases e3
    obtain ⟨fi, e4, h4⟩ := hq (4, 26) (by simp)
    rw [tab_26] at e4; cases e4
    obtain ⟨x0, h0⟩ := fit3 h0
    obtain ⟨x1, h1⟩ := fit_pts h1
    obtain ⟨x2, h2⟩ := fit_slice tab_23 tab_76 h2 fun es he => fit_cpl he
    obtain ⟨x3, h3⟩ := fit_slice tab_24 tab_89 h3 fun es he => fit_row he
    obtain ⟨x4, h4⟩ := fit_span h4
    simp at h0 h1 h2 h3 h4
    obtain ⟨h4, h4'⟩ := h4
    exact ⟨⟨x0, x1, x2, x3, x4⟩, by rw [h0, h1, h2, h3, h4, h4']; rfl⟩
theorem fit_rules {n : Nat} {vs : List Val} (h : Fit tab (n + 5) 31 vs) : ∃ u : RulesT, vs = cRules u := by
  obtain ⟨hl, hq⟩ := fit_struct tab_31 h
  match vs, hl with
  | [a, b, c, d, e, f], _ =>
    obtain ⟨fi, e0, h0⟩ := hq (0, 29) (by simp)
    rw [tab_29] at e0; cases e0
    obtain ⟨fi, e1, h1⟩ := hq (1, 3) (by simp)
    rw [tab_3] at e1; cases e1
    obtain ⟨fi, e2, h2⟩ := hq (2, 3) (by simp)
    rw [tab_3] at e2; cases e2
    obtain ⟨fi, e3, h3⟩ := hq (3, 26) (by simp)
    rw [tab_26] at e3; cases e3
    obtain ⟨fi, e4, h4⟩ := hq (5, 3) (by simp)
    rw [tab_3] at e4; cases e4
    obtain ⟨x0, h0⟩ := fit_slice tab_29 tab_85 h0 fun es he => fit_step he
    obtain ⟨x1, h1⟩ := fit3 h1
    obtain ⟨x2, h2⟩ := fit3 h2
    obtain ⟨x3, h3⟩ := fit_span h3
    obtain ⟨x4, h4⟩ := fit3 h4
    simp at h0 h1 h2 h3 h4
    obtain ⟨h3, h3'⟩ := h3
    exact ⟨⟨x0, x1, x2, x3, x4⟩, by rw [h0, h1, h2, h3, h3', h4]; rfl⟩
theorem arg_run {a : Val} (h : FitV tab 8 28 a) : ∃ r : RunT, a = encRun r := by
  obtain ⟨ti, cs, e, h, _, rfl⟩ := h
  obtain ⟨l, rfl⟩ := fit_run h
  rw [tab_28] at e; cases e; exact ⟨l, rfl⟩
theorem arg_rules {a : Val} (h : FitV tab 8 31 a) : ∃ r : RulesT, a = encRules r := by
  obtain ⟨ti, cs, e, h, _, rfl⟩ := h
  obtain ⟨l, rfl⟩ := fit_rules h
  rw [tab_31] at e; cases e; exact ⟨l, rfl⟩
end Cp
namespace Cp
open Go Go.Proofs
set_option maxRecDepth 10000
set_option maxHeartbeats 4000000
def LooH (u : RulesT) (S : List StepT) (e : Nat) (H : Hp) : Prop :=
  H 8 = some (e, .arr 6 [[.lst 2 (S.map cStep), .int .i64 u.single, .int .i64 u.sfrom, .int .i64 u.press.lo, .int .i64 u.press.hi, .int .i64 u.pfrom]]) ∨ ∃ e6, H 8 = some (e, .arr 6 [[.gr 606 e6 S.length, .int .i64 u.single, .int .i64 u.sfrom, .int .i64 u.press.lo, .int .i64 u.press.hi, .int .i64 u.pfrom]]) ∧ H 606 = some (e6, .arr 2 (S.map cStep))
theorem AW_loo {P : Program} {X : Cx} {ro : Option Nat} {c : Code} {Q : Exit → Fr → Hp → Prop} {f : Fr} {H : Hp} {u : RulesT} {S : List StepT} {e : Nat} (h : LooH u S e H) (k : ∀ H2 : Hp, H2 8 = some (e, .arr 6 [[.lst 2 (S.map cStep), .int .i64 u.single, .int .i64 u.sfrom, .int .i64 u.press.lo, .int .i64 u.press.hi, .int .i64 u.pfrom]]) → AW P ro X c Q f H2) : AW P ro X c Q f H := by
  rcases h with h | ⟨e6, h, h6⟩
  · exact k H h
  · refine AW_thaw (k := 606) (j := 8) (n := 3) (by decide) h6 h fun H2 h2 _ => k H2 ?_
    rw [h2]
    obtain ⟨H', hH'⟩ : ∃ H', upd H 606 (some (e6, .fro 2 (S.map cStep))) = H' := ⟨_, rfl⟩
    have h606 : H' 606 = some (e6, .fro 2 (S.map cStep)) := by rw [← hH', upd_same]
    rw [hH']
    have e2 : (S.map cStep).map (fun es => es.map (fzd H' 2)) = S.map cStep := by rw [List.map_map]; exact List.map_congr_left fun s _ => rfl
    have e1 : fzd H' 3 (.gr 606 e6 S.length) = .lst 2 (S.map cStep) := by
      simp only [fzd, h606, List.length_map, and_self, if_true]
      exact congrArg _ e2
    simp only [List.map_cons, List.map_nil, e1]; rfl
theorem AW_gen {P : Program} {X : Cx} {ro : Option Nat} {c : Code} {Q : Exit → Fr → Hp → Prop} {f : Fr} {H : Hp} {I : Fr → Hp → Prop} (h0 : I f H) (h : ∀ f H, I f H → AW P ro X c Q f H) : AW P ro X c Q f H := h f H h0
def LooP (r : RunT) (u : RulesT) (l : List Int) (f : Fr) : Prop := f 2 = .lst 1 (l.map c32) ∧ f 3 = .pim (cRun r) ∧ f 4 = .pim (cRules u) ∧ f 7 = .bool true
def LooB (r : RunT) (u : RulesT) (l : List Int) (f : Fr) (H : Hp) : Prop :=
  (f 2 = .lst 1 (l.map c32) ∧ f 3 = .pim (cRun r) ∧ f 4 = .pim (cRules u) ∧ f 7 = .bool true) ∧ ∃ e, f 8 = .ptr 8 e 6 0 0 ∧
    ((u.steps.length = 0 ∧ H 8 = some (e, .arr 6 [[.lst 2 (u.steps.map cStep), .int .i64 u.single, .int .i64 u.sfrom, .int .i64 u.press.lo, .int .i64 u.press.hi, .int .i64 u.pfrom]])) ∨ (¬ u.steps.length = 0 ∧ ∃ e6, H 8 = some (e, .arr 6 [[.gr 606 e6 u.steps.length, .int .i64 u.single, .int .i64 u.sfrom, .int .i64 u.press.lo, .int .i64 u.press.hi, .int .i64 u.pfrom]]) ∧ H 606 = some (e6, .arr 2 (u.steps.map cStep))))
theorem looser_law (r : RunT) (u : RulesT) (l : List Int) (hl : By l) : PureC Try.prog 11 [encRun r, encRules u, .lst 1 (l.map c32)] (.bool true) := by
  by_cases hr : (!greatS r u && decide (checkE r u = 0)) = true
  · have hr2 : greatS r u = false ∧ checkE r u = 0 := by simpa using hr
    obtain ⟨hsm, hst⟩ := great_sm hr2.1
    obtain ⟨h1, h2⟩ := check0 hr2.2
    have hu : RulesB u := ⟨by omega⟩
    have hF := run_facts h1
    have hU := rules_facts h2
    have hrl := hF.rows
    have hsl := hU.len
    refine PureC_of (fn := Try.f11) tabOK (by kernel_rfl) rfl (by kernel_rfl) (by simp [Try.f11]) (by simp [noids, noid, noidss, go_sem, encRun, cRun, encRules, cRules]) (by first | rfl | simp [noids, noid, noidss, go_sem, encRun, cRun, encRules, cRules]) ?_
    intro X hX0 hXs
    repeat' (first | ((fail_if_success (with_reducible refine AW_at (id := 6) ?_)); with_reducible refine sk ?_; intro K hK) | ((first | (with_reducible first | refine rg (md := { base := 0, own := [8, 20, 22, 162] }) (h := ?_) | refine rgS [8, 20, 22] (md := { base := 0, own := [8, 20, 22, 162] }) (h := ?_) | refine nx ?_) | refine pK (alive_run) ?_ | refine pK (ready_ok r u) ?_); try simp (disch := omega) only [encRun, cRun, encRules, cRules, hr,go_sem, simprocAttr]) | (with_reducible refine bk ?_) | ((with_reducible refine' cE ?hv ?_ ?_); (case hv => first | rfl | (simp only [encRun, cRun, encRules, cRules, hr,go_sem, simprocAttr]; rfl)); all_goals (intro hc; (try simp only [go_sem, simprocAttr] at hc); try (exfalso; omega))) | ((with_reducible first | refine grdS_split ?_ ?_ | refine lkG_split ?_ ?_) <;> intro hg <;> (try simp (disch := omega) only [hg, encRun, cRun, encRules, cRules, hr,go_sem, simprocAttr]) <;> (try simp only [go_sem, simprocAttr] at hg) <;> (try (exfalso; omega))) | ((with_reducible refine fe ?_); refine ⟨_, (by simp only [Try.f11, encRun, cRun, encRules, cRules, hr,go_sem, simprocAttr]; rfl), ?_⟩; first | rfl | (try simp only [encRun, cRun, encRules, cRules, hr,go_sem, simprocAttr, seval])) | with_reducible intro (ep : Nat → Nat) | with_reducible apply_assumption -exfalso -symm only [*])
    refine sk ?_; intro K hK
    have hcut6 : ∀ f H, LooB r u l f H → K f H := by
      rintro f H ⟨⟨h2', h3, h4, h7⟩, e, h8, hH⟩
      refine hK f H ?_
      clear hK
      repeat' (first | ((fail_if_success (with_reducible refine AW_at (id := 7) ?_)); with_reducible refine sk ?_; intro K hK) | ((with_reducible first | refine rg (md := { base := 0, own := [8, 20, 22, 162] }) (h := ?_) | refine rgS [8, 20, 22] (md := { base := 0, own := [8, 20, 22, 162] }) (h := ?_) | refine nx ?_); try simp (disch := omega) only [h2', h3, h4, h7, h8,go_sem, simprocAttr]) | (with_reducible refine bk ?_) | ((with_reducible refine' cE ?hv ?_ ?_); (case hv => first | rfl | (simp only [h2', h3, h4, h7, h8,go_sem, simprocAttr]; rfl)); all_goals (intro hc; (try simp only [go_sem, simprocAttr] at hc); try (exfalso; omega))) | ((with_reducible first | refine grdS_split ?_ ?_ | refine lkG_split ?_ ?_) <;> intro hg <;> (try simp (disch := omega) only [hg, h2', h3, h4, h7, h8,go_sem, simprocAttr]) <;> (try simp only [go_sem, simprocAttr] at hg) <;> (try (exfalso; omega))) | ((with_reducible refine fe ?_); refine ⟨_, (by simp only [Try.f11, h2', h3, h4, h7, h8,go_sem, simprocAttr]; rfl), ?_⟩; first | rfl | (try simp only [h2', h3, h4, h7, h8,go_sem, simprocAttr, seval])) | with_reducible intro (ep : Nat → Nat) | with_reducible apply_assumption -exfalso -symm only [*])
      have hcut7 : ∀ f H, (∃ S e, LooP r u l f ∧ f 8 = .ptr 8 e 6 0 0 ∧ LooH u S e H ∧ LooserL u.steps S) → K f H := by
        clear h2' h3 h4 h7 h8 hH
        rintro f H ⟨S, e, ⟨h2', h3, h4, h7⟩, h8, hH, hS⟩
        refine hK f H ?_
        clear hK
        refine AW_loo hH fun H2 hH => ?_
        have b1 := chI_bnd hl 1
        have b2 := chI_bnd hl 2
        have b3 := chI_bnd hl 3
        have b4 := chI_bnd hl 4
        have us := hU.single
        have uf := hU.sfrom
        have up := hU.press
        have uq := hU.pfrom
        have z1 : ¬ 2000 - u.single + 1 = 0 := by omega
        have z2 : ¬ 600 - u.sfrom + 1 = 0 := by omega
        have z3 : ¬ u.press.lo + 100 + 1 = 0 := by omega
        have z4 : ¬ 600 - u.pfrom + 1 = 0 := by omega
        have p1 : 0 ≤ (chI l 1).tmod (2000 - u.single + 1) := Int.tmod_nonneg _ b1.1
        have q1 : (chI l 1).tmod (2000 - u.single + 1) < 2000 - u.single + 1 := Int.tmod_lt_of_pos _ (by omega)
        have p2 : 0 ≤ (chI l 2).tmod (600 - u.sfrom + 1) := Int.tmod_nonneg _ b2.1
        have q2 : (chI l 2).tmod (600 - u.sfrom + 1) < 600 - u.sfrom + 1 := Int.tmod_lt_of_pos _ (by omega)
        have p3 : 0 ≤ (chI l 3).tmod (u.press.lo + 100 + 1) := Int.tmod_nonneg _ b3.1
        have q3 : (chI l 3).tmod (u.press.lo + 100 + 1) < u.press.lo + 100 + 1 := Int.tmod_lt_of_pos _ (by omega)
        have p4 : 0 ≤ (chI l 4).tmod (600 - u.pfrom + 1) := Int.tmod_nonneg _ b4.1
        have q4 : (chI l 4).tmod (600 - u.pfrom + 1) < 600 - u.pfrom + 1 := Int.tmod_lt_of_pos _ (by omega)
        obtain ⟨d1, hd1⟩ : ∃ d, (chI l 1).tmod (2000 - u.single + 1) = d := ⟨_, rfl⟩
        obtain ⟨d2, hd2⟩ : ∃ d, (chI l 2).tmod (600 - u.sfrom + 1) = d := ⟨_, rfl⟩
        obtain ⟨d3, hd3⟩ : ∃ d, (chI l 3).tmod (u.press.lo + 100 + 1) = d := ⟨_, rfl⟩
        obtain ⟨d4, hd4⟩ : ∃ d, (chI l 4).tmod (600 - u.pfrom + 1) = d := ⟨_, rfl⟩
        rw [hd1] at p1 q1; rw [hd2] at p2 q2; rw [hd3] at p3 q3; rw [hd4] at p4 q4
        have hlo : Looser u ⟨S, u.single + d1, u.sfrom + d2, ⟨u.press.lo - d3, u.press.hi⟩, u.pfrom + d4⟩ := ⟨hS, by simp only; omega, by simp only; omega, ⟨by simp only; omega, by simp only; omega, rfl⟩, by simp only; omega⟩
        have h2u := looser_ok hlo h2
        have hSl := looserL_len hS
        have hu' : RulesB ⟨S, u.single + d1, u.sfrom + d2, ⟨u.press.lo - d3, u.press.hi⟩, u.pfrom + d4⟩ := ⟨by simp only; omega⟩
        have hc' : checkE r ⟨S, u.single + d1, u.sfrom + d2, ⟨u.press.lo - d3, u.press.hi⟩, u.pfrom + d4⟩ = 0 := by unfold checkE; rw [if_pos h1, if_pos h2u]
        have hdeg := fun m => deg_bnd (l := r.curve) hF.curve (m := m)
        have hun := looser_left (r := r) hlo hU (k := r.rows.length) (fun j hj => cumC_pos hdeg j (by omega))
        have hL := Left_ok r u hsm.b hu
        have hL' := Left_ok r _ hsm.b hu'
        have hC := Counts_ok r u hsm.b hu
        have hC' := Counts_ok r _ hsm.b hu'
        rw [leftT, if_pos hr2.2] at hL
        rw [leftT, if_pos hc'] at hL'
        rw [countT, if_pos hr2.2] at hC
        rw [countT, if_pos hc'] at hC'
        have hpa : (leftS r u).Pairwise brLt := leftB_pair hF
        have hla : (leftS r u).length ≤ 1000 := by
          have := leftB_len (u := u) hF r.rows.length
          have : (leftS r u).length ≤ 11 * r.rows.length := this
          omega
        have hlb := leftB_len (u := ⟨S, u.single + d1, u.sfrom + d2, ⟨u.press.lo - d3, u.press.hi⟩, u.pfrom + d4⟩) hF r.rows.length
        have hco := under_count (l := leftS r u) hun hpa (n := r.rows.length) fun b hb => (left_m hb).2
        have hkn : ∀ b ∈ leftS r ⟨S, u.single + d1, u.sfrom + d2, ⟨u.press.lo - d3, u.press.hi⟩, u.pfrom + d4⟩, b.known ≤ knownOf (leftS r u) b ∧ 1 ≤ b.known := fun b hb => by
          obtain ⟨a, ha, hs, hk⟩ := hun b hb
          rw [knownOf_mem hpa ha hs]
          exact ⟨hk, (oneB_known hb).1⟩
        have hbd : (leftS r ⟨S, u.single + d1, u.sfrom + d2, ⟨u.press.lo - d3, u.press.hi⟩, u.pfrom + d4⟩).length ≤ 1000 := by
          have : (leftS r ⟨S, u.single + d1, u.sfrom + d2, ⟨u.press.lo - d3, u.press.hi⟩, u.pfrom + d4⟩).length ≤ 11 * r.rows.length := hlb
          omega
        obtain ⟨A, hA⟩ : ∃ A, leftS r u = A := ⟨_, rfl⟩
        obtain ⟨B, hB⟩ : ∃ B, leftS r ⟨S, u.single + d1, u.sfrom + d2, ⟨u.press.lo - d3, u.press.hi⟩, u.pfrom + d4⟩ = B := ⟨_, rfl⟩
        rw [hA] at hL hC hpa hla hco hkn
        rw [hB] at hL' hC' hkn hbd
        have hco : countL A r.rows.length ≤ countL B r.rows.length := by rw [← hB]; exact hco
        obtain ⟨n1, hn1⟩ : ∃ n, countL A r.rows.length = n := ⟨_, rfl⟩
        obtain ⟨n2, hn2⟩ : ∃ n, countL B r.rows.length = n := ⟨_, rfl⟩
        rw [hn1] at hC hco
        rw [hn2] at hC' hco
        have ham := among_ok B A hpa (by omega) (by omega)
        have hamt : amongB B A = true := by
          simp only [amongB, List.all_eq_true, decide_eq_true_eq]
          exact fun b hb => by have := hkn b hb; omega
        rw [hamt] at ham
        simp only [encRules, cRules] at hL' hC'
        clear hun hlb hlo h2u hc' hu'
        repeat' (first | ((fail_if_success (with_reducible refine AW_at (id := 22) ?_)); with_reducible refine sk ?_; intro K hK) | ((first | (with_reducible first | refine rg (md := { base := 0, own := [8, 20, 22, 162] }) (h := ?_) | refine rgS [8, 20, 22] (md := { base := 0, own := [8, 20, 22, 162] }) (h := ?_) | refine nx ?_) | refine pK (choose_ok l 1 (by omega)) ?_ | refine pK (choose_ok l 2 (by omega)) ?_ | refine pK (choose_ok l 3 (by omega)) ?_ | refine pK (choose_ok l 4 (by omega)) ?_ | refine pK (hL) ?_ | refine pK (hL') ?_ | refine pK (hC) ?_ | refine pK (hC') ?_ | refine pK (ham) ?_); try simp (disch := omega) only [h2', h3, h4, h7, h8, hH, z1, z2, z3, z4, hd1, hd2, hd3, hd4, hco, cRun, cRules,go_sem, simprocAttr]) | (with_reducible refine bk ?_) | ((with_reducible refine' cE ?hv ?_ ?_); (case hv => first | rfl | (simp only [h2', h3, h4, h7, h8, hH, z1, z2, z3, z4, hd1, hd2, hd3, hd4, hco, cRun, cRules,go_sem, simprocAttr]; rfl)); all_goals (intro hc; (try simp only [go_sem, simprocAttr] at hc); try (exfalso; omega))) | ((with_reducible first | refine grdS_split ?_ ?_ | refine lkG_split ?_ ?_) <;> intro hg <;> (try simp (disch := omega) only [hg, h2', h3, h4, h7, h8, hH, z1, z2, z3, z4, hd1, hd2, hd3, hd4, hco, cRun, cRules,go_sem, simprocAttr]) <;> (try simp only [go_sem, simprocAttr] at hg) <;> (try (exfalso; omega))) | ((with_reducible refine fe ?_); refine ⟨_, (by simp only [Try.f11, h2', h3, h4, h7, h8, hH, z1, z2, z3, z4, hd1, hd2, hd3, hd4, hco, cRun, cRules,go_sem, simprocAttr]; rfl), ?_⟩; first | rfl | (try simp only [h2', h3, h4, h7, h8, hH, z1, z2, z3, z4, hd1, hd2, hd3, hd4, hco, cRun, cRules,go_sem, simprocAttr, seval])) | with_reducible intro (ep : Nat → Nat) | with_reducible apply_assumption -exfalso -symm only [*])
        refine AW_gen (I := fun f H => f 7 = .bool true ∧ f 10 = .lst 4 (A.map cBrc) ∧ f 12 = .lst 4 (B.map cBrc)) ⟨by (first | rfl | (simp only [h7, go_sem, simprocAttr]; done) | (simp only [h7, go_sem, simprocAttr]; rfl)), by (first | rfl | (simp only [go_sem, simprocAttr]; done) | (simp only [go_sem, simprocAttr]; rfl)), by (first | rfl | (simp only [go_sem, simprocAttr]; done) | (simp only [go_sem, simprocAttr]; rfl))⟩ ?_
        clear h2' h3 h4 h7 h8 hH
        rintro f H ⟨h7, h10, h12⟩
        refine AW_keep [] ?_
        repeat' (first | (with_reducible refine sk ?_; intro K hK) | ((with_reducible first | refine rg (md := { base := 0, own := [8, 20, 22, 162] }) (h := ?_) | refine rgS [8, 20, 22] (md := { base := 0, own := [8, 20, 22, 162] }) (h := ?_) | refine nx ?_); try simp (disch := omega) only [h7, h10, h12,go_sem, simprocAttr]) | (with_reducible refine bk ?_) | ((with_reducible refine' cE ?hv ?_ ?_); (case hv => first | rfl | (simp only [h7, h10, h12,go_sem, simprocAttr]; rfl)); all_goals (intro hc; (try simp only [go_sem, simprocAttr] at hc); try (exfalso; omega))) | ((with_reducible first | refine grdS_split ?_ ?_ | refine lkG_split ?_ ?_) <;> intro hg <;> (try simp (disch := omega) only [hg, h7, h10, h12,go_sem, simprocAttr]) <;> (try simp only [go_sem, simprocAttr] at hg) <;> (try (exfalso; omega))) | ((with_reducible refine fe ?_); refine ⟨_, (by simp only [Try.f11, h7, h10, h12,go_sem, simprocAttr]; rfl), ?_⟩; first | rfl | (try simp only [h7, h10, h12,go_sem, simprocAttr, seval])) | with_reducible intro (ep : Nat → Nat) | with_reducible apply_assumption -exfalso -symm only [*])
        refine AW_range tabOK A.length (fun k f H => (f 7 = .bool true ∧ f 12 = .lst 4 (B.map cBrc) ∧ f 163 = .lst 4 (A.map cBrc)) ∧ ∃ e v, f 18 = .map 162 e ∧ H 162 = some (e, .map v (kmap vKn (A.take k)))) (by omega) (by rw [hXs]; decide) (by decide) (by (first | rfl | (simp only [go_sem, simprocAttr]; done) | (simp only [go_sem, simprocAttr]; rfl))) (by (first | rfl | (simp only [go_sem, simprocAttr]; done) | (simp only [go_sem, simprocAttr]; rfl))) ⟨by (and_intros <;> first | rfl | (simp only [h7, h12, go_sem, simprocAttr]; done) | (simp only [h7, h12, go_sem, simprocAttr]; rfl)), _, _, by (first | rfl | (simp only [go_sem, simprocAttr]; done) | (simp only [go_sem, simprocAttr]; rfl)), by (first | rfl | (simp only [kmap, go_sem, simprocAttr]; done) | (simp only [kmap, go_sem, simprocAttr]; rfl))⟩ ?_ ?_
        · clear h7 h10 h12
          rintro k f H hk h165 h164 ⟨⟨h7, h12, h163⟩, e, v, h18, hH⟩
          obtain ⟨b, hb⟩ : ∃ b, A[k]? = some b := ⟨_, List.getElem?_eq_getElem hk⟩
          have hfi := xfind_kmap (b := b) (v := vKn) (A.take k) 0
          rw [findB_none (not_same hpa hb), limK] at hfi
          refine AW_keep [162] ?_
          repeat' (first | (with_reducible refine sk ?_; intro K hK) | ((with_reducible first | refine rg (md := { base := 0, own := [8, 20, 22, 162] }) (h := ?_) | refine rgS [8, 20, 22] (md := { base := 0, own := [8, 20, 22, 162] }) (h := ?_) | refine nx ?_); try simp (disch := omega) only [h7, h12, h163, h164, h165, h18, hH, hb, hfi, cBrc,go_sem, simprocAttr]) | (with_reducible refine bk ?_) | ((with_reducible refine' cE ?hv ?_ ?_); (case hv => first | rfl | (simp only [h7, h12, h163, h164, h165, h18, hH, hb, hfi, cBrc,go_sem, simprocAttr]; rfl)); all_goals (intro hc; (try simp only [go_sem, simprocAttr] at hc); try (exfalso; omega))) | ((with_reducible first | refine grdS_split ?_ ?_ | refine lkG_split ?_ ?_) <;> intro hg <;> (try simp (disch := omega) only [hg, h7, h12, h163, h164, h165, h18, hH, hb, hfi, cBrc,go_sem, simprocAttr]) <;> (try simp only [go_sem, simprocAttr] at hg) <;> (try (exfalso; omega))) | ((with_reducible refine fe ?_); refine ⟨_, (by simp only [Try.f11, h7, h12, h163, h164, h165, h18, hH, hb, hfi, cBrc,go_sem, simprocAttr]; rfl), ?_⟩; first | rfl | (try simp only [h7, h12, h163, h164, h165, h18, hH, hb, hfi, cBrc,go_sem, simprocAttr, seval])) | with_reducible intro (ep : Nat → Nat) | with_reducible apply_assumption -exfalso -symm only [*])
          exact ⟨_, _, rfl, by rw [take_snoc' hb, ← kmap_snoc]; rfl⟩
        · clear h7 h10 h12
          rintro f H h165 h164 ⟨⟨h7, h12, h163⟩, e, v, h18, hH⟩
          rw [List.take_of_length_le (Nat.le_refl _)] at hH
          repeat' (first | (with_reducible refine sk ?_; intro K hK) | ((with_reducible first | refine rg (md := { base := 0, own := [8, 20, 22, 162] }) (h := ?_) | refine rgS [8, 20, 22] (md := { base := 0, own := [8, 20, 22, 162] }) (h := ?_) | refine nx ?_); try simp (disch := omega) only [h7, h12, h18, hH,go_sem, simprocAttr]) | (with_reducible refine bk ?_) | ((with_reducible refine' cE ?hv ?_ ?_); (case hv => first | rfl | (simp only [h7, h12, h18, hH,go_sem, simprocAttr]; rfl)); all_goals (intro hc; (try simp only [go_sem, simprocAttr] at hc); try (exfalso; omega))) | ((with_reducible first | refine grdS_split ?_ ?_ | refine lkG_split ?_ ?_) <;> intro hg <;> (try simp (disch := omega) only [hg, h7, h12, h18, hH,go_sem, simprocAttr]) <;> (try simp only [go_sem, simprocAttr] at hg) <;> (try (exfalso; omega))) | ((with_reducible refine fe ?_); refine ⟨_, (by simp only [Try.f11, h7, h12, h18, hH,go_sem, simprocAttr]; rfl), ?_⟩; first | rfl | (try simp only [h7, h12, h18, hH,go_sem, simprocAttr, seval])) | with_reducible intro (ep : Nat → Nat) | with_reducible apply_assumption -exfalso -symm only [*])
          refine AW_range tabOK B.length (fun k f H => (f 7 = .bool true ∧ f 180 = .lst 4 (B.map cBrc)) ∧ ∃ e v, f 18 = .map 162 e ∧ H 162 = some (e, .map v (kmap vKn A))) (by omega) (by rw [hXs]; decide) (by decide) (by (first | rfl | (simp only [go_sem, simprocAttr]; done) | (simp only [go_sem, simprocAttr]; rfl))) (by (first | rfl | (simp only [go_sem, simprocAttr]; done) | (simp only [go_sem, simprocAttr]; rfl))) ⟨by (and_intros <;> first | rfl | (simp only [h7, h12, go_sem, simprocAttr]; done) | (simp only [h7, h12, go_sem, simprocAttr]; rfl)), _, _, by (first | rfl | (simp only [h18, go_sem, simprocAttr]; done) | (simp only [h18, go_sem, simprocAttr]; rfl)), by (first | rfl | (simp only [hH, go_sem, simprocAttr]; done) | (simp only [hH, go_sem, simprocAttr]; rfl))⟩ ?_ ?_
          · clear h7 h12 h18 hH h163 h164 h165
            rintro k f H hk h182 h181 ⟨⟨h7, h180⟩, e, v, h18, hH⟩
            obtain ⟨b, hb⟩ : ∃ b, B[k]? = some b := ⟨_, List.getElem?_eq_getElem hk⟩
            have hkb := (hkn b (List.mem_of_getElem? hb)).1
            have hfi := xfind_kmap (b := b) (v := vKn) A 0
            have hlk := findB_known (b := b) (l := A) (i := 0)
            rw [limK] at hfi
            refine AW_keep [162] ?_
            repeat' (first | (with_reducible refine sk ?_; intro K hK) | ((with_reducible first | refine rg (md := { base := 0, own := [8, 20, 22, 162] }) (h := ?_) | refine rgS [8, 20, 22] (md := { base := 0, own := [8, 20, 22, 162] }) (h := ?_) | refine nx ?_); try simp (disch := omega) only [h7, h18, h180, h181, h182, hH, hb, hfi, hlk, hkb, cBrc,go_sem, simprocAttr]) | (with_reducible refine bk ?_) | ((with_reducible refine' cE ?hv ?_ ?_); (case hv => first | rfl | (simp only [h7, h18, h180, h181, h182, hH, hb, hfi, hlk, hkb, cBrc,go_sem, simprocAttr]; rfl)); all_goals (intro hc; (try simp only [go_sem, simprocAttr] at hc); try (exfalso; omega))) | ((with_reducible first | refine grdS_split ?_ ?_ | refine lkG_split ?_ ?_) <;> intro hg <;> (try simp (disch := omega) only [hg, h7, h18, h180, h181, h182, hH, hb, hfi, hlk, hkb, cBrc,go_sem, simprocAttr]) <;> (try simp only [go_sem, simprocAttr] at hg) <;> (try (exfalso; omega))) | ((with_reducible refine fe ?_); refine ⟨_, (by simp only [Try.f11, h7, h18, h180, h181, h182, hH, hb, hfi, hlk, hkb, cBrc,go_sem, simprocAttr]; rfl), ?_⟩; first | rfl | (try simp only [h7, h18, h180, h181, h182, hH, hb, hfi, hlk, hkb, cBrc,go_sem, simprocAttr, seval])) | with_reducible intro (ep : Nat → Nat) | with_reducible apply_assumption -exfalso -symm only [*])
            exact ⟨_, _, rfl, rfl⟩
          · clear h7 h12 h18 hH h163 h164 h165
            rintro f H h182 h181 ⟨⟨h7, h180⟩, e, v, h18, hH⟩
            repeat' (first | (with_reducible refine sk ?_; intro K hK) | ((with_reducible first | refine rg (md := { base := 0, own := [8, 20, 22, 162] }) (h := ?_) | refine rgS [8, 20, 22] (md := { base := 0, own := [8, 20, 22, 162] }) (h := ?_) | refine nx ?_); try simp (disch := omega) only [h7,go_sem, simprocAttr]) | (with_reducible refine bk ?_) | ((with_reducible refine' cE ?hv ?_ ?_); (case hv => first | rfl | (simp only [h7,go_sem, simprocAttr]; rfl)); all_goals (intro hc; (try simp only [go_sem, simprocAttr] at hc); try (exfalso; omega))) | ((with_reducible first | refine grdS_split ?_ ?_ | refine lkG_split ?_ ?_) <;> intro hg <;> (try simp (disch := omega) only [hg, h7,go_sem, simprocAttr]) <;> (try simp only [go_sem, simprocAttr] at hg) <;> (try (exfalso; omega))) | ((with_reducible refine fe ?_); refine ⟨_, (by simp only [Try.f11, h7,go_sem, simprocAttr]; rfl), ?_⟩; first | rfl | (try simp only [h7,go_sem, simprocAttr, seval])) | with_reducible intro (ep : Nat → Nat) | with_reducible apply_assumption -exfalso -symm only [*])
      clear hK
      rcases hH with ⟨h0, hH⟩ | ⟨h0, e6, hH, hH6⟩
      · repeat' (first | (with_reducible refine sk ?_; intro K hK) | ((with_reducible first | refine rg (md := { base := 0, own := [8, 20, 22, 162] }) (h := ?_) | refine rgS [8, 20, 22] (md := { base := 0, own := [8, 20, 22, 162] }) (h := ?_) | refine nx ?_); try simp (disch := omega) only [h2', h3, h4, h7, h8, hH,go_sem, simprocAttr]) | (with_reducible refine bk ?_) | ((with_reducible refine' cE ?hv ?_ ?_); (case hv => first | rfl | (simp only [h2', h3, h4, h7, h8, hH,go_sem, simprocAttr]; rfl)); all_goals (intro hc; (try simp only [go_sem, simprocAttr] at hc); try (exfalso; omega))) | ((with_reducible first | refine grdS_split ?_ ?_ | refine lkG_split ?_ ?_) <;> intro hg <;> (try simp (disch := omega) only [hg, h2', h3, h4, h7, h8, hH,go_sem, simprocAttr]) <;> (try simp only [go_sem, simprocAttr] at hg) <;> (try (exfalso; omega))) | ((with_reducible refine fe ?_); refine ⟨_, (by simp only [Try.f11, h2', h3, h4, h7, h8, hH,go_sem, simprocAttr]; rfl), ?_⟩; first | rfl | (try simp only [h2', h3, h4, h7, h8, hH,go_sem, simprocAttr, seval])) | with_reducible intro (ep : Nat → Nat) | with_reducible apply_assumption -exfalso -symm only [*])
        refine AW_range tabOK u.steps.length (fun k f H => LooP r u l f ∧ f 8 = .ptr 8 e 6 0 0 ∧ H 8 = some (e, .arr 6 [[.lst 2 (u.steps.map cStep), .int .i64 u.single, .int .i64 u.sfrom, .int .i64 u.press.lo, .int .i64 u.press.hi, .int .i64 u.pfrom]])) (by omega) (by rw [hXs]; decide) (by decide) (by (first | rfl | (simp only [go_sem, simprocAttr]; done) | (simp only [go_sem, simprocAttr]; rfl))) (by (first | rfl | (simp only [go_sem, simprocAttr]; done) | (simp only [go_sem, simprocAttr]; rfl))) ⟨⟨by (first | rfl | (simp only [h2', go_sem, simprocAttr]; done) | (simp only [h2', go_sem, simprocAttr]; rfl)), by (first | rfl | (simp only [h3, go_sem, simprocAttr]; done) | (simp only [h3, go_sem, simprocAttr]; rfl)), by (first | rfl | (simp only [h4, go_sem, simprocAttr]; done) | (simp only [h4, go_sem, simprocAttr]; rfl)), by (first | rfl | (simp only [h7, go_sem, simprocAttr]; done) | (simp only [h7, go_sem, simprocAttr]; rfl))⟩, by (first | rfl | (simp only [h8, go_sem, simprocAttr]; done) | (simp only [h8, go_sem, simprocAttr]; rfl)), by (first | rfl | (simp only [hH, go_sem, simprocAttr]; done) | (simp only [hH, go_sem, simprocAttr]; rfl))⟩ ?_ ?_
        · intro k f H hk; omega
        · rintro f H h36 h35 ⟨⟨h2', h3, h4, h7⟩, h8, hH⟩
          repeat' (first | (with_reducible refine sk ?_; intro K hK) | ((with_reducible first | refine rg (md := { base := 0, own := [8, 20, 22, 162] }) (h := ?_) | refine rgS [8, 20, 22] (md := { base := 0, own := [8, 20, 22, 162] }) (h := ?_) | refine nx ?_); try simp (disch := omega) only [h2', h3, h4, h7, h8, hH,go_sem, simprocAttr]) | (with_reducible refine bk ?_) | ((with_reducible refine' cE ?hv ?_ ?_); (case hv => first | rfl | (simp only [h2', h3, h4, h7, h8, hH,go_sem, simprocAttr]; rfl)); all_goals (intro hc; (try simp only [go_sem, simprocAttr] at hc); try (exfalso; omega))) | ((with_reducible first | refine grdS_split ?_ ?_ | refine lkG_split ?_ ?_) <;> intro hg <;> (try simp (disch := omega) only [hg, h2', h3, h4, h7, h8, hH,go_sem, simprocAttr]) <;> (try simp only [go_sem, simprocAttr] at hg) <;> (try (exfalso; omega))) | ((with_reducible refine fe ?_); refine ⟨_, (by simp only [Try.f11, h2', h3, h4, h7, h8, hH,go_sem, simprocAttr]; rfl), ?_⟩; first | rfl | (try simp only [h2', h3, h4, h7, h8, hH,go_sem, simprocAttr, seval])) | with_reducible intro (ep : Nat → Nat) | with_reducible apply_assumption -exfalso -symm only [*])
          exact ⟨u.steps, e, ⟨by (first | rfl | (simp only [h2', go_sem, simprocAttr]; done) | (simp only [h2', go_sem, simprocAttr]; rfl)), by (first | rfl | (simp only [h3, go_sem, simprocAttr]; done) | (simp only [h3, go_sem, simprocAttr]; rfl)), by (first | rfl | (simp only [h4, go_sem, simprocAttr]; done) | (simp only [h4, go_sem, simprocAttr]; rfl)), by (first | rfl | (simp only [h7, go_sem, simprocAttr]; done) | (simp only [h7, go_sem, simprocAttr]; rfl))⟩, by (first | rfl | (simp only [h8, go_sem, simprocAttr]; done) | (simp only [h8, go_sem, simprocAttr]; rfl)), .inl (by (first | rfl | (simp only [hH, go_sem, simprocAttr]; done) | (simp only [hH, go_sem, simprocAttr]; rfl))), looserL_of rfl fun i s s' h1 h2 => by rw [h1] at h2; cases h2; have := hU.step s (List.mem_of_getElem? h1); exact ⟨rfl, by omega⟩⟩
      · repeat' (first | (with_reducible refine sk ?_; intro K hK) | ((with_reducible first | refine rg (md := { base := 0, own := [8, 20, 22, 162] }) (h := ?_) | refine rgS [8, 20, 22] (md := { base := 0, own := [8, 20, 22, 162] }) (h := ?_) | refine nx ?_); try simp (disch := omega) only [h2', h3, h4, h7, h8, hH, hH6,go_sem, simprocAttr]) | (with_reducible refine bk ?_) | ((with_reducible refine' cE ?hv ?_ ?_); (case hv => first | rfl | (simp only [h2', h3, h4, h7, h8, hH, hH6,go_sem, simprocAttr]; rfl)); all_goals (intro hc; (try simp only [go_sem, simprocAttr] at hc); try (exfalso; omega))) | ((with_reducible first | refine grdS_split ?_ ?_ | refine lkG_split ?_ ?_) <;> intro hg <;> (try simp (disch := omega) only [hg, h2', h3, h4, h7, h8, hH, hH6,go_sem, simprocAttr]) <;> (try simp only [go_sem, simprocAttr] at hg) <;> (try (exfalso; omega))) | ((with_reducible refine fe ?_); refine ⟨_, (by simp only [Try.f11, h2', h3, h4, h7, h8, hH, hH6,go_sem, simprocAttr]; rfl), ?_⟩; first | rfl | (try simp only [h2', h3, h4, h7, h8, hH, hH6,go_sem, simprocAttr, seval])) | with_reducible intro (ep : Nat → Nat) | with_reducible apply_assumption -exfalso -symm only [*])
        refine AW_range tabOK u.steps.length (fun k f H => LooP r u l f ∧ f 8 = .ptr 8 e 6 0 0 ∧ H 8 = some (e, .arr 6 [[.gr 606 e6 u.steps.length, .int .i64 u.single, .int .i64 u.sfrom, .int .i64 u.press.lo, .int .i64 u.press.hi, .int .i64 u.pfrom]]) ∧ ∃ S : List StepT, H 606 = some (e6, .arr 2 (S.map cStep)) ∧ S.length = u.steps.length ∧ (∀ (i : Nat) (s s' : StepT), i < k → u.steps[i]? = some s → S[i]? = some s' → LooserSt s s') ∧ ∀ i, k ≤ i → S[i]? = u.steps[i]?) (by omega) (by rw [hXs]; decide) (by decide) (by (first | rfl | (simp only [hH6, go_sem, simprocAttr]; done) | (simp only [hH6, go_sem, simprocAttr]; rfl))) (by (first | rfl | (simp only [hH6, go_sem, simprocAttr]; done) | (simp only [hH6, go_sem, simprocAttr]; rfl)))
          ⟨⟨by (first | rfl | (simp only [h2', go_sem, simprocAttr]; done) | (simp only [h2', go_sem, simprocAttr]; rfl)), by (first | rfl | (simp only [h3, go_sem, simprocAttr]; done) | (simp only [h3, go_sem, simprocAttr]; rfl)), by (first | rfl | (simp only [h4, go_sem, simprocAttr]; done) | (simp only [h4, go_sem, simprocAttr]; rfl)), by (first | rfl | (simp only [h7, go_sem, simprocAttr]; done) | (simp only [h7, go_sem, simprocAttr]; rfl))⟩, by (first | rfl | (simp only [h8, go_sem, simprocAttr]; done) | (simp only [h8, go_sem, simprocAttr]; rfl)), by (first | rfl | (simp only [hH, go_sem, simprocAttr]; done) | (simp only [hH, go_sem, simprocAttr]; rfl)), u.steps, by (first | rfl | (simp only [hH6, go_sem, simprocAttr]; done) | (simp only [hH6, go_sem, simprocAttr]; rfl)), rfl, fun i s s' h => by omega, fun i _ => rfl⟩ ?_ ?_
        · clear h2' h3 h4 h7 h8 hH hH6 hcut7
          rintro k f H hk h36 h35 ⟨⟨h2', h3, h4, h7⟩, h8, hH, S, hH6, hSl, hS1, hS2⟩
          obtain ⟨s, hs⟩ : ∃ s, u.steps[k]? = some s := ⟨_, List.getElem?_eq_getElem hk⟩
          have hSk : S[k]? = some s := by rw [hS2 k (Nat.le_refl _)]; exact hs
          have hsb := hU.step s (List.mem_of_getElem? hs)
          have hch := chI_bnd hl (k : Int)
          have hz : ¬ 1000 - s.part + 1 = 0 := by omega
          have hd0 : 0 ≤ (chI l (k : Int)).tmod (1000 - s.part + 1) := Int.tmod_nonneg _ hch.1
          have hd1 : (chI l (k : Int)).tmod (1000 - s.part + 1) < 1000 - s.part + 1 := Int.tmod_lt_of_pos _ (by omega)
          obtain ⟨d, hd⟩ : ∃ d, (chI l (k : Int)).tmod (1000 - s.part + 1) = d := ⟨_, rfl⟩
          rw [hd] at hd0 hd1
          refine AW_keep [8, 606] ?_
          repeat' (first | (with_reducible refine sk ?_; intro K hK) | ((first | (with_reducible first | refine rg (md := { base := 0, own := [8, 20, 22, 162] }) (h := ?_) | refine rgS [8, 20, 22] (md := { base := 0, own := [8, 20, 22, 162] }) (h := ?_) | refine nx ?_) | refine pK (choose_ok l k (by omega)) ?_); try simp (disch := omega) only [h2', h3, h4, h7, h8, h35, h36, hH, hH6, hSk, hSl, hk, hz, hd, cStep,go_sem, simprocAttr]) | (with_reducible refine bk ?_) | ((with_reducible refine' cE ?hv ?_ ?_); (case hv => first | rfl | (simp only [h2', h3, h4, h7, h8, h35, h36, hH, hH6, hSk, hSl, hk, hz, hd, cStep,go_sem, simprocAttr]; rfl)); all_goals (intro hc; (try simp only [go_sem, simprocAttr] at hc); try (exfalso; omega))) | ((with_reducible first | refine grdS_split ?_ ?_ | refine lkG_split ?_ ?_) <;> intro hg <;> (try simp (disch := omega) only [hg, h2', h3, h4, h7, h8, h35, h36, hH, hH6, hSk, hSl, hk, hz, hd, cStep,go_sem, simprocAttr]) <;> (try simp only [go_sem, simprocAttr] at hg) <;> (try (exfalso; omega))) | ((with_reducible refine fe ?_); refine ⟨_, (by simp only [Try.f11, h2', h3, h4, h7, h8, h35, h36, hH, hH6, hSk, hSl, hk, hz, hd, cStep,go_sem, simprocAttr]; rfl), ?_⟩; first | rfl | (try simp only [h2', h3, h4, h7, h8, h35, h36, hH, hH6, hSk, hSl, hk, hz, hd, cStep,go_sem, simprocAttr, seval])) | with_reducible intro (ep : Nat → Nat) | with_reducible apply_assumption -exfalso -symm only [*])
          refine ⟨⟨by (first | rfl | (simp only [h2', go_sem, simprocAttr]; done) | (simp only [h2', go_sem, simprocAttr]; rfl)), by (first | rfl | (simp only [h3, go_sem, simprocAttr]; done) | (simp only [h3, go_sem, simprocAttr]; rfl)), by (first | rfl | (simp only [h4, go_sem, simprocAttr]; done) | (simp only [h4, go_sem, simprocAttr]; rfl)), by (first | rfl | (simp only [h7, go_sem, simprocAttr]; done) | (simp only [h7, go_sem, simprocAttr]; rfl))⟩, S.set k ⟨s.frm, s.part + d⟩, by rw [List.map_set]; rfl, by simp [hSl], fun i s1 s' hi h1 h2 => ?_, fun i hi => ?_⟩
          · by_cases hik : i = k
            · subst hik
              rw [List.getElem?_set_self (by omega)] at h2
              rw [hs] at h1; cases h1; cases h2
              exact ⟨rfl, by simp only; omega⟩
            · rw [List.getElem?_set_ne (by omega)] at h2
              exact hS1 i s1 s' (by omega) h1 h2
          · rw [List.getElem?_set_ne (by omega)]; exact hS2 i (by omega)
        · rintro f H h36 h35 ⟨⟨h2', h3, h4, h7⟩, h8, hH, S, hH6, hSl, hS1, hS2⟩
          repeat' (first | (with_reducible refine sk ?_; intro K hK) | ((with_reducible first | refine rg (md := { base := 0, own := [8, 20, 22, 162] }) (h := ?_) | refine rgS [8, 20, 22] (md := { base := 0, own := [8, 20, 22, 162] }) (h := ?_) | refine nx ?_); try simp (disch := omega) only [h2', h3, h4, h7, h8,go_sem, simprocAttr]) | (with_reducible refine bk ?_) | ((with_reducible refine' cE ?hv ?_ ?_); (case hv => first | rfl | (simp only [h2', h3, h4, h7, h8,go_sem, simprocAttr]; rfl)); all_goals (intro hc; (try simp only [go_sem, simprocAttr] at hc); try (exfalso; omega))) | ((with_reducible first | refine grdS_split ?_ ?_ | refine lkG_split ?_ ?_) <;> intro hg <;> (try simp (disch := omega) only [hg, h2', h3, h4, h7, h8,go_sem, simprocAttr]) <;> (try simp only [go_sem, simprocAttr] at hg) <;> (try (exfalso; omega))) | ((with_reducible refine fe ?_); refine ⟨_, (by simp only [Try.f11, h2', h3, h4, h7, h8,go_sem, simprocAttr]; rfl), ?_⟩; first | rfl | (try simp only [h2', h3, h4, h7, h8,go_sem, simprocAttr, seval])) | with_reducible intro (ep : Nat → Nat) | with_reducible apply_assumption -exfalso -symm only [*])
          exact ⟨S, e, ⟨by (first | rfl | (simp only [h2', go_sem, simprocAttr]; done) | (simp only [h2', go_sem, simprocAttr]; rfl)), by (first | rfl | (simp only [h3, go_sem, simprocAttr]; done) | (simp only [h3, go_sem, simprocAttr]; rfl)), by (first | rfl | (simp only [h4, go_sem, simprocAttr]; done) | (simp only [h4, go_sem, simprocAttr]; rfl)), by (first | rfl | (simp only [h7, go_sem, simprocAttr]; done) | (simp only [h7, go_sem, simprocAttr]; rfl))⟩, by (first | rfl | (simp only [h8, go_sem, simprocAttr]; done) | (simp only [h8, go_sem, simprocAttr]; rfl)), .inr ⟨e6, by rw [hSl]; exact hH, hH6⟩, looserL_of hSl fun i s s' h1 h2 => hS1 i s s' (by have := (List.getElem?_eq_some_iff.1 h1).1; omega) h1 h2⟩
    clear hK
    by_cases hne : u.steps.length = 0
    · repeat' (first | (with_reducible refine sk ?_; intro K hK) | ((first | (with_reducible first | refine rg (md := { base := 0, own := [8, 20, 22, 162] }) (h := ?_) | refine rgS [8, 20, 22] (md := { base := 0, own := [8, 20, 22, 162] }) (h := ?_) | refine nx ?_) | refine pK (twinRules_ok u (by omega)) ?_); try simp (disch := omega) only [encRun, cRun, encRules, cRules,go_sem, simprocAttr]) | (with_reducible refine bk ?_) | ((with_reducible refine' cE ?hv ?_ ?_); (case hv => first | rfl | (simp only [encRun, cRun, encRules, cRules,go_sem, simprocAttr]; rfl)); all_goals (intro hc; (try simp only [go_sem, simprocAttr] at hc); try (exfalso; omega))) | ((with_reducible first | refine grdS_split ?_ ?_ | refine lkG_split ?_ ?_) <;> intro hg <;> (try simp (disch := omega) only [hg, encRun, cRun, encRules, cRules,go_sem, simprocAttr]) <;> (try simp only [go_sem, simprocAttr] at hg) <;> (try (exfalso; omega))) | ((with_reducible refine fe ?_); refine ⟨_, (by simp only [Try.f11, encRun, cRun, encRules, cRules,go_sem, simprocAttr]; rfl), ?_⟩; first | rfl | (try simp only [encRun, cRun, encRules, cRules,go_sem, simprocAttr, seval])) | with_reducible intro (ep : Nat → Nat) | with_reducible apply_assumption -exfalso -symm only [*])
      exact ⟨by (and_intros <;> first | rfl | (simp only [cRun, cRules, go_sem, simprocAttr]; done) | (simp only [cRun, cRules, go_sem, simprocAttr]; rfl)), _, by (first | rfl | (simp only [go_sem, simprocAttr]; done) | (simp only [go_sem, simprocAttr]; rfl)), .inl ⟨hne, by (first | rfl | (simp only [go_sem, simprocAttr]; done) | (simp only [go_sem, simprocAttr]; rfl))⟩⟩
    ·
      repeat' (first | (with_reducible refine sk ?_; intro K hK) | ((first | (with_reducible first | refine rg (md := { base := 0, own := [8, 20, 22, 162], imp := [32] }) (h := ?_) | refine rgS [8, 20, 22] (md := { base := 0, own := [8, 20, 22, 162], imp := [32] }) (h := ?_) | refine nx ?_) | refine pK (twinRulesA_ok u (by omega) hne _) ?_); try simp (disch := omega) only [encRun, cRun, encRules, cRules,go_sem, simprocAttr]) | (with_reducible refine bk ?_) | ((with_reducible refine' cE ?hv ?_ ?_); (case hv => first | rfl | (simp only [encRun, cRun, encRules, cRules,go_sem, simprocAttr]; rfl)); all_goals (intro hc; (try simp only [go_sem, simprocAttr] at hc); try (exfalso; omega))) | ((with_reducible first | refine grdS_split ?_ ?_ | refine lkG_split ?_ ?_) <;> intro hg <;> (try simp (disch := omega) only [hg, encRun, cRun, encRules, cRules,go_sem, simprocAttr]) <;> (try simp only [go_sem, simprocAttr] at hg) <;> (try (exfalso; omega))) | (first | refine iK (twinRulesA_ok u (by omega) hne _) ?_) | ((with_reducible refine fe ?_); refine ⟨_, (by simp only [Try.f11, encRun, cRun, encRules, cRules,go_sem, simprocAttr]; rfl), ?_⟩; first | rfl | (try simp only [encRun, cRun, encRules, cRules,go_sem, simprocAttr, seval])) | with_reducible intro (ep : Nat → Nat) | with_reducible apply_assumption -exfalso -symm only [*])
      rintro v H3 ⟨hs3, e6, rfl, hH6⟩
      have g8 : H3 8 = none := hs3 8 (by decide)
      simp only [g8, go_sem, simprocAttr]
      repeat' (first | (with_reducible refine sk ?_; intro K hK) | ((with_reducible first | refine rg (md := { base := 0, own := [8, 20, 22, 162], imp := [32] }) (h := ?_) | refine rgS [8, 20, 22] (md := { base := 0, own := [8, 20, 22, 162], imp := [32] }) (h := ?_) | refine nx ?_); try simp (disch := omega) only [g8, hH6,go_sem, simprocAttr]) | (with_reducible refine bk ?_) | ((with_reducible refine' cE ?hv ?_ ?_); (case hv => first | rfl | (simp only [g8, hH6,go_sem, simprocAttr]; rfl)); all_goals (intro hc; (try simp only [go_sem, simprocAttr] at hc); try (exfalso; omega))) | ((with_reducible first | refine grdS_split ?_ ?_ | refine lkG_split ?_ ?_) <;> intro hg <;> (try simp (disch := omega) only [hg, g8, hH6,go_sem, simprocAttr]) <;> (try simp only [go_sem, simprocAttr] at hg) <;> (try (exfalso; omega))) | ((with_reducible refine fe ?_); refine ⟨_, (by simp only [Try.f11, g8, hH6,go_sem, simprocAttr]; rfl), ?_⟩; first | rfl | (try simp only [g8, hH6,go_sem, simprocAttr, seval])) | with_reducible intro (ep : Nat → Nat) | with_reducible apply_assumption -exfalso -symm only [*])
      exact ⟨by (and_intros <;> first | rfl | (simp only [cRun, cRules, go_sem, simprocAttr]; done) | (simp only [cRun, cRules, go_sem, simprocAttr]; rfl)), _, by (first | rfl | (simp only [go_sem, simprocAttr]; done) | (simp only [go_sem, simprocAttr]; rfl)), .inr ⟨hne, e6, by (first | rfl | (simp only [go_sem, simprocAttr]; done) | (simp only [go_sem, simprocAttr]; rfl)), by (first | rfl | (simp only [hH6, go_sem, simprocAttr]; done) | (simp only [hH6, go_sem, simprocAttr]; rfl))⟩⟩
  · simp only [Bool.not_eq_true] at hr
    refine PureC_of (fn := Try.f11) tabOK (by kernel_rfl) rfl (by kernel_rfl) (by simp [Try.f11]) (by simp [noids, noid, noidss, go_sem, encRun, cRun, encRules, cRules]) (by first | rfl | simp [noids, noid, noidss, go_sem, encRun, cRun, encRules, cRules]) ?_
    intro X hX0 hXs
    repeat' (first | (with_reducible refine sk ?_; intro K hK) | ((first | (with_reducible first | refine rg (h := ?_) | refine rgS [8, 20, 22] (h := ?_) | refine nx ?_) | refine pK (alive_run) ?_ | refine pK (ready_ok r u) ?_); try simp (disch := omega) only [encRun, cRun, encRules, cRules, hr,go_sem, simprocAttr]) | (with_reducible refine bk ?_) | ((with_reducible refine' cE ?hv ?_ ?_); (case hv => first | rfl | (simp only [encRun, cRun, encRules, cRules, hr,go_sem, simprocAttr]; rfl)); all_goals (intro hc; (try simp only [go_sem, simprocAttr] at hc); try (exfalso; omega))) | ((with_reducible first | refine grdS_split ?_ ?_ | refine lkG_split ?_ ?_) <;> intro hg <;> (try simp (disch := omega) only [hg, encRun, cRun, encRules, cRules, hr,go_sem, simprocAttr]) <;> (try simp only [go_sem, simprocAttr] at hg) <;> (try (exfalso; omega))) | ((with_reducible refine fe ?_); refine ⟨_, (by simp only [Try.f11, encRun, cRun, encRules, cRules, hr,go_sem, simprocAttr]; rfl), ?_⟩; first | rfl | (try simp only [encRun, cRun, encRules, cRules, hr,go_sem, simprocAttr, seval])) | with_reducible intro (ep : Nat → Nat) | with_reducible apply_assumption -exfalso -symm only [*])
end Cp
namespace Cp
open Go
theorem fit_map2 {α : Type} {c : α → List Val} {p : α → Prop} : ∀ {xss : List (List Val)}, (∀ es ∈ xss, ∃ x, es = c x ∧ p x) → ∃ l : List α, xss = l.map c ∧ ∀ x ∈ l, p x
  | [], _ => ⟨[], rfl, fun x h => by simp at h⟩
  | es :: xss, h => by
    obtain ⟨x, rfl, hp⟩ := h es (by simp)
    obtain ⟨l, rfl, hl⟩ := fit_map2 fun es he => h es (List.mem_cons_of_mem _ he)
    exact ⟨x :: l, rfl, fun y hy => by rcases List.mem_cons.1 hy with rfl | hy; exact hp; exact hl y hy⟩
theorem arg_by {a : Val} (h : FitV tab 8 63 a) : ∃ l : List Int, a = .lst 1 (l.map c32) ∧ By l := by
  obtain ⟨ti, cs, e, h, _, rfl⟩ := h
  have hk : ∀ n, Fit tab (n + 1) 63 cs → ∃ sz xss, cs = [.lst sz xss] ∧ (tab 67).map (·.sz) = some sz ∧ xss.length ≤ maxLen ∧ ∀ es ∈ xss, es.length = sz ∧ Fit tab n 67 es := fun n h => by
    simp only [Fit, tab_63] at h; exact h
  obtain ⟨sz, xss, rfl, hs, _, hx⟩ := hk 7 h
  rw [tab_67] at hs; cases hs
  obtain ⟨l, rfl, hl⟩ := fit_map2 (c := c32) (p := fun m => 0 ≤ m ∧ m ≤ 4294967295) fun es hes => by
    obtain ⟨m, rfl, hw⟩ := fit_int tab_67 (hx es hes).2
    simp [Lit.wf, IntKind.min, IntKind.max, IntKind.signed, IntKind.bits] at hw
    exact ⟨m, rfl, by omega, by omega⟩
  rw [tab_63] at e; cases e; exact ⟨l, rfl, hl⟩
end Cp
