/- What functions of the furnace and of its reference compute (R4). Conditions: none. -/
import Derived.Test.YtioeikglibjefaaR3
set_option linter.unusedSimpArgs false
set_option linter.unusedVariables false
namespace Cp
open Go Go.Proofs
set_option maxRecDepth 10000

theorem curved_ok (l : List Pt) (hl : l.length ≤ 4611686018427387904) : PureC Try.prog 44 [.lst 2 (l.map cPt)] (.bool (curveOK l)) := by
  refine PureC_of (fn := Try.f44) tabOK (by kernel_rfl) rfl (by kernel_rfl) (by simp [Try.f44]) (by simp [noids, noid, noidss, go_sem]) (by first | rfl | simp [noids, noid, noidss, go_sem]) ?_
  intro X hX0 hXs
  repeat' (first
    | (with_reducible refine AW_seq_k ?_; intro K hK)
    | ((first | ((with_reducible first | refine AW_region tabOK { base := 0, own := [] } ?hsz ?_ | refine AW_draw tabOK mix { base := 0, own := [] } ?hsz (by decide +kernel) ?_ | refine AW_drawS tabOK mix { base := 0, own := [] } [3, 5] ?hsz (by decide +kernel) ?_); (case hsz => rw [hXs]; rfl)) | (with_reducible first | refine AW_skip ?_ | refine AW_ret ?_ | refine AW_exit ?_ | refine AW_label ?_)); try simp (disch := omega) only [go_sem, simprocAttr])
    | (with_reducible first | refine AW_scope ?_ | refine AW_blockS ?_ | refine AW_blockR ?_ | refine AW_blockC ?_)
    | ((with_reducible refine AW_condE ?_); refine ⟨_, (by first | rfl | (simp only [go_sem, simprocAttr]; rfl)), ?_, ?_⟩ <;> intro hc <;> (try simp only [go_sem, simprocAttr] at hc) <;> (try (exfalso; omega)))
    | ((with_reducible first | refine grdS_split ?_ ?_ | refine lkG_split ?_ ?_) <;> intro hg <;> (try simp (disch := omega) only [hg, go_sem, simprocAttr]) <;> (try simp only [go_sem, simprocAttr] at hg) <;> (try (exfalso; omega)))
    | (with_reducible refine FnP_endE (by simp) ?_; refine ⟨_, (by simp only [Try.f44, go_sem, simprocAttr]; rfl), ?_⟩; first | rfl | (try simp only [go_sem, simprocAttr, Val.bool.injEq, Val.int.injEq, Val.tup.injEq, Val.agg.injEq, List.cons.injEq, Bool.and_self]))
    | with_reducible intro (ep : Nat → Nat)
    | with_reducible apply_assumption -exfalso -symm only [*])
  refine AW_range tabOK l.length (fun k f H => f 0 = .lst 2 (l.map cPt) ∧ f 7 = .lst 2 (l.map cPt) ∧ ∃ e a, f 3 = .ptr 3 e 2 0 0 ∧ H 3 = some (e, .arr 2 [cPt a]) ∧ -1 ≤ a.m ∧ 0 ≤ a.d ∧ a.m ≤ 600 ∧ curveFrom ⟨-1, 0⟩ l = curveFrom a (l.drop k)) hl (by rw [hXs]; decide) (by decide) (by simp only [go_sem, simprocAttr]) (by simp only [go_sem, simprocAttr]) ⟨by simp only [go_sem, simprocAttr], by simp only [go_sem, simprocAttr], _, ⟨-1, 0⟩, by simp only [go_sem, simprocAttr]; rfl, by simp only [go_sem, simprocAttr]; rfl, by simp, by simp, by simp, by simp⟩ ?_ ?_
  · rintro k f H hk h9 h8 ⟨h0, h7, e, a, h3, hH, ha1, ha2, ha3, hr⟩
    obtain ⟨x, hx⟩ : ∃ x, l[k]? = some x := ⟨_, List.getElem?_eq_getElem hk⟩
    refine AW_keep [3] ?_
    repeat' (first
      | (with_reducible refine AW_seq_k ?_; intro K hK)
      | ((first | ((with_reducible first | refine AW_region tabOK { base := 0, own := [] } ?hsz ?_ | refine AW_draw tabOK mix { base := 0, own := [] } ?hsz (by decide +kernel) ?_ | refine AW_drawS tabOK mix { base := 0, own := [] } [3, 5] ?hsz (by decide +kernel) ?_); (case hsz => rw [hXs]; rfl)) | (with_reducible first | refine AW_skip ?_ | refine AW_ret ?_ | refine AW_exit ?_ | refine AW_label ?_) | refine pureK_intro (in_1 _ _ _) ?_); try simp (disch := omega) only [h0, h3, h7, h8, h9, hx, hH, cPt,go_sem, simprocAttr])
      | (with_reducible first | refine AW_scope ?_ | refine AW_blockS ?_ | refine AW_blockR ?_ | refine AW_blockC ?_)
      | ((with_reducible refine AW_condE ?_); refine ⟨_, (by first | rfl | (simp only [h0, h3, h7, h8, h9, hx, hH, cPt,go_sem, simprocAttr]; rfl)), ?_, ?_⟩ <;> intro hc <;> (try simp only [go_sem, simprocAttr] at hc) <;> (try (exfalso; omega)))
      | ((with_reducible first | refine grdS_split ?_ ?_ | refine lkG_split ?_ ?_) <;> intro hg <;> (try simp (disch := omega) only [hg, h0, h3, h7, h8, h9, hx, hH, cPt,go_sem, simprocAttr]) <;> (try simp only [go_sem, simprocAttr] at hg) <;> (try (exfalso; omega)))
      | (with_reducible refine FnP_endE (by simp) ?_; refine ⟨_, (by simp only [Try.f44, h0, h3, h7, h8, h9, hx, hH, cPt,go_sem, simprocAttr]; rfl), ?_⟩; first | rfl | (try simp only [h0, h3, h7, h8, h9, hx, hH, cPt,go_sem, simprocAttr, Val.bool.injEq, Val.int.injEq, Val.tup.injEq, Val.agg.injEq, List.cons.injEq, Bool.and_self]))
      | with_reducible intro (ep : Nat → Nat)
      | with_reducible apply_assumption -exfalso -symm only [*])
    · refine curveOK_false ?_
      rw [hr, drop_cons hx, curveFrom]; simp; omega
    · refine curveOK_false ?_
      rw [hr, drop_cons hx, curveFrom]; simp; omega
    · refine ⟨e, x, rfl, rfl, by omega, by omega, by omega, ?_⟩
      rw [hr, drop_cons hx, curveFrom]; simp; omega
  · rintro f H h9 h8 ⟨h0, h7, e, a, h3, hH, ha1, ha2, ha3, hr⟩
    have hr' : curveFrom ⟨-1, 0⟩ l = true := by rw [hr, drop_none (Nat.le_refl _)]; rfl
    cases l with
    | nil =>
      repeat' (first
        | (with_reducible refine AW_seq_k ?_; intro K hK)
        | ((first | ((with_reducible first | refine AW_region tabOK { base := 0, own := [] } ?hsz ?_ | refine AW_draw tabOK mix { base := 0, own := [] } ?hsz (by decide +kernel) ?_ | refine AW_drawS tabOK mix { base := 0, own := [] } [3, 5] ?hsz (by decide +kernel) ?_); (case hsz => rw [hXs]; rfl)) | (with_reducible first | refine AW_skip ?_ | refine AW_ret ?_ | refine AW_exit ?_ | refine AW_label ?_) | refine pureK_intro (in_1 _ _ _) ?_); try simp (disch := omega) only [h0,go_sem, simprocAttr])
        | (with_reducible first | refine AW_scope ?_ | refine AW_blockS ?_ | refine AW_blockR ?_ | refine AW_blockC ?_)
        | ((with_reducible refine AW_condE ?_); refine ⟨_, (by first | rfl | (simp only [h0,go_sem, simprocAttr]; rfl)), ?_, ?_⟩ <;> intro hc <;> (try simp only [go_sem, simprocAttr] at hc) <;> (try (exfalso; omega)))
        | ((with_reducible first | refine grdS_split ?_ ?_ | refine lkG_split ?_ ?_) <;> intro hg <;> (try simp (disch := omega) only [hg, h0,go_sem, simprocAttr]) <;> (try simp only [go_sem, simprocAttr] at hg) <;> (try (exfalso; omega)))
        | (with_reducible refine FnP_endE (by simp) ?_; refine ⟨_, (by simp only [Try.f44, h0,go_sem, simprocAttr]; rfl), ?_⟩; first | rfl | (try simp only [h0,go_sem, simprocAttr, Val.bool.injEq, Val.int.injEq, Val.tup.injEq, Val.agg.injEq, List.cons.injEq, Bool.and_self]))
        | with_reducible intro (ep : Nat → Nat)
        | with_reducible apply_assumption -exfalso -symm only [*])
      try rfl
    | cons p l =>
      repeat' (first
        | (with_reducible refine AW_seq_k ?_; intro K hK)
        | ((first | ((with_reducible first | refine AW_region tabOK { base := 0, own := [] } ?hsz ?_ | refine AW_draw tabOK mix { base := 0, own := [] } ?hsz (by decide +kernel) ?_ | refine AW_drawS tabOK mix { base := 0, own := [] } [3, 5] ?hsz (by decide +kernel) ?_); (case hsz => rw [hXs]; rfl)) | (with_reducible first | refine AW_skip ?_ | refine AW_ret ?_ | refine AW_exit ?_ | refine AW_label ?_) | refine pureK_intro (in_1 _ _ _) ?_); try simp (disch := omega) only [h0, cPt,go_sem, simprocAttr])
        | (with_reducible first | refine AW_scope ?_ | refine AW_blockS ?_ | refine AW_blockR ?_ | refine AW_blockC ?_)
        | ((with_reducible refine AW_condE ?_); refine ⟨_, (by first | rfl | (simp only [h0, cPt,go_sem, simprocAttr]; rfl)), ?_, ?_⟩ <;> intro hc <;> (try simp only [go_sem, simprocAttr] at hc) <;> (try (exfalso; omega)))
        | ((with_reducible first | refine grdS_split ?_ ?_ | refine lkG_split ?_ ?_) <;> intro hg <;> (try simp (disch := omega) only [hg, h0, cPt,go_sem, simprocAttr]) <;> (try simp only [go_sem, simprocAttr] at hg) <;> (try (exfalso; omega)))
        | (with_reducible refine FnP_endE (by simp) ?_; refine ⟨_, (by simp only [Try.f44, h0, cPt,go_sem, simprocAttr]; rfl), ?_⟩; first | rfl | (try simp only [h0, cPt,go_sem, simprocAttr, Val.bool.injEq, Val.int.injEq, Val.tup.injEq, Val.agg.injEq, List.cons.injEq, Bool.and_self]))
        | with_reducible intro (ep : Nat → Nat)
        | with_reducible apply_assumption -exfalso -symm only [*])
      all_goals (rw [curveOK_iff (p := p) rfl, hr']; grind)

theorem degree1_ok (p : Pt) (m : Int) : PureC Try.prog 71 [.agg (cPt p), .int .i64 m] (.int .i64 (cmpI p.m m)) := by
  refine PureC_of (fn := Try.f71) tabOK (by kernel_rfl) rfl (by kernel_rfl) (by simp [Try.f71]) (by simp [noids, noid, noidss, go_sem, cPt]) (by first | rfl | simp [noids, noid, noidss, go_sem, cPt]) ?_
  intro X hX0 hXs
  repeat' (first
    | (with_reducible refine AW_seq_k ?_; intro K hK)
    | ((first | ((with_reducible first | refine AW_region tabOK { base := 0, own := [] } ?hsz ?_ | refine AW_draw tabOK mix { base := 0, own := [] } ?hsz (by decide +kernel) ?_); (case hsz => rw [hXs]; rfl)) | (with_reducible first | refine AW_skip ?_ | refine AW_ret ?_ | refine AW_exit ?_ | refine AW_label ?_) | refine pureK_intro (compare_ok _ _) ?_); try simp (disch := omega) only [cPt,go_sem, simprocAttr])
    | (with_reducible first | refine AW_scope ?_ | refine AW_blockS ?_ | refine AW_blockR ?_ | refine AW_blockC ?_)
    | ((with_reducible refine AW_condE ?_); refine ⟨_, (by first | rfl | (simp only [cPt,go_sem, simprocAttr]; rfl)), ?_, ?_⟩ <;> intro hc <;> (try simp only [go_sem, simprocAttr] at hc) <;> (try (exfalso; omega)))
    | (with_reducible refine FnP_endE (by simp) ?_; refine ⟨_, (by simp only [Try.f71, cPt,go_sem, simprocAttr]; rfl), ?_⟩; first | rfl | (try simp only [cPt,go_sem, simprocAttr, Val.bool.injEq, Val.int.injEq, Val.tup.injEq, Val.agg.injEq, List.cons.injEq, Bool.and_self]))
    | with_reducible intro (ep : Nat → Nat)
    | with_reducible apply_assumption -exfalso -symm only [*])

theorem wrapu64 {n : Int} (h : 0 ≤ n ∧ n ≤ 9223372036854775807) : IntKind.u64.wrap n = n := by
  rw [IntKind.wrap_u64]; omega
theorem shr1 {n : Int} (h : 0 ≤ n) : n.fdiv (2 ^ min (Int.toNat 1) (IntKind.bits .u64)) = n / 2 := by
  have : (2 : Int) ^ min (Int.toNat 1) (IntKind.bits .u64) = 2 := by decide
  rw [this, Int.fdiv_eq_ediv_of_nonneg _ (by omega)]

theorem shr1' {n : Int} (h : 0 ≤ n) : n.fdiv (2 ^ min 1 64) = n / 2 := by
  have : (2 : Int) ^ min 1 64 = 2 := by decide
  rw [this, Int.fdiv_eq_ediv_of_nonneg _ (by omega)]

theorem bsearch_ok (l : List Pt) (hl : l.length ≤ 1000000) (m : Int) (hs : ∀ (i j : Nat) (p q : Pt), i < j → l[i]? = some p → l[j]? = some q → p.m < q.m) :
    ∃ i : Nat, i ≤ l.length ∧ (∀ j p, j < i → l[j]? = some p → p.m < m) ∧ (∀ j p, i ≤ j → l[j]? = some p → m ≤ p.m) ∧
    PureC Try.prog 70 [.lst 2 (l.map cPt), .int .i64 m, .fn 71 []] (.tup [.int .i64 i, .bool (l[i]?.any fun p => decide (p.m = m))]) := by
  obtain ⟨i, hi, h1, h2⟩ : ∃ i : Nat, i ≤ l.length ∧ (∀ j p, j < i → l[j]? = some p → p.m < m) ∧ (∀ j p, i ≤ j → l[j]? = some p → m ≤ p.m) := by
    clear hl
    induction l with
    | nil => exact ⟨0, by simp, by simp, by simp⟩
    | cons a l ih =>
      obtain ⟨i, q1, q2, q3⟩ := ih fun i j p q hij hi hj => hs (i + 1) (j + 1) p q (by omega) (by simpa using hi) (by simpa using hj)
      by_cases ha : a.m < m
      · refine ⟨i + 1, by simpa using q1, fun j p hj hp => ?_, fun j p hj hp => ?_⟩
        · cases j with
          | zero => simp at hp; subst hp; exact ha
          | succ j => exact q2 j p (by omega) (by simpa using hp)
        · cases j with
          | zero => omega
          | succ j => exact q3 j p (by omega) (by simpa using hp)
      · refine ⟨0, by simp, fun j p hj => by omega, fun j p hj hp => ?_⟩
        cases j with
        | zero => simp at hp; subst hp; omega
        | succ j => have := hs 0 (j + 1) a p (by omega) rfl hp; omega
  refine ⟨i, hi, h1, h2, ?_⟩
  refine PureC_of (fn := Try.f70) tabOK (by kernel_rfl) rfl (by kernel_rfl) (by simp [Try.f70]) (by simp [noids, noid, noidss, go_sem]) (by first | rfl | simp [noids, noid, noidss, go_sem]) ?_
  intro X hX0 hXs
  repeat' (first
    | (with_reducible refine AW_seq_k ?_; intro K hK)
    | ((first | ((with_reducible first | refine AW_region tabOK { base := 0, own := [] } ?hsz ?_ | refine AW_draw tabOK mix { base := 0, own := [] } ?hsz (by decide +kernel) ?_); (case hsz => rw [hXs]; rfl)) | (with_reducible first | refine AW_skip ?_ | refine AW_ret ?_ | refine AW_exit ?_ | refine AW_label ?_)); try simp (disch := omega) only [go_sem, simprocAttr])
    | (with_reducible first | refine AW_scope ?_ | refine AW_blockS ?_ | refine AW_blockR ?_ | refine AW_blockC ?_)
    | ((with_reducible refine AW_condE ?_); refine ⟨_, (by first | rfl | (simp only [go_sem, simprocAttr]; rfl)), ?_, ?_⟩ <;> intro hc <;> (try simp only [go_sem, simprocAttr] at hc) <;> (try (exfalso; omega)))
    | ((with_reducible first | refine grdS_split ?_ ?_ | refine lkG_split ?_ ?_) <;> intro hg <;> (try simp (disch := omega) only [hg, go_sem, simprocAttr]) <;> (try simp only [go_sem, simprocAttr] at hg) <;> (try (exfalso; omega)))
    | (with_reducible refine FnP_endE (by simp) ?_; refine ⟨_, (by simp only [Try.f70, go_sem, simprocAttr]; rfl), ?_⟩; first | rfl | (try simp only [go_sem, simprocAttr, Val.bool.injEq, Val.int.injEq, Val.tup.injEq, Val.agg.injEq, List.cons.injEq, Bool.and_self]))
    | with_reducible intro (ep : Nat → Nat)
    | with_reducible apply_assumption -exfalso -symm only [*])
  refine AW_block (AW_loop (fun n f H => ∃ a b : Nat, n = b - a ∧ a ≤ i ∧ i ≤ b ∧ b ≤ l.length ∧ (f 0 = .lst 2 (l.map cPt) ∧ f 1 = .int .i64 m ∧ f 2 = .fn 71 [] ∧ f 8 = .int .i64 l.length ∧ f 9 = .int .i64 a ∧ f 10 = .int .i64 b ∧ H = none0)) l.length
    ⟨0, l.length, by simp, by omega, by omega, by omega, by (and_intros <;> first | rfl | (simp only [go_sem, simprocAttr]; done) | (simp only [go_sem, simprocAttr]; rfl))⟩ ?_)
  rintro n f H ⟨a, b, rfl, ha, hb, hbl, ⟨h0, hf1, hf2, h8, h9, h10, rfl⟩⟩
  by_cases hlt : a < b
  · obtain ⟨x, hx⟩ : ∃ x, l[(a + b) / 2]? = some x := ⟨_, List.getElem?_eq_getElem (by omega)⟩
    have e1 : IntKind.i64.wrap ((a : Int) + b) = ((a + b : Nat) : Int) := by rw [wrap64 (by omega)]; omega
    have e2 : IntKind.u64.wrap ((a + b : Nat) : Int) = ((a + b : Nat) : Int) := wrapu64 (by omega)
    have e3 : (((a + b : Nat) : Int)).fdiv (2 ^ min 1 64) = (((a + b) / 2 : Nat) : Int) := by rw [shr1' (by omega)]; omega
    have e4 : IntKind.i64.wrap (((a + b) / 2 : Nat) : Int) = (((a + b) / 2 : Nat) : Int) := wrap64 (by omega)
    have e5 : IntKind.i64.wrap ((((a + b) / 2 + 1 : Nat)) : Int) = (((a + b) / 2 + 1 : Nat) : Int) := wrap64 (by omega)
    repeat' (first
      | (with_reducible refine AW_seq_k ?_; intro K hK)
      | ((first | ((with_reducible first | refine AW_region tabOK { base := 0, own := [] } ?hsz ?_ | refine AW_draw tabOK mix { base := 0, own := [] } ?hsz (by decide +kernel) ?_); (case hsz => rw [hXs]; rfl)) | (with_reducible first | refine AW_skip ?_ | refine AW_ret ?_ | refine AW_exit ?_ | refine AW_label ?_) | refine pureK_intro (degree1_ok _ _) ?_); try simp (disch := omega) only [h0, hf1, hf2, h8, h9, h10, hx, e1, e2, e3, e4, e5, cPt,go_sem, simprocAttr])
      | (with_reducible first | refine AW_scope ?_ | refine AW_blockS ?_ | refine AW_blockR ?_ | refine AW_blockC ?_)
      | ((with_reducible refine AW_condE ?_); refine ⟨_, (by first | rfl | (simp only [h0, hf1, hf2, h8, h9, h10, hx, e1, e2, e3, e4, e5, cPt,go_sem, simprocAttr]; rfl)), ?_, ?_⟩ <;> intro hc <;> (try simp only [go_sem, simprocAttr] at hc) <;> (try (exfalso; omega)))
      | ((with_reducible first | refine grdS_split ?_ ?_ | refine lkG_split ?_ ?_) <;> intro hg <;> (try simp (disch := omega) only [hg, h0, hf1, hf2, h8, h9, h10, hx, e1, e2, e3, e4, e5, cPt,go_sem, simprocAttr]) <;> (try simp only [go_sem, simprocAttr] at hg) <;> (try (exfalso; omega)))
      | (with_reducible refine FnP_endE (by simp) ?_; refine ⟨_, (by simp only [Try.f70, h0, hf1, hf2, h8, h9, h10, hx, e1, e2, e3, e4, e5, cPt,go_sem, simprocAttr]; rfl), ?_⟩; first | rfl | (try simp only [h0, hf1, hf2, h8, h9, h10, hx, e1, e2, e3, e4, e5, cPt,go_sem, simprocAttr, Val.bool.injEq, Val.int.injEq, Val.tup.injEq, Val.agg.injEq, List.cons.injEq, Bool.and_self]))
      | with_reducible intro (ep : Nat → Nat)
      | with_reducible apply_assumption -exfalso -symm only [*])
    · have hlt' : x.m < m := by grind [cmpI]
      have : (a + b) / 2 < i := by
        rcases Nat.lt_or_ge ((a + b) / 2) i with h | h
        · exact h
        · have := h2 _ _ h hx; omega
      exact ⟨b - ((a + b) / 2 + 1), by omega, _, _, rfl, by omega, by omega, by omega, rfl, rfl⟩
    · have hlt' : ¬ x.m < m := by grind [cmpI]
      have : i ≤ (a + b) / 2 := by
        rcases Nat.lt_or_ge ((a + b) / 2) i with h | h
        · have := h1 _ _ h hx; omega
        · exact h
      exact ⟨(a + b) / 2 - a, by omega, _, _, rfl, by omega, by omega, by omega, rfl, rfl⟩
  · obtain rfl : a = i := by omega
    obtain rfl : b = a := by omega
    by_cases hbl : b < l.length
    · obtain ⟨x, hx⟩ : ∃ x, l[b]? = some x := ⟨_, List.getElem?_eq_getElem hbl⟩
      repeat' (first
        | (with_reducible refine AW_seq_k ?_; intro K hK)
        | ((first | ((with_reducible first | refine AW_region tabOK { base := 0, own := [] } ?hsz ?_ | refine AW_draw tabOK mix { base := 0, own := [] } ?hsz (by decide +kernel) ?_); (case hsz => rw [hXs]; rfl)) | (with_reducible first | refine AW_skip ?_ | refine AW_ret ?_ | refine AW_exit ?_ | refine AW_label ?_) | refine pureK_intro (degree1_ok _ _) ?_); try simp (disch := omega) only [h0, hf1, hf2, h8, h9, h10, hx, cPt,go_sem, simprocAttr])
        | (with_reducible first | refine AW_scope ?_ | refine AW_blockS ?_ | refine AW_blockR ?_ | refine AW_blockC ?_)
        | ((with_reducible refine AW_condE ?_); refine ⟨_, (by first | rfl | (simp only [h0, hf1, hf2, h8, h9, h10, hx, cPt,go_sem, simprocAttr]; rfl)), ?_, ?_⟩ <;> intro hc <;> (try simp only [go_sem, simprocAttr] at hc) <;> (try (exfalso; omega)))
        | ((with_reducible first | refine grdS_split ?_ ?_ | refine lkG_split ?_ ?_) <;> intro hg <;> (try simp (disch := omega) only [hg, h0, hf1, hf2, h8, h9, h10, hx, cPt,go_sem, simprocAttr]) <;> (try simp only [go_sem, simprocAttr] at hg) <;> (try (exfalso; omega)))
        | (with_reducible refine FnP_endE (by simp) ?_; refine ⟨_, (by simp only [Try.f70, h0, hf1, hf2, h8, h9, h10, hx, cPt,go_sem, simprocAttr]; rfl), ?_⟩; first | rfl | (try simp only [h0, hf1, hf2, h8, h9, h10, hx, cPt,go_sem, simprocAttr, Val.bool.injEq, Val.int.injEq, Val.tup.injEq, Val.agg.injEq, List.cons.injEq, Bool.and_self]))
        | with_reducible intro (ep : Nat → Nat)
        | with_reducible apply_assumption -exfalso -symm only [*])
      simp only [Option.any_some]; rw [Bool.eq_iff_iff]; grind [cmpI]
    · repeat' (first
        | (with_reducible refine AW_seq_k ?_; intro K hK)
        | ((first | ((with_reducible first | refine AW_region tabOK { base := 0, own := [] } ?hsz ?_ | refine AW_draw tabOK mix { base := 0, own := [] } ?hsz (by decide +kernel) ?_); (case hsz => rw [hXs]; rfl)) | (with_reducible first | refine AW_skip ?_ | refine AW_ret ?_ | refine AW_exit ?_ | refine AW_label ?_) | refine pureK_intro (degree1_ok _ _) ?_); try simp (disch := omega) only [h0, hf1, hf2, h8, h9, h10,go_sem, simprocAttr])
        | (with_reducible first | refine AW_scope ?_ | refine AW_blockS ?_ | refine AW_blockR ?_ | refine AW_blockC ?_)
        | ((with_reducible refine AW_condE ?_); refine ⟨_, (by first | rfl | (simp only [h0, hf1, hf2, h8, h9, h10,go_sem, simprocAttr]; rfl)), ?_, ?_⟩ <;> intro hc <;> (try simp only [go_sem, simprocAttr] at hc) <;> (try (exfalso; omega)))
        | ((with_reducible first | refine grdS_split ?_ ?_ | refine lkG_split ?_ ?_) <;> intro hg <;> (try simp (disch := omega) only [hg, h0, hf1, hf2, h8, h9, h10,go_sem, simprocAttr]) <;> (try simp only [go_sem, simprocAttr] at hg) <;> (try (exfalso; omega)))
        | (with_reducible refine FnP_endE (by simp) ?_; refine ⟨_, (by simp only [Try.f70, h0, hf1, hf2, h8, h9, h10,go_sem, simprocAttr]; rfl), ?_⟩; first | rfl | (try simp only [h0, hf1, hf2, h8, h9, h10,go_sem, simprocAttr, Val.bool.injEq, Val.int.injEq, Val.tup.injEq, Val.agg.injEq, List.cons.injEq, Bool.and_self]))
        | with_reducible intro (ep : Nat → Nat)
        | with_reducible apply_assumption -exfalso -symm only [*])
      rw [List.getElem?_eq_none (by omega)]; rfl
end Cp

