/- What functions of the furnace and of its reference compute (R19). Conditions: none. -/
import Derived.Test.YtioeikglibjefaaR17
set_option linter.unusedSimpArgs false
set_option linter.unusedVariables false
namespace Cp
open Go Go.Proofs
set_option maxRecDepth 10000

theorem ready_ok (r : RunT) (u : RulesT) : PureC Try.prog 34 [encRun r, encRules u] (.bool (!greatS r u && decide (checkE r u = 0))) := by
  by_cases hg : greatS r u = true
  · refine PureC_of (fn := Try.f34) tabOK (by kernel_rfl) rfl (by kernel_rfl) (by simp [Try.f34]) (by simp [noids, noid, noidss, go_sem, encRun, cRun, encRules, cRules]) (by first | rfl | simp [noids, noid, noidss, go_sem, encRun, cRun, encRules, cRules]) ?_
    intro X hX0 hXs
    repeat' (first
      | (with_reducible refine AW_seq_k ?_; intro K hK)
      | ((first | ((with_reducible first | refine AW_region tabOK { base := 0, own := [] } ?hsz ?_ | refine AW_draw tabOK mix { base := 0, own := [] } ?hsz (by decide +kernel) ?_); (case hsz => rw [hXs]; rfl)) | (with_reducible first | refine AW_skip ?_ | refine AW_ret ?_ | refine AW_exit ?_ | refine AW_label ?_) | refine pureK_intro (great_ok r u) ?_); try simp (disch := omega) only [encRun, cRun, encRules, cRules, hg,go_sem, simprocAttr])
      | (with_reducible first | refine AW_scope ?_ | refine AW_blockS ?_ | refine AW_blockR ?_ | refine AW_blockC ?_)
      | ((with_reducible refine AW_condE ?_); refine ⟨_, (by first | rfl | (simp only [encRun, cRun, encRules, cRules, hg,go_sem, simprocAttr]; rfl)), ?_, ?_⟩ <;> intro hc <;> (try simp only [go_sem, simprocAttr] at hc) <;> (try (exfalso; omega)))
      | ((with_reducible first | refine grdS_split ?_ ?_ | refine lkG_split ?_ ?_) <;> intro hg <;> (try simp (disch := omega) only [hg, encRun, cRun, encRules, cRules, hg,go_sem, simprocAttr]) <;> (try simp only [go_sem, simprocAttr] at hg) <;> (try (exfalso; omega)))
      | (with_reducible refine FnP_endE (by simp) ?_; refine ⟨_, (by simp only [Try.f34, encRun, cRun, encRules, cRules, hg,go_sem, simprocAttr]; rfl), ?_⟩; first | rfl | (try simp only [encRun, cRun, encRules, cRules, hg,go_sem, simprocAttr, Val.bool.injEq, Val.int.injEq, Val.tup.injEq, Val.agg.injEq, List.cons.injEq]))
      | with_reducible intro (ep : Nat → Nat)
      | with_reducible apply_assumption -exfalso -symm only [*])
    try simp [hg]
  · simp only [Bool.not_eq_true] at hg
    obtain ⟨hsm, hst⟩ := great_sm hg
    refine PureC_of (fn := Try.f34) tabOK (by kernel_rfl) rfl (by kernel_rfl) (by simp [Try.f34]) (by simp [noids, noid, noidss, go_sem, encRun, cRun, encRules, cRules]) (by first | rfl | simp [noids, noid, noidss, go_sem, encRun, cRun, encRules, cRules]) ?_
    intro X hX0 hXs
    repeat' (first
      | (with_reducible refine AW_seq_k ?_; intro K hK)
      | ((first | ((with_reducible first | refine AW_region tabOK { base := 0, own := [] } ?hsz ?_ | refine AW_draw tabOK mix { base := 0, own := [] } ?hsz (by decide +kernel) ?_); (case hsz => rw [hXs]; rfl)) | (with_reducible first | refine AW_skip ?_ | refine AW_ret ?_ | refine AW_exit ?_ | refine AW_label ?_) | refine pureK_intro (great_ok r u) ?_ | refine pureK_intro (rcheck_ok r u hsm.b ⟨by omega⟩) ?_); try simp (disch := omega) only [encRun, cRun, encRules, cRules, hg,go_sem, simprocAttr])
      | (with_reducible first | refine AW_scope ?_ | refine AW_blockS ?_ | refine AW_blockR ?_ | refine AW_blockC ?_)
      | ((with_reducible refine AW_condE ?_); refine ⟨_, (by first | rfl | (simp only [encRun, cRun, encRules, cRules, hg,go_sem, simprocAttr]; rfl)), ?_, ?_⟩ <;> intro hc <;> (try simp only [go_sem, simprocAttr] at hc) <;> (try (exfalso; omega)))
      | ((with_reducible first | refine grdS_split ?_ ?_ | refine lkG_split ?_ ?_) <;> intro hg <;> (try simp (disch := omega) only [hg, encRun, cRun, encRules, cRules, hg,go_sem, simprocAttr]) <;> (try simp only [go_sem, simprocAttr] at hg) <;> (try (exfalso; omega)))
      | (with_reducible refine FnP_endE (by simp) ?_; refine ⟨_, (by simp only [Try.f34, encRun, cRun, encRules, cRules, hg,go_sem, simprocAttr]; rfl), ?_⟩; first | rfl | (try simp only [encRun, cRun, encRules, cRules, hg,go_sem, simprocAttr, Val.bool.injEq, Val.int.injEq, Val.tup.injEq, Val.agg.injEq, List.cons.injEq]))
      | with_reducible intro (ep : Nat → Nat)
      | with_reducible apply_assumption -exfalso -symm only [*])
    all_goals try simp [hg]

theorem lspan_ok (a b : Int) : PureC Try.prog 67 [.int .i64 a, .int .i64 b] (encSpan ⟨a, b⟩) := by
  refine PureC_of (fn := Try.f67) tabOK (by kernel_rfl) rfl (by kernel_rfl) (by simp [Try.f67]) (by simp [noids, noid, noidss, go_sem, encSpan]) (by first | rfl | simp [noids, noid, noidss, go_sem, encSpan]) ?_
  intro X hX0 hXs
  repeat' (first
    | (with_reducible refine AW_seq_k ?_; intro K hK)
    | ((first | ((with_reducible first | refine AW_region tabOK { base := 0, own := [] } ?hsz ?_ | refine AW_draw tabOK mix { base := 0, own := [] } ?hsz (by decide +kernel) ?_ | refine AW_drawS tabOK mix { base := 0, own := [] } [4] ?hsz (by decide +kernel) ?_); (case hsz => rw [hXs]; rfl)) | (with_reducible first | refine AW_skip ?_ | refine AW_ret ?_ | refine AW_exit ?_ | refine AW_label ?_)); try simp (disch := omega) only [encSpan,go_sem, simprocAttr])
    | (with_reducible first | refine AW_scope ?_ | refine AW_blockS ?_ | refine AW_blockR ?_ | refine AW_blockC ?_)
    | ((with_reducible refine AW_condE ?_); refine ⟨_, (by first | rfl | (simp only [encSpan,go_sem, simprocAttr]; rfl)), ?_, ?_⟩ <;> intro hc <;> (try simp only [go_sem, simprocAttr] at hc) <;> (try (exfalso; omega)))
    | (with_reducible refine FnP_endE (by simp) ?_; refine ⟨_, (by simp only [Try.f67, encSpan,go_sem, simprocAttr]; rfl), ?_⟩; first | rfl | (try simp only [encSpan,go_sem, simprocAttr, Val.bool.injEq, Val.int.injEq, Val.tup.injEq, Val.agg.injEq, List.cons.injEq]))
    | with_reducible intro (ep : Nat → Nat)
    | with_reducible apply_assumption -exfalso -symm only [*])

def SHI (g : Int → Int) (lo : Int) (k : Nat) (a b : Int) : Prop := ((k : Int) ≤ lo ∧ a = 2000 ∧ b = 0) ∨ (lo < k ∧ a = extLo g lo ((k : Int) - 1 - lo).toNat ∧ b = extHi g lo ((k : Int) - 1 - lo).toNat)
theorem SHI_skip {g : Int → Int} {lo : Int} {k : Nat} {a b : Int} (hk : (k : Int) < lo) (h : SHI g lo k a b) : SHI g lo (k + 1) a b := by
  rcases h with ⟨h1, h2, h3⟩ | ⟨h1, _⟩
  · exact .inl ⟨by omega, h2, h3⟩
  · omega
theorem SHI_step {g : Int → Int} {lo : Int} {k : Nat} {a b : Int} (hk : ¬ (k : Int) < lo) (hg : 0 ≤ g k ∧ g k ≤ 2000) (h : SHI g lo k a b) : SHI g lo (k + 1) (min a (g k)) (max b (g k)) := by
  rcases h with ⟨h1, h2, h3⟩ | ⟨h1, h2, h3⟩
  · have e : lo = (k : Int) := by omega
    subst e
    refine .inr ⟨by omega, ?_, ?_⟩
    · rw [show (((k + 1 : Nat) : Int) - 1 - (k : Int)).toNat = 0 by omega, extLo]; omega
    · rw [show (((k + 1 : Nat) : Int) - 1 - (k : Int)).toNat = 0 by omega, extHi]; omega
  · obtain ⟨n, hn⟩ : ∃ n : Nat, ((k : Int) - 1 - lo).toNat = n := ⟨_, rfl⟩
    have e : lo + ((n + 1 : Nat) : Int) = (k : Int) := by omega
    rw [hn] at h2 h3
    refine .inr ⟨by omega, ?_, ?_⟩
    · rw [show (((k + 1 : Nat) : Int) - 1 - lo).toNat = n + 1 by omega, extLo, e, ← h2]
    · rw [show (((k + 1 : Nat) : Int) - 1 - lo).toNat = n + 1 by omega, extHi, e, ← h3]
theorem SHI_end {g : Int → Int} {lo hi : Int} {n : Nat} {a b : Int} (hl : lo ≤ hi) (hn : hi + 1 = n) (h : SHI g lo n a b) : a = extLo g lo (hi - lo).toNat ∧ b = extHi g lo (hi - lo).toNat := by
  rcases h with ⟨h1, _⟩ | ⟨h1, h2, h3⟩
  · omega
  · rw [show hi - lo = (n : Int) - 1 - lo by omega]; exact ⟨h2, h3⟩
theorem shown_ok (r : RunT) (hF : RunF r) (i : Nat) (c : Cpl) (hci : r.cpls[i]? = some c) (m : Int) (hm : 1 ≤ m ∧ m ≤ r.rows.length) (hw : works c m = true) :
    PureC Try.prog 41 [encRun r, .int .i64 i, .int .i64 m] (encSpan (truth r c i m)) := by
  have hrows := hF.rows
  have hcl := hF.cpls
  have hi : i < r.cpls.length := (List.getElem?_eq_some_iff.1 hci).1
  have hcf := hF.cpl i c hci
  obtain ⟨l1, l2⟩ := lastRow_pos hF hci hm.1 hw
  have hge : (0 : Int) ≤ i := by omega
  obtain ⟨n, hn⟩ : ∃ n : Nat, c.lag.hi + 1 = n := ⟨(c.lag.hi + 1).toNat, by omega⟩
  refine PureC_of (fn := Try.f41) tabOK (by kernel_rfl) rfl (by kernel_rfl) (by simp [Try.f41]) (by simp [noids, noid, noidss, go_sem, encRun, cRun]) (by first | rfl | simp [noids, noid, noidss, go_sem, encRun, cRun]) ?_
  intro X hX0 hXs
  by_cases hb : 0 < c.brk ∧ c.brk - 1 < r.rows.length
  · have hlr : c.brk - 1 = lastRow r c := by rw [lastRow, if_pos hb.1]; omega
    repeat' (first
      | (with_reducible refine AW_seq_k ?_; intro K hK)
      | ((first | ((with_reducible first | refine AW_region tabOK { base := 0, own := [6, 7] } ?hsz ?_ | refine AW_draw tabOK mix { base := 0, own := [6, 7] } ?hsz (by decide +kernel) ?_ | refine AW_drawS tabOK mix { base := 0, own := [6, 7] } [6, 7] ?hsz (by decide +kernel) ?_); (case hsz => rw [hXs]; rfl)) | (with_reducible first | refine AW_skip ?_ | refine AW_ret ?_ | refine AW_exit ?_ | refine AW_label ?_)); try simp (disch := omega) only [encRun, cRun, cCpl, hci, hb.1, hb.2, hn,go_sem, simprocAttr])
      | (with_reducible first | refine AW_scope ?_ | refine AW_blockS ?_ | refine AW_blockR ?_ | refine AW_blockC ?_)
      | ((with_reducible refine AW_condE ?_); refine ⟨_, (by first | rfl | (simp only [encRun, cRun, cCpl, hci, hb.1, hb.2, hn,go_sem, simprocAttr]; rfl)), ?_, ?_⟩ <;> intro hc <;> (try simp only [go_sem, simprocAttr] at hc) <;> (try (exfalso; omega)))
      | ((with_reducible first | refine grdS_split ?_ ?_ | refine lkG_split ?_ ?_) <;> intro hg <;> (try simp (disch := omega) only [hg, encRun, cRun, cCpl, hci, hb.1, hb.2, hn,go_sem, simprocAttr]) <;> (try simp only [go_sem, simprocAttr] at hg) <;> (try (exfalso; omega)))
      | (with_reducible refine FnP_endE (by simp) ?_; refine ⟨_, (by simp only [Try.f41, encRun, cRun, cCpl, hci, hb.1, hb.2, hn,go_sem, simprocAttr]; rfl), ?_⟩; first | rfl | (try simp only [encRun, cRun, cCpl, hci, hb.1, hb.2, hn,go_sem, simprocAttr, Val.bool.injEq, Val.int.injEq, Val.tup.injEq, Val.agg.injEq, List.cons.injEq]))
      | with_reducible intro (ep : Nat → Nat)
      | with_reducible apply_assumption -exfalso -symm only [*])
    refine AW_range tabOK n (fun k f H => (f 3 = .pim (cRun r) ∧ f 1 = .int .i64 i ∧ f 2 = .int .i64 m ∧ f 8 = .int .i64 (lastRow r c)) ∧ ∃ a b e6 e7, f 9 = .int .i64 a ∧ f 10 = .int .i64 b ∧ f 6 = .ptr 6 e6 2 0 0 ∧ H 6 = some (e6, .arr 2 [[.int .i64 0, .int .i64 0]]) ∧ f 7 = .ptr 7 e7 6 0 0 ∧ H 7 = some (e7, .arr 6 [cCpl c]) ∧ SHI (readLag r c i m) c.lag.lo k a b)
      (by omega) (by rw [hXs]; decide) (by decide) (by (first | rfl | (simp only [go_sem, simprocAttr]; done) | (simp only [go_sem, simprocAttr]; rfl))) (by (first | rfl | (simp only [go_sem, simprocAttr]; done) | (simp only [go_sem, simprocAttr]; rfl))) ⟨by (and_intros <;> first | rfl | (simp only [cRun, hlr, go_sem, simprocAttr]; done) | (simp only [cRun, hlr, go_sem, simprocAttr]; rfl)), 2000, 0, _, _, by (first | rfl | (simp only [go_sem, simprocAttr]; done) | (simp only [go_sem, simprocAttr]; rfl)), by (first | rfl | (simp only [go_sem, simprocAttr]; done) | (simp only [go_sem, simprocAttr]; rfl)), by (first | rfl | (simp only [go_sem, simprocAttr]; done) | (simp only [go_sem, simprocAttr]; rfl)), by (first | rfl | (simp only [go_sem, simprocAttr]; done) | (simp only [go_sem, simprocAttr]; rfl)), by (first | rfl | (simp only [go_sem, simprocAttr]; done) | (simp only [go_sem, simprocAttr]; rfl)), by (first | rfl | (simp only [cCpl, go_sem, simprocAttr]; done) | (simp only [cCpl, go_sem, simprocAttr]; rfl)), .inl ⟨by omega, rfl, rfl⟩⟩ ?_ ?_
    · rintro k f H hk h38 h37 ⟨⟨h3, h1, h2, h8⟩, a, b, e6, e7, h9, h10, h6, hH6, h7, hH7, hs⟩
      obtain ⟨x, d, hx, hd, hrd, hd1, hd2⟩ := readAt_ok hF hi (row := min (m + k) (lastRow r c)) (by omega) (by omega)
      have hge2 : 0 ≤ min (m + k) (lastRow r c) - 1 := by omega
      have hrl : readLag r c i m k = d := by unfold readLag; exact hrd
      by_cases hlt : (k : Int) < c.lag.lo
      · have hs' := SHI_skip hlt hs
        repeat' (first
          | (with_reducible refine AW_seq_k ?_; intro K hK)
          | ((first | ((with_reducible first | refine AW_region tabOK { base := 0, own := [6, 7] } ?hsz ?_ | refine AW_draw tabOK mix { base := 0, own := [6, 7] } ?hsz (by decide +kernel) ?_ | refine AW_drawS tabOK mix { base := 0, own := [6, 7] } [6, 7] ?hsz (by decide +kernel) ?_); (case hsz => rw [hXs]; rfl)) | (with_reducible first | refine AW_skip ?_ | refine AW_ret ?_ | refine AW_exit ?_ | refine AW_label ?_)); try simp (disch := omega) only [h1, h2, h3, h6, h7, h8, h9, h10, h37, h38, hH6, hH7, hlt, cRun, cCpl, cRow,go_sem, simprocAttr])
          | (with_reducible first | refine AW_scope ?_ | refine AW_blockS ?_ | refine AW_blockR ?_ | refine AW_blockC ?_)
          | ((with_reducible refine AW_condE ?_); refine ⟨_, (by first | rfl | (simp only [h1, h2, h3, h6, h7, h8, h9, h10, h37, h38, hH6, hH7, hlt, cRun, cCpl, cRow,go_sem, simprocAttr]; rfl)), ?_, ?_⟩ <;> intro hc <;> (try simp only [go_sem, simprocAttr] at hc) <;> (try (exfalso; omega)))
          | ((with_reducible first | refine grdS_split ?_ ?_ | refine lkG_split ?_ ?_) <;> intro hg <;> (try simp (disch := omega) only [hg, h1, h2, h3, h6, h7, h8, h9, h10, h37, h38, hH6, hH7, hlt, cRun, cCpl, cRow,go_sem, simprocAttr]) <;> (try simp only [go_sem, simprocAttr] at hg) <;> (try (exfalso; omega)))
          | (with_reducible refine FnP_endE (by simp) ?_; refine ⟨_, (by simp only [Try.f41, h1, h2, h3, h6, h7, h8, h9, h10, h37, h38, hH6, hH7, hlt, cRun, cCpl, cRow,go_sem, simprocAttr]; rfl), ?_⟩; first | rfl | (try simp only [h1, h2, h3, h6, h7, h8, h9, h10, h37, h38, hH6, hH7, hlt, cRun, cCpl, cRow,go_sem, simprocAttr, Val.bool.injEq, Val.int.injEq, Val.tup.injEq, Val.agg.injEq, List.cons.injEq]))
          | with_reducible intro (ep : Nat → Nat)
          | with_reducible apply_assumption -exfalso -symm only [*])
        exact ⟨_, _, _, _, rfl, rfl, rfl, rfl, rfl, rfl, hs'⟩
      · have hs' := SHI_step hlt (by rw [hrl]; omega) hs
        rw [hrl] at hs'
        repeat' (first
          | (with_reducible refine AW_seq_k ?_; intro K hK)
          | ((first | ((with_reducible first | refine AW_region tabOK { base := 0, own := [6, 7] } ?hsz ?_ | refine AW_draw tabOK mix { base := 0, own := [6, 7] } ?hsz (by decide +kernel) ?_ | refine AW_drawS tabOK mix { base := 0, own := [6, 7] } [6, 7] ?hsz (by decide +kernel) ?_); (case hsz => rw [hXs]; rfl)) | (with_reducible first | refine AW_skip ?_ | refine AW_ret ?_ | refine AW_exit ?_ | refine AW_label ?_)); try simp (disch := omega) only [h1, h2, h3, h6, h7, h8, h9, h10, h37, h38, hH6, hH7, hlt, hx, hd, hge2, hge, cRun, cCpl, cRow,go_sem, simprocAttr])
          | (with_reducible first | refine AW_scope ?_ | refine AW_blockS ?_ | refine AW_blockR ?_ | refine AW_blockC ?_)
          | ((with_reducible refine AW_condE ?_); refine ⟨_, (by first | rfl | (simp only [h1, h2, h3, h6, h7, h8, h9, h10, h37, h38, hH6, hH7, hlt, hx, hd, hge2, hge, cRun, cCpl, cRow,go_sem, simprocAttr]; rfl)), ?_, ?_⟩ <;> intro hc <;> (try simp only [go_sem, simprocAttr] at hc) <;> (try (exfalso; omega)))
          | ((with_reducible first | refine grdS_split ?_ ?_ | refine lkG_split ?_ ?_) <;> intro hg <;> (try simp (disch := omega) only [hg, h1, h2, h3, h6, h7, h8, h9, h10, h37, h38, hH6, hH7, hlt, hx, hd, hge2, hge, cRun, cCpl, cRow,go_sem, simprocAttr]) <;> (try simp only [go_sem, simprocAttr] at hg) <;> (try (exfalso; omega)))
          | (with_reducible refine FnP_endE (by simp) ?_; refine ⟨_, (by simp only [Try.f41, h1, h2, h3, h6, h7, h8, h9, h10, h37, h38, hH6, hH7, hlt, hx, hd, hge2, hge, cRun, cCpl, cRow,go_sem, simprocAttr]; rfl), ?_⟩; first | rfl | (try simp only [h1, h2, h3, h6, h7, h8, h9, h10, h37, h38, hH6, hH7, hlt, hx, hd, hge2, hge, cRun, cCpl, cRow,go_sem, simprocAttr, Val.bool.injEq, Val.int.injEq, Val.tup.injEq, Val.agg.injEq, List.cons.injEq]))
          | with_reducible intro (ep : Nat → Nat)
          | with_reducible apply_assumption -exfalso -symm only [*])
        exact ⟨_, _, _, _, rfl, rfl, rfl, rfl, rfl, rfl, hs'⟩
    · rintro f H h38 h37 ⟨⟨h3, h1, h2, h8⟩, a, b, e6, e7, h9, h10, h6, hH6, h7, hH7, hs⟩
      obtain ⟨rfl, rfl⟩ := SHI_end hcf.2.2.1.2.1 hn hs
      repeat' (first
        | (with_reducible refine AW_seq_k ?_; intro K hK)
        | ((first | ((with_reducible first | refine AW_region tabOK { base := 0, own := [6, 7] } ?hsz ?_ | refine AW_draw tabOK mix { base := 0, own := [6, 7] } ?hsz (by decide +kernel) ?_ | refine AW_drawS tabOK mix { base := 0, own := [6, 7] } [6, 7] ?hsz (by decide +kernel) ?_); (case hsz => rw [hXs]; rfl)) | (with_reducible first | refine AW_skip ?_ | refine AW_ret ?_ | refine AW_exit ?_ | refine AW_label ?_) | refine pureK_intro (lspan_ok _ _) ?_); try simp (disch := omega) only [h1, h2, h3, h6, h7, h8, h9, h10, h37, h38, hH6, hH7, cRun, cCpl, encSpan,go_sem, simprocAttr])
        | (with_reducible first | refine AW_scope ?_ | refine AW_blockS ?_ | refine AW_blockR ?_ | refine AW_blockC ?_)
        | ((with_reducible refine AW_condE ?_); refine ⟨_, (by first | rfl | (simp only [h1, h2, h3, h6, h7, h8, h9, h10, h37, h38, hH6, hH7, cRun, cCpl, encSpan,go_sem, simprocAttr]; rfl)), ?_, ?_⟩ <;> intro hc <;> (try simp only [go_sem, simprocAttr] at hc) <;> (try (exfalso; omega)))
        | ((with_reducible first | refine grdS_split ?_ ?_ | refine lkG_split ?_ ?_) <;> intro hg <;> (try simp (disch := omega) only [hg, h1, h2, h3, h6, h7, h8, h9, h10, h37, h38, hH6, hH7, cRun, cCpl, encSpan,go_sem, simprocAttr]) <;> (try simp only [go_sem, simprocAttr] at hg) <;> (try (exfalso; omega)))
        | (with_reducible refine FnP_endE (by simp) ?_; refine ⟨_, (by simp only [Try.f41, h1, h2, h3, h6, h7, h8, h9, h10, h37, h38, hH6, hH7, cRun, cCpl, encSpan,go_sem, simprocAttr]; rfl), ?_⟩; first | rfl | (try simp only [h1, h2, h3, h6, h7, h8, h9, h10, h37, h38, hH6, hH7, cRun, cCpl, encSpan,go_sem, simprocAttr, Val.bool.injEq, Val.int.injEq, Val.tup.injEq, Val.agg.injEq, List.cons.injEq]))
        | with_reducible intro (ep : Nat → Nat)
        | with_reducible apply_assumption -exfalso -symm only [*])
      have htb := truth_bounds hF hci hm.1 hm.2 hw
      simp only [truth] at htb ⊢
      exact ⟨wrap64 (by omega), wrap64 (by omega)⟩
  · have hlr : (r.rows.length : Int) = lastRow r c := by
      unfold lastRow
      split
      · omega
      · rfl
    by_cases hb0 : 0 < c.brk
    · have hb1 : ¬ c.brk - 1 < r.rows.length := fun h => hb ⟨hb0, h⟩
      repeat' (first
        | (with_reducible refine AW_seq_k ?_; intro K hK)
        | ((first | ((with_reducible first | refine AW_region tabOK { base := 0, own := [6, 7] } ?hsz ?_ | refine AW_draw tabOK mix { base := 0, own := [6, 7] } ?hsz (by decide +kernel) ?_ | refine AW_drawS tabOK mix { base := 0, own := [6, 7] } [6, 7] ?hsz (by decide +kernel) ?_); (case hsz => rw [hXs]; rfl)) | (with_reducible first | refine AW_skip ?_ | refine AW_ret ?_ | refine AW_exit ?_ | refine AW_label ?_)); try simp (disch := omega) only [encRun, cRun, cCpl, hci, hb0, hb1, hn,go_sem, simprocAttr])
        | (with_reducible first | refine AW_scope ?_ | refine AW_blockS ?_ | refine AW_blockR ?_ | refine AW_blockC ?_)
        | ((with_reducible refine AW_condE ?_); refine ⟨_, (by first | rfl | (simp only [encRun, cRun, cCpl, hci, hb0, hb1, hn,go_sem, simprocAttr]; rfl)), ?_, ?_⟩ <;> intro hc <;> (try simp only [go_sem, simprocAttr] at hc) <;> (try (exfalso; omega)))
        | ((with_reducible first | refine grdS_split ?_ ?_ | refine lkG_split ?_ ?_) <;> intro hg <;> (try simp (disch := omega) only [hg, encRun, cRun, cCpl, hci, hb0, hb1, hn,go_sem, simprocAttr]) <;> (try simp only [go_sem, simprocAttr] at hg) <;> (try (exfalso; omega)))
        | (with_reducible refine FnP_endE (by simp) ?_; refine ⟨_, (by simp only [Try.f41, encRun, cRun, cCpl, hci, hb0, hb1, hn,go_sem, simprocAttr]; rfl), ?_⟩; first | rfl | (try simp only [encRun, cRun, cCpl, hci, hb0, hb1, hn,go_sem, simprocAttr, Val.bool.injEq, Val.int.injEq, Val.tup.injEq, Val.agg.injEq, List.cons.injEq]))
        | with_reducible intro (ep : Nat → Nat)
        | with_reducible apply_assumption -exfalso -symm only [*])
      refine AW_range tabOK n (fun k f H => (f 3 = .pim (cRun r) ∧ f 1 = .int .i64 i ∧ f 2 = .int .i64 m ∧ f 8 = .int .i64 (lastRow r c)) ∧ ∃ a b e6 e7, f 9 = .int .i64 a ∧ f 10 = .int .i64 b ∧ f 6 = .ptr 6 e6 2 0 0 ∧ H 6 = some (e6, .arr 2 [[.int .i64 0, .int .i64 0]]) ∧ f 7 = .ptr 7 e7 6 0 0 ∧ H 7 = some (e7, .arr 6 [cCpl c]) ∧ SHI (readLag r c i m) c.lag.lo k a b)
        (by omega) (by rw [hXs]; decide) (by decide) (by (first | rfl | (simp only [go_sem, simprocAttr]; done) | (simp only [go_sem, simprocAttr]; rfl))) (by (first | rfl | (simp only [go_sem, simprocAttr]; done) | (simp only [go_sem, simprocAttr]; rfl))) ⟨by (and_intros <;> first | rfl | (simp only [cRun, hlr, go_sem, simprocAttr]; done) | (simp only [cRun, hlr, go_sem, simprocAttr]; rfl)), 2000, 0, _, _, by (first | rfl | (simp only [go_sem, simprocAttr]; done) | (simp only [go_sem, simprocAttr]; rfl)), by (first | rfl | (simp only [go_sem, simprocAttr]; done) | (simp only [go_sem, simprocAttr]; rfl)), by (first | rfl | (simp only [go_sem, simprocAttr]; done) | (simp only [go_sem, simprocAttr]; rfl)), by (first | rfl | (simp only [go_sem, simprocAttr]; done) | (simp only [go_sem, simprocAttr]; rfl)), by (first | rfl | (simp only [go_sem, simprocAttr]; done) | (simp only [go_sem, simprocAttr]; rfl)), by (first | rfl | (simp only [cCpl, go_sem, simprocAttr]; done) | (simp only [cCpl, go_sem, simprocAttr]; rfl)), .inl ⟨by omega, rfl, rfl⟩⟩ ?_ ?_
      · rintro k f H hk h38 h37 ⟨⟨h3, h1, h2, h8⟩, a, b, e6, e7, h9, h10, h6, hH6, h7, hH7, hs⟩
        obtain ⟨x, d, hx, hd, hrd, hd1, hd2⟩ := readAt_ok hF hi (row := min (m + k) (lastRow r c)) (by omega) (by omega)
        have hge2 : 0 ≤ min (m + k) (lastRow r c) - 1 := by omega
        have hrl : readLag r c i m k = d := by unfold readLag; exact hrd
        by_cases hlt : (k : Int) < c.lag.lo
        · have hs' := SHI_skip hlt hs
          repeat' (first
            | (with_reducible refine AW_seq_k ?_; intro K hK)
            | ((first | ((with_reducible first | refine AW_region tabOK { base := 0, own := [6, 7] } ?hsz ?_ | refine AW_draw tabOK mix { base := 0, own := [6, 7] } ?hsz (by decide +kernel) ?_ | refine AW_drawS tabOK mix { base := 0, own := [6, 7] } [6, 7] ?hsz (by decide +kernel) ?_); (case hsz => rw [hXs]; rfl)) | (with_reducible first | refine AW_skip ?_ | refine AW_ret ?_ | refine AW_exit ?_ | refine AW_label ?_)); try simp (disch := omega) only [h1, h2, h3, h6, h7, h8, h9, h10, h37, h38, hH6, hH7, hlt, cRun, cCpl, cRow,go_sem, simprocAttr])
            | (with_reducible first | refine AW_scope ?_ | refine AW_blockS ?_ | refine AW_blockR ?_ | refine AW_blockC ?_)
            | ((with_reducible refine AW_condE ?_); refine ⟨_, (by first | rfl | (simp only [h1, h2, h3, h6, h7, h8, h9, h10, h37, h38, hH6, hH7, hlt, cRun, cCpl, cRow,go_sem, simprocAttr]; rfl)), ?_, ?_⟩ <;> intro hc <;> (try simp only [go_sem, simprocAttr] at hc) <;> (try (exfalso; omega)))
            | ((with_reducible first | refine grdS_split ?_ ?_ | refine lkG_split ?_ ?_) <;> intro hg <;> (try simp (disch := omega) only [hg, h1, h2, h3, h6, h7, h8, h9, h10, h37, h38, hH6, hH7, hlt, cRun, cCpl, cRow,go_sem, simprocAttr]) <;> (try simp only [go_sem, simprocAttr] at hg) <;> (try (exfalso; omega)))
            | (with_reducible refine FnP_endE (by simp) ?_; refine ⟨_, (by simp only [Try.f41, h1, h2, h3, h6, h7, h8, h9, h10, h37, h38, hH6, hH7, hlt, cRun, cCpl, cRow,go_sem, simprocAttr]; rfl), ?_⟩; first | rfl | (try simp only [h1, h2, h3, h6, h7, h8, h9, h10, h37, h38, hH6, hH7, hlt, cRun, cCpl, cRow,go_sem, simprocAttr, Val.bool.injEq, Val.int.injEq, Val.tup.injEq, Val.agg.injEq, List.cons.injEq]))
            | with_reducible intro (ep : Nat → Nat)
            | with_reducible apply_assumption -exfalso -symm only [*])
          exact ⟨_, _, _, _, rfl, rfl, rfl, rfl, rfl, rfl, hs'⟩
        · have hs' := SHI_step hlt (by rw [hrl]; omega) hs
          rw [hrl] at hs'
          repeat' (first
            | (with_reducible refine AW_seq_k ?_; intro K hK)
            | ((first | ((with_reducible first | refine AW_region tabOK { base := 0, own := [6, 7] } ?hsz ?_ | refine AW_draw tabOK mix { base := 0, own := [6, 7] } ?hsz (by decide +kernel) ?_ | refine AW_drawS tabOK mix { base := 0, own := [6, 7] } [6, 7] ?hsz (by decide +kernel) ?_); (case hsz => rw [hXs]; rfl)) | (with_reducible first | refine AW_skip ?_ | refine AW_ret ?_ | refine AW_exit ?_ | refine AW_label ?_)); try simp (disch := omega) only [h1, h2, h3, h6, h7, h8, h9, h10, h37, h38, hH6, hH7, hlt, hx, hd, hge2, hge, cRun, cCpl, cRow,go_sem, simprocAttr])
            | (with_reducible first | refine AW_scope ?_ | refine AW_blockS ?_ | refine AW_blockR ?_ | refine AW_blockC ?_)
            | ((with_reducible refine AW_condE ?_); refine ⟨_, (by first | rfl | (simp only [h1, h2, h3, h6, h7, h8, h9, h10, h37, h38, hH6, hH7, hlt, hx, hd, hge2, hge, cRun, cCpl, cRow,go_sem, simprocAttr]; rfl)), ?_, ?_⟩ <;> intro hc <;> (try simp only [go_sem, simprocAttr] at hc) <;> (try (exfalso; omega)))
            | ((with_reducible first | refine grdS_split ?_ ?_ | refine lkG_split ?_ ?_) <;> intro hg <;> (try simp (disch := omega) only [hg, h1, h2, h3, h6, h7, h8, h9, h10, h37, h38, hH6, hH7, hlt, hx, hd, hge2, hge, cRun, cCpl, cRow,go_sem, simprocAttr]) <;> (try simp only [go_sem, simprocAttr] at hg) <;> (try (exfalso; omega)))
            | (with_reducible refine FnP_endE (by simp) ?_; refine ⟨_, (by simp only [Try.f41, h1, h2, h3, h6, h7, h8, h9, h10, h37, h38, hH6, hH7, hlt, hx, hd, hge2, hge, cRun, cCpl, cRow,go_sem, simprocAttr]; rfl), ?_⟩; first | rfl | (try simp only [h1, h2, h3, h6, h7, h8, h9, h10, h37, h38, hH6, hH7, hlt, hx, hd, hge2, hge, cRun, cCpl, cRow,go_sem, simprocAttr, Val.bool.injEq, Val.int.injEq, Val.tup.injEq, Val.agg.injEq, List.cons.injEq]))
            | with_reducible intro (ep : Nat → Nat)
            | with_reducible apply_assumption -exfalso -symm only [*])
          exact ⟨_, _, _, _, rfl, rfl, rfl, rfl, rfl, rfl, hs'⟩
      · rintro f H h38 h37 ⟨⟨h3, h1, h2, h8⟩, a, b, e6, e7, h9, h10, h6, hH6, h7, hH7, hs⟩
        obtain ⟨rfl, rfl⟩ := SHI_end hcf.2.2.1.2.1 hn hs
        repeat' (first
          | (with_reducible refine AW_seq_k ?_; intro K hK)
          | ((first | ((with_reducible first | refine AW_region tabOK { base := 0, own := [6, 7] } ?hsz ?_ | refine AW_draw tabOK mix { base := 0, own := [6, 7] } ?hsz (by decide +kernel) ?_ | refine AW_drawS tabOK mix { base := 0, own := [6, 7] } [6, 7] ?hsz (by decide +kernel) ?_); (case hsz => rw [hXs]; rfl)) | (with_reducible first | refine AW_skip ?_ | refine AW_ret ?_ | refine AW_exit ?_ | refine AW_label ?_) | refine pureK_intro (lspan_ok _ _) ?_); try simp (disch := omega) only [h1, h2, h3, h6, h7, h8, h9, h10, h37, h38, hH6, hH7, cRun, cCpl, encSpan,go_sem, simprocAttr])
          | (with_reducible first | refine AW_scope ?_ | refine AW_blockS ?_ | refine AW_blockR ?_ | refine AW_blockC ?_)
          | ((with_reducible refine AW_condE ?_); refine ⟨_, (by first | rfl | (simp only [h1, h2, h3, h6, h7, h8, h9, h10, h37, h38, hH6, hH7, cRun, cCpl, encSpan,go_sem, simprocAttr]; rfl)), ?_, ?_⟩ <;> intro hc <;> (try simp only [go_sem, simprocAttr] at hc) <;> (try (exfalso; omega)))
          | ((with_reducible first | refine grdS_split ?_ ?_ | refine lkG_split ?_ ?_) <;> intro hg <;> (try simp (disch := omega) only [hg, h1, h2, h3, h6, h7, h8, h9, h10, h37, h38, hH6, hH7, cRun, cCpl, encSpan,go_sem, simprocAttr]) <;> (try simp only [go_sem, simprocAttr] at hg) <;> (try (exfalso; omega)))
          | (with_reducible refine FnP_endE (by simp) ?_; refine ⟨_, (by simp only [Try.f41, h1, h2, h3, h6, h7, h8, h9, h10, h37, h38, hH6, hH7, cRun, cCpl, encSpan,go_sem, simprocAttr]; rfl), ?_⟩; first | rfl | (try simp only [h1, h2, h3, h6, h7, h8, h9, h10, h37, h38, hH6, hH7, cRun, cCpl, encSpan,go_sem, simprocAttr, Val.bool.injEq, Val.int.injEq, Val.tup.injEq, Val.agg.injEq, List.cons.injEq]))
          | with_reducible intro (ep : Nat → Nat)
          | with_reducible apply_assumption -exfalso -symm only [*])
        have htb := truth_bounds hF hci hm.1 hm.2 hw
        simp only [truth] at htb ⊢
        exact ⟨wrap64 (by omega), wrap64 (by omega)⟩
    · repeat' (first
        | (with_reducible refine AW_seq_k ?_; intro K hK)
        | ((first | ((with_reducible first | refine AW_region tabOK { base := 0, own := [6, 7] } ?hsz ?_ | refine AW_draw tabOK mix { base := 0, own := [6, 7] } ?hsz (by decide +kernel) ?_ | refine AW_drawS tabOK mix { base := 0, own := [6, 7] } [6, 7] ?hsz (by decide +kernel) ?_); (case hsz => rw [hXs]; rfl)) | (with_reducible first | refine AW_skip ?_ | refine AW_ret ?_ | refine AW_exit ?_ | refine AW_label ?_)); try simp (disch := omega) only [encRun, cRun, cCpl, hci, hb0, hn,go_sem, simprocAttr])
        | (with_reducible first | refine AW_scope ?_ | refine AW_blockS ?_ | refine AW_blockR ?_ | refine AW_blockC ?_)
        | ((with_reducible refine AW_condE ?_); refine ⟨_, (by first | rfl | (simp only [encRun, cRun, cCpl, hci, hb0, hn,go_sem, simprocAttr]; rfl)), ?_, ?_⟩ <;> intro hc <;> (try simp only [go_sem, simprocAttr] at hc) <;> (try (exfalso; omega)))
        | ((with_reducible first | refine grdS_split ?_ ?_ | refine lkG_split ?_ ?_) <;> intro hg <;> (try simp (disch := omega) only [hg, encRun, cRun, cCpl, hci, hb0, hn,go_sem, simprocAttr]) <;> (try simp only [go_sem, simprocAttr] at hg) <;> (try (exfalso; omega)))
        | (with_reducible refine FnP_endE (by simp) ?_; refine ⟨_, (by simp only [Try.f41, encRun, cRun, cCpl, hci, hb0, hn,go_sem, simprocAttr]; rfl), ?_⟩; first | rfl | (try simp only [encRun, cRun, cCpl, hci, hb0, hn,go_sem, simprocAttr, Val.bool.injEq, Val.int.injEq, Val.tup.injEq, Val.agg.injEq, List.cons.injEq]))
        | with_reducible intro (ep : Nat → Nat)
        | with_reducible apply_assumption -exfalso -symm only [*])
      refine AW_range tabOK n (fun k f H => (f 3 = .pim (cRun r) ∧ f 1 = .int .i64 i ∧ f 2 = .int .i64 m ∧ f 8 = .int .i64 (lastRow r c)) ∧ ∃ a b e6 e7, f 9 = .int .i64 a ∧ f 10 = .int .i64 b ∧ f 6 = .ptr 6 e6 2 0 0 ∧ H 6 = some (e6, .arr 2 [[.int .i64 0, .int .i64 0]]) ∧ f 7 = .ptr 7 e7 6 0 0 ∧ H 7 = some (e7, .arr 6 [cCpl c]) ∧ SHI (readLag r c i m) c.lag.lo k a b)
        (by omega) (by rw [hXs]; decide) (by decide) (by (first | rfl | (simp only [go_sem, simprocAttr]; done) | (simp only [go_sem, simprocAttr]; rfl))) (by (first | rfl | (simp only [go_sem, simprocAttr]; done) | (simp only [go_sem, simprocAttr]; rfl))) ⟨by (and_intros <;> first | rfl | (simp only [cRun, hlr, go_sem, simprocAttr]; done) | (simp only [cRun, hlr, go_sem, simprocAttr]; rfl)), 2000, 0, _, _, by (first | rfl | (simp only [go_sem, simprocAttr]; done) | (simp only [go_sem, simprocAttr]; rfl)), by (first | rfl | (simp only [go_sem, simprocAttr]; done) | (simp only [go_sem, simprocAttr]; rfl)), by (first | rfl | (simp only [go_sem, simprocAttr]; done) | (simp only [go_sem, simprocAttr]; rfl)), by (first | rfl | (simp only [go_sem, simprocAttr]; done) | (simp only [go_sem, simprocAttr]; rfl)), by (first | rfl | (simp only [go_sem, simprocAttr]; done) | (simp only [go_sem, simprocAttr]; rfl)), by (first | rfl | (simp only [cCpl, go_sem, simprocAttr]; done) | (simp only [cCpl, go_sem, simprocAttr]; rfl)), .inl ⟨by omega, rfl, rfl⟩⟩ ?_ ?_
      · rintro k f H hk h38 h37 ⟨⟨h3, h1, h2, h8⟩, a, b, e6, e7, h9, h10, h6, hH6, h7, hH7, hs⟩
        obtain ⟨x, d, hx, hd, hrd, hd1, hd2⟩ := readAt_ok hF hi (row := min (m + k) (lastRow r c)) (by omega) (by omega)
        have hge2 : 0 ≤ min (m + k) (lastRow r c) - 1 := by omega
        have hrl : readLag r c i m k = d := by unfold readLag; exact hrd
        by_cases hlt : (k : Int) < c.lag.lo
        · have hs' := SHI_skip hlt hs
          repeat' (first
            | (with_reducible refine AW_seq_k ?_; intro K hK)
            | ((first | ((with_reducible first | refine AW_region tabOK { base := 0, own := [6, 7] } ?hsz ?_ | refine AW_draw tabOK mix { base := 0, own := [6, 7] } ?hsz (by decide +kernel) ?_ | refine AW_drawS tabOK mix { base := 0, own := [6, 7] } [6, 7] ?hsz (by decide +kernel) ?_); (case hsz => rw [hXs]; rfl)) | (with_reducible first | refine AW_skip ?_ | refine AW_ret ?_ | refine AW_exit ?_ | refine AW_label ?_)); try simp (disch := omega) only [h1, h2, h3, h6, h7, h8, h9, h10, h37, h38, hH6, hH7, hlt, cRun, cCpl, cRow,go_sem, simprocAttr])
            | (with_reducible first | refine AW_scope ?_ | refine AW_blockS ?_ | refine AW_blockR ?_ | refine AW_blockC ?_)
            | ((with_reducible refine AW_condE ?_); refine ⟨_, (by first | rfl | (simp only [h1, h2, h3, h6, h7, h8, h9, h10, h37, h38, hH6, hH7, hlt, cRun, cCpl, cRow,go_sem, simprocAttr]; rfl)), ?_, ?_⟩ <;> intro hc <;> (try simp only [go_sem, simprocAttr] at hc) <;> (try (exfalso; omega)))
            | ((with_reducible first | refine grdS_split ?_ ?_ | refine lkG_split ?_ ?_) <;> intro hg <;> (try simp (disch := omega) only [hg, h1, h2, h3, h6, h7, h8, h9, h10, h37, h38, hH6, hH7, hlt, cRun, cCpl, cRow,go_sem, simprocAttr]) <;> (try simp only [go_sem, simprocAttr] at hg) <;> (try (exfalso; omega)))
            | (with_reducible refine FnP_endE (by simp) ?_; refine ⟨_, (by simp only [Try.f41, h1, h2, h3, h6, h7, h8, h9, h10, h37, h38, hH6, hH7, hlt, cRun, cCpl, cRow,go_sem, simprocAttr]; rfl), ?_⟩; first | rfl | (try simp only [h1, h2, h3, h6, h7, h8, h9, h10, h37, h38, hH6, hH7, hlt, cRun, cCpl, cRow,go_sem, simprocAttr, Val.bool.injEq, Val.int.injEq, Val.tup.injEq, Val.agg.injEq, List.cons.injEq]))
            | with_reducible intro (ep : Nat → Nat)
            | with_reducible apply_assumption -exfalso -symm only [*])
          exact ⟨_, _, _, _, rfl, rfl, rfl, rfl, rfl, rfl, hs'⟩
        · have hs' := SHI_step hlt (by rw [hrl]; omega) hs
          rw [hrl] at hs'
          repeat' (first
            | (with_reducible refine AW_seq_k ?_; intro K hK)
            | ((first | ((with_reducible first | refine AW_region tabOK { base := 0, own := [6, 7] } ?hsz ?_ | refine AW_draw tabOK mix { base := 0, own := [6, 7] } ?hsz (by decide +kernel) ?_ | refine AW_drawS tabOK mix { base := 0, own := [6, 7] } [6, 7] ?hsz (by decide +kernel) ?_); (case hsz => rw [hXs]; rfl)) | (with_reducible first | refine AW_skip ?_ | refine AW_ret ?_ | refine AW_exit ?_ | refine AW_label ?_)); try simp (disch := omega) only [h1, h2, h3, h6, h7, h8, h9, h10, h37, h38, hH6, hH7, hlt, hx, hd, hge2, hge, cRun, cCpl, cRow,go_sem, simprocAttr])
            | (with_reducible first | refine AW_scope ?_ | refine AW_blockS ?_ | refine AW_blockR ?_ | refine AW_blockC ?_)
            | ((with_reducible refine AW_condE ?_); refine ⟨_, (by first | rfl | (simp only [h1, h2, h3, h6, h7, h8, h9, h10, h37, h38, hH6, hH7, hlt, hx, hd, hge2, hge, cRun, cCpl, cRow,go_sem, simprocAttr]; rfl)), ?_, ?_⟩ <;> intro hc <;> (try simp only [go_sem, simprocAttr] at hc) <;> (try (exfalso; omega)))
            | ((with_reducible first | refine grdS_split ?_ ?_ | refine lkG_split ?_ ?_) <;> intro hg <;> (try simp (disch := omega) only [hg, h1, h2, h3, h6, h7, h8, h9, h10, h37, h38, hH6, hH7, hlt, hx, hd, hge2, hge, cRun, cCpl, cRow,go_sem, simprocAttr]) <;> (try simp only [go_sem, simprocAttr] at hg) <;> (try (exfalso; omega)))
            | (with_reducible refine FnP_endE (by simp) ?_; refine ⟨_, (by simp only [Try.f41, h1, h2, h3, h6, h7, h8, h9, h10, h37, h38, hH6, hH7, hlt, hx, hd, hge2, hge, cRun, cCpl, cRow,go_sem, simprocAttr]; rfl), ?_⟩; first | rfl | (try simp only [h1, h2, h3, h6, h7, h8, h9, h10, h37, h38, hH6, hH7, hlt, hx, hd, hge2, hge, cRun, cCpl, cRow,go_sem, simprocAttr, Val.bool.injEq, Val.int.injEq, Val.tup.injEq, Val.agg.injEq, List.cons.injEq]))
            | with_reducible intro (ep : Nat → Nat)
            | with_reducible apply_assumption -exfalso -symm only [*])
          exact ⟨_, _, _, _, rfl, rfl, rfl, rfl, rfl, rfl, hs'⟩
      · rintro f H h38 h37 ⟨⟨h3, h1, h2, h8⟩, a, b, e6, e7, h9, h10, h6, hH6, h7, hH7, hs⟩
        obtain ⟨rfl, rfl⟩ := SHI_end hcf.2.2.1.2.1 hn hs
        repeat' (first
          | (with_reducible refine AW_seq_k ?_; intro K hK)
          | ((first | ((with_reducible first | refine AW_region tabOK { base := 0, own := [6, 7] } ?hsz ?_ | refine AW_draw tabOK mix { base := 0, own := [6, 7] } ?hsz (by decide +kernel) ?_ | refine AW_drawS tabOK mix { base := 0, own := [6, 7] } [6, 7] ?hsz (by decide +kernel) ?_); (case hsz => rw [hXs]; rfl)) | (with_reducible first | refine AW_skip ?_ | refine AW_ret ?_ | refine AW_exit ?_ | refine AW_label ?_) | refine pureK_intro (lspan_ok _ _) ?_); try simp (disch := omega) only [h1, h2, h3, h6, h7, h8, h9, h10, h37, h38, hH6, hH7, cRun, cCpl, encSpan,go_sem, simprocAttr])
          | (with_reducible first | refine AW_scope ?_ | refine AW_blockS ?_ | refine AW_blockR ?_ | refine AW_blockC ?_)
          | ((with_reducible refine AW_condE ?_); refine ⟨_, (by first | rfl | (simp only [h1, h2, h3, h6, h7, h8, h9, h10, h37, h38, hH6, hH7, cRun, cCpl, encSpan,go_sem, simprocAttr]; rfl)), ?_, ?_⟩ <;> intro hc <;> (try simp only [go_sem, simprocAttr] at hc) <;> (try (exfalso; omega)))
          | ((with_reducible first | refine grdS_split ?_ ?_ | refine lkG_split ?_ ?_) <;> intro hg <;> (try simp (disch := omega) only [hg, h1, h2, h3, h6, h7, h8, h9, h10, h37, h38, hH6, hH7, cRun, cCpl, encSpan,go_sem, simprocAttr]) <;> (try simp only [go_sem, simprocAttr] at hg) <;> (try (exfalso; omega)))
          | (with_reducible refine FnP_endE (by simp) ?_; refine ⟨_, (by simp only [Try.f41, h1, h2, h3, h6, h7, h8, h9, h10, h37, h38, hH6, hH7, cRun, cCpl, encSpan,go_sem, simprocAttr]; rfl), ?_⟩; first | rfl | (try simp only [h1, h2, h3, h6, h7, h8, h9, h10, h37, h38, hH6, hH7, cRun, cCpl, encSpan,go_sem, simprocAttr, Val.bool.injEq, Val.int.injEq, Val.tup.injEq, Val.agg.injEq, List.cons.injEq]))
          | with_reducible intro (ep : Nat → Nat)
          | with_reducible apply_assumption -exfalso -symm only [*])
        have htb := truth_bounds hF hci hm.1 hm.2 hw
        simp only [truth] at htb ⊢
        exact ⟨wrap64 (by omega), wrap64 (by omega)⟩
end Cp

