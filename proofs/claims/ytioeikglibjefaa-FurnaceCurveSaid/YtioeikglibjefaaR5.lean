/- What functions of the furnace and of its reference compute (R5). Conditions: none. -/
import Derived.Test.YtioeikglibjefaaR4
set_option linter.unusedSimpArgs false
set_option linter.unusedVariables false
namespace Cp
open Go Go.Proofs
set_option maxRecDepth 10000

theorem degree_ok (l : List Pt) (hc : CurveF l) (m : Int) (hm : 0 ≤ m) (hm2 : m ≤ lastM l) : PureC Try.prog 46 [.lst 2 (l.map cPt), .int .i64 m] (.int .i64 (degAt l m)) := by
  obtain ⟨i, hi, q1, q2, hB⟩ := bsearch_ok l (by have := hc.len; omega) m (fun i j p q h1 h2 h3 => (hc.inc i j p q h1 h2 h3).1)
  have hlen := hc.len
  have hil : i < l.length := by
    rcases Nat.lt_or_ge i l.length with h | h
    · exact h
    · obtain ⟨z, hz⟩ : ∃ z, l[l.length - 1]? = some z := ⟨_, List.getElem?_eq_getElem (by omega)⟩
      have h1 := q1 _ _ (show l.length - 1 < i by omega) hz
      rw [lastM_get hz] at hm2
      omega
  obtain ⟨b, hb⟩ : ∃ b, l[i]? = some b := ⟨_, List.getElem?_eq_getElem hil⟩
  obtain ⟨d1, d2⟩ := degAt_at hc q1 hb
  rw [hb] at hB
  simp only [Option.any_some] at hB
  have hbm := q2 i b (Nat.le_refl _) hb
  have hbb := hc.all _ _ hb
  refine PureC_of (fn := Try.f46) tabOK (by kernel_rfl) rfl (by kernel_rfl) (by simp [Try.f46]) (by simp [noids, noid, noidss, go_sem]) (by first | rfl | simp [noids, noid, noidss, go_sem]) ?_
  intro X hX0 hXs
  by_cases he : b.m = m
  · repeat' (first
      | (with_reducible refine AW_seq_k ?_; intro K hK)
      | ((first | ((with_reducible first | refine AW_region tabOK { base := 0, own := [] } ?hsz ?_ | refine AW_draw tabOK mix { base := 0, own := [] } ?hsz (by decide +kernel) ?_ | refine AW_drawS tabOK mix { base := 0, own := [] } [7, 8] ?hsz (by decide +kernel) ?_); (case hsz => rw [hXs]; rfl)) | (with_reducible first | refine AW_skip ?_ | refine AW_ret ?_ | refine AW_exit ?_ | refine AW_label ?_) | refine pureK_intro (hB) ?_); try simp (disch := omega) only [hb, cPt,go_sem, simprocAttr])
      | (with_reducible first | refine AW_scope ?_ | refine AW_blockS ?_ | refine AW_blockR ?_ | refine AW_blockC ?_)
      | ((with_reducible refine AW_condE ?_); refine ⟨_, (by first | rfl | (simp only [hb, cPt,go_sem, simprocAttr]; rfl)), ?_, ?_⟩ <;> intro hc <;> (try simp only [go_sem, simprocAttr] at hc) <;> (try (exfalso; omega)))
      | (with_reducible refine FnP_endE (by simp) ?_; refine ⟨_, (by simp only [Try.f46, hb, cPt,go_sem, simprocAttr]; rfl), ?_⟩; first | rfl | (try simp only [hb, cPt,go_sem, simprocAttr, Val.bool.injEq, Val.int.injEq, Val.tup.injEq, Val.agg.injEq, List.cons.injEq, Bool.and_self]))
      | with_reducible intro (ep : Nat → Nat)
      | with_reducible apply_assumption -exfalso -symm only [*])
    exact (d1 he).symm
  · obtain ⟨p0, hp0, hp1⟩ := hc.zero
    obtain ⟨k, rfl⟩ : ∃ k, i = k + 1 := by
      cases i with
      | zero => rw [hp0] at hb; cases hb; omega
      | succ k => exact ⟨k, rfl⟩
    obtain ⟨a, ha⟩ : ∃ a, l[k]? = some a := ⟨_, List.getElem?_eq_getElem (by omega)⟩
    have hab := hc.inc k (k + 1) a b (by omega) ha hb
    have haa := hc.all _ _ ha
    have ham := q1 k a (by omega) ha
    have hdeg := d2 k a rfl ha (by omega)
    have hne : ¬ b.m - a.m = 0 := by omega
    obtain ⟨b1, b2⟩ := interp_bounds haa hbb hab.2 (by omega) (show m < b.m by omega)
    repeat' (first
      | (with_reducible refine AW_seq_k ?_; intro K hK)
      | ((first | ((with_reducible first | refine AW_region tabOK { base := 0, own := [] } ?hsz ?_ | refine AW_draw tabOK mix { base := 0, own := [] } ?hsz (by decide +kernel) ?_ | refine AW_drawS tabOK mix { base := 0, own := [] } [7, 8] ?hsz (by decide +kernel) ?_); (case hsz => rw [hXs]; rfl)) | (with_reducible first | refine AW_skip ?_ | refine AW_ret ?_ | refine AW_exit ?_ | refine AW_label ?_) | refine pureK_intro (hB) ?_); try simp (disch := omega) only [hb, ha, cPt, hne,go_sem, simprocAttr])
      | (with_reducible first | refine AW_scope ?_ | refine AW_blockS ?_ | refine AW_blockR ?_ | refine AW_blockC ?_)
      | ((with_reducible refine AW_condE ?_); refine ⟨_, (by first | rfl | (simp only [hb, ha, cPt, hne,go_sem, simprocAttr]; rfl)), ?_, ?_⟩ <;> intro hc <;> (try simp only [go_sem, simprocAttr] at hc) <;> (try (exfalso; omega)))
      | (with_reducible refine FnP_endE (by simp) ?_; refine ⟨_, (by simp only [Try.f46, hb, ha, cPt, hne,go_sem, simprocAttr]; rfl), ?_⟩; first | rfl | (try simp only [hb, ha, cPt, hne,go_sem, simprocAttr, Val.bool.injEq, Val.int.injEq, Val.tup.injEq, Val.agg.injEq, List.cons.injEq, Bool.and_self]))
      | with_reducible intro (ep : Nat → Nat)
      | with_reducible apply_assumption -exfalso -symm only [*])
    rw [hdeg]; rfl

theorem at_ok (l : List Pt) (hl : l.length ≤ 4611686018427387904) (m : Int) : PureC Try.prog 16 [.lst 2 (l.map cPt), .int .i64 m]
    (if curveOK l then (if 0 ≤ m ∧ m ≤ lastM l then .tup [.int .i64 (degAt l m), .int .i64 0] else .tup [.int .i64 0, .int .i64 2]) else .tup [.int .i64 0, .int .i64 10]) := by
  by_cases hc : curveOK l = true
  · have hF := curve_facts hc
    obtain ⟨z, hz⟩ : ∃ z, l[l.length - 1]? = some z := ⟨_, List.getElem?_eq_getElem (by have := hF.len; omega)⟩
    have hzm := lastM_get hz
    have e1 : ((l.length : Int) - 1) = ((l.length - 1 : Nat) : Int) := by have := hF.len; omega
    rw [if_pos hc, hzm]
    by_cases hm : 0 ≤ m ∧ m ≤ z.m
    · rw [if_pos hm]
      refine PureC_of (fn := Try.f16) tabOK (by kernel_rfl) rfl (by kernel_rfl) (by simp [Try.f16]) (by simp [noids, noid, noidss, go_sem]) (by first | rfl | simp [noids, noid, noidss, go_sem]) ?_
      intro X hX0 hXs
      repeat' (first
        | (with_reducible refine AW_seq_k ?_; intro K hK)
        | ((first | ((with_reducible first | refine AW_region tabOK { base := 0, own := [] } ?hsz ?_ | refine AW_draw tabOK mix { base := 0, own := [] } ?hsz (by decide +kernel) ?_); (case hsz => rw [hXs]; rfl)) | (with_reducible first | refine AW_skip ?_ | refine AW_ret ?_ | refine AW_exit ?_ | refine AW_label ?_) | refine pureK_intro (curved_ok l hl) ?_ | refine pureK_intro (in_1 _ _ _) ?_ | refine pureK_intro (degree_ok l hF m hm.1 (by rw [hzm]; exact hm.2)) ?_); try simp (disch := omega) only [hc, hz, e1, cPt,go_sem, simprocAttr])
        | (with_reducible first | refine AW_scope ?_ | refine AW_blockS ?_ | refine AW_blockR ?_ | refine AW_blockC ?_)
        | ((with_reducible refine AW_condE ?_); refine ⟨_, (by first | rfl | (simp only [hc, hz, e1, cPt,go_sem, simprocAttr]; rfl)), ?_, ?_⟩ <;> intro hc <;> (try simp only [go_sem, simprocAttr] at hc) <;> (try (exfalso; omega)))
        | (with_reducible refine FnP_endE (by simp) ?_; refine ⟨_, (by simp only [Try.f16, hc, hz, e1, cPt,go_sem, simprocAttr]; rfl), ?_⟩; first | rfl | (try simp only [hc, hz, e1, cPt,go_sem, simprocAttr, Val.bool.injEq, Val.int.injEq, Val.tup.injEq, Val.agg.injEq, List.cons.injEq, Bool.and_self]))
        | with_reducible intro (ep : Nat → Nat)
        | with_reducible apply_assumption -exfalso -symm only [*])
    · rw [if_neg hm]
      refine PureC_of (fn := Try.f16) tabOK (by kernel_rfl) rfl (by kernel_rfl) (by simp [Try.f16]) (by simp [noids, noid, noidss, go_sem]) (by first | rfl | simp [noids, noid, noidss, go_sem]) ?_
      intro X hX0 hXs
      repeat' (first
        | (with_reducible refine AW_seq_k ?_; intro K hK)
        | ((first | ((with_reducible first | refine AW_region tabOK { base := 0, own := [] } ?hsz ?_ | refine AW_draw tabOK mix { base := 0, own := [] } ?hsz (by decide +kernel) ?_); (case hsz => rw [hXs]; rfl)) | (with_reducible first | refine AW_skip ?_ | refine AW_ret ?_ | refine AW_exit ?_ | refine AW_label ?_) | refine pureK_intro (curved_ok l hl) ?_ | refine pureK_intro (in_1 _ _ _) ?_); try simp (disch := omega) only [hc, hz, e1, cPt,go_sem, simprocAttr])
        | (with_reducible first | refine AW_scope ?_ | refine AW_blockS ?_ | refine AW_blockR ?_ | refine AW_blockC ?_)
        | ((with_reducible refine AW_condE ?_); refine ⟨_, (by first | rfl | (simp only [hc, hz, e1, cPt,go_sem, simprocAttr]; rfl)), ?_, ?_⟩ <;> intro hc <;> (try simp only [go_sem, simprocAttr] at hc) <;> (try (exfalso; omega)))
        | (with_reducible refine FnP_endE (by simp) ?_; refine ⟨_, (by simp only [Try.f16, hc, hz, e1, cPt,go_sem, simprocAttr]; rfl), ?_⟩; first | rfl | (try simp only [hc, hz, e1, cPt,go_sem, simprocAttr, Val.bool.injEq, Val.int.injEq, Val.tup.injEq, Val.agg.injEq, List.cons.injEq, Bool.and_self]))
        | with_reducible intro (ep : Nat → Nat)
        | with_reducible apply_assumption -exfalso -symm only [*])
  · simp only [Bool.not_eq_true] at hc
    simp only [hc, Bool.false_eq_true, if_false]
    refine PureC_of (fn := Try.f16) tabOK (by kernel_rfl) rfl (by kernel_rfl) (by simp [Try.f16]) (by simp [noids, noid, noidss, go_sem]) (by first | rfl | simp [noids, noid, noidss, go_sem]) ?_
    intro X hX0 hXs
    repeat' (first
      | (with_reducible refine AW_seq_k ?_; intro K hK)
      | ((first | ((with_reducible first | refine AW_region tabOK { base := 0, own := [] } ?hsz ?_ | refine AW_draw tabOK mix { base := 0, own := [] } ?hsz (by decide +kernel) ?_); (case hsz => rw [hXs]; rfl)) | (with_reducible first | refine AW_skip ?_ | refine AW_ret ?_ | refine AW_exit ?_ | refine AW_label ?_) | refine pureK_intro (curved_ok l hl) ?_); try simp (disch := omega) only [hc,go_sem, simprocAttr])
      | (with_reducible first | refine AW_scope ?_ | refine AW_blockS ?_ | refine AW_blockR ?_ | refine AW_blockC ?_)
      | ((with_reducible refine AW_condE ?_); refine ⟨_, (by first | rfl | (simp only [hc,go_sem, simprocAttr]; rfl)), ?_, ?_⟩ <;> intro hc <;> (try simp only [go_sem, simprocAttr] at hc) <;> (try (exfalso; omega)))
      | (with_reducible refine FnP_endE (by simp) ?_; refine ⟨_, (by simp only [Try.f16, hc,go_sem, simprocAttr]; rfl), ?_⟩; first | rfl | (try simp only [hc,go_sem, simprocAttr, Val.bool.injEq, Val.int.injEq, Val.tup.injEq, Val.agg.injEq, List.cons.injEq, Bool.and_self]))
      | with_reducible intro (ep : Nat → Nat)
      | with_reducible apply_assumption -exfalso -symm only [*])

theorem rdegree_ok (l : List Pt) (hc : CurveF l) (m : Int) (hm : 0 ≤ m) (hm2 : m ≤ 600) : PureC Try.prog 48 [.lst 2 (l.map cPt), .int .i64 m] (.int .i64 (degAt l m)) := by
  obtain ⟨p0, hp0, hp1⟩ := hc.zero
  have hlen := hc.len
  have e0 : degAt l m = degFrom p0 (l.drop 1) m := by
    cases l with
    | nil => cases hp0
    | cons p l => cases hp0; rfl
  refine PureC_of (fn := Try.f48) tabOK (by kernel_rfl) rfl (by kernel_rfl) (by simp [Try.f48]) (by simp [noids, noid, noidss, go_sem]) (by first | rfl | simp [noids, noid, noidss, go_sem]) ?_
  intro X hX0 hXs
  repeat' (first
    | (with_reducible refine AW_seq_k ?_; intro K hK)
    | ((first | ((with_reducible first | refine AW_region tabOK { base := 0, own := [] } ?hsz ?_ | refine AW_draw tabOK mix { base := 0, own := [] } ?hsz (by decide +kernel) ?_ | refine AW_drawS tabOK mix { base := 0, own := [] } [6, 7] ?hsz (by decide +kernel) ?_); (case hsz => rw [hXs]; rfl)) | (with_reducible first | refine AW_skip ?_ | refine AW_ret ?_ | refine AW_exit ?_ | refine AW_label ?_)); try simp (disch := omega) only [go_sem, simprocAttr])
    | (with_reducible first | refine AW_scope ?_ | refine AW_blockS ?_ | refine AW_blockR ?_ | refine AW_blockC ?_)
    | ((with_reducible refine AW_condE ?_); refine ⟨_, (by first | rfl | (simp only [go_sem, simprocAttr]; rfl)), ?_, ?_⟩ <;> intro hc <;> (try simp only [go_sem, simprocAttr] at hc) <;> (try (exfalso; omega)))
    | (with_reducible refine FnP_endE (by simp) ?_; refine ⟨_, (by simp only [Try.f48, go_sem, simprocAttr]; rfl), ?_⟩; first | rfl | (try simp only [go_sem, simprocAttr, Val.bool.injEq, Val.int.injEq, Val.tup.injEq, Val.agg.injEq, List.cons.injEq, Bool.and_self]))
    | with_reducible intro (ep : Nat → Nat)
    | with_reducible apply_assumption -exfalso -symm only [*])
  refine AW_block (AW_loop (fun n f H => ∃ k : Nat, n = l.length - k ∧ k + 1 ≤ l.length ∧ (f 0 = .lst 2 (l.map cPt) ∧ f 1 = .int .i64 m ∧ f 5 = .int .i64 ((k + 1 : Nat) : Int)) ∧ ∃ a : Pt, l[k]? = some a ∧ a.m ≤ m ∧ degAt l m = degFrom a (l.drop (k + 1)) m) l.length
    ⟨0, by simp, by omega, by (and_intros <;> first | rfl | (simp only [go_sem, simprocAttr]; done) | (simp only [go_sem, simprocAttr]; rfl)), p0, hp0, by omega, e0⟩ ?_)
  rintro n f H ⟨k, rfl, hk, ⟨h0, hf1, h5⟩, a, ha, ham, hr⟩
  have haa := hc.all _ _ ha
  by_cases hlt : k + 1 < l.length
  · obtain ⟨b, hb⟩ : ∃ b, l[k + 1]? = some b := ⟨_, List.getElem?_eq_getElem hlt⟩
    have hab := hc.inc k (k + 1) a b (by omega) ha hb
    have hbb := hc.all _ _ hb
    have hne : ¬ b.m - a.m = 0 := by omega
    rw [drop_cons hb] at hr
    simp only [degFrom] at hr
    refine AW_keep [] ?_
    by_cases hmb : m < b.m
    · obtain ⟨b1, b2⟩ := interp_bounds haa hbb hab.2 (by omega) hmb
      repeat' (first
        | (with_reducible refine AW_seq_k ?_; intro K hK)
        | ((first | ((with_reducible first | refine AW_region tabOK { base := 0, own := [] } ?hsz ?_ | refine AW_draw tabOK mix { base := 0, own := [] } ?hsz (by decide +kernel) ?_ | refine AW_drawS tabOK mix { base := 0, own := [] } [6, 7] ?hsz (by decide +kernel) ?_); (case hsz => rw [hXs]; rfl)) | (with_reducible first | refine AW_skip ?_ | refine AW_ret ?_ | refine AW_exit ?_ | refine AW_label ?_)); try simp (disch := omega) only [h0, hf1, h5, ha, hb, hne, cPt,go_sem, simprocAttr])
        | (with_reducible first | refine AW_scope ?_ | refine AW_blockS ?_ | refine AW_blockR ?_ | refine AW_blockC ?_)
        | ((with_reducible refine AW_condE ?_); refine ⟨_, (by first | rfl | (simp only [h0, hf1, h5, ha, hb, hne, cPt,go_sem, simprocAttr]; rfl)), ?_, ?_⟩ <;> intro hc <;> (try simp only [go_sem, simprocAttr] at hc) <;> (try (exfalso; omega)))
        | (with_reducible refine FnP_endE (by simp) ?_; refine ⟨_, (by simp only [Try.f48, h0, hf1, h5, ha, hb, hne, cPt,go_sem, simprocAttr]; rfl), ?_⟩; first | rfl | (try simp only [h0, hf1, h5, ha, hb, hne, cPt,go_sem, simprocAttr, Val.bool.injEq, Val.int.injEq, Val.tup.injEq, Val.agg.injEq, List.cons.injEq, Bool.and_self]))
        | with_reducible intro (ep : Nat → Nat)
        | with_reducible apply_assumption -exfalso -symm only [*])
      rw [hr, if_pos hmb]
    · repeat' (first
        | (with_reducible refine AW_seq_k ?_; intro K hK)
        | ((first | ((with_reducible first | refine AW_region tabOK { base := 0, own := [] } ?hsz ?_ | refine AW_draw tabOK mix { base := 0, own := [] } ?hsz (by decide +kernel) ?_ | refine AW_drawS tabOK mix { base := 0, own := [] } [6, 7] ?hsz (by decide +kernel) ?_); (case hsz => rw [hXs]; rfl)) | (with_reducible first | refine AW_skip ?_ | refine AW_ret ?_ | refine AW_exit ?_ | refine AW_label ?_)); try simp (disch := omega) only [h0, hf1, h5, ha, hb, hne, cPt,go_sem, simprocAttr])
        | (with_reducible first | refine AW_scope ?_ | refine AW_blockS ?_ | refine AW_blockR ?_ | refine AW_blockC ?_)
        | ((with_reducible refine AW_condE ?_); refine ⟨_, (by first | rfl | (simp only [h0, hf1, h5, ha, hb, hne, cPt,go_sem, simprocAttr]; rfl)), ?_, ?_⟩ <;> intro hc <;> (try simp only [go_sem, simprocAttr] at hc) <;> (try (exfalso; omega)))
        | (with_reducible refine FnP_endE (by simp) ?_; refine ⟨_, (by simp only [Try.f48, h0, hf1, h5, ha, hb, hne, cPt,go_sem, simprocAttr]; rfl), ?_⟩; first | rfl | (try simp only [h0, hf1, h5, ha, hb, hne, cPt,go_sem, simprocAttr, Val.bool.injEq, Val.int.injEq, Val.tup.injEq, Val.agg.injEq, List.cons.injEq, Bool.and_self]))
        | with_reducible intro (ep : Nat → Nat)
        | with_reducible apply_assumption -exfalso -symm only [*])
      refine ⟨l.length - (k + 1), by omega, k + 1, rfl, by omega, rfl, b, hb, by omega, ?_⟩
      rw [hr, if_neg hmb]
  · have e1 : ((l.length : Int) - 1) = (k : Int) := by omega
    repeat' (first
      | (with_reducible refine AW_seq_k ?_; intro K hK)
      | ((first | ((with_reducible first | refine AW_region tabOK { base := 0, own := [] } ?hsz ?_ | refine AW_draw tabOK mix { base := 0, own := [] } ?hsz (by decide +kernel) ?_ | refine AW_drawS tabOK mix { base := 0, own := [] } [6, 7] ?hsz (by decide +kernel) ?_); (case hsz => rw [hXs]; rfl)) | (with_reducible first | refine AW_skip ?_ | refine AW_ret ?_ | refine AW_exit ?_ | refine AW_label ?_)); try simp (disch := omega) only [h0, hf1, h5, ha, e1, cPt,go_sem, simprocAttr])
      | (with_reducible first | refine AW_scope ?_ | refine AW_blockS ?_ | refine AW_blockR ?_ | refine AW_blockC ?_)
      | ((with_reducible refine AW_condE ?_); refine ⟨_, (by first | rfl | (simp only [h0, hf1, h5, ha, e1, cPt,go_sem, simprocAttr]; rfl)), ?_, ?_⟩ <;> intro hc <;> (try simp only [go_sem, simprocAttr] at hc) <;> (try (exfalso; omega)))
      | (with_reducible refine FnP_endE (by simp) ?_; refine ⟨_, (by simp only [Try.f48, h0, hf1, h5, ha, e1, cPt,go_sem, simprocAttr]; rfl), ?_⟩; first | rfl | (try simp only [h0, hf1, h5, ha, e1, cPt,go_sem, simprocAttr, Val.bool.injEq, Val.int.injEq, Val.tup.injEq, Val.agg.injEq, List.cons.injEq, Bool.and_self]))
      | with_reducible intro (ep : Nat → Nat)
      | with_reducible apply_assumption -exfalso -symm only [*])
    rw [hr, drop_none (show l.length ≤ k + 1 by omega)]; rfl

theorem rat_ok (l : List Pt) (hl : l.length ≤ 4611686018427387904) (m : Int) : PureC Try.prog 17 [.lst 2 (l.map cPt), .int .i64 m]
    (if curveOK l then (if 0 ≤ m ∧ m ≤ lastM l then .tup [.int .i64 (degAt l m), .int .i64 0] else .tup [.int .i64 0, .int .i64 2]) else .tup [.int .i64 0, .int .i64 10]) := by
  by_cases hc : curveOK l = true
  · have hF := curve_facts hc
    obtain ⟨z, hz⟩ : ∃ z, l[l.length - 1]? = some z := ⟨_, List.getElem?_eq_getElem (by have := hF.len; omega)⟩
    have hzm := lastM_get hz
    have hz600 := (hF.all _ _ hz).2.1
    have e1 : ((l.length : Int) - 1) = ((l.length - 1 : Nat) : Int) := by have := hF.len; omega
    rw [if_pos hc, hzm]
    by_cases hm : 0 ≤ m ∧ m ≤ z.m
    · rw [if_pos hm]
      refine PureC_of (fn := Try.f17) tabOK (by kernel_rfl) rfl (by kernel_rfl) (by simp [Try.f17]) (by simp [noids, noid, noidss, go_sem]) (by first | rfl | simp [noids, noid, noidss, go_sem]) ?_
      intro X hX0 hXs
      repeat' (first
        | (with_reducible refine AW_seq_k ?_; intro K hK)
        | ((first | ((with_reducible first | refine AW_region tabOK { base := 0, own := [] } ?hsz ?_ | refine AW_draw tabOK mix { base := 0, own := [] } ?hsz (by decide +kernel) ?_); (case hsz => rw [hXs]; rfl)) | (with_reducible first | refine AW_skip ?_ | refine AW_ret ?_ | refine AW_exit ?_ | refine AW_label ?_) | refine pureK_intro (rcurve_ok l hl) ?_ | refine pureK_intro (rwithin_ok _ _ _) ?_ | refine pureK_intro (rdegree_ok l hF m hm.1 (by omega)) ?_); try simp (disch := omega) only [hc, hz, e1, cPt,go_sem, simprocAttr])
        | (with_reducible first | refine AW_scope ?_ | refine AW_blockS ?_ | refine AW_blockR ?_ | refine AW_blockC ?_)
        | ((with_reducible refine AW_condE ?_); refine ⟨_, (by first | rfl | (simp only [hc, hz, e1, cPt,go_sem, simprocAttr]; rfl)), ?_, ?_⟩ <;> intro hc <;> (try simp only [go_sem, simprocAttr] at hc) <;> (try (exfalso; omega)))
        | (with_reducible refine FnP_endE (by simp) ?_; refine ⟨_, (by simp only [Try.f17, hc, hz, e1, cPt,go_sem, simprocAttr]; rfl), ?_⟩; first | rfl | (try simp only [hc, hz, e1, cPt,go_sem, simprocAttr, Val.bool.injEq, Val.int.injEq, Val.tup.injEq, Val.agg.injEq, List.cons.injEq, Bool.and_self]))
        | with_reducible intro (ep : Nat → Nat)
        | with_reducible apply_assumption -exfalso -symm only [*])
    · rw [if_neg hm]
      refine PureC_of (fn := Try.f17) tabOK (by kernel_rfl) rfl (by kernel_rfl) (by simp [Try.f17]) (by simp [noids, noid, noidss, go_sem]) (by first | rfl | simp [noids, noid, noidss, go_sem]) ?_
      intro X hX0 hXs
      repeat' (first
        | (with_reducible refine AW_seq_k ?_; intro K hK)
        | ((first | ((with_reducible first | refine AW_region tabOK { base := 0, own := [] } ?hsz ?_ | refine AW_draw tabOK mix { base := 0, own := [] } ?hsz (by decide +kernel) ?_); (case hsz => rw [hXs]; rfl)) | (with_reducible first | refine AW_skip ?_ | refine AW_ret ?_ | refine AW_exit ?_ | refine AW_label ?_) | refine pureK_intro (rcurve_ok l hl) ?_ | refine pureK_intro (rwithin_ok _ _ _) ?_); try simp (disch := omega) only [hc, hz, e1, cPt,go_sem, simprocAttr])
        | (with_reducible first | refine AW_scope ?_ | refine AW_blockS ?_ | refine AW_blockR ?_ | refine AW_blockC ?_)
        | ((with_reducible refine AW_condE ?_); refine ⟨_, (by first | rfl | (simp only [hc, hz, e1, cPt,go_sem, simprocAttr]; rfl)), ?_, ?_⟩ <;> intro hc <;> (try simp only [go_sem, simprocAttr] at hc) <;> (try (exfalso; omega)))
        | (with_reducible refine FnP_endE (by simp) ?_; refine ⟨_, (by simp only [Try.f17, hc, hz, e1, cPt,go_sem, simprocAttr]; rfl), ?_⟩; first | rfl | (try simp only [hc, hz, e1, cPt,go_sem, simprocAttr, Val.bool.injEq, Val.int.injEq, Val.tup.injEq, Val.agg.injEq, List.cons.injEq, Bool.and_self]))
        | with_reducible intro (ep : Nat → Nat)
        | with_reducible apply_assumption -exfalso -symm only [*])
  · simp only [Bool.not_eq_true] at hc
    simp only [hc, Bool.false_eq_true, if_false]
    refine PureC_of (fn := Try.f17) tabOK (by kernel_rfl) rfl (by kernel_rfl) (by simp [Try.f17]) (by simp [noids, noid, noidss, go_sem]) (by first | rfl | simp [noids, noid, noidss, go_sem]) ?_
    intro X hX0 hXs
    repeat' (first
      | (with_reducible refine AW_seq_k ?_; intro K hK)
      | ((first | ((with_reducible first | refine AW_region tabOK { base := 0, own := [] } ?hsz ?_ | refine AW_draw tabOK mix { base := 0, own := [] } ?hsz (by decide +kernel) ?_); (case hsz => rw [hXs]; rfl)) | (with_reducible first | refine AW_skip ?_ | refine AW_ret ?_ | refine AW_exit ?_ | refine AW_label ?_) | refine pureK_intro (rcurve_ok l hl) ?_); try simp (disch := omega) only [hc,go_sem, simprocAttr])
      | (with_reducible first | refine AW_scope ?_ | refine AW_blockS ?_ | refine AW_blockR ?_ | refine AW_blockC ?_)
      | ((with_reducible refine AW_condE ?_); refine ⟨_, (by first | rfl | (simp only [hc,go_sem, simprocAttr]; rfl)), ?_, ?_⟩ <;> intro hc <;> (try simp only [go_sem, simprocAttr] at hc) <;> (try (exfalso; omega)))
      | (with_reducible refine FnP_endE (by simp) ?_; refine ⟨_, (by simp only [Try.f17, hc,go_sem, simprocAttr]; rfl), ?_⟩; first | rfl | (try simp only [hc,go_sem, simprocAttr, Val.bool.injEq, Val.int.injEq, Val.tup.injEq, Val.agg.injEq, List.cons.injEq, Bool.and_self]))
      | with_reducible intro (ep : Nat → Nat)
      | with_reducible apply_assumption -exfalso -symm only [*])
end Cp


