/- What functions of the furnace and of its reference compute (R21). Conditions: none. -/
import Derived.Test.YtioeikglibjefaaR5
import Derived.Test.YtioeikglibjefaaAAlive
set_option linter.unusedSimpArgs false
set_option linter.unusedVariables false
namespace Cp
open Go Go.Proofs
set_option maxRecDepth 10000

theorem interp_off {a b : Pt} {m : Int} (h0 : 0 ≤ (b.d - a.d) * (m - a.m)) (h : a.m < b.m) : (0 ≤ (b.d - a.d) * (m - a.m) - (interp a b m - a.d) * (b.m - a.m)) ∧ (b.d - a.d) * (m - a.m) - (interp a b m - a.d) * (b.m - a.m) < b.m - a.m := by
  unfold interp
  rw [Int.tdiv_eq_ediv_of_nonneg h0]
  have e : a.d + (b.d - a.d) * (m - a.m) / (b.m - a.m) - a.d = (b.d - a.d) * (m - a.m) / (b.m - a.m) := by omega
  rw [e]
  have q := Int.mul_ediv_add_emod ((b.d - a.d) * (m - a.m)) (b.m - a.m)
  rw [Int.mul_comm] at q
  have q1 := Int.emod_nonneg ((b.d - a.d) * (m - a.m)) (show b.m - a.m ≠ 0 by omega)
  have q2 := Int.emod_lt_of_pos ((b.d - a.d) * (m - a.m)) (show 0 < b.m - a.m by omega)
  omega
theorem interp_mono {a b : Pt} {m : Int} (h0 : 0 ≤ (b.d - a.d) * (m - a.m)) (h : a.m < b.m) (hd : a.d ≤ b.d) : interp a b m ≤ interp a b (m + 1) := by
  have e : (b.d - a.d) * (m + 1 - a.m) = (b.d - a.d) * (m - a.m) + (b.d - a.d) := by
    rw [show m + 1 - a.m = (m - a.m) + 1 by omega, Int.mul_add, Int.mul_one]
  unfold interp
  rw [e, Int.tdiv_eq_ediv_of_nonneg h0, Int.tdiv_eq_ediv_of_nonneg (by omega)]
  have := Int.ediv_le_ediv (c := b.m - a.m) (by omega) (show (b.d - a.d) * (m - a.m) ≤ (b.d - a.d) * (m - a.m) + (b.d - a.d) by omega)
  omega
/-- Where a minute of a curve lies. -/
theorem deg_where {l : List Pt} (hc : CurveF l) {m : Int} (h0 : 0 ≤ m) (h1 : m < lastM l) : ∃ (k : Nat) (a b : Pt), l[k]? = some a ∧ l[k + 1]? = some b ∧ a.m ≤ m ∧ m < b.m := by
  obtain ⟨p, hp, hp0⟩ := hc.zero
  have key : ∀ n, n < l.length → (∃ q, l[n]? = some q ∧ q.m ≤ m) ∨ (∃ (k : Nat) (a b : Pt), l[k]? = some a ∧ l[k + 1]? = some b ∧ a.m ≤ m ∧ m < b.m) := by
    intro n
    induction n with
    | zero => exact fun _ => .inl ⟨p, hp, by omega⟩
    | succ n ih =>
      intro hn
      rcases ih (by omega) with ⟨q, hq, hqm⟩ | h
      · have hb : l[n + 1]? = some l[n + 1] := List.getElem?_eq_getElem hn
        by_cases hm : (l[n + 1]).m ≤ m
        · exact .inl ⟨_, hb, hm⟩
        · exact .inr ⟨n, q, _, hq, hb, hqm, by omega⟩
      · exact .inr h
  have hlen := hc.len
  rcases key (l.length - 1) (by omega) with ⟨q, hq, hqm⟩ | h
  · rw [lastM_get hq] at h1; omega
  · exact h
/-- Between two points that stand beside another. -/
theorem deg_mid {l : List Pt} (hc : CurveF l) {k : Nat} {a b : Pt} {m : Int} (ha : l[k]? = some a) (hb : l[k + 1]? = some b) (h1 : a.m ≤ m) (h2 : m < b.m) : degAt l m = interp a b m := by
  by_cases he : a.m = m
  · rw [(degAt_at hc (i := k) (b := a) (m := m) (fun j p hj hp => by have := (hc.inc j k p a hj hp ha).1; omega) ha).1 he]
    unfold interp
    rw [show m - a.m = 0 by omega]; simp
  · refine (degAt_at hc (i := k + 1) (b := b) (m := m) (fun j p hj hp => ?_) hb).2 k a rfl ha h2
    by_cases hjk : j = k
    · subst hjk; rw [ha] at hp; cases hp; omega
    · have := (hc.inc j k p a (by omega) hp ha).1; omega
theorem deg_point {l : List Pt} (hc : CurveF l) {k : Nat} {b : Pt} (hb : l[k]? = some b) : degAt l b.m = b.d :=
  (degAt_at hc (i := k) (b := b) (m := b.m) (fun j p hj hp => (hc.inc j k p b hj hp hb).1) hb).1 rfl
theorem deg_mono1 {l : List Pt} (hc : CurveF l) {m : Int} (h0 : 0 ≤ m) (h1 : m < lastM l) : degAt l m ≤ degAt l (m + 1) := by
  obtain ⟨k, a, b, ha, hb, h2, h3⟩ := deg_where hc h0 h1
  have hab := hc.inc k (k + 1) a b (by omega) ha hb
  obtain ⟨⟨b1, b2⟩, b3, b4⟩ := interp_bounds (hc.all _ _ ha) (hc.all _ _ hb) hab.2 h2 h3
  rw [deg_mid hc ha hb h2 h3]
  by_cases he : m + 1 = b.m
  · rw [he, deg_point hc hb]; unfold interp; omega
  · rw [deg_mid hc ha hb (by omega) (by omega)]
    exact interp_mono b1 hab.1 hab.2

theorem deg_bnd {l : List Pt} (hc : CurveF l) {m : Int} (h0 : 0 ≤ m) (h1 : m ≤ lastM l) : 0 ≤ degAt l m ∧ degAt l m ≤ 2000 := by
  by_cases he : m = lastM l
  · have hlen := hc.len
    obtain ⟨z, hz⟩ : ∃ z, l[l.length - 1]? = some z := ⟨_, List.getElem?_eq_getElem (by omega)⟩
    rw [he, lastM_get hz, deg_point hc hz]
    have := hc.all _ _ hz; omega
  · obtain ⟨k, a, b, ha, hb, h2, h3⟩ := deg_where hc h0 (by omega)
    have hab := hc.inc k (k + 1) a b (by omega) ha hb
    obtain ⟨_, b3, b4⟩ := interp_bounds (hc.all _ _ ha) (hc.all _ _ hb) hab.2 h2 h3
    rw [deg_mid hc ha hb h2 h3]
    have := hc.all _ _ ha; have := hc.all _ _ hb
    unfold interp; omega

theorem rcurve_all (l : List Pt) : PureC Try.prog 43 [.lst 2 (l.map cPt)] (.bool (curveOK l)) := by
  by_cases hl : l.length ≤ 10
  · exact rcurve_ok l (by omega)
  · have e : curveOK l = false := by unfold curveOK; simp; intros; omega
    rw [e]
    refine PureC_of (fn := Try.f43) tabOK (by kernel_rfl) rfl (by kernel_rfl) (by simp [Try.f43]) (by simp [noids, noid, noidss, go_sem]) (by first | rfl | simp [noids, noid, noidss, go_sem]) ?_
    intro X hX0 hXs
    repeat' (first
      | (with_reducible refine AW_seq_k ?_; intro K hK)
      | ((first | ((with_reducible first | refine AW_region tabOK { base := 0, own := [] } ?hsz ?_ | refine AW_draw tabOK mix { base := 0, own := [] } ?hsz (by decide +kernel) ?_); (case hsz => rw [hXs]; rfl)) | (with_reducible first | refine AW_skip ?_ | refine AW_ret ?_ | refine AW_exit ?_ | refine AW_label ?_) | refine pureK_intro (rwithin_ok _ _ _) ?_); try simp (disch := omega) only [go_sem, simprocAttr])
      | (with_reducible first | refine AW_scope ?_ | refine AW_blockS ?_ | refine AW_blockR ?_ | refine AW_blockC ?_)
      | ((with_reducible refine AW_condE ?_); refine ⟨_, (by first | rfl | (simp only [go_sem, simprocAttr]; rfl)), ?_, ?_⟩ <;> intro hc <;> (try simp only [go_sem, simprocAttr] at hc) <;> (try (exfalso; omega)))
      | ((with_reducible first | refine grdS_split ?_ ?_ | refine lkG_split ?_ ?_) <;> intro hg <;> (try simp (disch := omega) only [hg, go_sem, simprocAttr]) <;> (try simp only [go_sem, simprocAttr] at hg) <;> (try (exfalso; omega)))
      | (with_reducible refine FnP_endE (by simp) ?_; refine ⟨_, (by simp only [Try.f43, go_sem, simprocAttr]; rfl), ?_⟩; first | rfl | (try simp only [go_sem, simprocAttr, Val.bool.injEq, Val.int.injEq, Val.tup.injEq, Val.agg.injEq, List.cons.injEq, Bool.and_self]))
      | with_reducible intro (ep : Nat → Nat)
      | with_reducible apply_assumption -exfalso -symm only [*])

theorem curve_law (l : List Pt) (b : Int) (hb0 : 0 ≤ b) (hb1 : b ≤ 65535) : PureC Try.prog 13 [.lst 2 (l.map cPt), .int .u16 b] (.bool true) := by
  by_cases hv : curveOK l = true
  · have hF := curve_facts hv
    have hlen := hF.len
    obtain ⟨z, hz⟩ : ∃ z, l[l.length - 1]? = some z := ⟨_, List.getElem?_eq_getElem (by omega)⟩
    have hzm := lastM_get hz
    have hza := hF.all _ _ hz
    have e1 : ((l.length : Int) - 1) = ((l.length - 1 : Nat) : Int) := by omega
    have hn0 : ¬ z.m + 1 = 0 := by omega
    obtain ⟨m, hm⟩ : ∃ m, b.tmod (z.m + 1) = m := ⟨_, rfl⟩
    have hm0 : 0 ≤ m := by rw [← hm]; exact Int.tmod_nonneg _ hb0
    have hm1 : m < z.m + 1 := by rw [← hm]; exact Int.tmod_lt_of_pos _ (by omega)
    have hdb := deg_bnd hF hm0 (by omega)
    have hat := at_ok l (by omega) m
    rw [if_pos hv, if_pos ⟨hm0, by omega⟩] at hat
    refine PureC_of (fn := Try.f13) tabOK (by kernel_rfl) rfl (by kernel_rfl) (by simp [Try.f13]) (by simp [noids, noid, noidss, go_sem]) (by first | rfl | simp [noids, noid, noidss, go_sem]) ?_
    intro X hX0 hXs
    repeat' (first
      | (with_reducible refine AW_seq_k ?_; intro K hK)
      | ((first | ((with_reducible first | refine AW_region tabOK { base := 0, own := [] } ?hsz ?_ | refine AW_draw tabOK mix { base := 0, own := [] } ?hsz (by decide +kernel) ?_ | refine AW_drawS tabOK mix { base := 0, own := [] } [11, 12] ?hsz (by decide +kernel) ?_); (case hsz => rw [hXs]; rfl)) | (with_reducible first | refine AW_skip ?_ | refine AW_ret ?_ | refine AW_exit ?_ | refine AW_label ?_) | refine pureK_intro (alive_run) ?_ | refine pureK_intro (rcurve_all l) ?_ | refine pureK_intro (hat) ?_); try simp (disch := omega) only [hv, hz, e1, hn0, hm, cPt,go_sem, simprocAttr])
      | (with_reducible first | refine AW_scope ?_ | refine AW_blockS ?_ | refine AW_blockR ?_ | refine AW_blockC ?_)
      | ((with_reducible refine AW_condE ?_); refine ⟨_, (by first | rfl | (simp only [hv, hz, e1, hn0, hm, cPt,go_sem, simprocAttr]; rfl)), ?_, ?_⟩ <;> intro hc <;> (try simp only [go_sem, simprocAttr] at hc) <;> (try (exfalso; omega)))
      | ((with_reducible first | refine grdS_split ?_ ?_ | refine lkG_split ?_ ?_) <;> intro hg <;> (try simp (disch := omega) only [hg, hv, hz, e1, hn0, hm, cPt,go_sem, simprocAttr]) <;> (try simp only [go_sem, simprocAttr] at hg) <;> (try (exfalso; omega)))
      | (with_reducible refine FnP_endE (by simp) ?_; refine ⟨_, (by simp only [Try.f13, hv, hz, e1, hn0, hm, cPt,go_sem, simprocAttr]; rfl), ?_⟩; first | rfl | (try simp only [hv, hz, e1, hn0, hm, cPt,go_sem, simprocAttr, Val.bool.injEq, Val.int.injEq, Val.tup.injEq, Val.agg.injEq, List.cons.injEq, Bool.and_self]))
      | with_reducible intro (ep : Nat → Nat)
      | with_reducible apply_assumption -exfalso -symm only [*])
    refine AW_range tabOK l.length (fun k f H => (f 0 = .lst 2 (l.map cPt) ∧ f 5 = .bool true ∧ f 6 = .int .i64 z.m ∧ f 7 = .int .i64 m ∧ f 8 = .int .i64 (degAt l m) ∧ f 44 = .lst 2 (l.map cPt)) ∧ True)
      (by omega) (by rw [hXs]; decide) (by decide) (by (first | rfl | (simp only [go_sem, simprocAttr]; done) | (simp only [go_sem, simprocAttr]; rfl))) (by (first | rfl | (simp only [go_sem, simprocAttr]; done) | (simp only [go_sem, simprocAttr]; rfl))) ⟨by (and_intros <;> first | rfl | (simp only [hm, hz, go_sem, simprocAttr]; done) | (simp only [hm, hz, go_sem, simprocAttr]; rfl)), trivial⟩ ?_ ?_
    · rintro k f H hk h46 h45 ⟨⟨h0, h5, h6, h7, h8, h44⟩, _⟩
      obtain ⟨p, hp⟩ : ∃ p, l[k]? = some p := ⟨_, List.getElem?_eq_getElem hk⟩
      have hpa := hF.all _ _ hp
      have hpp : p.m = m → degAt l m = p.d := fun e => by rw [← e]; exact deg_point hF hp
      refine AW_keep [] ?_
      rcases k with _ | j
      · repeat' (first
          | (with_reducible refine AW_seq_k ?_; intro K hK)
          | ((first | ((with_reducible first | refine AW_region tabOK { base := 0, own := [] } ?hsz ?_ | refine AW_draw tabOK mix { base := 0, own := [] } ?hsz (by decide +kernel) ?_ | refine AW_drawS tabOK mix { base := 0, own := [] } [11, 12] ?hsz (by decide +kernel) ?_); (case hsz => rw [hXs]; rfl)) | (with_reducible first | refine AW_skip ?_ | refine AW_ret ?_ | refine AW_exit ?_ | refine AW_label ?_)); try simp (disch := omega) only [h0, h5, h6, h7, h8, h44, h45, h46, hp, cPt,go_sem, simprocAttr])
          | (with_reducible first | refine AW_scope ?_ | refine AW_blockS ?_ | refine AW_blockR ?_ | refine AW_blockC ?_)
          | ((with_reducible refine AW_condE ?_); refine ⟨_, (by first | rfl | (simp only [h0, h5, h6, h7, h8, h44, h45, h46, hp, cPt,go_sem, simprocAttr]; rfl)), ?_, ?_⟩ <;> intro hc <;> (try simp only [go_sem, simprocAttr] at hc) <;> (try (exfalso; omega)))
          | ((with_reducible first | refine grdS_split ?_ ?_ | refine lkG_split ?_ ?_) <;> intro hg <;> (try simp (disch := omega) only [hg, h0, h5, h6, h7, h8, h44, h45, h46, hp, cPt,go_sem, simprocAttr]) <;> (try simp only [go_sem, simprocAttr] at hg) <;> (try (exfalso; omega)))
          | (with_reducible refine FnP_endE (by simp) ?_; refine ⟨_, (by simp only [Try.f13, h0, h5, h6, h7, h8, h44, h45, h46, hp, cPt,go_sem, simprocAttr]; rfl), ?_⟩; first | rfl | (try simp only [h0, h5, h6, h7, h8, h44, h45, h46, hp, cPt,go_sem, simprocAttr, Val.bool.injEq, Val.int.injEq, Val.tup.injEq, Val.agg.injEq, List.cons.injEq, Bool.and_self]))
          | with_reducible intro (ep : Nat → Nat)
          | with_reducible apply_assumption -exfalso -symm only [*])
      · obtain ⟨a, ha⟩ : ∃ a, l[j]? = some a := ⟨_, List.getElem?_eq_getElem (by omega)⟩
        have haa := hF.all _ _ ha
        have hap := hF.inc j (j + 1) a p (by omega) ha hp
        by_cases hx : a.m ≤ m ∧ m < p.m
        · have hdm := deg_mid hF ha hp hx.1 hx.2
          obtain ⟨⟨b1, b2⟩, b3, b4⟩ := interp_bounds haa hpa hap.2 hx.1 hx.2
          obtain ⟨o1, o2⟩ := interp_off b1 hap.1
          rw [← hdm] at o1 o2
          repeat' (first
            | (with_reducible refine AW_seq_k ?_; intro K hK)
            | ((first | ((with_reducible first | refine AW_region tabOK { base := 0, own := [] } ?hsz ?_ | refine AW_draw tabOK mix { base := 0, own := [] } ?hsz (by decide +kernel) ?_ | refine AW_drawS tabOK mix { base := 0, own := [] } [11, 12] ?hsz (by decide +kernel) ?_); (case hsz => rw [hXs]; rfl)) | (with_reducible first | refine AW_skip ?_ | refine AW_ret ?_ | refine AW_exit ?_ | refine AW_label ?_)); try simp (disch := omega) only [h0, h5, h6, h7, h8, h44, h45, h46, hp, ha, cPt,go_sem, simprocAttr])
            | (with_reducible first | refine AW_scope ?_ | refine AW_blockS ?_ | refine AW_blockR ?_ | refine AW_blockC ?_)
            | ((with_reducible refine AW_condE ?_); refine ⟨_, (by first | rfl | (simp only [h0, h5, h6, h7, h8, h44, h45, h46, hp, ha, cPt,go_sem, simprocAttr]; rfl)), ?_, ?_⟩ <;> intro hc <;> (try simp only [go_sem, simprocAttr] at hc) <;> (try (exfalso; omega)))
            | ((with_reducible first | refine grdS_split ?_ ?_ | refine lkG_split ?_ ?_) <;> intro hg <;> (try simp (disch := omega) only [hg, h0, h5, h6, h7, h8, h44, h45, h46, hp, ha, cPt,go_sem, simprocAttr]) <;> (try simp only [go_sem, simprocAttr] at hg) <;> (try (exfalso; omega)))
            | (with_reducible refine FnP_endE (by simp) ?_; refine ⟨_, (by simp only [Try.f13, h0, h5, h6, h7, h8, h44, h45, h46, hp, ha, cPt,go_sem, simprocAttr]; rfl), ?_⟩; first | rfl | (try simp only [h0, h5, h6, h7, h8, h44, h45, h46, hp, ha, cPt,go_sem, simprocAttr, Val.bool.injEq, Val.int.injEq, Val.tup.injEq, Val.agg.injEq, List.cons.injEq, Bool.and_self]))
            | with_reducible intro (ep : Nat → Nat)
            | with_reducible apply_assumption -exfalso -symm only [*])
        · repeat' (first
            | (with_reducible refine AW_seq_k ?_; intro K hK)
            | ((first | ((with_reducible first | refine AW_region tabOK { base := 0, own := [] } ?hsz ?_ | refine AW_draw tabOK mix { base := 0, own := [] } ?hsz (by decide +kernel) ?_ | refine AW_drawS tabOK mix { base := 0, own := [] } [11, 12] ?hsz (by decide +kernel) ?_); (case hsz => rw [hXs]; rfl)) | (with_reducible first | refine AW_skip ?_ | refine AW_ret ?_ | refine AW_exit ?_ | refine AW_label ?_)); try simp (disch := omega) only [h0, h5, h6, h7, h8, h44, h45, h46, hp, ha, cPt,go_sem, simprocAttr])
            | (with_reducible first | refine AW_scope ?_ | refine AW_blockS ?_ | refine AW_blockR ?_ | refine AW_blockC ?_)
            | ((with_reducible refine AW_condE ?_); refine ⟨_, (by first | rfl | (simp only [h0, h5, h6, h7, h8, h44, h45, h46, hp, ha, cPt,go_sem, simprocAttr]; rfl)), ?_, ?_⟩ <;> intro hc <;> (try simp only [go_sem, simprocAttr] at hc) <;> (try (exfalso; omega)))
            | ((with_reducible first | refine grdS_split ?_ ?_ | refine lkG_split ?_ ?_) <;> intro hg <;> (try simp (disch := omega) only [hg, h0, h5, h6, h7, h8, h44, h45, h46, hp, ha, cPt,go_sem, simprocAttr]) <;> (try simp only [go_sem, simprocAttr] at hg) <;> (try (exfalso; omega)))
            | (with_reducible refine FnP_endE (by simp) ?_; refine ⟨_, (by simp only [Try.f13, h0, h5, h6, h7, h8, h44, h45, h46, hp, ha, cPt,go_sem, simprocAttr]; rfl), ?_⟩; first | rfl | (try simp only [h0, h5, h6, h7, h8, h44, h45, h46, hp, ha, cPt,go_sem, simprocAttr, Val.bool.injEq, Val.int.injEq, Val.tup.injEq, Val.agg.injEq, List.cons.injEq, Bool.and_self]))
            | with_reducible intro (ep : Nat → Nat)
            | with_reducible apply_assumption -exfalso -symm only [*])
    · rintro f H h46 h45 ⟨⟨h0, h5, h6, h7, h8, h44⟩, _⟩
      by_cases he : m = z.m
      · repeat' (first
          | (with_reducible refine AW_seq_k ?_; intro K hK)
          | ((first | ((with_reducible first | refine AW_region tabOK { base := 0, own := [] } ?hsz ?_ | refine AW_draw tabOK mix { base := 0, own := [] } ?hsz (by decide +kernel) ?_ | refine AW_drawS tabOK mix { base := 0, own := [] } [11, 12] ?hsz (by decide +kernel) ?_); (case hsz => rw [hXs]; rfl)) | (with_reducible first | refine AW_skip ?_ | refine AW_ret ?_ | refine AW_exit ?_ | refine AW_label ?_)); try simp (disch := omega) only [h0, h5, h6, h7, h8, h44, h45, h46, he,go_sem, simprocAttr])
          | (with_reducible first | refine AW_scope ?_ | refine AW_blockS ?_ | refine AW_blockR ?_ | refine AW_blockC ?_)
          | ((with_reducible refine AW_condE ?_); refine ⟨_, (by first | rfl | (simp only [h0, h5, h6, h7, h8, h44, h45, h46, he,go_sem, simprocAttr]; rfl)), ?_, ?_⟩ <;> intro hc <;> (try simp only [go_sem, simprocAttr] at hc) <;> (try (exfalso; omega)))
          | ((with_reducible first | refine grdS_split ?_ ?_ | refine lkG_split ?_ ?_) <;> intro hg <;> (try simp (disch := omega) only [hg, h0, h5, h6, h7, h8, h44, h45, h46, he,go_sem, simprocAttr]) <;> (try simp only [go_sem, simprocAttr] at hg) <;> (try (exfalso; omega)))
          | (with_reducible refine FnP_endE (by simp) ?_; refine ⟨_, (by simp only [Try.f13, h0, h5, h6, h7, h8, h44, h45, h46, he,go_sem, simprocAttr]; rfl), ?_⟩; first | rfl | (try simp only [h0, h5, h6, h7, h8, h44, h45, h46, he,go_sem, simprocAttr, Val.bool.injEq, Val.int.injEq, Val.tup.injEq, Val.agg.injEq, List.cons.injEq, Bool.and_self]))
          | with_reducible intro (ep : Nat → Nat)
          | with_reducible apply_assumption -exfalso -symm only [*])
      · have hm2 := deg_mono1 hF hm0 (by omega)
        have hat2 := at_ok l (by omega) (m + 1)
        rw [if_pos hv, if_pos ⟨by omega, by omega⟩] at hat2
        repeat' (first
          | (with_reducible refine AW_seq_k ?_; intro K hK)
          | ((first | ((with_reducible first | refine AW_region tabOK { base := 0, own := [] } ?hsz ?_ | refine AW_draw tabOK mix { base := 0, own := [] } ?hsz (by decide +kernel) ?_ | refine AW_drawS tabOK mix { base := 0, own := [] } [11, 12] ?hsz (by decide +kernel) ?_); (case hsz => rw [hXs]; rfl)) | (with_reducible first | refine AW_skip ?_ | refine AW_ret ?_ | refine AW_exit ?_ | refine AW_label ?_) | refine pureK_intro (hat2) ?_); try simp (disch := omega) only [h0, h5, h6, h7, h8, h44, h45, h46, he,go_sem, simprocAttr])
          | (with_reducible first | refine AW_scope ?_ | refine AW_blockS ?_ | refine AW_blockR ?_ | refine AW_blockC ?_)
          | ((with_reducible refine AW_condE ?_); refine ⟨_, (by first | rfl | (simp only [h0, h5, h6, h7, h8, h44, h45, h46, he,go_sem, simprocAttr]; rfl)), ?_, ?_⟩ <;> intro hc <;> (try simp only [go_sem, simprocAttr] at hc) <;> (try (exfalso; omega)))
          | ((with_reducible first | refine grdS_split ?_ ?_ | refine lkG_split ?_ ?_) <;> intro hg <;> (try simp (disch := omega) only [hg, h0, h5, h6, h7, h8, h44, h45, h46, he,go_sem, simprocAttr]) <;> (try simp only [go_sem, simprocAttr] at hg) <;> (try (exfalso; omega)))
          | (with_reducible refine FnP_endE (by simp) ?_; refine ⟨_, (by simp only [Try.f13, h0, h5, h6, h7, h8, h44, h45, h46, he,go_sem, simprocAttr]; rfl), ?_⟩; first | rfl | (try simp only [h0, h5, h6, h7, h8, h44, h45, h46, he,go_sem, simprocAttr, Val.bool.injEq, Val.int.injEq, Val.tup.injEq, Val.agg.injEq, List.cons.injEq, Bool.and_self]))
          | with_reducible intro (ep : Nat → Nat)
          | with_reducible apply_assumption -exfalso -symm only [*])
  · simp only [Bool.not_eq_true] at hv
    refine PureC_of (fn := Try.f13) tabOK (by kernel_rfl) rfl (by kernel_rfl) (by simp [Try.f13]) (by simp [noids, noid, noidss, go_sem]) (by first | rfl | simp [noids, noid, noidss, go_sem]) ?_
    intro X hX0 hXs
    repeat' (first
      | (with_reducible refine AW_seq_k ?_; intro K hK)
      | ((first | ((with_reducible first | refine AW_region tabOK { base := 0, own := [] } ?hsz ?_ | refine AW_draw tabOK mix { base := 0, own := [] } ?hsz (by decide +kernel) ?_ | refine AW_drawS tabOK mix { base := 0, own := [] } [11, 12] ?hsz (by decide +kernel) ?_); (case hsz => rw [hXs]; rfl)) | (with_reducible first | refine AW_skip ?_ | refine AW_ret ?_ | refine AW_exit ?_ | refine AW_label ?_) | refine pureK_intro (alive_run) ?_ | refine pureK_intro (rcurve_all l) ?_); try simp (disch := omega) only [hv,go_sem, simprocAttr])
      | (with_reducible first | refine AW_scope ?_ | refine AW_blockS ?_ | refine AW_blockR ?_ | refine AW_blockC ?_)
      | ((with_reducible refine AW_condE ?_); refine ⟨_, (by first | rfl | (simp only [hv,go_sem, simprocAttr]; rfl)), ?_, ?_⟩ <;> intro hc <;> (try simp only [go_sem, simprocAttr] at hc) <;> (try (exfalso; omega)))
      | ((with_reducible first | refine grdS_split ?_ ?_ | refine lkG_split ?_ ?_) <;> intro hg <;> (try simp (disch := omega) only [hg, hv,go_sem, simprocAttr]) <;> (try simp only [go_sem, simprocAttr] at hg) <;> (try (exfalso; omega)))
      | (with_reducible refine FnP_endE (by simp) ?_; refine ⟨_, (by simp only [Try.f13, hv,go_sem, simprocAttr]; rfl), ?_⟩; first | rfl | (try simp only [hv,go_sem, simprocAttr, Val.bool.injEq, Val.int.injEq, Val.tup.injEq, Val.agg.injEq, List.cons.injEq, Bool.and_self]))
      | with_reducible intro (ep : Nat → Nat)
      | with_reducible apply_assumption -exfalso -symm only [*])
end Cp

