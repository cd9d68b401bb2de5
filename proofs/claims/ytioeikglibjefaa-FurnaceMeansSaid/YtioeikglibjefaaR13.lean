/- What functions of the furnace and of its reference compute (R13). Conditions: none. -/
import Derived.Test.YtioeikglibjefaaR11
set_option linter.unusedSimpArgs false
set_option linter.unusedVariables false
namespace Cp
open Go Go.Proofs
set_option maxRecDepth 10000

theorem plus_ok (a b : Span) (h : (-1000000000000 ≤ a.lo ∧ a.lo ≤ 1000000000000) ∧ (-1000000000000 ≤ a.hi ∧ a.hi ≤ 1000000000000) ∧ (-1000000000000 ≤ b.lo ∧ b.lo ≤ 1000000000000) ∧ (-1000000000000 ≤ b.hi ∧ b.hi ≤ 1000000000000)) :
    PureC Try.prog 74 [encSpan a, .lst 2 [[.int .i64 b.lo, .int .i64 b.hi]]] (encSpan ⟨a.lo + b.lo, a.hi + b.hi⟩) := by
  refine PureC_of (fn := Try.f74) tabOK (by kernel_rfl) rfl (by kernel_rfl) (by simp [Try.f74]) (by simp [noids, noid, noidss, go_sem, encSpan]) (by first | rfl | simp [noids, noid, noidss, go_sem, encSpan]) ?_
  intro X hX0 hXs
  repeat' (first
    | (with_reducible refine AW_seq_k ?_; intro K hK)
    | ((first | ((with_reducible first | refine AW_region tabOK { base := 0, own := [2] } ?hsz ?_ | refine AW_draw tabOK mix { base := 0, own := [2] } ?hsz (by decide +kernel) ?_ | refine AW_drawS tabOK mix { base := 0, own := [2] } [4, 6] ?hsz (by decide +kernel) ?_); (case hsz => rw [hXs]; rfl)) | (with_reducible first | refine AW_skip ?_ | refine AW_ret ?_ | refine AW_exit ?_ | refine AW_label ?_)); try simp (disch := omega) only [encSpan,go_sem, simprocAttr])
    | (with_reducible first | refine AW_scope ?_ | refine AW_blockS ?_ | refine AW_blockR ?_ | refine AW_blockC ?_)
    | ((with_reducible refine AW_condE ?_); refine ⟨_, (by first | rfl | (simp only [encSpan,go_sem, simprocAttr]; rfl)), ?_, ?_⟩ <;> intro hc <;> (try simp only [go_sem, simprocAttr] at hc) <;> (try (exfalso; omega)))
    | (with_reducible refine FnP_endE (by simp) ?_; refine ⟨_, (by simp only [Try.f74, encSpan,go_sem, simprocAttr]; rfl), ?_⟩; first | rfl | (try simp only [encSpan,go_sem, simprocAttr, Val.bool.injEq, Val.int.injEq, Val.tup.injEq, Val.agg.injEq, List.cons.injEq]))
    | with_reducible intro (ep : Nat → Nat)
    | with_reducible apply_assumption -exfalso -symm only [*])
  refine AW_range tabOK 1 (fun k f H => f 7 = .lst 2 [[.int .i64 b.lo, .int .i64 b.hi]] ∧ ∃ e2 e4 x y, f 2 = .ptr 2 e2 2 0 0 ∧ H 2 = some (e2, .arr 2 [[.int .i64 x, .int .i64 y]]) ∧ f 4 = .ptr 4 e4 2 0 0 ∧ H 4 = some (e4, .arr 2 [[.int .i64 0, .int .i64 0]]) ∧ x = a.lo + k * b.lo ∧ y = a.hi + k * b.hi) (by omega) (by rw [hXs]; decide) (by decide) (by simp only [go_sem, simprocAttr]) (by (first | rfl | (simp only [go_sem, simprocAttr]; done) | (simp only [go_sem, simprocAttr]; rfl)))
    ⟨by (first | rfl | (simp only [go_sem, simprocAttr]; done) | (simp only [go_sem, simprocAttr]; rfl)), _, _, a.lo, a.hi, by (first | rfl | (simp only [go_sem, simprocAttr]; done) | (simp only [go_sem, simprocAttr]; rfl)), by (first | rfl | (simp only [go_sem, simprocAttr]; done) | (simp only [go_sem, simprocAttr]; rfl)), by (first | rfl | (simp only [go_sem, simprocAttr]; done) | (simp only [go_sem, simprocAttr]; rfl)), by (first | rfl | (simp only [go_sem, simprocAttr]; done) | (simp only [go_sem, simprocAttr]; rfl)), by simp, by simp⟩ ?_ ?_
  · rintro k f H hk h9 h8 ⟨h7, e2, e4, x, y, h2, hH2, h4, hH4, hx, hy⟩
    obtain rfl : k = 0 := by omega
    simp only [Int.ofNat_zero, Int.zero_mul, Int.add_zero, Int.natCast_zero, Int.cast_ofNat_Int] at hx hy
    have hx' : x = a.lo := by simpa using hx
    have hy' : y = a.hi := by simpa using hy
    subst hx' hy'
    refine AW_keep [2, 4] ?_
    repeat' (first
      | (with_reducible refine AW_seq_k ?_; intro K hK)
      | ((first | ((with_reducible first | refine AW_region tabOK { base := 0, own := [2] } ?hsz ?_ | refine AW_draw tabOK mix { base := 0, own := [2] } ?hsz (by decide +kernel) ?_ | refine AW_drawS tabOK mix { base := 0, own := [2] } [4, 6] ?hsz (by decide +kernel) ?_); (case hsz => rw [hXs]; rfl)) | (with_reducible first | refine AW_skip ?_ | refine AW_ret ?_ | refine AW_exit ?_ | refine AW_label ?_)); try simp (disch := omega) only [h2, h4, h7, h8, h9, hH2, hH4,go_sem, simprocAttr])
      | (with_reducible first | refine AW_scope ?_ | refine AW_blockS ?_ | refine AW_blockR ?_ | refine AW_blockC ?_)
      | ((with_reducible refine AW_condE ?_); refine ⟨_, (by first | rfl | (simp only [h2, h4, h7, h8, h9, hH2, hH4,go_sem, simprocAttr]; rfl)), ?_, ?_⟩ <;> intro hc <;> (try simp only [go_sem, simprocAttr] at hc) <;> (try (exfalso; omega)))
      | (with_reducible refine FnP_endE (by simp) ?_; refine ⟨_, (by simp only [Try.f74, h2, h4, h7, h8, h9, hH2, hH4,go_sem, simprocAttr]; rfl), ?_⟩; first | rfl | (try simp only [h2, h4, h7, h8, h9, hH2, hH4,go_sem, simprocAttr, Val.bool.injEq, Val.int.injEq, Val.tup.injEq, Val.agg.injEq, List.cons.injEq]))
      | with_reducible intro (ep : Nat → Nat)
      | with_reducible apply_assumption -exfalso -symm only [*])
    exact ⟨_, _, _, _, rfl, rfl, rfl, rfl, by simp, by simp⟩
  · rintro f H h9 h8 ⟨h7, e2, e4, x, y, h2, hH2, h4, hH4, hx, hy⟩
    repeat' (first
      | (with_reducible refine AW_seq_k ?_; intro K hK)
      | ((first | ((with_reducible first | refine AW_region tabOK { base := 0, own := [2] } ?hsz ?_ | refine AW_draw tabOK mix { base := 0, own := [2] } ?hsz (by decide +kernel) ?_ | refine AW_drawS tabOK mix { base := 0, own := [2] } [4, 6] ?hsz (by decide +kernel) ?_); (case hsz => rw [hXs]; rfl)) | (with_reducible first | refine AW_skip ?_ | refine AW_ret ?_ | refine AW_exit ?_ | refine AW_label ?_)); try simp (disch := omega) only [h2, h4, hH2, hH4, encSpan,go_sem, simprocAttr])
      | (with_reducible first | refine AW_scope ?_ | refine AW_blockS ?_ | refine AW_blockR ?_ | refine AW_blockC ?_)
      | ((with_reducible refine AW_condE ?_); refine ⟨_, (by first | rfl | (simp only [h2, h4, hH2, hH4, encSpan,go_sem, simprocAttr]; rfl)), ?_, ?_⟩ <;> intro hc <;> (try simp only [go_sem, simprocAttr] at hc) <;> (try (exfalso; omega)))
      | (with_reducible refine FnP_endE (by simp) ?_; refine ⟨_, (by simp only [Try.f74, h2, h4, hH2, hH4, encSpan,go_sem, simprocAttr]; rfl), ?_⟩; first | rfl | (try simp only [h2, h4, hH2, hH4, encSpan,go_sem, simprocAttr, Val.bool.injEq, Val.int.injEq, Val.tup.injEq, Val.agg.injEq, List.cons.injEq]))
      | with_reducible intro (ep : Nat → Nat)
      | with_reducible apply_assumption -exfalso -symm only [*])
    simp [hx, hy]

theorem times_ok (a : Span) (n : Int) (h : (-1000000000 ≤ a.lo ∧ a.lo ≤ 1000000000) ∧ (-1000000000 ≤ a.hi ∧ a.hi ≤ 1000000000) ∧ 0 ≤ n ∧ n ≤ 1000000000) :
    PureC Try.prog 76 [encSpan a, .int .i64 n] (encSpan ⟨a.lo * n, a.hi * n⟩) := by
  have b1 := mul_bnd (a := a.lo) (q := n) (A := 1000000000) (B := 1000000000) (C := 1000000000) (by omega) (by omega) (by omega) (by omega) (by omega) (by omega)
  have b2 := mul_bnd (a := a.hi) (q := n) (A := 1000000000) (B := 1000000000) (C := 1000000000) (by omega) (by omega) (by omega) (by omega) (by omega) (by omega)
  refine PureC_of (fn := Try.f76) tabOK (by kernel_rfl) rfl (by kernel_rfl) (by simp [Try.f76]) (by simp [noids, noid, noidss, go_sem, encSpan]) (by first | rfl | simp [noids, noid, noidss, go_sem, encSpan]) ?_
  intro X hX0 hXs
  repeat' (first
    | (with_reducible refine AW_seq_k ?_; intro K hK)
    | ((first | ((with_reducible first | refine AW_region tabOK { base := 0, own := [] } ?hsz ?_ | refine AW_draw tabOK mix { base := 0, own := [] } ?hsz (by decide +kernel) ?_ | refine AW_drawS tabOK mix { base := 0, own := [] } [4] ?hsz (by decide +kernel) ?_); (case hsz => rw [hXs]; rfl)) | (with_reducible first | refine AW_skip ?_ | refine AW_ret ?_ | refine AW_exit ?_ | refine AW_label ?_)); try simp (disch := omega) only [encSpan,go_sem, simprocAttr])
    | (with_reducible first | refine AW_scope ?_ | refine AW_blockS ?_ | refine AW_blockR ?_ | refine AW_blockC ?_)
    | ((with_reducible refine AW_condE ?_); refine ⟨_, (by first | rfl | (simp only [encSpan,go_sem, simprocAttr]; rfl)), ?_, ?_⟩ <;> intro hc <;> (try simp only [go_sem, simprocAttr] at hc) <;> (try (exfalso; omega)))
    | (with_reducible refine FnP_endE (by simp) ?_; refine ⟨_, (by simp only [Try.f76, encSpan,go_sem, simprocAttr]; rfl), ?_⟩; first | rfl | (try simp only [encSpan,go_sem, simprocAttr, Val.bool.injEq, Val.int.injEq, Val.tup.injEq, Val.agg.injEq, List.cons.injEq]))
    | with_reducible intro (ep : Nat → Nat)
    | with_reducible apply_assumption -exfalso -symm only [*])

/-- A pointer to cells. -/
def Pts (H : Hp) (fp : Val) (cs : List Val) : Prop := fp = .pim cs ∨ ∃ k e n, fp = .ptr k e n 0 0 ∧ frzH H k = some (e, .fro n [cs])

theorem reads_look (r : RunT) (hF : RunF r) (rest : List Val) (H : Hp) (fp : Val) (hp : Pts H fp (cRun r ++ rest)) (i : Nat) (hi : i < r.cpls.length) (m last lag : Int) (hl : 1 ≤ last ∧ last ≤ r.rows.length) (hm : 1 ≤ m ∧ m ≤ r.rows.length) (hg : 0 ≤ lag ∧ lag ≤ 10) :
    LookC Try.prog 91 [.int .i64 lag, .pim [fp], .pim [.int .i64 m], .pim [.int .i64 last], .pim [.int .i64 i]] H (.int .i64 (readAt r i (min (m + lag) last))) := by
  have hrows := hF.rows
  have hcl := hF.cpls
  obtain ⟨x, d, hx, hd, hrd, hd1, hd2⟩ := readAt_ok hF hi (row := min (m + lag) last) (by omega) (by omega)
  have hge : 0 ≤ min (m + lag) last - 1 := by omega
  refine LookC_of (fn := Try.f91) tabOK (by kernel_rfl) rfl (by kernel_rfl) (by simp [Try.f91]) rfl ?_
  intro X hX0 hXs
  rcases hp with rfl | ⟨k, e, n, rfl, hk⟩
  · repeat' (first
      | (with_reducible refine AW_seq_k ?_; intro K hK)
      | ((first | ((with_reducible first | refine AW_region tabOK { base := 0, own := [] } ?hsz ?_ | refine AW_draw tabOK mix { base := 0, own := [] } ?hsz (by decide +kernel) ?_); (case hsz => rw [hXs]; rfl)) | (with_reducible first | refine AW_skip ?_ | refine AW_ret ?_ | refine AW_exit ?_ | refine AW_label ?_)); try simp (disch := omega) only [hx, hd, hrd, hge, cRun, cRow,go_sem, simprocAttr])
      | (with_reducible first | refine AW_scope ?_ | refine AW_blockS ?_ | refine AW_blockR ?_ | refine AW_blockC ?_)
      | ((with_reducible refine AW_condE ?_); refine ⟨_, (by first | rfl | (simp only [hx, hd, hrd, hge, cRun, cRow,go_sem, simprocAttr]; rfl)), ?_, ?_⟩ <;> intro hc <;> (try simp only [go_sem, simprocAttr] at hc) <;> (try (exfalso; omega)))
      | (with_reducible refine FnP_endE (by simp) ?_; refine ⟨_, (by simp only [Try.f91, hx, hd, hrd, hge, cRun, cRow,go_sem, simprocAttr]; rfl), ?_⟩; first | rfl | (try simp only [hx, hd, hrd, hge, cRun, cRow,go_sem, simprocAttr, Val.bool.injEq, Val.int.injEq, Val.tup.injEq, Val.agg.injEq, List.cons.injEq]))
      | with_reducible intro (ep : Nat → Nat)
      | with_reducible apply_assumption -exfalso -symm only [*])
  · have hk' : frz1 (H k) = some (e, .fro n [cRun r ++ rest]) := hk
    repeat' (first
      | (with_reducible refine AW_seq_k ?_; intro K hK)
      | ((first | ((with_reducible first | refine AW_region tabOK { base := 0, own := [] } ?hsz ?_ | refine AW_draw tabOK mix { base := 0, own := [] } ?hsz (by decide +kernel) ?_); (case hsz => rw [hXs]; rfl)) | (with_reducible first | refine AW_skip ?_ | refine AW_ret ?_ | refine AW_exit ?_ | refine AW_label ?_)); try simp (disch := omega) only [hk', hx, hd, hrd, hge, cRun, cRow,go_sem, simprocAttr])
      | (with_reducible first | refine AW_scope ?_ | refine AW_blockS ?_ | refine AW_blockR ?_ | refine AW_blockC ?_)
      | ((with_reducible refine AW_condE ?_); refine ⟨_, (by first | rfl | (simp only [hk', hx, hd, hrd, hge, cRun, cRow,go_sem, simprocAttr]; rfl)), ?_, ?_⟩ <;> intro hc <;> (try simp only [go_sem, simprocAttr] at hc) <;> (try (exfalso; omega)))
      | (with_reducible refine FnP_endE (by simp) ?_; refine ⟨_, (by simp only [Try.f91, hk', hx, hd, hrd, hge, cRun, cRow,go_sem, simprocAttr]; rfl), ?_⟩; first | rfl | (try simp only [hk', hx, hd, hrd, hge, cRun, cRow,go_sem, simprocAttr, Val.bool.injEq, Val.int.injEq, Val.tup.injEq, Val.agg.injEq, List.cons.injEq]))
      | with_reducible intro (ep : Nat → Nat)
      | with_reducible apply_assumption -exfalso -symm only [*])
end Cp

