/- What functions of the furnace and of its reference compute (R16). Conditions: none. -/
import Derived.Test.YtioeikglibjefaaR15
import Derived.Test.YtioeikglibjefaaS7
set_option linter.unusedSimpArgs false
set_option linter.unusedVariables false
namespace Cp
open Go Go.Proofs
set_option maxRecDepth 10000

theorem open_ok (r : RunT) (hF : RunF r) : PureC Try.prog 50 [encRun r] (.pim (fireAt r r.rows.length)) := by
  have hcl := hF.cpls
  have hrl := hF.rows
  have hnn : noids (fireAt r r.rows.length) = true := noids_still fireAt_still
  refine PureC_of (fn := Try.f50) tabOK (by kernel_rfl) rfl (by kernel_rfl) (by simp [Try.f50]) (by simp [noids, noid, noidss, go_sem, encRun, cRun, hnn]) (by first | rfl | simp [noids, noid, noidss, go_sem, encRun, cRun, hnn]) ?_
  intro X hX0 hXs
  repeat' (first
    | ((fail_if_success (with_reducible refine AW_at (id := 3) ?_)); with_reducible refine AW_seq_k ?_; intro K hK)
    | ((first | ((with_reducible first | refine AW_regN (id := 8) tabOK { base := 0, own := [6, 10, 22], imp := [20] } [] [31] ?hsz ?_ | refine AW_regN (id := 9) tabOK { base := 0, own := [6, 10, 22], imp := [20] } [] [31] ?hsz ?_ | refine AW_regL tabOK { base := 0, own := [6, 10, 22], imp := [20] } [] [31] ?hsz ?_ | refine AW_drawL tabOK mix { base := 0, own := [6, 10, 22], imp := [20] } [] [31] ?hsz (by decide +kernel) ?_ | refine AW_drawL tabOK mix { base := 0, own := [6, 10, 22], imp := [20] } [6] [31] ?hsz (by decide +kernel) ?_); (case hsz => rw [hXs]; rfl)) | (with_reducible first | refine AW_skip ?_ | refine AW_ret ?_ | refine AW_exit ?_ | refine AW_label ?_)); try simp (disch := omega) only [encRun, cRun,go_sem, simprocAttr])
    | (with_reducible first | refine AW_scope ?_ | refine AW_blockS ?_ | refine AW_blockR ?_ | refine AW_blockC ?_)
    | ((with_reducible refine AW_condE ?_); refine ⟨_, (by first | rfl | (simp only [encRun, cRun,go_sem, simprocAttr]; rfl)), ?_, ?_⟩ <;> intro hc <;> (try simp only [go_sem, simprocAttr] at hc) <;> (try (exfalso; omega)))
    | (with_reducible refine FnP_endE (by simp) ?_; refine ⟨_, (by simp only [Try.f50, encRun, cRun,go_sem, simprocAttr]; rfl), ?_⟩; first | rfl | (try simp only [encRun, cRun,go_sem, simprocAttr, Val.bool.injEq, Val.int.injEq, Val.tup.injEq, Val.agg.injEq, List.cons.injEq]))
    | with_reducible intro (ep : Nat → Nat)
    | with_reducible apply_assumption -exfalso -symm only [*])
  refine AW_block (AW_loop (fun n f H => ∃ k : Nat, n = r.rows.length - k ∧ k ≤ r.rows.length ∧ (f 1 = .pim (cRun r) ∧ f 4 = .int .i64 ((k + 1 : Nat) : Int)) ∧ ∃ e10, f 3 = .ptr 10 e10 189 0 0 ∧ H 10 = some (e10, .arr 189 [fireAt r k]) ∧ Room H 1000 100) r.rows.length
    ⟨0, by simp, Nat.zero_le _, by (and_intros <;> first | rfl | (simp only [cRun, go_sem, simprocAttr]; done) | (simp only [cRun, go_sem, simprocAttr]; rfl)), _, by (first | rfl | (simp only [go_sem, simprocAttr]; done) | (simp only [go_sem, simprocAttr]; rfl)), by simp only [go_sem, simprocAttr]; rfl, fun d hd => by simp only [go_sem, simprocAttr]; rw [if_neg (by omega)]⟩ ?_)
  rintro n f H ⟨k, rfl, hk, ⟨h1, h4⟩, e10, h3, hH10, hroom⟩
  by_cases hlt : k < r.rows.length
  · refine AW_lose 6 fun H1 g6 hs1 => ?_
    refine AW_lose 22 fun H2 g22 hs2 => ?_
    have g6' : H2 6 = none := by rw [hs2 _ (by decide), g6]
    have hH10' : H2 10 = some (e10, .arr 189 [fireAt r k]) := by rw [hs2 _ (by decide), hs1 _ (by decide), hH10]
    have hroom' : Room H2 1000 100 := fun d hd => by rw [hs2 _ (by omega), hs1 _ (by omega)]; exact hroom d hd
    clear hs1 hs2 g6 hroom hH10
    obtain ⟨rest, hrest⟩ := @fireAt_run r k
    repeat' (first
      | (with_reducible refine AW_seq_k ?_; intro K hK)
      | ((first | ((with_reducible first | refine AW_regN (id := 8) tabOK { base := 0, own := [6, 10, 22], imp := [20] } [] [31] ?hsz ?_ | refine AW_regN (id := 9) tabOK { base := 0, own := [6, 10, 22], imp := [20] } [] [31] ?hsz ?_ | refine AW_regL tabOK { base := 0, own := [6, 10, 22], imp := [20] } [] [31] ?hsz ?_ | refine AW_drawL tabOK mix { base := 0, own := [6, 10, 22], imp := [20] } [] [31] ?hsz (by decide +kernel) ?_ | refine AW_drawL tabOK mix { base := 0, own := [6, 10, 22], imp := [20] } [6] [31] ?hsz (by decide +kernel) ?_); (case hsz => rw [hXs]; rfl)) | (with_reducible first | refine AW_skip ?_ | refine AW_ret ?_ | refine AW_exit ?_ | refine AW_label ?_) | refine pureK_intro (working_ok r hF rest _ _ (.inr ⟨10, e10, 189, rfl, by simp only [go_sem, simprocAttr, hH10', hrest], by decide⟩) _) ?_ | refine lookK_intro (working_ok r hF rest _ _ (.inr ⟨10, e10, 189, rfl, by simp only [go_sem, simprocAttr, hH10', hrest], by decide⟩) _) ?_); try simp (disch := omega) only [h1, h3, h4, hH10', g6', g22, cRun,go_sem, simprocAttr])
      | (with_reducible first | refine AW_scope ?_ | refine AW_blockS ?_ | refine AW_blockR ?_ | refine AW_blockC ?_)
      | ((with_reducible refine AW_condE ?_); refine ⟨_, (by first | rfl | (simp only [h1, h3, h4, hH10', g6', g22, cRun,go_sem, simprocAttr]; rfl)), ?_, ?_⟩ <;> intro hc <;> (try simp only [go_sem, simprocAttr] at hc) <;> (try (exfalso; omega)))
      | (first | refine impK_intro (working_ok r hF rest _ _ (.inr ⟨10, e10, 189, rfl, by simp only [go_sem, simprocAttr, hH10', hrest], by decide⟩) _) ?_)
      | (with_reducible refine FnP_endE (by simp) ?_; refine ⟨_, (by simp only [Try.f50, h1, h3, h4, hH10', g6', g22, cRun,go_sem, simprocAttr]; rfl), ?_⟩; first | rfl | (try simp only [h1, h3, h4, hH10', g6', g22, cRun,go_sem, simprocAttr, Val.bool.injEq, Val.int.injEq, Val.tup.injEq, Val.agg.injEq, List.cons.injEq]))
      | with_reducible intro (ep : Nat → Nat)
      | with_reducible apply_assumption -exfalso -symm only [*])
    rintro v H3 ⟨em, ver, rfl, hmap, hs3⟩
    have g6 : H3 6 = none := by rw [hs3 _ (by decide), g6']
    have g22' : H3 22 = none := by rw [hs3 _ (by decide), g22]
    have hH10 : H3 10 = some (e10, .arr 189 [fireAt r k]) := by rw [hs3 _ (by decide), hH10']
    have hroom : Room H3 1000 100 := fun d hd => by rw [hs3 _ (by omega)]; exact hroom' d hd
    clear hs3 g6' g22 hH10' hroom'
    have hwl := @wk_len r ((k + 1 : Nat) : Int)
    simp only [go_sem, simprocAttr]
    repeat' (first
      | (with_reducible refine AW_seq_k ?_; intro K hK)
      | ((first | ((with_reducible first | refine AW_regN (id := 8) tabOK { base := 0, own := [6, 10, 22], imp := [20] } [] [31] ?hsz ?_ | refine AW_regN (id := 9) tabOK { base := 0, own := [6, 10, 22], imp := [20] } [] [31] ?hsz ?_ | refine AW_regL tabOK { base := 0, own := [6, 10, 22], imp := [20] } [] [31] ?hsz ?_ | refine AW_drawL tabOK mix { base := 0, own := [6, 10, 22], imp := [20] } [] [31] ?hsz (by decide +kernel) ?_ | refine AW_drawL tabOK mix { base := 0, own := [6, 10, 22], imp := [20] } [6] [31] ?hsz (by decide +kernel) ?_); (case hsz => rw [hXs]; rfl)) | (with_reducible first | refine AW_skip ?_ | refine AW_ret ?_ | refine AW_exit ?_ | refine AW_label ?_)); try simp (disch := omega) only [h1, h3, h4, hH10, hmap, g6, g22', cRun,go_sem, simprocAttr])
      | (with_reducible first | refine AW_scope ?_ | refine AW_blockS ?_ | refine AW_blockR ?_ | refine AW_blockC ?_)
      | ((with_reducible refine AW_condE ?_); refine ⟨_, (by first | rfl | (simp only [h1, h3, h4, hH10, hmap, g6, g22', cRun,go_sem, simprocAttr]; rfl)), ?_, ?_⟩ <;> intro hc <;> (try simp only [go_sem, simprocAttr] at hc) <;> (try (exfalso; omega)))
      | (with_reducible refine FnP_endE (by simp) ?_; refine ⟨_, (by simp only [Try.f50, h1, h3, h4, hH10, hmap, g6, g22', cRun,go_sem, simprocAttr]; rfl), ?_⟩; first | rfl | (try simp only [h1, h3, h4, hH10, hmap, g6, g22', cRun,go_sem, simprocAttr, Val.bool.injEq, Val.int.injEq, Val.tup.injEq, Val.agg.injEq, List.cons.injEq]))
      | with_reducible intro (ep : Nat → Nat)
      | with_reducible apply_assumption -exfalso -symm only [*])
    refine AW_block (AW_loop (fun n f H => ∃ left : List Nat, n = left.length ∧ left.length ≤ (wk r ((k + 1 : Nat) : Int)).length ∧ (∀ p ∈ left, p < (wk r ((k + 1 : Nat) : Int)).length) ∧ (f 1 = .pim (cRun r) ∧ f 3 = .ptr 10 e10 189 0 0 ∧ f 4 = .int .i64 ((k + 1 : Nat) : Int) ∧ f 5 = .map 2009 em ∧ H 10 = some (e10, .arr 189 [fireAt r k]) ∧ H 2009 = some (em, .map ver (imap .i64 (tl (wk r ((k + 1 : Nat) : Int)))))) ∧ Room H 1000 100 ∧
        ∃ x y e6 e22 cur, f 6 = .ptr 6 e6 2 0 0 ∧ H 6 = some (e6, .arr 2 [[.int .i64 x, .int .i64 y]]) ∧ f 22 = .itr 22 e22 ∧ H 22 = some (e22, .itr 2009 em ver left cur) ∧
          x + sumLo r ((k + 1 : Nat) : Int) (lfI r ((k + 1 : Nat) : Int) left) = sumLo r ((k + 1 : Nat) : Int) (wk r ((k + 1 : Nat) : Int)) ∧ y + sumHi r ((k + 1 : Nat) : Int) (lfI r ((k + 1 : Nat) : Int) left) = sumHi r ((k + 1 : Nat) : Int) (wk r ((k + 1 : Nat) : Int))) (wk r ((k + 1 : Nat) : Int)).length
      ⟨List.range (wk r ((k + 1 : Nat) : Int)).length, by simp, by simp, by simp, by (and_intros <;> first | rfl | (simp only [h1, h3, h4, hH10, hmap, cRun, go_sem, simprocAttr]; done) | (simp only [h1, h3, h4, hH10, hmap, cRun, go_sem, simprocAttr]; rfl)), fun d hd => by simp only [go_sem, simprocAttr]; rw [if_neg (by omega), if_neg (by omega)]; exact hroom d hd, 0, 0, _, _, _, by (first | rfl | (simp only [go_sem, simprocAttr]; done) | (simp only [go_sem, simprocAttr]; rfl)), by (first | rfl | (simp only [go_sem, simprocAttr]; done) | (simp only [go_sem, simprocAttr]; rfl)), by (first | rfl | (simp only [go_sem, simprocAttr]; done) | (simp only [go_sem, simprocAttr]; rfl)), by (first | rfl | (simp only [go_sem, simprocAttr]; done) | (simp only [go_sem, simprocAttr]; rfl)), by rw [lf_all]; omega, by rw [lf_all]; omega⟩ ?_)
    clear g6 g22' hH10 hroom h1 h3 h4 hmap
    rintro n f H ⟨left, rfl, hll, hlt2, ⟨h1, h3, h4, h5, hH10, hmap⟩, hroom, x, y, e6, e22, cur, h6, hH6, h22, hH22, hx, hy⟩
    have hm1 : (1 : Int) ≤ ((k + 1 : Nat) : Int) ∧ ((k + 1 : Nat) : Int) ≤ r.rows.length := by omega
    have hsb := sum_bounds hF hm1.1 hm1.2 (lfI r ((k + 1 : Nat) : Int) left) (lf_mem hlt2)
    have hst := sum_bounds hF hm1.1 hm1.2 (wk r ((k + 1 : Nat) : Int)) (fun j hj => hj)
    rw [lf_len] at hsb
    repeat' (first
      | (with_reducible refine AW_seq_k ?_; intro K hK)
      | ((first | ((with_reducible first | refine AW_regN (id := 8) tabOK { base := 0, own := [6, 10, 22], imp := [20] } [] [31] ?hsz ?_ | refine AW_regN (id := 9) tabOK { base := 0, own := [6, 10, 22], imp := [20] } [] [31] ?hsz ?_ | refine AW_regL tabOK { base := 0, own := [6, 10, 22], imp := [20] } [] [31] ?hsz ?_ | refine AW_drawL tabOK mix { base := 0, own := [6, 10, 22], imp := [20] } [] [31] ?hsz (by decide +kernel) ?_ | refine AW_drawL tabOK mix { base := 0, own := [6, 10, 22], imp := [20] } [6] [31] ?hsz (by decide +kernel) ?_); (case hsz => rw [hXs]; rfl)) | (with_reducible first | refine AW_skip ?_ | refine AW_ret ?_ | refine AW_exit ?_ | refine AW_label ?_)); try simp (disch := omega) only [h1, h3, h4, h5, h6, h22, hH10, hH6, hH22, hmap, cRun,go_sem, simprocAttr])
      | (with_reducible first | refine AW_scope ?_ | refine AW_blockS ?_ | refine AW_blockR ?_ | refine AW_blockC ?_)
      | ((with_reducible refine AW_condE ?_); refine ⟨_, (by first | rfl | (simp only [h1, h3, h4, h5, h6, h22, hH10, hH6, hH22, hmap, cRun,go_sem, simprocAttr]; rfl)), ?_, ?_⟩ <;> intro hc <;> (try simp only [go_sem, simprocAttr] at hc) <;> (try (exfalso; omega)))
      | (with_reducible refine FnP_endE (by simp) ?_; refine ⟨_, (by simp only [Try.f50, h1, h3, h4, h5, h6, h22, hH10, hH6, hH22, hmap, cRun,go_sem, simprocAttr]; rfl), ?_⟩; first | rfl | (try simp only [h1, h3, h4, h5, h6, h22, hH10, hH6, hH22, hmap, cRun,go_sem, simprocAttr, Val.bool.injEq, Val.int.injEq, Val.tup.injEq, Val.agg.injEq, List.cons.injEq]))
      | with_reducible intro (ep : Nat → Nat)
      | with_reducible apply_assumption -exfalso -symm only [*])
    refine ⟨fun hl => ?_, fun p hp a v hav => ?_⟩
    · subst hl
      simp only [lfI, List.map_nil, sumLo, sumHi, Int.add_zero] at hx hy
      subst hx hy
      have hfl := @fireAt_len r k (by omega)
      have h61 : k + 1 < 61 := by omega
      have h188 : 128 + (k + 1) * 1 ≤ 188 := by omega
      have h187 : 6 + (k + 1) * 2 ≤ 187 := by omega
      have hds : ∀ v, (splice (fireAt r k) (128 + (k + 1) * 1) [v]).drop (128 + (k + 1) * 1) = v :: (fireAt r k).drop (128 + (k + 1) * 1 + 1) := fun v => drop_splice (by omega)
      have hlen1 : ∀ v, (splice (fireAt r k) (128 + (k + 1) * 1) [v]).length = 189 := fun v => by rw [splice_len (by simp only [List.length_cons, List.length_nil]; omega), hfl]
      by_cases hz : 0 < (wk r ((k + 1 : Nat) : Int)).length
      · obtain ⟨q1, q2, q3⟩ := quo840 (n := (wk r ((k + 1 : Nat) : Int)).length) (by omega) (by omega)
        have hz0 : (0 : Int) < ((wk r ((k + 1 : Nat) : Int)).length : Int) := by omega
        have hzn : ¬ ((wk r ((k + 1 : Nat) : Int)).length : Int) = 0 := by omega
        repeat' (first
          | (with_reducible refine AW_seq_k ?_; intro K hK)
          | ((first | ((with_reducible first | refine AW_regN (id := 8) tabOK { base := 0, own := [6, 10, 22], imp := [20] } [] [31] ?hsz ?_ | refine AW_regN (id := 9) tabOK { base := 0, own := [6, 10, 22], imp := [20] } [] [31] ?hsz ?_ | refine AW_regL tabOK { base := 0, own := [6, 10, 22], imp := [20] } [] [31] ?hsz ?_ | refine AW_drawL tabOK mix { base := 0, own := [6, 10, 22], imp := [20] } [] [31] ?hsz (by decide +kernel) ?_ | refine AW_drawL tabOK mix { base := 0, own := [6, 10, 22], imp := [20] } [6] [31] ?hsz (by decide +kernel) ?_); (case hsz => rw [hXs]; rfl)) | (with_reducible first | refine AW_skip ?_ | refine AW_ret ?_ | refine AW_exit ?_ | refine AW_label ?_) | refine pureK_intro (times_ok ⟨sumLo r ((k + 1 : Nat) : Int) (wk r ((k + 1 : Nat) : Int)), sumHi r ((k + 1 : Nat) : Int) (wk r ((k + 1 : Nat) : Int))⟩ _ (by simp only; omega)) ?_ | refine lookK_intro (times_ok ⟨sumLo r ((k + 1 : Nat) : Int) (wk r ((k + 1 : Nat) : Int)), sumHi r ((k + 1 : Nat) : Int) (wk r ((k + 1 : Nat) : Int))⟩ _ (by simp only; omega)) ?_); try simp (disch := omega) only [h1, h3, h4, h5, h6, h22, hH10, hH6, hH22, hmap, hfl, h61, h188, h187, hds, hlen1, hz0, hzn, q1, cRun, encSpan,go_sem, simprocAttr])
          | (with_reducible first | refine AW_scope ?_ | refine AW_blockS ?_ | refine AW_blockR ?_ | refine AW_blockC ?_)
          | ((with_reducible refine AW_condE ?_); refine ⟨_, (by first | rfl | (simp only [h1, h3, h4, h5, h6, h22, hH10, hH6, hH22, hmap, hfl, h61, h188, h187, hds, hlen1, hz0, hzn, q1, cRun, encSpan,go_sem, simprocAttr]; rfl)), ?_, ?_⟩ <;> intro hc <;> (try simp only [go_sem, simprocAttr] at hc) <;> (try (exfalso; omega)))
          | (first | refine impK_intro (times_ok ⟨sumLo r ((k + 1 : Nat) : Int) (wk r ((k + 1 : Nat) : Int)), sumHi r ((k + 1 : Nat) : Int) (wk r ((k + 1 : Nat) : Int))⟩ _ (by simp only; omega)) ?_)
          | (with_reducible refine FnP_endE (by simp) ?_; refine ⟨_, (by simp only [Try.f50, h1, h3, h4, h5, h6, h22, hH10, hH6, hH22, hmap, hfl, h61, h188, h187, hds, hlen1, hz0, hzn, q1, cRun, encSpan,go_sem, simprocAttr]; rfl), ?_⟩; first | rfl | (try simp only [h1, h3, h4, h5, h6, h22, hH10, hH6, hH22, hmap, hfl, h61, h188, h187, hds, hlen1, hz0, hzn, q1, cRun, encSpan,go_sem, simprocAttr, Val.bool.injEq, Val.int.injEq, Val.tup.injEq, Val.agg.injEq, List.cons.injEq]))
          | with_reducible intro (ep : Nat → Nat)
          | with_reducible apply_assumption -exfalso -symm only [*])
        exact ⟨r.rows.length - (k + 1), by omega, k + 1, rfl, by omega, rfl, e10, rfl, by simp only [fireAt, if_pos hz, Nat.mul_one, meanS], fun d hd => by rw [upd_ne _ _ (by omega), upd_ne _ _ (by omega)]; exact hroom d hd⟩
      · have hz0 : ¬ (0 : Int) < ((wk r ((k + 1 : Nat) : Int)).length : Int) := by omega
        repeat' (first
          | (with_reducible refine AW_seq_k ?_; intro K hK)
          | ((first | ((with_reducible first | refine AW_regN (id := 8) tabOK { base := 0, own := [6, 10, 22], imp := [20] } [] [31] ?hsz ?_ | refine AW_regN (id := 9) tabOK { base := 0, own := [6, 10, 22], imp := [20] } [] [31] ?hsz ?_ | refine AW_regL tabOK { base := 0, own := [6, 10, 22], imp := [20] } [] [31] ?hsz ?_ | refine AW_drawL tabOK mix { base := 0, own := [6, 10, 22], imp := [20] } [] [31] ?hsz (by decide +kernel) ?_ | refine AW_drawL tabOK mix { base := 0, own := [6, 10, 22], imp := [20] } [6] [31] ?hsz (by decide +kernel) ?_); (case hsz => rw [hXs]; rfl)) | (with_reducible first | refine AW_skip ?_ | refine AW_ret ?_ | refine AW_exit ?_ | refine AW_label ?_)); try simp (disch := omega) only [h1, h3, h4, h5, h6, h22, hH10, hH6, hH22, hmap, hfl, h61, h188, h187, hds, hlen1, hz0, cRun,go_sem, simprocAttr])
          | (with_reducible first | refine AW_scope ?_ | refine AW_blockS ?_ | refine AW_blockR ?_ | refine AW_blockC ?_)
          | ((with_reducible refine AW_condE ?_); refine ⟨_, (by first | rfl | (simp only [h1, h3, h4, h5, h6, h22, hH10, hH6, hH22, hmap, hfl, h61, h188, h187, hds, hlen1, hz0, cRun,go_sem, simprocAttr]; rfl)), ?_, ?_⟩ <;> intro hc <;> (try simp only [go_sem, simprocAttr] at hc) <;> (try (exfalso; omega)))
          | (with_reducible refine FnP_endE (by simp) ?_; refine ⟨_, (by simp only [Try.f50, h1, h3, h4, h5, h6, h22, hH10, hH6, hH22, hmap, hfl, h61, h188, h187, hds, hlen1, hz0, cRun,go_sem, simprocAttr]; rfl), ?_⟩; first | rfl | (try simp only [h1, h3, h4, h5, h6, h22, hH10, hH6, hH22, hmap, hfl, h61, h188, h187, hds, hlen1, hz0, cRun,go_sem, simprocAttr, Val.bool.injEq, Val.int.injEq, Val.tup.injEq, Val.agg.injEq, List.cons.injEq]))
          | with_reducible intro (ep : Nat → Nat)
          | with_reducible apply_assumption -exfalso -symm only [*])
        exact ⟨r.rows.length - (k + 1), by omega, k + 1, rfl, by omega, rfl, e10, rfl, by simp only [fireAt, if_neg hz, Nat.mul_one], fun d hd => by rw [upd_ne _ _ (by omega)]; exact hroom d hd⟩
    · obtain ⟨w, hw⟩ : ∃ w, (wk r ((k + 1 : Nat) : Int))[p]? = some w := ⟨_, List.getElem?_eq_getElem (hlt2 p hp)⟩
      obtain ⟨c, hcc, hwk⟩ := wk_mem.1 (List.mem_of_getElem? hw)
      obtain ⟨e1, e2⟩ := lf_take hp hw hcc
      have htb := truth_bounds hF hcc hm1.1 hm1.2 hwk
      have hle := List.length_erase_of_mem hp
      have hpos := List.length_pos_of_mem hp
      have hg : (tl (wk r ((k + 1 : Nat) : Int)))[p]? = some ((w : Int), .bool true) := by rw [tl_get, hw]; rfl
      rw [hg] at hav
      simp only [Option.map_some, Option.some.injEq, Prod.mk.injEq] at hav
      obtain ⟨rfl, rfl⟩ := hav
      rw [e1] at hx
      rw [e2] at hy
      repeat' (first
        | (with_reducible refine AW_seq_k ?_; intro K hK)
        | ((first | ((with_reducible first | refine AW_regN (id := 8) tabOK { base := 0, own := [6, 10, 22], imp := [20] } [] [31] ?hsz ?_ | refine AW_regN (id := 9) tabOK { base := 0, own := [6, 10, 22], imp := [20] } [] [31] ?hsz ?_ | refine AW_regL tabOK { base := 0, own := [6, 10, 22], imp := [20] } [] [31] ?hsz ?_ | refine AW_drawL tabOK mix { base := 0, own := [6, 10, 22], imp := [20] } [] [31] ?hsz (by decide +kernel) ?_ | refine AW_drawL tabOK mix { base := 0, own := [6, 10, 22], imp := [20] } [6] [31] ?hsz (by decide +kernel) ?_); (case hsz => rw [hXs]; rfl)) | (with_reducible first | refine AW_skip ?_ | refine AW_ret ?_ | refine AW_exit ?_ | refine AW_label ?_)); try simp (disch := omega) only [h1, h3, h4, h5, h6, h22, hH10, hH6, hH22, hmap, hg, cRun,go_sem, simprocAttr])
        | (with_reducible first | refine AW_scope ?_ | refine AW_blockS ?_ | refine AW_blockR ?_ | refine AW_blockC ?_)
        | ((with_reducible refine AW_condE ?_); refine ⟨_, (by first | rfl | (simp only [h1, h3, h4, h5, h6, h22, hH10, hH6, hH22, hmap, hg, cRun,go_sem, simprocAttr]; rfl)), ?_, ?_⟩ <;> intro hc <;> (try simp only [go_sem, simprocAttr] at hc) <;> (try (exfalso; omega)))
        | (with_reducible refine FnP_endE (by simp) ?_; refine ⟨_, (by simp only [Try.f50, h1, h3, h4, h5, h6, h22, hH10, hH6, hH22, hmap, hg, cRun,go_sem, simprocAttr]; rfl), ?_⟩; first | rfl | (try simp only [h1, h3, h4, h5, h6, h22, hH10, hH6, hH22, hmap, hg, cRun,go_sem, simprocAttr, Val.bool.injEq, Val.int.injEq, Val.tup.injEq, Val.agg.injEq, List.cons.injEq]))
        | with_reducible intro (ep : Nat → Nat)
        | with_reducible apply_assumption -exfalso -symm only [*])
      refine ⟨_, _, rfl, ?_⟩
      have hroom2 : ∀ q, Room (upd H 22 q) 1000 100 := fun q d hd => by rw [upd_ne _ _ (by omega)]; exact hroom d hd
      have hpts : ∀ q, Pts (upd H 22 q) (.ptr 10 e10 189 0 0) (cRun r ++ rest) := fun q => .inr ⟨10, e10, 189, rfl, by unfold frzH; rw [upd_ne _ _ (by decide), hH10, hrest]; rfl⟩
      repeat' (first
        | (with_reducible refine AW_seq_k ?_; intro K hK)
        | ((first | ((with_reducible first | refine AW_regN (id := 8) tabOK { base := 0, own := [6, 10, 22], imp := [20] } [] [31] ?hsz ?_ | refine AW_regN (id := 9) tabOK { base := 0, own := [6, 10, 22], imp := [20] } [] [31] ?hsz ?_ | refine AW_regL tabOK { base := 0, own := [6, 10, 22], imp := [20] } [] [31] ?hsz ?_ | refine AW_drawL tabOK mix { base := 0, own := [6, 10, 22], imp := [20] } [] [31] ?hsz (by decide +kernel) ?_ | refine AW_drawL tabOK mix { base := 0, own := [6, 10, 22], imp := [20] } [6] [31] ?hsz (by decide +kernel) ?_); (case hsz => rw [hXs]; rfl)) | (with_reducible first | refine AW_skip ?_ | refine AW_ret ?_ | refine AW_exit ?_ | refine AW_label ?_) | refine pureK_intro (truth_look r hF rest _ _ (hpts _) (hroom2 _) w c hcc _ hm1 hwk) ?_ | refine pureK_intro (plus_ok ⟨x, y⟩ (truth r c w _) (by simp only; omega)) ?_ | refine lookK_intro (truth_look r hF rest _ _ (hpts _) (hroom2 _) w c hcc _ hm1 hwk) ?_ | refine lookK_intro (plus_ok ⟨x, y⟩ (truth r c w _) (by simp only; omega)) ?_); try simp (disch := omega) only [h1, h3, h4, h5, h6, h22, hH10, hH6, hH22, hmap, hg, cRun, encSpan,go_sem, simprocAttr])
        | (with_reducible first | refine AW_scope ?_ | refine AW_blockS ?_ | refine AW_blockR ?_ | refine AW_blockC ?_)
        | ((with_reducible refine AW_condE ?_); refine ⟨_, (by first | rfl | (simp only [h1, h3, h4, h5, h6, h22, hH10, hH6, hH22, hmap, hg, cRun, encSpan,go_sem, simprocAttr]; rfl)), ?_, ?_⟩ <;> intro hc <;> (try simp only [go_sem, simprocAttr] at hc) <;> (try (exfalso; omega)))
        | (first | refine impK_intro (truth_look r hF rest _ _ (hpts _) (hroom2 _) w c hcc _ hm1 hwk) ?_ | refine impK_intro (plus_ok ⟨x, y⟩ (truth r c w _) (by simp only; omega)) ?_)
        | (with_reducible refine FnP_endE (by simp) ?_; refine ⟨_, (by simp only [Try.f50, h1, h3, h4, h5, h6, h22, hH10, hH6, hH22, hmap, hg, cRun, encSpan,go_sem, simprocAttr]; rfl), ?_⟩; first | rfl | (try simp only [h1, h3, h4, h5, h6, h22, hH10, hH6, hH22, hmap, hg, cRun, encSpan,go_sem, simprocAttr, Val.bool.injEq, Val.int.injEq, Val.tup.injEq, Val.agg.injEq, List.cons.injEq]))
        | with_reducible intro (ep : Nat → Nat)
        | with_reducible apply_assumption -exfalso -symm only [*])
      exact ⟨(left.erase p).length, by omega, left.erase p, rfl, by omega, fun q hq => hlt2 q (List.mem_of_mem_erase hq), fun d hd => by rw [upd_ne _ _ (by omega)]; exact hroom2 _ d hd, _, _, _, _, _, rfl, rfl, rfl, rfl, by omega, by omega⟩
  · obtain rfl : k = r.rows.length := by omega
    repeat' (first
      | (with_reducible refine AW_seq_k ?_; intro K hK)
      | ((first | ((with_reducible first | refine AW_regN (id := 8) tabOK { base := 0, own := [6, 10, 22], imp := [20] } [] [31] ?hsz ?_ | refine AW_regN (id := 9) tabOK { base := 0, own := [6, 10, 22], imp := [20] } [] [31] ?hsz ?_ | refine AW_regL tabOK { base := 0, own := [6, 10, 22], imp := [20] } [] [31] ?hsz ?_ | refine AW_drawL tabOK mix { base := 0, own := [6, 10, 22], imp := [20] } [] [31] ?hsz (by decide +kernel) ?_ | refine AW_drawL tabOK mix { base := 0, own := [6, 10, 22], imp := [20] } [6] [31] ?hsz (by decide +kernel) ?_); (case hsz => rw [hXs]; rfl)) | (with_reducible first | refine AW_skip ?_ | refine AW_ret ?_ | refine AW_exit ?_ | refine AW_label ?_)); try simp (disch := omega) only [h1, h3, h4, hH10, cRun,go_sem, simprocAttr])
      | (with_reducible first | refine AW_scope ?_ | refine AW_blockS ?_ | refine AW_blockR ?_ | refine AW_blockC ?_)
      | ((with_reducible refine AW_condE ?_); refine ⟨_, (by first | rfl | (simp only [h1, h3, h4, hH10, cRun,go_sem, simprocAttr]; rfl)), ?_, ?_⟩ <;> intro hc <;> (try simp only [go_sem, simprocAttr] at hc) <;> (try (exfalso; omega)))
      | with_reducible intro (ep : Nat → Nat)
      | with_reducible apply_assumption -exfalso -symm only [*])
    refine FnP_frz 10 (Or.inl rfl) (by simp only [go_sem, simprocAttr, hH10]; rfl) ⟨_, (by simp only [Try.f50, go_sem, simprocAttr]; rfl), ?_⟩
    simp only [go_sem, simprocAttr, fzd_still fireAt_still]
end Cp

