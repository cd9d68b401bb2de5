/- Rules, facts and contracts that the statement's proof leans on. Conditions: none. -/
import Derived.Test.YtopgldaekcmekaaDoorRows
import Derived.LaidMore
import Derived.LaidHandle
import Derived.OpenShut
import Derived.FnData
import Derived.Test.YtopgldaekcmekaaDoorP9
set_option linter.unusedVariables false
set_option linter.unusedSimpArgs false
set_option linter.unusedSectionVars false
namespace Cp
open Go Go.Proofs
set_option maxRecDepth 10000
set_option maxHeartbeats 1000000
theorem failC_held (t : TestT) (c : Nat) : (failC t c).held = 0 ∨ (failC t c).held = 1 ∨ (failC t c).held = 2 := by
 unfold failC
 split
 ·exact .inr (.inr rfl)
 ·cases (badC t c).isSome <;> simp
def failsL (t : TestT) (n : Nat) : List FailT := (List.range n).map (failC t)
def letterS (t : TestT) (l : Nat) : FailT := fstS (failsL t (2 * l))
theorem failsL_succ {t : TestT} {n : Nat} : failsL t (n + 1) = failsL t n ++ [failC t n] := by simp [failsL, List.range_succ]
theorem failsL_len {t : TestT} {n : Nat} : (failsL t n).length = n := by simp [failsL]
theorem encI_vc (f : FailT) : vcells (encI f) = some [encI f] := by unfold encI; split <;> rfl
theorem encI_fzd {f : FailT} {H : Hp} {n : Nat} : fzd H (n + 3) (encI f) = encI f := by unfold encI; split <;> rfl
theorem letter_ok (t : TestT) (hT : testOK t = true) (hR : t.run.rows.length ≤ 60) (l : Nat) (hl : 1 ≤ l ∧ l ≤ 3) (eb em ver : Nat) (m : List SeenT) (hS : SeenM t 6 m) (H0 : Hp) (hL : TriL t eb em ver m H0) :
  ACall Tryd.prog 29 [.ptr 2204 eb 24 0 0, .int .u8 (l : Int)] H0 fun v H' => v = encI (letterS t l) ∧ ∀ j, j < 2600 → H' j = H0 j := by
 refine ACall_of (fn := Tryd.f29) tabOK (by kernel_rfl) rfl (by kernel_rfl) (by simp [Tryd.f29]) ?_
 intro X hX0 hXs
 have h2l : (2 : Int) * (l : Int) = ((2 * l : Nat) : Int) := by omega
 repeat' (first | (with_reducible refine sk ?_; intro K hK) | ((with_reducible first | refine rgL [] [18] (md := { base := 2600, own := [20] }) (h := ?_) | refine nx ?_); try simp (disch := omega) only [h2l,go_sem, simprocAttr]) | (with_reducible refine bk ?_) | ((with_reducible refine' cE ?hv ?_ ?_); (case hv => first | rfl | (simp only [h2l,go_sem, simprocAttr]; rfl)); all_goals (intro hc; (try simp only [go_sem, simprocAttr] at hc); try (exfalso; omega))) | with_reducible intro (ep : Nat → Nat) | with_reducible apply_assumption -exfalso -symm only [*])
 refine AW_range tabOK (2 * l) (fun k f H => (f 0 = .ptr 2204 eb 24 0 0 ∧ ∃ _ : Unit, ∀ j, j < 2600 → H j = H0 j) ∧ TriL t eb em ver m H ∧ LstC 2620 1 ((failsL t k).map fun f => [encI f]) (f 5) H) (by omega) (by rw [hXs]; decide) (by decide) (by (first | rfl | (simp only [go_sem, simprocAttr]; done) | (simp only [go_sem, simprocAttr]; rfl))) (by (first | rfl | (simp only [go_sem, simprocAttr]; done) | (simp only [go_sem, simprocAttr]; rfl)))
  ⟨⟨by (first | rfl | (simp only [go_sem, simprocAttr]; done) | (simp only [go_sem, simprocAttr]; rfl)), (), fun j hj => rfl⟩, hL, .inl ⟨rfl, by (first | rfl | (simp only [go_sem, simprocAttr]; done) | (simp only [go_sem, simprocAttr]; rfl))⟩⟩ ?_ ?_
 ·rintro k f H hk h10 h9 ⟨⟨h0, hlo⟩, hL, hG⟩
  have hw : IntKind.u8.wrap ((k + 1 : Nat) : Int) = ((k + 1 : Nat) : Int) := IntWalk.u8_in _ (by omega)
  have cl := fun H h => cfails_look t hT hR k (by omega) eb em ver m hS H h
  have hln := @failsL_len t k
  rw [failsL_succ, List.map_append, List.map_cons, List.map_nil]
  generalize failsL t k = C at *
  rcases hG with ⟨hC, h5⟩ | ⟨hne, ea, h5, k20⟩
  ·refine AW_lose 2620 fun H3 g20 hs3 => ?_
   have hL3 : TriL t eb em ver m H3 := ⟨(hs3 2204 (by decide)).trans hL.1, (hs3 2202 (by decide)).trans hL.2⟩
   clear hL
   repeat' (first | (with_reducible refine sk ?_; intro K hK) | ((first | (with_reducible first | refine rgL [] [18] (md := { base := 2600, own := [20] }) (h := ?_) | refine nx ?_) | refine pK (cl _ hL3) ?_ | refine lK (cl _ hL3) ?_); try simp (disch := omega) only [h0, h5, h9, h10, g20, hw, encI_vc,go_sem, simprocAttr]) | (with_reducible refine bk ?_) | ((with_reducible refine' cE ?hv ?_ ?_); (case hv => first | rfl | (simp only [h0, h5, h9, h10, g20, hw, encI_vc,go_sem, simprocAttr]; rfl)); all_goals (intro hc; (try simp only [go_sem, simprocAttr] at hc); try (exfalso; omega))) | with_reducible intro (ep : Nat → Nat) | with_reducible apply_assumption -exfalso -symm only [*])
   exact ⟨⟨(), fun j hj => by obtain ⟨_, hlo⟩ := hlo; rw [if_neg (by omega), hs3 j (by omega), hlo j hj]⟩, ⟨(upd_ne _ _ (by decide)).trans hL3.1, (upd_ne _ _ (by decide)).trans hL3.2⟩, by rw [hC]; exact .one (upd_same _ _ _)⟩
  ·rw [List.length_map] at h5
   have hkb : C.length ≤ 1073741823 := by omega
   repeat' (first | (with_reducible refine sk ?_; intro K hK) | ((first | (with_reducible first | refine rgL [] [18] (md := { base := 2600, own := [20] }) (h := ?_) | refine nx ?_) | refine pK (cl _ hL) ?_ | refine lK (cl _ hL) ?_); try simp (disch := omega) only [h0, h5, h9, h10, k20, hw, hkb, encI_vc,go_sem, simprocAttr]) | (with_reducible refine bk ?_) | ((with_reducible refine' cE ?hv ?_ ?_); (case hv => first | rfl | (simp only [h0, h5, h9, h10, k20, hw, hkb, encI_vc,go_sem, simprocAttr]; rfl)); all_goals (intro hc; (try simp only [go_sem, simprocAttr] at hc); try (exfalso; omega))) | with_reducible intro (ep : Nat → Nat) | with_reducible apply_assumption -exfalso -symm only [*])
   exact ⟨⟨(), fun j hj => by obtain ⟨_, hlo⟩ := hlo; rw [if_neg (by omega), hlo j hj]⟩, ⟨(upd_ne _ _ (by decide)).trans hL.1, (upd_ne _ _ (by decide)).trans hL.2⟩, by rw [← List.length_map (f := fun f : FailT => [encI f])]; exact .snoc (upd_same _ _ _)⟩
 ·rintro f H h10 h9 ⟨⟨h0, hlo⟩, hL, hG⟩
  repeat' (first | ((fail_if_success (with_reducible refine AW_at (id := 7) ?_)); with_reducible refine sk ?_; intro K hK) | ((with_reducible first | refine rgL [] [18] (md := { base := 2600, own := [20] }) (h := ?_) | refine nx ?_); try simp (disch := omega) only [go_sem, simprocAttr]) | (with_reducible refine bk ?_) | ((with_reducible refine' cE ?hv ?_ ?_); (case hv => first | rfl | (simp only [go_sem, simprocAttr]; rfl)); all_goals (intro hc; (try simp only [go_sem, simprocAttr] at hc); try (exfalso; omega))) | with_reducible intro (ep : Nat → Nat) | with_reducible apply_assumption -exfalso -symm only [*])
  have hz : ∀ H : Hp, (((failsL t (2 * l)).map fun f => [encI f]).map fun es => es.map (fzd H 5)) = (failsL t (2 * l)).map fun f => [encI f] := fun H => map_id2 (fun f => by simp only [List.map_cons, List.map_nil, encI_fzd]) _
  refine AW_lstC (t := 5) (k := 2620) (L := (failsL t (2 * l)).map fun f => [encI f]) hz hG fun f2 H2 h5 hf2 hH2 => ?_
  have hlo2 : ∃ _ : Unit, ∀ j, j < 2600 → H2 j = H0 j := by obtain ⟨_, h⟩ := hlo; exact ⟨(), fun j hj => (hH2 j (by omega)).trans (h j hj)⟩
  clear hf2 hH2 hG hz h10 h9 h0 hlo
  have cf := cfirst_ok (failsL t (2 * l)) (by rw [failsL_len]; omega) (fun f hf => by
   unfold failsL at hf
   obtain ⟨c, _, rfl⟩ := List.mem_map.1 hf
   exact failC_held t c)
  repeat' (first | (with_reducible refine sk ?_; intro K hK) | ((first | (with_reducible first | refine rgL [] [18] (md := { base := 2600, own := [20] }) (h := ?_) | refine nx ?_) | refine pK (cf) ?_ | refine lK (cf) ?_); try simp (disch := omega) only [h5,go_sem, simprocAttr]) | (with_reducible refine bk ?_) | ((with_reducible refine' cE ?hv ?_ ?_); (case hv => first | rfl | (simp only [h5,go_sem, simprocAttr]; rfl)); all_goals (intro hc; (try simp only [go_sem, simprocAttr] at hc); try (exfalso; omega))) | with_reducible intro (ep : Nat → Nat) | with_reducible apply_assumption -exfalso -symm only [*])
  refine FnQ_end (Or.inl rfl) (.refl _) (by simp only [Tryd.f29, go_sem, simprocAttr]; rfl) ?_
  obtain ⟨_, hlo3⟩ := hlo2
  exact ⟨encI_fzd, hlo3⟩
end Cp
namespace Cp
open Go Go.Proofs
set_option maxRecDepth 10000
set_option maxHeartbeats 1000000
theorem btold_ok (lo hi : Int) (b : Bool) : PureC Tryd.prog 133 [.agg [.int .i64 lo, .int .i64 hi, .bool b]] (encFail ⟨if b = true then 0 else 1, ⟨lo, hi⟩⟩) := by
 refine PureC_of (fn := Tryd.f133) tabOK (by kernel_rfl) rfl (by kernel_rfl) (by simp [Tryd.f133]) (by simp [noids, noid, noidss, go_sem, encFail, cFail]) (by first | rfl | simp [noids, noid, noidss, go_sem, encFail, cFail]) ?_
 intro X hX0 hXs
 cases b with
 | true =>
  repeat' (first | (with_reducible refine sk ?_; intro K hK) | ((with_reducible first | refine rg (h := ?_) | refine rgS [2] (h := ?_) | refine nx ?_); try simp (disch := omega) only [encFail, cFail,go_sem, simprocAttr]) | (with_reducible refine bk ?_) | ((with_reducible refine' cE ?hv ?_ ?_); (case hv => first | rfl | (simp only [encFail, cFail,go_sem, simprocAttr]; rfl)); all_goals (intro hc; (try simp only [go_sem, simprocAttr] at hc); try (exfalso; omega))) | ((with_reducible refine fe ?_); refine ⟨_, (by simp only [Tryd.f133, encFail, cFail,go_sem, simprocAttr]; rfl), ?_⟩; first | rfl | (try simp only [encFail, cFail,go_sem, simprocAttr, seval])) | with_reducible intro (ep : Nat → Nat) | with_reducible apply_assumption -exfalso -symm only [*])
 | false =>
  repeat' (first | (with_reducible refine sk ?_; intro K hK) | ((with_reducible first | refine rg (h := ?_) | refine rgS [2] (h := ?_) | refine nx ?_); try simp (disch := omega) only [encFail, cFail,go_sem, simprocAttr]) | (with_reducible refine bk ?_) | ((with_reducible refine' cE ?hv ?_ ?_); (case hv => first | rfl | (simp only [encFail, cFail,go_sem, simprocAttr]; rfl)); all_goals (intro hc; (try simp only [go_sem, simprocAttr] at hc); try (exfalso; omega))) | ((with_reducible refine fe ?_); refine ⟨_, (by simp only [Tryd.f133, encFail, cFail,go_sem, simprocAttr]; rfl), ?_⟩; first | rfl | (try simp only [encFail, cFail,go_sem, simprocAttr, seval])) | with_reducible intro (ep : Nat → Nat) | with_reducible apply_assumption -exfalso -symm only [*])
theorem ktold_ok : PureC Tryd.prog 134 [.agg []] (encFail ⟨2, ⟨0, 0⟩⟩) := by
 refine PureC_of (fn := Tryd.f134) tabOK (by kernel_rfl) rfl (by kernel_rfl) (by simp [Tryd.f134]) (by simp [noids, noid, noidss, go_sem, encFail, cFail]) (by first | rfl | simp [noids, noid, noidss, go_sem, encFail, cFail]) ?_
 intro X hX0 hXs
 repeat' (first | (with_reducible refine sk ?_; intro K hK) | ((with_reducible first | refine rg (h := ?_) | refine rgS [2] (h := ?_) | refine nx ?_); try simp (disch := omega) only [encFail, cFail,go_sem, simprocAttr]) | (with_reducible refine bk ?_) | ((with_reducible refine' cE ?hv ?_ ?_); (case hv => first | rfl | (simp only [encFail, cFail,go_sem, simprocAttr]; rfl)); all_goals (intro hc; (try simp only [go_sem, simprocAttr] at hc); try (exfalso; omega))) | ((with_reducible refine fe ?_); refine ⟨_, (by simp only [Tryd.f134, encFail, cFail,go_sem, simprocAttr]; rfl), ?_⟩; first | rfl | (try simp only [encFail, cFail,go_sem, simprocAttr, seval])) | with_reducible intro (ep : Nat → Nat) | with_reducible apply_assumption -exfalso -symm only [*])
theorem meth_b : Meth Tryd.prog 99 "cottonpad/class.told" 133 := by
 intro v w
 kernel_rfl
theorem meth_k : Meth Tryd.prog 113 "cottonpad/class.told" 134 := by
 intro v w
 kernel_rfl
theorem check0' {t : TestT} (h : checkT t = 0) : testOK t = true ∧ t.run.rows.length ≤ 60 := by
 unfold checkT at h
 split at h
 ·rename_i hE
  split at h
  ·rename_i hT
   refine ⟨hT, ?_⟩
   have h1 : runOK t.run = true := by unfold checkE at hE; split at hE <;> simp_all
   exact (run_facts h1).rows.2.1
  ·omega
 ·rename_i hE; exact absurd h hE
theorem cCheck_ok (t : TestT) (hb : TestB t) : PureC Tryd.prog 11 [encTest t] (.int .i64 (checkT t)) := by
 have ho := copen_ok t hb
 simp only [encTest, cTest] at ho
 obtain ⟨e, he⟩ : ∃ e, checkT t = e := ⟨_, rfl⟩
 rw [he]
 refine PureC_of (fn := Tryd.f11) tabOK (by kernel_rfl) rfl (by kernel_rfl) (by simp [Tryd.f11]) (by simp [noids, noid, noidss, go_sem, encTest, cTest]) (by first | rfl | simp [noids, noid, noidss, go_sem, encTest, cTest]) ?_
 intro X hX0 hXs
 repeat' (first | (with_reducible refine sk ?_; intro K hK) | ((with_reducible first | refine rg (md := { base := 0, own := [], imp := [7] }) (h := ?_) | refine nx ?_); try simp (disch := omega) only [encTest, cTest,go_sem, simprocAttr]) | (with_reducible refine bk ?_) | ((with_reducible refine' cE ?hv ?_ ?_); (case hv => first | rfl | (simp only [encTest, cTest,go_sem, simprocAttr]; rfl)); all_goals (intro hc; (try simp only [go_sem, simprocAttr] at hc); try (exfalso; omega))) | with_reducible intro (ep : Nat → Nat) | with_reducible apply_assumption -exfalso -symm only [*])
 refine iK (ho _) ?_
 rintro v H2 ⟨hlow, hv⟩
 rw [he] at hv
 by_cases h : e = 0
 ·rw [if_pos h] at hv
  obtain ⟨eb, em, ver, m, rfl, -⟩ := hv
  rw [← h] at *
  simp only [go_sem, simprocAttr]
  repeat' (first | (with_reducible refine sk ?_; intro K hK) | ((with_reducible first | refine rg (md := { base := 0, own := [], imp := [7] }) (h := ?_) | refine nx ?_); try simp (disch := omega) only [go_sem, simprocAttr]) | (with_reducible refine bk ?_) | ((with_reducible refine' cE ?hv ?_ ?_); (case hv => first | rfl | (simp only [go_sem, simprocAttr]; rfl)); all_goals (intro hc; (try simp only [go_sem, simprocAttr] at hc); try (exfalso; omega))) | ((with_reducible refine fe ?_); refine ⟨_, (by simp only [Tryd.f11, go_sem, simprocAttr]; rfl), ?_⟩; first | rfl | (try simp only [go_sem, simprocAttr, seval])) | with_reducible intro (ep : Nat → Nat) | with_reducible apply_assumption -exfalso -symm only [*])
 ·rw [if_neg h] at hv
  subst hv
  simp only [go_sem, simprocAttr]
  repeat' (first | (with_reducible refine sk ?_; intro K hK) | ((with_reducible first | refine rg (md := { base := 0, own := [], imp := [7] }) (h := ?_) | refine nx ?_); try simp (disch := omega) only [go_sem, simprocAttr]) | (with_reducible refine bk ?_) | ((with_reducible refine' cE ?hv ?_ ?_); (case hv => first | rfl | (simp only [go_sem, simprocAttr]; rfl)); all_goals (intro hc; (try simp only [go_sem, simprocAttr] at hc); try (exfalso; omega))) | ((with_reducible refine fe ?_); refine ⟨_, (by simp only [Tryd.f11, go_sem, simprocAttr]; rfl), ?_⟩; first | rfl | (try simp only [go_sem, simprocAttr, seval])) | with_reducible intro (ep : Nat → Nat) | with_reducible apply_assumption -exfalso -symm only [*])
def failsV (t : TestT) (c : Int) : Val := if checkT t = 0 then (if 1 ≤ c ∧ c ≤ 6 then .tup [encFail (failC t (c - 1).toNat), .int .i64 0] else .tup [encFail ⟨0, ⟨0, 0⟩⟩, .int .i64 2]) else .tup [encFail ⟨0, ⟨0, 0⟩⟩, .int .i64 (checkT t)]
theorem cFails_ok (t : TestT) (hb : TestB t) (c : Int) (hc : 0 ≤ c ∧ c ≤ 255) : PureC Tryd.prog 7 [encTest t, .int .u8 c] (failsV t c) := by
 have hnv : noid (failsV t c) = true := by unfold failsV; (repeat' split) <;> rfl
 have ho := copen_ok t hb
 simp only [encTest, cTest] at ho
 refine PureC_of (fn := Tryd.f7) tabOK (by kernel_rfl) rfl (by kernel_rfl) (by simp [Tryd.f7]) (by simp [noids, noid, noidss, go_sem, encTest, cTest, hnv]) (by first | rfl | simp [noids, noid, noidss, go_sem, encTest, cTest, hnv]) ?_
 intro X hX0 hXs
 unfold failsV at hnv ⊢
 by_cases h : checkT t = 0
 ·rw [if_pos h] at hnv ⊢
  obtain ⟨hT, hR⟩ := check0' h
  by_cases hcr : 1 ≤ c ∧ c ≤ 6
  ·rw [if_pos hcr] at hnv ⊢
   obtain ⟨k, rfl⟩ : ∃ k : Nat, c = ((k + 1 : Nat) : Int) := ⟨(c - 1).toNat, by omega⟩
   have hk : (((k + 1 : Nat) : Int) - 1).toNat = k := by omega
   rw [hk] at hnv ⊢
   by_cases h2 : (failC t k).held = 2
   ·have hf : failC t k = ⟨2, ⟨0, 0⟩⟩ := by
     unfold failC at h2 ⊢
     split at h2
     ·rename_i hx; rw [if_pos hx]
     ·exfalso; simp only at h2; split at h2 <;> omega
    have he : encI (failC t k) = .iface 113 (.agg []) := if_pos h2
    rw [hf] at hnv ⊢
    repeat' (first | (with_reducible refine sk ?_; intro K hK) | ((with_reducible first | refine AW_regG (id := 6) tabOK { base := 0, own := [4], imp := [10] } [] [25] (by rw [hXs]; decide +kernel) ?_ | refine rgL [] [25] (md := { base := 0, own := [4], imp := [10] }) (h := ?_) | refine rgL [4] [25] (md := { base := 0, own := [4], imp := [10] }) (h := ?_) | refine nx ?_); try simp (disch := omega) only [encTest, cTest,go_sem, simprocAttr]) | (with_reducible refine bk ?_) | ((with_reducible refine' cE ?hv ?_ ?_); (case hv => first | rfl | (simp only [encTest, cTest,go_sem, simprocAttr]; rfl)); all_goals (intro hc; (try simp only [go_sem, simprocAttr] at hc); try (exfalso; omega))) | with_reducible intro (ep : Nat → Nat) | with_reducible apply_assumption -exfalso -symm only [*])
    refine iK (ho _) ?_
    rintro v H2 ⟨hlow, hv⟩
    rw [if_pos h] at hv
    obtain ⟨eb, em, ver, m, rfl, h4, h2', hS⟩ := hv
    have H24 := hlow 4 (by decide)
    have cl := cfails_look t hT hR k (by omega) eb em ver m hS
    rw [he] at cl
    have hH : ∀ q, TriL t eb em ver m (upd H2 4 q) := fun q => ⟨(upd_ne _ _ (by decide)).trans h4, (upd_ne _ _ (by decide)).trans h2'⟩
    simp only [go_sem, simprocAttr] at H24 ⊢
    repeat' (first | (with_reducible refine sk ?_; intro K hK) | ((first | (with_reducible first | refine AW_regG (id := 6) tabOK { base := 0, own := [4], imp := [10] } [] [25] (by rw [hXs]; decide +kernel) ?_ | refine rgL [] [25] (md := { base := 0, own := [4], imp := [10] }) (h := ?_) | refine rgL [4] [25] (md := { base := 0, own := [4], imp := [10] }) (h := ?_) | refine nx ?_) | refine pK (cl _ ⟨h4, h2'⟩) ?_ | refine pK (cin_1 _ _ _) ?_ | refine lK (cl _ ⟨h4, h2'⟩) ?_ | refine lK (cin_1 _ _ _) ?_); try simp (disch := omega) only [H24, h4, h2',go_sem, simprocAttr]) | (with_reducible refine bk ?_) | ((with_reducible refine' cE ?hv ?_ ?_); (case hv => first | rfl | (simp only [H24, h4, h2',go_sem, simprocAttr]; rfl)); all_goals (intro hc; (try simp only [go_sem, simprocAttr] at hc); try (exfalso; omega))) | (first | refine iK (cl _ ⟨h4, h2'⟩) ?_ | refine iK (cin_1 _ _ _) ?_) | with_reducible intro (ep : Nat → Nat) | with_reducible apply_assumption -exfalso -symm only [*])
    refine ⟨_, meth_k, pK ktold_ok ?_⟩
    simp only [go_sem, simprocAttr, encFail, cFail, H24]
    repeat' (first | (with_reducible refine sk ?_; intro K hK) | ((with_reducible first | refine AW_regG (id := 6) tabOK { base := 0, own := [4], imp := [10] } [] [25] (by rw [hXs]; decide +kernel) ?_ | refine rgL [] [25] (md := { base := 0, own := [4], imp := [10] }) (h := ?_) | refine rgL [4] [25] (md := { base := 0, own := [4], imp := [10] }) (h := ?_) | refine nx ?_); try simp (disch := omega) only [encFail, cFail, H24,go_sem, simprocAttr]) | (with_reducible refine bk ?_) | ((with_reducible refine' cE ?hv ?_ ?_); (case hv => first | rfl | (simp only [encFail, cFail, H24,go_sem, simprocAttr]; rfl)); all_goals (intro hc; (try simp only [go_sem, simprocAttr] at hc); try (exfalso; omega))) | ((with_reducible refine fe ?_); refine ⟨_, (by simp only [Tryd.f7, encFail, cFail, H24,go_sem, simprocAttr]; rfl), ?_⟩; first | rfl | (try simp only [encFail, cFail, H24,go_sem, simprocAttr, seval])) | with_reducible intro (ep : Nat → Nat) | with_reducible apply_assumption -exfalso -symm only [*])
   ·have he : encI (failC t k) = .iface 99 (.agg [.int .i64 (failC t k).at1.lo, .int .i64 (failC t k).at1.hi, .bool (decide ((failC t k).held = 0))]) := if_neg h2
    have hf : failC t k = ⟨if decide ((failC t k).held = 0) = true then 0 else 1, ⟨(failC t k).at1.lo, (failC t k).at1.hi⟩⟩ := by
     have hh := failC_held t k
     generalize failC t k = F at hh h2
     obtain ⟨a, b, c⟩ := F
     simp only at hh h2 ⊢
     rcases hh with rfl | rfl | rfl
     ·simp
     ·simp
     ·exact absurd rfl h2
    rw [hf] at hnv ⊢
    generalize (failC t k).at1.lo = lo at *
    generalize (failC t k).at1.hi = hi at *
    generalize decide ((failC t k).held = 0) = sure at *
    repeat' (first | (with_reducible refine sk ?_; intro K hK) | ((with_reducible first | refine AW_regG (id := 6) tabOK { base := 0, own := [4], imp := [10] } [] [25] (by rw [hXs]; decide +kernel) ?_ | refine rgL [] [25] (md := { base := 0, own := [4], imp := [10] }) (h := ?_) | refine rgL [4] [25] (md := { base := 0, own := [4], imp := [10] }) (h := ?_) | refine nx ?_); try simp (disch := omega) only [encTest, cTest,go_sem, simprocAttr]) | (with_reducible refine bk ?_) | ((with_reducible refine' cE ?hv ?_ ?_); (case hv => first | rfl | (simp only [encTest, cTest,go_sem, simprocAttr]; rfl)); all_goals (intro hc; (try simp only [go_sem, simprocAttr] at hc); try (exfalso; omega))) | with_reducible intro (ep : Nat → Nat) | with_reducible apply_assumption -exfalso -symm only [*])
    refine iK (ho _) ?_
    rintro v H2 ⟨hlow, hv⟩
    rw [if_pos h] at hv
    obtain ⟨eb, em, ver, m, rfl, h4, h2', hS⟩ := hv
    have H24 := hlow 4 (by decide)
    have cl := cfails_look t hT hR k (by omega) eb em ver m hS
    rw [he] at cl
    simp only [go_sem, simprocAttr] at H24 ⊢
    repeat' (first | (with_reducible refine sk ?_; intro K hK) | ((first | (with_reducible first | refine AW_regG (id := 6) tabOK { base := 0, own := [4], imp := [10] } [] [25] (by rw [hXs]; decide +kernel) ?_ | refine rgL [] [25] (md := { base := 0, own := [4], imp := [10] }) (h := ?_) | refine rgL [4] [25] (md := { base := 0, own := [4], imp := [10] }) (h := ?_) | refine nx ?_) | refine pK (cl _ ⟨h4, h2'⟩) ?_ | refine pK (cin_1 _ _ _) ?_ | refine lK (cl _ ⟨h4, h2'⟩) ?_ | refine lK (cin_1 _ _ _) ?_); try simp (disch := omega) only [H24, h4, h2',go_sem, simprocAttr]) | (with_reducible refine bk ?_) | ((with_reducible refine' cE ?hv ?_ ?_); (case hv => first | rfl | (simp only [H24, h4, h2',go_sem, simprocAttr]; rfl)); all_goals (intro hc; (try simp only [go_sem, simprocAttr] at hc); try (exfalso; omega))) | (first | refine iK (cl _ ⟨h4, h2'⟩) ?_ | refine iK (cin_1 _ _ _) ?_) | with_reducible intro (ep : Nat → Nat) | with_reducible apply_assumption -exfalso -symm only [*])
    refine ⟨_, meth_b, pK (btold_ok lo hi sure) ?_⟩
    simp only [go_sem, simprocAttr, encFail, cFail, H24]
    repeat' (first | (with_reducible refine sk ?_; intro K hK) | ((with_reducible first | refine AW_regG (id := 6) tabOK { base := 0, own := [4], imp := [10] } [] [25] (by rw [hXs]; decide +kernel) ?_ | refine rgL [] [25] (md := { base := 0, own := [4], imp := [10] }) (h := ?_) | refine rgL [4] [25] (md := { base := 0, own := [4], imp := [10] }) (h := ?_) | refine nx ?_); try simp (disch := omega) only [encFail, cFail, H24,go_sem, simprocAttr]) | (with_reducible refine bk ?_) | ((with_reducible refine' cE ?hv ?_ ?_); (case hv => first | rfl | (simp only [encFail, cFail, H24,go_sem, simprocAttr]; rfl)); all_goals (intro hc; (try simp only [go_sem, simprocAttr] at hc); try (exfalso; omega))) | ((with_reducible refine fe ?_); refine ⟨_, (by simp only [Tryd.f7, encFail, cFail, H24,go_sem, simprocAttr]; rfl), ?_⟩; first | rfl | (try simp only [encFail, cFail, H24,go_sem, simprocAttr, seval])) | with_reducible intro (ep : Nat → Nat) | with_reducible apply_assumption -exfalso -symm only [*])
  ·rw [if_neg hcr] at hnv ⊢
   repeat' (first | (with_reducible refine sk ?_; intro K hK) | ((with_reducible first | refine AW_regG (id := 6) tabOK { base := 0, own := [4], imp := [10] } [] [25] (by rw [hXs]; decide +kernel) ?_ | refine rgL [] [25] (md := { base := 0, own := [4], imp := [10] }) (h := ?_) | refine rgL [4] [25] (md := { base := 0, own := [4], imp := [10] }) (h := ?_) | refine nx ?_); try simp (disch := omega) only [encTest, cTest,go_sem, simprocAttr]) | (with_reducible refine bk ?_) | ((with_reducible refine' cE ?hv ?_ ?_); (case hv => first | rfl | (simp only [encTest, cTest,go_sem, simprocAttr]; rfl)); all_goals (intro hc; (try simp only [go_sem, simprocAttr] at hc); try (exfalso; omega))) | with_reducible intro (ep : Nat → Nat) | with_reducible apply_assumption -exfalso -symm only [*])
   refine iK (ho _) ?_
   rintro v H2 ⟨hlow, hv⟩
   rw [if_pos h] at hv
   obtain ⟨eb, em, ver, m, rfl, h4, h2', hS⟩ := hv
   have H24 := hlow 4 (by decide)
   simp only [go_sem, simprocAttr] at H24 ⊢
   repeat' (first | (with_reducible refine sk ?_; intro K hK) | ((first | (with_reducible first | refine AW_regG (id := 6) tabOK { base := 0, own := [4], imp := [10] } [] [25] (by rw [hXs]; decide +kernel) ?_ | refine rgL [] [25] (md := { base := 0, own := [4], imp := [10] }) (h := ?_) | refine rgL [4] [25] (md := { base := 0, own := [4], imp := [10] }) (h := ?_) | refine nx ?_) | refine pK (cin_1 _ _ _) ?_ | refine lK (cin_1 _ _ _) ?_); try simp (disch := omega) only [h, H24, encFail, cFail, hcr,go_sem, simprocAttr]) | (with_reducible refine bk ?_) | ((with_reducible refine' cE ?hv ?_ ?_); (case hv => first | rfl | (simp only [h, H24, encFail, cFail, hcr,go_sem, simprocAttr]; rfl)); all_goals (intro hc; (try simp only [go_sem, simprocAttr] at hc); try (exfalso; omega))) | (first | refine iK (cin_1 _ _ _) ?_) | ((with_reducible refine fe ?_); refine ⟨_, (by simp only [Tryd.f7, h, H24, encFail, cFail, hcr,go_sem, simprocAttr]; rfl), ?_⟩; first | rfl | (try simp only [h, H24, encFail, cFail, hcr,go_sem, simprocAttr, seval])) | with_reducible intro (ep : Nat → Nat) | with_reducible apply_assumption -exfalso -symm only [*])
 ·rw [if_neg h] at hnv ⊢
  repeat' (first | (with_reducible refine sk ?_; intro K hK) | ((with_reducible first | refine AW_regG (id := 6) tabOK { base := 0, own := [4], imp := [10] } [] [25] (by rw [hXs]; decide +kernel) ?_ | refine rgL [] [25] (md := { base := 0, own := [4], imp := [10] }) (h := ?_) | refine rgL [4] [25] (md := { base := 0, own := [4], imp := [10] }) (h := ?_) | refine nx ?_); try simp (disch := omega) only [encTest, cTest,go_sem, simprocAttr]) | (with_reducible refine bk ?_) | ((with_reducible refine' cE ?hv ?_ ?_); (case hv => first | rfl | (simp only [encTest, cTest,go_sem, simprocAttr]; rfl)); all_goals (intro hc; (try simp only [go_sem, simprocAttr] at hc); try (exfalso; omega))) | with_reducible intro (ep : Nat → Nat) | with_reducible apply_assumption -exfalso -symm only [*])
  refine iK (ho _) ?_
  rintro v H2 ⟨hlow, hv⟩
  rw [if_neg h] at hv
  subst hv
  have H24 := hlow 4 (by decide)
  simp only [go_sem, simprocAttr] at H24 ⊢
  repeat' (first | (with_reducible refine sk ?_; intro K hK) | ((with_reducible first | refine AW_regG (id := 6) tabOK { base := 0, own := [4], imp := [10] } [] [25] (by rw [hXs]; decide +kernel) ?_ | refine rgL [] [25] (md := { base := 0, own := [4], imp := [10] }) (h := ?_) | refine rgL [4] [25] (md := { base := 0, own := [4], imp := [10] }) (h := ?_) | refine nx ?_); try simp (disch := omega) only [h, H24, encFail, cFail,go_sem, simprocAttr]) | (with_reducible refine bk ?_) | ((with_reducible refine' cE ?hv ?_ ?_); (case hv => first | rfl | (simp only [h, H24, encFail, cFail,go_sem, simprocAttr]; rfl)); all_goals (intro hc; (try simp only [go_sem, simprocAttr] at hc); try (exfalso; omega))) | ((with_reducible refine fe ?_); refine ⟨_, (by simp only [Tryd.f7, h, H24, encFail, cFail,go_sem, simprocAttr]; rfl), ?_⟩; first | rfl | (try simp only [h, H24, encFail, cFail,go_sem, simprocAttr, seval])) | with_reducible intro (ep : Nat → Nat) | with_reducible apply_assumption -exfalso -symm only [*])
end Cp
namespace Cp
open Go Go.Proofs
set_option maxRecDepth 10000
set_option maxHeartbeats 1000000
def lettR (t : TestT) (l : Int) (H0 : Hp) (v : Val) (H' : Hp) : Prop :=
 (∀ j, j < 2100 → H' j = H0 j) ∧ if checkT t = 0 then (if 1 ≤ l ∧ l ≤ 3 then ∃ eb em ver m, v = .tup [.ptr 2204 eb 24 0 0, .int .i64 0] ∧ TriL t eb em ver m H' ∧ SeenM t 6 m else v = .tup [.nilp, .int .i64 2]) else v = .tup [.nilp, .int .i64 (checkT t)]
theorem lettered_ok (t : TestT) (hb : TestB t) (l : Int) (hl : 0 ≤ l ∧ l ≤ 255) (H0 : Hp) : ACall Tryd.prog 28 [encTest t, .int .u8 l] H0 (lettR t l H0) := by
 have ho := copen_ok t hb
 simp only [encTest, cTest] at ho
 unfold lettR
 refine ACall_of (fn := Tryd.f28) tabOK (by kernel_rfl) rfl (by kernel_rfl) (by simp [Tryd.f28]) ?_
 intro X hX0 hXs
 obtain ⟨e, he⟩ : ∃ e, checkT t = e := ⟨_, rfl⟩
 rw [he]
 repeat' (first | (with_reducible refine sk ?_; intro K hK) | ((with_reducible first | refine rg (md := { base := 2700, own := [], imp := [10] }) (h := ?_) | refine nx ?_); try simp (disch := omega) only [encTest, cTest,go_sem, simprocAttr]) | (with_reducible refine bk ?_) | ((with_reducible refine' cE ?hv ?_ ?_); (case hv => first | rfl | (simp only [encTest, cTest,go_sem, simprocAttr]; rfl)); all_goals (intro hc; (try simp only [go_sem, simprocAttr] at hc); try (exfalso; omega))) | with_reducible intro (ep : Nat → Nat) | with_reducible apply_assumption -exfalso -symm only [*])
 refine iK (ho _) ?_
 rintro v H2 ⟨hlow, hv⟩
 rw [he] at hv
 by_cases h : e = 0
 ·rw [if_pos h] at hv
  obtain ⟨eb, em, ver, m, rfl, h4, h2, hS⟩ := hv
  subst h
  simp only [go_sem, simprocAttr]
  by_cases hc' : 1 ≤ l ∧ l ≤ 3
  ·repeat' (first | (with_reducible refine sk ?_; intro K hK) | ((first | (with_reducible first | refine rg (md := { base := 2700, own := [], imp := [10] }) (h := ?_) | refine nx ?_) | refine pK (cin_1 _ _ _) ?_); try simp (disch := omega) only [hc', h4,go_sem, simprocAttr]) | (with_reducible refine bk ?_) | ((with_reducible refine' cE ?hv ?_ ?_); (case hv => first | rfl | (simp only [hc', h4,go_sem, simprocAttr]; rfl)); all_goals (intro hc; (try simp only [go_sem, simprocAttr] at hc); try (exfalso; omega))) | (first | refine iK (cin_1 _ _ _) ?_) | with_reducible intro (ep : Nat → Nat) | with_reducible apply_assumption -exfalso -symm only [*])
   refine FnQ_end (Or.inl rfl) (.refl _) (by simp only [Tryd.f28, go_sem, simprocAttr]; rfl) ?_
   refine ⟨hlow, ?_⟩
   exact ⟨eb, em, ver, m, by simp only [go_sem, simprocAttr, h4]; rfl, ⟨h4, h2⟩, hS⟩
  ·repeat' (first | (with_reducible refine sk ?_; intro K hK) | ((first | (with_reducible first | refine rg (md := { base := 2700, own := [], imp := [10] }) (h := ?_) | refine nx ?_) | refine pK (cin_1 _ _ _) ?_); try simp (disch := omega) only [hc',go_sem, simprocAttr]) | (with_reducible refine bk ?_) | ((with_reducible refine' cE ?hv ?_ ?_); (case hv => first | rfl | (simp only [hc',go_sem, simprocAttr]; rfl)); all_goals (intro hc; (try simp only [go_sem, simprocAttr] at hc); try (exfalso; omega))) | (first | refine iK (cin_1 _ _ _) ?_) | with_reducible intro (ep : Nat → Nat) | with_reducible apply_assumption -exfalso -symm only [*])
   refine FnQ_end (Or.inl rfl) (.refl _) (by simp only [Tryd.f28, go_sem, simprocAttr]; rfl) ?_
   refine ⟨hlow, ?_⟩
   simp only [go_sem, simprocAttr]
 ·rw [if_neg h] at hv
  subst hv
  simp only [go_sem, simprocAttr]
  repeat' (first | (with_reducible refine sk ?_; intro K hK) | ((with_reducible first | refine rg (md := { base := 2700, own := [], imp := [10] }) (h := ?_) | refine nx ?_); try simp (disch := omega) only [h,go_sem, simprocAttr]) | (with_reducible refine bk ?_) | ((with_reducible refine' cE ?hv ?_ ?_); (case hv => first | rfl | (simp only [h,go_sem, simprocAttr]; rfl)); all_goals (intro hc; (try simp only [go_sem, simprocAttr] at hc); try (exfalso; omega))) | with_reducible intro (ep : Nat → Nat) | with_reducible apply_assumption -exfalso -symm only [*])
  refine FnQ_end (Or.inl rfl) (.refl _) (by simp only [Tryd.f28, go_sem, simprocAttr]; rfl) ?_
  refine ⟨hlow, ?_⟩
  simp only [go_sem, simprocAttr]
def firstV (t : TestT) (l : Int) : Val := if checkT t = 0 then (if 1 ≤ l ∧ l ≤ 3 then .tup [encFail (letterS t l.toNat), .int .i64 0] else .tup [encFail ⟨0, ⟨0, 0⟩⟩, .int .i64 2]) else .tup [encFail ⟨0, ⟨0, 0⟩⟩, .int .i64 (checkT t)]
theorem fstS_held (fs : List FailT) : (fstS fs).held = 0 ∨ (fstS fs).held = 1 ∨ (fstS fs = ⟨2, ⟨0, 0⟩⟩) := by
 unfold fstS
 split
 ·exact .inr (.inr rfl)
 ·cases sureF fs <;> simp
theorem cFirst_ok (t : TestT) (hb : TestB t) (l : Int) (hl : 0 ≤ l ∧ l ≤ 255) : PureC Tryd.prog 9 [encTest t, .int .u8 l] (firstV t l) := by
 have hnv : noid (firstV t l) = true := by unfold firstV; (repeat' split) <;> rfl
 have ho := lettered_ok t hb l hl
 simp only [encTest, cTest] at ho
 refine PureC_of (fn := Tryd.f9) tabOK (by kernel_rfl) rfl (by kernel_rfl) (by simp [Tryd.f9]) (by simp [noids, noid, noidss, go_sem, encTest, cTest, hnv]) (by first | rfl | simp [noids, noid, noidss, go_sem, encTest, cTest, hnv]) ?_
 intro X hX0 hXs
 unfold firstV at hnv ⊢
 by_cases h : checkT t = 0
 ·rw [if_pos h] at hnv ⊢
  obtain ⟨hT, hR⟩ := check0' h
  by_cases hcr : 1 ≤ l ∧ l ≤ 3
  ·rw [if_pos hcr] at hnv ⊢
   obtain ⟨k, rfl⟩ : ∃ k : Nat, l = (k : Int) := ⟨l.toNat, by omega⟩
   rw [Int.toNat_natCast] at hnv ⊢
   have hfh := fstS_held (failsL t (2 * k))
   have hle : letterS t k = fstS (failsL t (2 * k)) := rfl
   rw [← hle] at hfh
   clear hle
   have cl := fun eb em ver m hS H h => letter_ok t hT hR k (by omega) eb em ver m hS H h
   generalize letterS t k = F at hfh hnv cl ⊢
   repeat' (first | (with_reducible refine sk ?_; intro K hK) | ((with_reducible first | refine AW_regG (id := 4) tabOK { base := 0, own := [4], imp := [11, 20] } [] [] (by rw [hXs]; decide +kernel) ?_ | refine rg (md := { base := 0, own := [4], imp := [11, 20] }) (h := ?_) | refine rgS [4] (md := { base := 0, own := [4], imp := [11, 20] }) (h := ?_) | refine nx ?_); try simp (disch := omega) only [encTest, cTest,go_sem, simprocAttr]) | (with_reducible refine bk ?_) | ((with_reducible refine' cE ?hv ?_ ?_); (case hv => first | rfl | (simp only [encTest, cTest,go_sem, simprocAttr]; rfl)); all_goals (intro hc; (try simp only [go_sem, simprocAttr] at hc); try (exfalso; omega))) | with_reducible intro (ep : Nat → Nat) | with_reducible apply_assumption -exfalso -symm only [*])
   refine iK (ho _) ?_
   rintro v H2 ⟨hlow, hv⟩
   rw [if_pos h, if_pos hcr] at hv
   obtain ⟨eb, em, ver, m, rfl, hTL, hS⟩ := hv
   have H24 := hlow 4 (by decide)
   simp only [go_sem, simprocAttr] at H24 ⊢
   repeat' (first | (with_reducible refine sk ?_; intro K hK) | ((with_reducible first | refine AW_regG (id := 4) tabOK { base := 0, own := [4], imp := [11, 20] } [] [] (by rw [hXs]; decide +kernel) ?_ | refine rg (md := { base := 0, own := [4], imp := [11, 20] }) (h := ?_) | refine rgS [4] (md := { base := 0, own := [4], imp := [11, 20] }) (h := ?_) | refine nx ?_); try simp (disch := omega) only [H24,go_sem, simprocAttr]) | (with_reducible refine bk ?_) | ((with_reducible refine' cE ?hv ?_ ?_); (case hv => first | rfl | (simp only [H24,go_sem, simprocAttr]; rfl)); all_goals (intro hc; (try simp only [go_sem, simprocAttr] at hc); try (exfalso; omega))) | with_reducible intro (ep : Nat → Nat) | with_reducible apply_assumption -exfalso -symm only [*])
   refine iK (cl eb em ver m hS _ hTL) ?_
   rintro v H3 ⟨rfl, hlo⟩
   have H34 := (hlo 4 (by decide)).trans H24
   rcases hfh with hF | hF | hF
   ·have he : encI F = .iface 99 (.agg [.int .i64 F.at1.lo, .int .i64 F.at1.hi, .bool true]) := by rw [encI, if_neg (by omega), hF]; rfl
    have hf : F = ⟨if true = true then 0 else 1, ⟨F.at1.lo, F.at1.hi⟩⟩ := by obtain ⟨a, b⟩ := F; simp only at hF; rw [hF]; rfl
    rw [he]
    simp only [go_sem, simprocAttr]
    refine ⟨_, meth_b, pK (btold_ok F.at1.lo F.at1.hi true) ?_⟩
    rw [← hf]
    simp only [go_sem, simprocAttr, encFail, cFail, H34]
    repeat' (first | (with_reducible refine sk ?_; intro K hK) | ((with_reducible first | refine AW_regG (id := 4) tabOK { base := 0, own := [4], imp := [11, 20] } [] [] (by rw [hXs]; decide +kernel) ?_ | refine rg (md := { base := 0, own := [4], imp := [11, 20] }) (h := ?_) | refine rgS [4] (md := { base := 0, own := [4], imp := [11, 20] }) (h := ?_) | refine nx ?_); try simp (disch := omega) only [encFail, cFail, H34,go_sem, simprocAttr]) | (with_reducible refine bk ?_) | ((with_reducible refine' cE ?hv ?_ ?_); (case hv => first | rfl | (simp only [encFail, cFail, H34,go_sem, simprocAttr]; rfl)); all_goals (intro hc; (try simp only [go_sem, simprocAttr] at hc); try (exfalso; omega))) | ((with_reducible refine fe ?_); refine ⟨_, (by simp only [Tryd.f9, encFail, cFail, H34,go_sem, simprocAttr]; rfl), ?_⟩; first | rfl | (try simp only [encFail, cFail, H34,go_sem, simprocAttr, seval])) | with_reducible intro (ep : Nat → Nat) | with_reducible apply_assumption -exfalso -symm only [*])
   ·have he : encI F = .iface 99 (.agg [.int .i64 F.at1.lo, .int .i64 F.at1.hi, .bool false]) := by rw [encI, if_neg (by omega), hF]; rfl
    have hf : F = ⟨if false = true then 0 else 1, ⟨F.at1.lo, F.at1.hi⟩⟩ := by obtain ⟨a, b⟩ := F; simp only at hF; rw [hF]; rfl
    rw [he]
    simp only [go_sem, simprocAttr]
    refine ⟨_, meth_b, pK (btold_ok F.at1.lo F.at1.hi false) ?_⟩
    rw [← hf]
    simp only [go_sem, simprocAttr, encFail, cFail, H34]
    repeat' (first | (with_reducible refine sk ?_; intro K hK) | ((with_reducible first | refine AW_regG (id := 4) tabOK { base := 0, own := [4], imp := [11, 20] } [] [] (by rw [hXs]; decide +kernel) ?_ | refine rg (md := { base := 0, own := [4], imp := [11, 20] }) (h := ?_) | refine rgS [4] (md := { base := 0, own := [4], imp := [11, 20] }) (h := ?_) | refine nx ?_); try simp (disch := omega) only [encFail, cFail, H34,go_sem, simprocAttr]) | (with_reducible refine bk ?_) | ((with_reducible refine' cE ?hv ?_ ?_); (case hv => first | rfl | (simp only [encFail, cFail, H34,go_sem, simprocAttr]; rfl)); all_goals (intro hc; (try simp only [go_sem, simprocAttr] at hc); try (exfalso; omega))) | ((with_reducible refine fe ?_); refine ⟨_, (by simp only [Tryd.f9, encFail, cFail, H34,go_sem, simprocAttr]; rfl), ?_⟩; first | rfl | (try simp only [encFail, cFail, H34,go_sem, simprocAttr, seval])) | with_reducible intro (ep : Nat → Nat) | with_reducible apply_assumption -exfalso -symm only [*])
   ·subst hF
    have he : encI ⟨2, ⟨0, 0⟩⟩ = .iface 113 (.agg []) := if_pos rfl
    rw [he]
    simp only [go_sem, simprocAttr]
    refine ⟨_, meth_k, pK ktold_ok ?_⟩
    simp only [go_sem, simprocAttr, encFail, cFail, H34]
    repeat' (first | (with_reducible refine sk ?_; intro K hK) | ((with_reducible first | refine AW_regG (id := 4) tabOK { base := 0, own := [4], imp := [11, 20] } [] [] (by rw [hXs]; decide +kernel) ?_ | refine rg (md := { base := 0, own := [4], imp := [11, 20] }) (h := ?_) | refine rgS [4] (md := { base := 0, own := [4], imp := [11, 20] }) (h := ?_) | refine nx ?_); try simp (disch := omega) only [encFail, cFail, H34,go_sem, simprocAttr]) | (with_reducible refine bk ?_) | ((with_reducible refine' cE ?hv ?_ ?_); (case hv => first | rfl | (simp only [encFail, cFail, H34,go_sem, simprocAttr]; rfl)); all_goals (intro hc; (try simp only [go_sem, simprocAttr] at hc); try (exfalso; omega))) | ((with_reducible refine fe ?_); refine ⟨_, (by simp only [Tryd.f9, encFail, cFail, H34,go_sem, simprocAttr]; rfl), ?_⟩; first | rfl | (try simp only [encFail, cFail, H34,go_sem, simprocAttr, seval])) | with_reducible intro (ep : Nat → Nat) | with_reducible apply_assumption -exfalso -symm only [*])
  ·rw [if_neg hcr] at hnv ⊢
   repeat' (first | (with_reducible refine sk ?_; intro K hK) | ((with_reducible first | refine AW_regG (id := 4) tabOK { base := 0, own := [4], imp := [11, 20] } [] [] (by rw [hXs]; decide +kernel) ?_ | refine rg (md := { base := 0, own := [4], imp := [11, 20] }) (h := ?_) | refine rgS [4] (md := { base := 0, own := [4], imp := [11, 20] }) (h := ?_) | refine nx ?_); try simp (disch := omega) only [encTest, cTest,go_sem, simprocAttr]) | (with_reducible refine bk ?_) | ((with_reducible refine' cE ?hv ?_ ?_); (case hv => first | rfl | (simp only [encTest, cTest,go_sem, simprocAttr]; rfl)); all_goals (intro hc; (try simp only [go_sem, simprocAttr] at hc); try (exfalso; omega))) | with_reducible intro (ep : Nat → Nat) | with_reducible apply_assumption -exfalso -symm only [*])
   refine iK (ho _) ?_
   rintro v H2 ⟨hlow, hv⟩
   rw [if_pos h, if_neg hcr] at hv
   subst hv
   have H24 := hlow 4 (by decide)
   simp only [go_sem, simprocAttr] at H24 ⊢
   repeat' (first | (with_reducible refine sk ?_; intro K hK) | ((with_reducible first | refine AW_regG (id := 4) tabOK { base := 0, own := [4], imp := [11, 20] } [] [] (by rw [hXs]; decide +kernel) ?_ | refine rg (md := { base := 0, own := [4], imp := [11, 20] }) (h := ?_) | refine rgS [4] (md := { base := 0, own := [4], imp := [11, 20] }) (h := ?_) | refine nx ?_); try simp (disch := omega) only [h, H24, encFail, cFail,go_sem, simprocAttr]) | (with_reducible refine bk ?_) | ((with_reducible refine' cE ?hv ?_ ?_); (case hv => first | rfl | (simp only [h, H24, encFail, cFail,go_sem, simprocAttr]; rfl)); all_goals (intro hc; (try simp only [go_sem, simprocAttr] at hc); try (exfalso; omega))) | ((with_reducible refine fe ?_); refine ⟨_, (by simp only [Tryd.f9, h, H24, encFail, cFail,go_sem, simprocAttr]; rfl), ?_⟩; first | rfl | (try simp only [h, H24, encFail, cFail,go_sem, simprocAttr, seval])) | with_reducible intro (ep : Nat → Nat) | with_reducible apply_assumption -exfalso -symm only [*])
 ·rw [if_neg h] at hnv ⊢
  repeat' (first | (with_reducible refine sk ?_; intro K hK) | ((with_reducible first | refine AW_regG (id := 4) tabOK { base := 0, own := [4], imp := [11, 20] } [] [] (by rw [hXs]; decide +kernel) ?_ | refine rg (md := { base := 0, own := [4], imp := [11, 20] }) (h := ?_) | refine rgS [4] (md := { base := 0, own := [4], imp := [11, 20] }) (h := ?_) | refine nx ?_); try simp (disch := omega) only [encTest, cTest,go_sem, simprocAttr]) | (with_reducible refine bk ?_) | ((with_reducible refine' cE ?hv ?_ ?_); (case hv => first | rfl | (simp only [encTest, cTest,go_sem, simprocAttr]; rfl)); all_goals (intro hc; (try simp only [go_sem, simprocAttr] at hc); try (exfalso; omega))) | with_reducible intro (ep : Nat → Nat) | with_reducible apply_assumption -exfalso -symm only [*])
  refine iK (ho _) ?_
  rintro v H2 ⟨hlow, hv⟩
  rw [if_neg h] at hv
  subst hv
  have H24 := hlow 4 (by decide)
  simp only [go_sem, simprocAttr] at H24 ⊢
  repeat' (first | (with_reducible refine sk ?_; intro K hK) | ((with_reducible first | refine AW_regG (id := 4) tabOK { base := 0, own := [4], imp := [11, 20] } [] [] (by rw [hXs]; decide +kernel) ?_ | refine rg (md := { base := 0, own := [4], imp := [11, 20] }) (h := ?_) | refine rgS [4] (md := { base := 0, own := [4], imp := [11, 20] }) (h := ?_) | refine nx ?_); try simp (disch := omega) only [h, H24, encFail, cFail,go_sem, simprocAttr]) | (with_reducible refine bk ?_) | ((with_reducible refine' cE ?hv ?_ ?_); (case hv => first | rfl | (simp only [h, H24, encFail, cFail,go_sem, simprocAttr]; rfl)); all_goals (intro hc; (try simp only [go_sem, simprocAttr] at hc); try (exfalso; omega))) | ((with_reducible refine fe ?_); refine ⟨_, (by simp only [Tryd.f9, h, H24, encFail, cFail,go_sem, simprocAttr]; rfl), ?_⟩; first | rfl | (try simp only [h, H24, encFail, cFail,go_sem, simprocAttr, seval])) | with_reducible intro (ep : Nat → Nat) | with_reducible apply_assumption -exfalso -symm only [*])
end Cp
namespace Cp
open Go Go.Proofs
set_option maxRecDepth 10000
set_option maxHeartbeats 1000000
theorem r2within_ok (n lo hi : Int) : PureC Tryd.prog 26 [.int .i64 n, .int .i64 lo, .int .i64 hi] (.bool (decide (lo ≤ n ∧ n ≤ hi))) := by
 refine PureC_of (fn := Tryd.f26) tabOK (by kernel_rfl) rfl (by kernel_rfl) (by simp [Tryd.f26]) (by simp [noids, noid, noidss, go_sem]) (by first | rfl | simp [noids, noid, noidss, go_sem]) ?_
 intro X hX0 hXs
 repeat' (first | (with_reducible refine sk ?_; intro K hK) | ((with_reducible first | refine rg (h := ?_) | refine nx ?_); try simp (disch := omega) only [go_sem, simprocAttr]) | (with_reducible refine bk ?_) | ((with_reducible refine' cE ?hv ?_ ?_); (case hv => first | rfl | (simp only [go_sem, simprocAttr]; rfl)); all_goals (intro hc; (try simp only [go_sem, simprocAttr] at hc); try (exfalso; omega))) | ((with_reducible first | refine grdS_split ?_ ?_ | refine lkG_split ?_ ?_) <;> intro hg <;> (try simp (disch := omega) only [hg, go_sem, simprocAttr]) <;> (try simp only [go_sem, simprocAttr] at hg) <;> (try (exfalso; omega))) | ((with_reducible refine fe ?_); refine ⟨_, (by simp only [Tryd.f26, go_sem, simprocAttr]; rfl), ?_⟩; first | rfl | (try simp only [go_sem, simprocAttr, seval])) | with_reducible intro (ep : Nat → Nat) | with_reducible apply_assumption -exfalso -symm only [*])
 all_goals (rw [Bool.eq_iff_iff]; simp; omega)
theorem r2spanned_ok (s : Span) (lo hi : Int) : PureC Tryd.prog 53 [encSpan s, .int .i64 lo, .int .i64 hi] (.bool (decide (lo ≤ s.lo ∧ s.lo ≤ s.hi ∧ s.hi ≤ hi))) := by
 refine PureC_of (fn := Tryd.f53) tabOK (by kernel_rfl) rfl (by kernel_rfl) (by simp [Tryd.f53]) (by simp [noids, noid, noidss, go_sem, encSpan]) (by first | rfl | simp [noids, noid, noidss, go_sem, encSpan]) ?_
 intro X hX0 hXs
 repeat' (first | (with_reducible refine sk ?_; intro K hK) | ((with_reducible first | refine rg (h := ?_) | refine nx ?_); try simp (disch := omega) only [encSpan,go_sem, simprocAttr]) | (with_reducible refine bk ?_) | ((with_reducible refine' cE ?hv ?_ ?_); (case hv => first | rfl | (simp only [encSpan,go_sem, simprocAttr]; rfl)); all_goals (intro hc; (try simp only [go_sem, simprocAttr] at hc); try (exfalso; omega))) | ((with_reducible first | refine grdS_split ?_ ?_ | refine lkG_split ?_ ?_) <;> intro hg <;> (try simp (disch := omega) only [hg, encSpan,go_sem, simprocAttr]) <;> (try simp only [go_sem, simprocAttr] at hg) <;> (try (exfalso; omega))) | ((with_reducible refine fe ?_); refine ⟨_, (by simp only [Tryd.f53, encSpan,go_sem, simprocAttr]; rfl), ?_⟩; first | rfl | (try simp only [encSpan,go_sem, simprocAttr, seval])) | with_reducible intro (ep : Nat → Nat) | with_reducible apply_assumption -exfalso -symm only [*])
 all_goals (rw [Bool.eq_iff_iff]; simp; omega)
def NoteB (n : NoteT) : Prop := (0 ≤ n.val ∧ n.val ≤ 10000) ∧ -200 ≤ n.off.lo ∧ n.off.lo ≤ n.off.hi ∧ n.off.hi ≤ 200
theorem r2holds_ok (t : TestT) (n : NoteT) (h : NoteB n) (k : Nat) (hk : k < 6) (hn : n.kind = ((k + 1 : Nat) : Int)) : PureC Tryd.prog 54 [encTest t, encNote n] (.bool (decide (n.val - n.off.lo ≤ limC t k))) := by
 unfold NoteB at h
 have hw : IntKind.u8.wrap (k : Int) = (k : Int) := IntWalk.u8_in _ (by omega)
 have hlim := lim_at t hk
 have e : encNote n = .agg [.int .i64 n.sec, .int .u8 ((k + 1 : Nat) : Int), .int .i64 n.val, .int .i64 n.off.lo, .int .i64 n.off.hi] := by simp only [encNote, cNote, hn]
 rw [e]
 clear e
 refine PureC_of (fn := Tryd.f54) tabOK (by kernel_rfl) rfl (by kernel_rfl) (by simp [Tryd.f54]) (by simp [noids, noid, noidss, go_sem, encTest, cTest]) (by first | rfl | simp [noids, noid, noidss, go_sem, encTest, cTest]) ?_
 intro X hX0 hXs
 repeat' (first | (with_reducible refine sk ?_; intro K hK) | ((with_reducible first | refine rg (h := ?_) | refine nx ?_); try simp (disch := omega) only [encTest, cTest, encNote, cNote, hw, hlim, hk, hn,go_sem, simprocAttr]) | (with_reducible refine bk ?_) | ((with_reducible refine' cE ?hv ?_ ?_); (case hv => first | rfl | (simp only [encTest, cTest, encNote, cNote, hw, hlim, hk, hn,go_sem, simprocAttr]; rfl)); all_goals (intro hc; (try simp only [go_sem, simprocAttr] at hc); try (exfalso; omega))) | ((with_reducible refine fe ?_); refine ⟨_, (by simp only [Tryd.f54, encTest, cTest, encNote, cNote, hw, hlim, hk, hn,go_sem, simprocAttr]; rfl), ?_⟩; first | rfl | (try simp only [encTest, cTest, encNote, cNote, hw, hlim, hk, hn,go_sem, simprocAttr, seval])) | with_reducible intro (ep : Nat → Nat) | with_reducible apply_assumption -exfalso -symm only [*])
theorem r2failed_ok (t : TestT) (n : NoteT) (h : NoteB n) (k : Nat) (hk : k < 6) (hn : n.kind = ((k + 1 : Nat) : Int)) : PureC Tryd.prog 55 [encTest t, encNote n] (.bool (decide (limC t k < n.val - n.off.hi))) := by
 unfold NoteB at h
 have hw : IntKind.u8.wrap (k : Int) = (k : Int) := IntWalk.u8_in _ (by omega)
 have hlim := lim_at t hk
 have e : encNote n = .agg [.int .i64 n.sec, .int .u8 ((k + 1 : Nat) : Int), .int .i64 n.val, .int .i64 n.off.lo, .int .i64 n.off.hi] := by simp only [encNote, cNote, hn]
 rw [e]
 clear e
 refine PureC_of (fn := Tryd.f55) tabOK (by kernel_rfl) rfl (by kernel_rfl) (by simp [Tryd.f55]) (by simp [noids, noid, noidss, go_sem, encTest, cTest]) (by first | rfl | simp [noids, noid, noidss, go_sem, encTest, cTest]) ?_
 intro X hX0 hXs
 repeat' (first | (with_reducible refine sk ?_; intro K hK) | ((with_reducible first | refine rg (h := ?_) | refine nx ?_); try simp (disch := omega) only [encTest, cTest, encNote, cNote, hw, hlim, hk, hn,go_sem, simprocAttr]) | (with_reducible refine bk ?_) | ((with_reducible refine' cE ?hv ?_ ?_); (case hv => first | rfl | (simp only [encTest, cTest, encNote, cNote, hw, hlim, hk, hn,go_sem, simprocAttr]; rfl)); all_goals (intro hc; (try simp only [go_sem, simprocAttr] at hc); try (exfalso; omega))) | ((with_reducible refine fe ?_); refine ⟨_, (by simp only [Tryd.f55, encTest, cTest, encNote, cNote, hw, hlim, hk, hn,go_sem, simprocAttr]; rfl), ?_⟩; first | rfl | (try simp only [encTest, cTest, encNote, cNote, hw, hlim, hk, hn,go_sem, simprocAttr, seval])) | with_reducible intro (ep : Nat → Nat) | with_reducible apply_assumption -exfalso -symm only [*])
end Cp
namespace Cp
open Go Go.Proofs
set_option maxRecDepth 10000
set_option maxHeartbeats 1000000
def secF (t : TestT) (c : Nat) (l : List NoteT) : Int × Int × Bool := l.foldl (secStep t c) (0, t.fin, false)
theorem secF_snoc {t : TestT} {c i : Nat} {n : NoteT} (h : t.notes[i]? = some n) : secF t c (t.notes.take (i + 1)) = secStep t c (secF t c (t.notes.take i)) n := by
 rw [take_snocC h, secF, List.foldl_append]; rfl
theorem notes_sec {t : TestT} (h : notesFrom t.fin 0 t.notes = true) : ∀ n ∈ t.notes, 0 ≤ n.sec ∧ n.sec ≤ t.fin := by
 have hs : ∀ {l : List NoteT} {last : Int}, 0 ≤ last → notesFrom t.fin last l = true → ∀ n ∈ l, 0 ≤ n.sec ∧ n.sec ≤ t.fin := by
  intro l
  induction l with
  | nil => intro _ _ _ n hn; cases hn
  | cons x l ih =>
   intro last h0 h n hn
   simp only [notesFrom, noteOK, offOK, Bool.and_eq_true, decide_eq_true_eq] at h
   rcases List.mem_cons.1 hn with rfl | hn
   ·omega
   ·exact ih (by omega) h.2 n hn
 exact hs (Int.le_refl 0) h
theorem r2seconds_ok (t : TestT) (hl : t.notes.length ≤ 100000) (hN : notesFrom t.fin 0 t.notes = true) (hf : t.fin ≤ 3600) (k : Nat) (hk : k < 6) :
  PureC Tryd.prog 33 [encTest t, .int .u8 ((k + 1 : Nat) : Int)] (.tup [.int .i64 (secF t k t.notes).1, .int .i64 (secF t k t.notes).2.1, .bool (secF t k t.notes).2.2]) := by
 refine PureC_of (fn := Tryd.f33) tabOK (by kernel_rfl) rfl (by kernel_rfl) (by simp [Tryd.f33]) (by simp [noids, noid, noidss, go_sem, encTest, cTest]) (by first | rfl | simp [noids, noid, noidss, go_sem, encTest, cTest]) ?_
 intro X hX0 hXs
 repeat' (first | (with_reducible refine sk ?_; intro K hK) | ((with_reducible first | refine rg (h := ?_) | refine rgS [11] (h := ?_) | refine nx ?_); try simp (disch := omega) only [encTest, cTest,go_sem, simprocAttr]) | (with_reducible refine bk ?_) | ((with_reducible refine' cE ?hv ?_ ?_); (case hv => first | rfl | (simp only [encTest, cTest,go_sem, simprocAttr]; rfl)); all_goals (intro hc; (try simp only [go_sem, simprocAttr] at hc); try (exfalso; omega))) | with_reducible intro (ep : Nat → Nat) | with_reducible apply_assumption -exfalso -symm only [*])
 refine AW_block (AW_loop (fun m f H => ∃ i : Nat, m = t.notes.length - i ∧ i ≤ t.notes.length ∧ (f 1 = .int .u8 ((k + 1 : Nat) : Int) ∧ f 2 = .pim (cTest t) ∧ f 10 = .int .i64 (i : Int)) ∧ f 7 = .int .i64 (secF t k (t.notes.take i)).1 ∧ f 8 = .int .i64 (secF t k (t.notes.take i)).2.1 ∧ f 9 = .bool (secF t k (t.notes.take i)).2.2) t.notes.length
  ⟨0, rfl, Nat.zero_le _, by (and_intros <;> first | rfl | (simp only [cTest, go_sem, simprocAttr]; done) | (simp only [cTest, go_sem, simprocAttr]; rfl)), by (first | rfl | (simp only [secF, List.take_zero, List.foldl_nil, go_sem, simprocAttr]; done) | (simp only [secF, List.take_zero, List.foldl_nil, go_sem, simprocAttr]; rfl)), by (first | rfl | (simp only [secF, List.take_zero, List.foldl_nil, go_sem, simprocAttr]; done) | (simp only [secF, List.take_zero, List.foldl_nil, go_sem, simprocAttr]; rfl)), by (first | rfl | (simp only [secF, List.take_zero, List.foldl_nil, go_sem, simprocAttr]; done) | (simp only [secF, List.take_zero, List.foldl_nil, go_sem, simprocAttr]; rfl))⟩ ?_)
 rintro m f H ⟨i, rfl, hi, ⟨h1, h2, h10⟩, h7, h8, h9⟩
 by_cases hlt : i < t.notes.length
 ·obtain ⟨n, hn⟩ : ∃ x, t.notes[i]? = some x := ⟨_, List.getElem?_eq_getElem hlt⟩
  have hsn := secF_snoc (c := k) hn
  have hna := note_at hn
  have hnb := notes_all hN n (List.mem_of_getElem? hn)
  have hns := notes_sec hN n (List.mem_of_getElem? hn)
  generalize secF t k (t.notes.take i) = s at *
  obtain ⟨lo, hi', fl⟩ := s
  simp only at h7 h8 h9
  refine AW_keep [] ?_
  simp only [cNote] at hna
  by_cases hkd : n.kind = ((k + 1 : Nat) : Int)
  ·have c1 := r2holds_ok t n hnb.2 k hk hkd
   have c2 := r2failed_ok t n hnb.2 k hk hkd
   simp only [encTest, cTest, encNote, cNote, hkd] at c1 c2 hna
   simp only [secStep, shHold, shFail, hkd, decide_true, Bool.true_and, decide_eq_true_eq] at hsn
   repeat' (first | (with_reducible refine sk ?_; intro K hK) | ((first | (with_reducible first | refine rg (h := ?_) | refine rgS [11] (h := ?_) | refine nx ?_) | refine pK (c1) ?_ | refine pK (c2) ?_); try simp (disch := omega) only [h1, h2, h7, h8, h9, h10, hna, hlt, cTest,go_sem, simprocAttr]) | (with_reducible refine bk ?_) | ((with_reducible refine' cE ?hv ?_ ?_); (case hv => first | rfl | (simp only [h1, h2, h7, h8, h9, h10, hna, hlt, cTest,go_sem, simprocAttr]; rfl)); all_goals (intro hc; (try simp only [go_sem, simprocAttr] at hc); try (exfalso; omega))) | with_reducible intro (ep : Nat → Nat) | with_reducible apply_assumption -exfalso -symm only [*])
   all_goals
    refine ⟨t.notes.length - (i + 1), by omega, i + 1, rfl, by omega, rfl, ?_⟩
    rw [hsn]
    by_cases hA : n.val - n.off.lo ≤ limC t k <;> by_cases hC : limC t k < n.val - n.off.hi <;> first | (exfalso; omega) | simp [hA, hC]
  ·simp only [secStep, shHold, shFail, decide_eq_false hkd, Bool.false_and, Bool.or_false, Bool.false_eq_true, if_false] at hsn
   repeat' (first | (with_reducible refine sk ?_; intro K hK) | ((with_reducible first | refine rg (h := ?_) | refine rgS [11] (h := ?_) | refine nx ?_); try simp (disch := omega) only [h1, h2, h7, h8, h9, h10, hna, hlt, hkd, cTest,go_sem, simprocAttr]) | (with_reducible refine bk ?_) | ((with_reducible refine' cE ?hv ?_ ?_); (case hv => first | rfl | (simp only [h1, h2, h7, h8, h9, h10, hna, hlt, hkd, cTest,go_sem, simprocAttr]; rfl)); all_goals (intro hc; (try simp only [go_sem, simprocAttr] at hc); try (exfalso; omega))) | with_reducible intro (ep : Nat → Nat) | with_reducible apply_assumption -exfalso -symm only [*])
   exact ⟨t.notes.length - (i + 1), by omega, i + 1, rfl, by omega, by (and_intros <;> first | rfl | (simp only [h1, h2, h10, go_sem, simprocAttr]; done) | (simp only [h1, h2, h10, go_sem, simprocAttr]; rfl)), by (first | rfl | (simp only [h7, hsn, go_sem, simprocAttr]; done) | (simp only [h7, hsn, go_sem, simprocAttr]; rfl)), by (first | rfl | (simp only [h8, hsn, go_sem, simprocAttr]; done) | (simp only [h8, hsn, go_sem, simprocAttr]; rfl)), by (first | rfl | (simp only [h9, hsn, go_sem, simprocAttr]; done) | (simp only [h9, hsn, go_sem, simprocAttr]; rfl))⟩
 ·obtain rfl : i = t.notes.length := by omega
  rw [List.take_of_length_le (Nat.le_refl _)] at h7 h8 h9
  repeat' (first | (with_reducible refine sk ?_; intro K hK) | ((with_reducible first | refine rg (h := ?_) | refine rgS [11] (h := ?_) | refine nx ?_); try simp (disch := omega) only [h1, h2, h7, h8, h9, h10, cTest,go_sem, simprocAttr]) | (with_reducible refine bk ?_) | ((with_reducible refine' cE ?hv ?_ ?_); (case hv => first | rfl | (simp only [h1, h2, h7, h8, h9, h10, cTest,go_sem, simprocAttr]; rfl)); all_goals (intro hc; (try simp only [go_sem, simprocAttr] at hc); try (exfalso; omega))) | ((with_reducible refine fe ?_); refine ⟨_, (by simp only [Tryd.f33, h1, h2, h7, h8, h9, h10, cTest,go_sem, simprocAttr]; rfl), ?_⟩; first | rfl | (try simp only [h1, h2, h7, h8, h9, h10, cTest,go_sem, simprocAttr, seval])) | with_reducible intro (ep : Nat → Nat) | with_reducible apply_assumption -exfalso -symm only [*])
end Cp
namespace Cp
open Go Go.Proofs
set_option maxRecDepth 10000
set_option maxHeartbeats 1000000
theorem secF_all {t : TestT} (h : notesFrom t.fin 0 t.notes = true) (k : Nat) : secF t k t.notes = (frC t k, toC t k, (badC t k).isSome) := secs_all k h
theorem fr_bnd {t : TestT} (h : notesFrom t.fin 0 t.notes = true) (hf : 0 ≤ t.fin ∧ t.fin ≤ 3600) (k : Nat) : (0 ≤ frC t k ∧ frC t k ≤ 3601) ∧ 0 ≤ toC t k ∧ toC t k ≤ 3600 := by
 obtain ⟨g, b⟩ := good_bnd h k
 unfold frC toC
 refine ⟨?_, ?_⟩
 ·cases hg : goodC t k with
  | none => simp
  | some x => have := g x hg; simp only; omega
 ·cases hb : badC t k with
  | none => simp only; omega
  | some x => have := b x hb; simp only; omega
theorem r2fails_ok (t : TestT) (hl : t.notes.length ≤ 100000) (hN : notesFrom t.fin 0 t.notes = true) (hf : 0 ≤ t.fin ∧ t.fin ≤ 3600) (hcl : -120 ≤ t.clock.lo ∧ t.clock.lo ≤ t.clock.hi ∧ t.clock.hi ≤ 120) (k : Nat) (hk : k < 6) :
  PureC Tryd.prog 27 [encTest t, .int .u8 ((k + 1 : Nat) : Int)] (encFail (failC t k)) := by
 have hs := r2seconds_ok t hl hN hf.2 k hk
 have hfb := fr_bnd hN hf k
 rw [secF_all hN] at hs
 unfold failC
 generalize frC t k = lo at *
 generalize toC t k = hi at *
 generalize (badC t k).isSome = sure at *
 have hnv : noid (encFail (if hi < lo then (⟨2, ⟨0, 0⟩⟩ : FailT) else ⟨if sure = true then 0 else 1, ⟨lo - t.clock.hi, hi - t.clock.lo⟩⟩)) = true := by split <;> rfl
 simp only [encTest, cTest] at hs
 refine PureC_of (fn := Tryd.f27) tabOK (by kernel_rfl) rfl (by kernel_rfl) (by simp [Tryd.f27]) (by simp [noids, noid, noidss, go_sem, encTest, cTest, hnv]) (by first | rfl | simp [noids, noid, noidss, go_sem, encTest, cTest, hnv]) ?_
 intro X hX0 hXs
 by_cases hlt : hi < lo
 ·simp only [if_pos hlt] at hnv ⊢
  repeat' (first | (with_reducible refine sk ?_; intro K hK) | ((first | (with_reducible first | refine rg (id := 1) (h := ?_) | refine rgS (id := 1) [4, 8] (h := ?_) | refine rg (md := { base := 0, own := [5] }) (h := ?_) | refine rgS [4, 8] (md := { base := 0, own := [5] }) (h := ?_) | refine nx ?_) | refine pK (hs) ?_); try simp (disch := omega) only [encTest, cTest, encFail, cFail, hlt,go_sem, simprocAttr]) | (with_reducible refine bk ?_) | ((with_reducible refine' cE ?hv ?_ ?_); (case hv => first | rfl | (simp only [encTest, cTest, encFail, cFail, hlt,go_sem, simprocAttr]; rfl)); all_goals (intro hc; (try simp only [go_sem, simprocAttr] at hc); try (exfalso; omega))) | ((with_reducible refine fe ?_); refine ⟨_, (by simp only [Tryd.f27, encTest, cTest, encFail, cFail, hlt,go_sem, simprocAttr]; rfl), ?_⟩; first | rfl | (try simp only [encTest, cTest, encFail, cFail, hlt,go_sem, simprocAttr, seval])) | with_reducible intro (ep : Nat → Nat) | with_reducible apply_assumption -exfalso -symm only [*])
 ·simp only [if_neg hlt] at hnv ⊢
  cases sure with
  | true =>
   repeat' (first | (with_reducible refine sk ?_; intro K hK) | ((first | (with_reducible first | refine rg (id := 1) (h := ?_) | refine rgS (id := 1) [4, 8] (h := ?_) | refine rg (md := { base := 0, own := [5] }) (h := ?_) | refine rgS [4, 8] (md := { base := 0, own := [5] }) (h := ?_) | refine nx ?_) | refine pK (hs) ?_); try simp (disch := omega) only [encTest, cTest, encFail, cFail, hlt,go_sem, simprocAttr]) | (with_reducible refine bk ?_) | ((with_reducible refine' cE ?hv ?_ ?_); (case hv => first | rfl | (simp only [encTest, cTest, encFail, cFail, hlt,go_sem, simprocAttr]; rfl)); all_goals (intro hc; (try simp only [go_sem, simprocAttr] at hc); try (exfalso; omega))) | ((with_reducible refine fe ?_); refine ⟨_, (by simp only [Tryd.f27, encTest, cTest, encFail, cFail, hlt,go_sem, simprocAttr]; rfl), ?_⟩; first | rfl | (try simp only [encTest, cTest, encFail, cFail, hlt,go_sem, simprocAttr, seval])) | with_reducible intro (ep : Nat → Nat) | with_reducible apply_assumption -exfalso -symm only [*])
  | false =>
   repeat' (first | (with_reducible refine sk ?_; intro K hK) | ((first | (with_reducible first | refine rg (id := 1) (h := ?_) | refine rgS (id := 1) [4, 8] (h := ?_) | refine rg (md := { base := 0, own := [5] }) (h := ?_) | refine rgS [4, 8] (md := { base := 0, own := [5] }) (h := ?_) | refine nx ?_) | refine pK (hs) ?_); try simp (disch := omega) only [encTest, cTest, encFail, cFail, hlt,go_sem, simprocAttr]) | (with_reducible refine bk ?_) | ((with_reducible refine' cE ?hv ?_ ?_); (case hv => first | rfl | (simp only [encTest, cTest, encFail, cFail, hlt,go_sem, simprocAttr]; rfl)); all_goals (intro hc; (try simp only [go_sem, simprocAttr] at hc); try (exfalso; omega))) | ((with_reducible refine fe ?_); refine ⟨_, (by simp only [Tryd.f27, encTest, cTest, encFail, cFail, hlt,go_sem, simprocAttr]; rfl), ?_⟩; first | rfl | (try simp only [encTest, cTest, encFail, cFail, hlt,go_sem, simprocAttr, seval])) | with_reducible intro (ep : Nat → Nat) | with_reducible apply_assumption -exfalso -symm only [*])
end Cp
namespace Cp
open Go Go.Proofs
set_option maxRecDepth 10000
set_option maxHeartbeats 1000000
theorem r2Test_ok (t : TestT) (hl : t.notes.length ≤ 100000) (hR : t.run.rows.length ≤ 60) (hkd : ∀ n ∈ t.notes, 0 ≤ n.kind ∧ n.kind ≤ 255) : PureC Tryd.prog 32 [encTest t] (.bool (testOK t)) := by
 have bad : headT t = false → false = testOK t := fun h => by rw [testOK, h]; rfl
 have hcs := r2spanned_ok t.clock (-120) 120
 simp only [encSpan] at hcs
 simp only [headT, decide_eq_false_iff_not] at bad
 refine PureC_of (fn := Tryd.f32) tabOK (by kernel_rfl) rfl (by kernel_rfl) (by simp [Tryd.f32]) (by simp [noids, noid, noidss, go_sem, encTest, cTest]) (by first | rfl | simp [noids, noid, noidss, go_sem, encTest, cTest]) ?_
 intro X hX0 hXs
 repeat' (first | (with_reducible refine sk ?_; intro K hK) | ((first | (with_reducible first | refine rg (h := ?_) | refine rgS [5] (h := ?_) | refine nx ?_) | refine pK (r2within_ok _ _ _) ?_ | refine pK (hcs) ?_); try simp (disch := omega) only [encTest, cTest,go_sem, simprocAttr]) | (with_reducible refine bk ?_) | ((with_reducible refine' cE ?hv ?_ ?_); (case hv => first | rfl | (simp only [encTest, cTest,go_sem, simprocAttr]; rfl)); all_goals (intro hc; (try simp only [go_sem, simprocAttr] at hc); try (exfalso; omega))) | ((with_reducible first | refine grdS_split ?_ ?_ | refine lkG_split ?_ ?_) <;> intro hg <;> (try simp (disch := omega) only [hg, encTest, cTest,go_sem, simprocAttr]) <;> (try simp only [go_sem, simprocAttr] at hg) <;> (try (exfalso; omega))) | ((with_reducible refine fe ?_); refine ⟨_, (by simp only [Tryd.f32, encTest, cTest,go_sem, simprocAttr]; rfl), ?_⟩; first | rfl | (try simp only [encTest, cTest,go_sem, simprocAttr, seval])) | with_reducible intro (ep : Nat → Nat) | with_reducible apply_assumption -exfalso -symm only [*])
 iterate 4 (first | exact bad (by omega) | omega)
 refine AW_block (AW_loop (fun m f H => ∃ i : Nat, m = 6 - i ∧ i ≤ 6 ∧ (f 1 = .pim (cTest t) ∧ f 3 = .int .i64 (i : Int)) ∧ ∀ j, j < i → 0 ≤ limC t j ∧ limC t j ≤ 10000) 6
  ⟨0, rfl, Nat.zero_le _, by (and_intros <;> first | rfl | (simp only [cTest, go_sem, simprocAttr]; done) | (simp only [cTest, go_sem, simprocAttr]; rfl)), fun j hj => by omega⟩ ?_)
 rintro m f H ⟨i, rfl, hi, ⟨h1, h3⟩, hlm⟩
 by_cases hlt : i < 6
 ·have hlim := lim_at t hlt
  by_cases hg : 0 ≤ limC t i ∧ limC t i ≤ 10000
  ·repeat' (first | (with_reducible refine sk ?_; intro K hK) | ((first | (with_reducible first | refine rg (h := ?_) | refine rgS [5] (h := ?_) | refine nx ?_) | refine pK (r2within_ok _ _ _) ?_); try simp (disch := omega) only [h1, h3, hlim, hlt, hg, cTest,go_sem, simprocAttr]) | (with_reducible refine bk ?_) | ((with_reducible refine' cE ?hv ?_ ?_); (case hv => first | rfl | (simp only [h1, h3, hlim, hlt, hg, cTest,go_sem, simprocAttr]; rfl)); all_goals (intro hc; (try simp only [go_sem, simprocAttr] at hc); try (exfalso; omega))) | ((with_reducible first | refine grdS_split ?_ ?_ | refine lkG_split ?_ ?_) <;> intro hg <;> (try simp (disch := omega) only [hg, h1, h3, hlim, hlt, hg, cTest,go_sem, simprocAttr]) <;> (try simp only [go_sem, simprocAttr] at hg) <;> (try (exfalso; omega))) | with_reducible intro (ep : Nat → Nat) | with_reducible apply_assumption -exfalso -symm only [*])
   exact ⟨6 - (i + 1), by omega, i + 1, rfl, by omega, rfl, fun j hj => by
    by_cases hji : j = i
    ·subst hji; exact hg
    ·exact hlm j (by omega)⟩
  ·have hb : false = testOK t := bad (by
    intro hh
    obtain ⟨-, -, -, ⟨q0, q1, q2, q3, q4, q5⟩, -⟩ := hh
    refine hg ?_
    match i, hlt with
    | 0, _ => exact q0
    | 1, _ => exact q1
    | 2, _ => exact q2
    | 3, _ => exact q3
    | 4, _ => exact q4
    | 5, _ => exact q5)
   clear bad
   repeat' (first | (with_reducible refine sk ?_; intro K hK) | ((first | (with_reducible first | refine rg (h := ?_) | refine rgS [5] (h := ?_) | refine nx ?_) | refine pK (r2within_ok _ _ _) ?_); try simp (disch := omega) only [h1, h3, hlim, hlt, hg, cTest,go_sem, simprocAttr]) | (with_reducible refine bk ?_) | ((with_reducible refine' cE ?hv ?_ ?_); (case hv => first | rfl | (simp only [h1, h3, hlim, hlt, hg, cTest,go_sem, simprocAttr]; rfl)); all_goals (intro hc; (try simp only [go_sem, simprocAttr] at hc); try (exfalso; omega))) | ((with_reducible first | refine grdS_split ?_ ?_ | refine lkG_split ?_ ?_) <;> intro hg <;> (try simp (disch := omega) only [hg, h1, h3, hlim, hlt, hg, cTest,go_sem, simprocAttr]) <;> (try simp only [go_sem, simprocAttr] at hg) <;> (try (exfalso; omega))) | ((with_reducible refine fe ?_); refine ⟨_, (by simp only [Tryd.f32, h1, h3, hlim, hlt, hg, cTest,go_sem, simprocAttr]; rfl), ?_⟩; first | rfl | (try simp only [h1, h3, hlim, hlt, hg, cTest,go_sem, simprocAttr, seval])) | with_reducible intro (ep : Nat → Nat) | with_reducible apply_assumption -exfalso -symm only [*])
   all_goals exact hb
 ·obtain rfl : i = 6 := by omega
  have hh : headT t = true := by
   have l0 := hlm 0 (by omega)
   have l1 := hlm 1 (by omega)
   have l2 := hlm 2 (by omega)
   have l3 := hlm 3 (by omega)
   have l4 := hlm 4 (by omega)
   have l5 := hlm 5 (by omega)
   simp only [limC] at l0 l1 l2 l3 l4 l5
   simp only [headT, decide_eq_true_eq]; omega
  have hT : testOK t = notesFrom t.fin 0 t.notes := by rw [testOK, hh, Bool.true_and]
  clear bad hlm hcs
  repeat' (first | (with_reducible refine sk ?_; intro K hK) | ((with_reducible first | refine rg (h := ?_) | refine rgS [5] (h := ?_) | refine nx ?_); try simp (disch := omega) only [h1, h3, cTest,go_sem, simprocAttr]) | (with_reducible refine bk ?_) | ((with_reducible refine' cE ?hv ?_ ?_); (case hv => first | rfl | (simp only [h1, h3, cTest,go_sem, simprocAttr]; rfl)); all_goals (intro hc; (try simp only [go_sem, simprocAttr] at hc); try (exfalso; omega))) | ((with_reducible first | refine grdS_split ?_ ?_ | refine lkG_split ?_ ?_) <;> intro hg <;> (try simp (disch := omega) only [hg, h1, h3, cTest,go_sem, simprocAttr]) <;> (try simp only [go_sem, simprocAttr] at hg) <;> (try (exfalso; omega))) | with_reducible intro (ep : Nat → Nat) | with_reducible apply_assumption -exfalso -symm only [*])
  refine AW_block (AW_loop (fun m f H => ∃ i : Nat, m = t.notes.length - i ∧ i ≤ t.notes.length ∧ (f 1 = .pim (cTest t) ∧ f 4 = .int .i64 (i : Int)) ∧ ∃ last, 0 ≤ last ∧ last ≤ 3600 ∧ (∀ j p, i = j + 1 → t.notes[j]? = some p → p.sec = last) ∧ (i = 0 → last = 0) ∧ notesFrom t.fin 0 t.notes = notesFrom t.fin last (t.notes.drop i)) t.notes.length
   ⟨0, rfl, Nat.zero_le _, by (and_intros <;> first | rfl | (simp only [h1, go_sem, simprocAttr]; done) | (simp only [h1, go_sem, simprocAttr]; rfl)), 0, by omega, by omega, fun j p h => by omega, fun _ => rfl, rfl⟩ ?_)
  have hfin : t.fin ≤ 3600 := by
   simp only [headT, decide_eq_true_eq] at hh; omega
  clear h1 h3
  rintro m f H ⟨i, rfl, hi, ⟨h1, h4⟩, last, hl1, hl2, hp, h0, hr⟩
  by_cases hlt : i < t.notes.length
  ·obtain ⟨n, hn⟩ : ∃ x, t.notes[i]? = some x := ⟨_, List.getElem?_eq_getElem hlt⟩
   have hna := note_at hn
   have hkb := hkd n (List.mem_of_getElem? hn)
   have hcs := r2spanned_ok n.off (-200) 200
   simp only [encSpan] at hcs
   rw [drop_cons hn] at hr
   simp only [notesFrom] at hr
   have bad : noteOK last t.fin n = false → false = testOK t := fun h => by rw [hT, hr, h]; rfl
   have good : noteOK last t.fin n = true → ∃ m', m' < t.notes.length - i ∧ ∃ i', m' = t.notes.length - i' ∧ i' ≤ t.notes.length ∧ Val.int .i64 ((i + 1 : Nat) : Int) = .int .i64 (i' : Int) ∧ ∃ last, 0 ≤ last ∧ last ≤ 3600 ∧ (∀ j p, i' = j + 1 → t.notes[j]? = some p → p.sec = last) ∧ (i' = 0 → last = 0) ∧ notesFrom t.fin 0 t.notes = notesFrom t.fin last (t.notes.drop i') := fun h => by
    have hs := noteOK_sec h
    refine ⟨t.notes.length - (i + 1), by omega, i + 1, rfl, by omega, rfl, n.sec, by omega, by omega, fun j p hj hp9 => ?_, fun h => by omega, by rw [hr, h, Bool.true_and]⟩
    have hji : j = i := by omega
    rw [hji, hn] at hp9; cases hp9; rfl
   simp only [cNote] at hna
   simp only [noteOK, offOK, Bool.and_eq_false_iff, decide_eq_false_iff_not] at bad
   simp only [noteOK, offOK, Bool.and_eq_true, decide_eq_true_eq] at good
   refine AW_keep [] ?_
   cases i with
   | zero =>
    have := h0 rfl
    subst this
    repeat' (first | (with_reducible refine sk ?_; intro K hK) | ((first | (with_reducible first | refine rg (h := ?_) | refine rgS [5] (h := ?_) | refine nx ?_) | refine pK (r2within_ok _ _ _) ?_ | refine pK (hcs) ?_); try simp (disch := omega) only [h1, h4, hna, hlt, cTest,go_sem, simprocAttr]) | (with_reducible refine bk ?_) | ((with_reducible refine' cE ?hv ?_ ?_); (case hv => first | rfl | (simp only [h1, h4, hna, hlt, cTest,go_sem, simprocAttr]; rfl)); all_goals (intro hc; (try simp only [go_sem, simprocAttr] at hc); try (exfalso; omega))) | ((with_reducible first | refine grdS_split ?_ ?_ | refine lkG_split ?_ ?_) <;> intro hg <;> (try simp (disch := omega) only [hg, h1, h4, hna, hlt, cTest,go_sem, simprocAttr]) <;> (try simp only [go_sem, simprocAttr] at hg) <;> (try (exfalso; omega))) | ((with_reducible refine fe ?_); refine ⟨_, (by simp only [Tryd.f32, h1, h4, hna, hlt, cTest,go_sem, simprocAttr]; rfl), ?_⟩; first | rfl | (try simp only [h1, h4, hna, hlt, cTest,go_sem, simprocAttr, seval])) | with_reducible intro (ep : Nat → Nat) | with_reducible apply_assumption -exfalso -symm only [*])
    all_goals omega
   | succ j =>
    obtain ⟨p, hpj⟩ : ∃ x, t.notes[j]? = some x := ⟨_, List.getElem?_eq_getElem (by omega)⟩
    have hps := hp j p rfl hpj
    have hpa := note_at hpj
    simp only [cNote] at hpa
    have hjl : j < t.notes.length := by omega
    repeat' (first | (with_reducible refine sk ?_; intro K hK) | ((first | (with_reducible first | refine rg (h := ?_) | refine rgS [5] (h := ?_) | refine nx ?_) | refine pK (r2within_ok _ _ _) ?_ | refine pK (hcs) ?_); try simp (disch := omega) only [h1, h4, hna, hlt, hpa, hjl, cTest,go_sem, simprocAttr]) | (with_reducible refine bk ?_) | ((with_reducible refine' cE ?hv ?_ ?_); (case hv => first | rfl | (simp only [h1, h4, hna, hlt, hpa, hjl, cTest,go_sem, simprocAttr]; rfl)); all_goals (intro hc; (try simp only [go_sem, simprocAttr] at hc); try (exfalso; omega))) | ((with_reducible first | refine grdS_split ?_ ?_ | refine lkG_split ?_ ?_) <;> intro hg <;> (try simp (disch := omega) only [hg, h1, h4, hna, hlt, hpa, hjl, cTest,go_sem, simprocAttr]) <;> (try simp only [go_sem, simprocAttr] at hg) <;> (try (exfalso; omega))) | ((with_reducible refine fe ?_); refine ⟨_, (by simp only [Tryd.f32, h1, h4, hna, hlt, hpa, hjl, cTest,go_sem, simprocAttr]; rfl), ?_⟩; first | rfl | (try simp only [h1, h4, hna, hlt, hpa, hjl, cTest,go_sem, simprocAttr, seval])) | with_reducible intro (ep : Nat → Nat) | with_reducible apply_assumption -exfalso -symm only [*])
    all_goals omega
  ·obtain rfl : i = t.notes.length := by omega
   have hOK : true = testOK t := by rw [hT, hr, drop_none (Nat.le_refl _)]; rfl
   repeat' (first | (with_reducible refine sk ?_; intro K hK) | ((with_reducible first | refine rg (h := ?_) | refine rgS [5] (h := ?_) | refine nx ?_); try simp (disch := omega) only [h1, h4, cTest,go_sem, simprocAttr]) | (with_reducible refine bk ?_) | ((with_reducible refine' cE ?hv ?_ ?_); (case hv => first | rfl | (simp only [h1, h4, cTest,go_sem, simprocAttr]; rfl)); all_goals (intro hc; (try simp only [go_sem, simprocAttr] at hc); try (exfalso; omega))) | ((with_reducible first | refine grdS_split ?_ ?_ | refine lkG_split ?_ ?_) <;> intro hg <;> (try simp (disch := omega) only [hg, h1, h4, cTest,go_sem, simprocAttr]) <;> (try simp only [go_sem, simprocAttr] at hg) <;> (try (exfalso; omega))) | ((with_reducible refine fe ?_); refine ⟨_, (by simp only [Tryd.f32, h1, h4, cTest,go_sem, simprocAttr]; rfl), ?_⟩; first | rfl | (try simp only [h1, h4, cTest,go_sem, simprocAttr, seval])) | with_reducible intro (ep : Nat → Nat) | with_reducible apply_assumption -exfalso -symm only [*])
   all_goals exact hOK
end Cp
namespace Cp
open Go Go.Proofs
set_option maxRecDepth 10000
set_option maxHeartbeats 1000000
theorem r2Check_ok (t : TestT) (hb : TestB t) : PureC Tryd.prog 12 [encTest t] (.int .i64 (checkT t)) := by
 have hnl := hb.notes
 have hck := rcheck_ok t.run t.rules hb.run hb.rules
 simp only [encRun, cRun, encRules, cRules] at hck
 unfold checkT
 by_cases hE : checkE t.run t.rules = 0
 ·rw [if_pos hE]
  rw [hE] at hck
  have hR : t.run.rows.length ≤ 60 := by
   have h1 : runOK t.run = true := by unfold checkE at hE; split at hE <;> simp_all
   exact (run_facts h1).rows.2.1
  have hTs := r2Test_ok t hnl hR hb.kinds
  simp only [encTest, cTest] at hTs
  by_cases hT : testOK t = true
  ·rw [if_pos hT]
   rw [hT] at hTs
   simp only [testOK, headT, Bool.and_eq_true, decide_eq_true_eq] at hT
   obtain ⟨hH, hN⟩ := hT
   have hse := fun k hk => r2seconds_ok t hnl hN (by omega) k hk
   simp only [secF_all hN, encTest, cTest] at hse
   obtain ⟨res, hres⟩ : ∃ res : Int, (if twistT t = true then 21 else 0) = res := ⟨_, rfl⟩
   rw [hres]
   refine PureC_of (fn := Tryd.f12) tabOK (by kernel_rfl) rfl (by kernel_rfl) (by simp [Tryd.f12]) (by simp [noids, noid, noidss, go_sem, encTest, cTest]) (by first | rfl | simp [noids, noid, noidss, go_sem, encTest, cTest]) ?_
   intro X hX0 hXs
   repeat' (first | (with_reducible refine sk ?_; intro K hK) | ((first | (with_reducible first | refine rg (h := ?_) | refine nx ?_) | refine pK (hck) ?_ | refine pK (hTs) ?_); try simp (disch := omega) only [encTest, cTest, encRun, cRun, encRules, cRules,go_sem, simprocAttr]) | (with_reducible refine bk ?_) | ((with_reducible refine' cE ?hv ?_ ?_); (case hv => first | rfl | (simp only [encTest, cTest, encRun, cRun, encRules, cRules,go_sem, simprocAttr]; rfl)); all_goals (intro hc; (try simp only [go_sem, simprocAttr] at hc); try (exfalso; omega))) | ((with_reducible first | refine grdS_split ?_ ?_ | refine lkG_split ?_ ?_) <;> intro hg <;> (try simp (disch := omega) only [hg, encTest, cTest, encRun, cRun, encRules, cRules,go_sem, simprocAttr]) <;> (try simp only [go_sem, simprocAttr] at hg) <;> (try (exfalso; omega))) | with_reducible intro (ep : Nat → Nat) | with_reducible apply_assumption -exfalso -symm only [*])
   refine AW_block (AW_loop (fun m f H => ∃ i : Nat, m = 6 - i ∧ i ≤ 6 ∧ (f 1 = .pim (cTest t) ∧ f 4 = .int .u8 ((i + 1 : Nat) : Int)) ∧ ∀ c, c < i → twistC t c = false) 6
    ⟨0, rfl, Nat.zero_le _, by (and_intros <;> first | rfl | (simp only [cTest, go_sem, simprocAttr]; done) | (simp only [cTest, go_sem, simprocAttr]; rfl)), fun c hc => by omega⟩ ?_)
   clear hck hTs
   rintro m f H ⟨i, rfl, hi, ⟨h1, h4⟩, hlm⟩
   by_cases hlt : i < 6
   ·have hs := hse i hlt
    have htw := twist_eq i hN
    have hw : IntKind.u8.wrap ((i + 1 + 1 : Nat) : Int) = ((i + 1 + 1 : Nat) : Int) := IntWalk.u8_in _ (by omega)
    have r21 : twistC t i = true → 21 = res := fun h => by
     rw [← hres, if_pos]
     rw [twistT, List.any_eq_true]
     exact ⟨i, by simpa using hlt, h⟩
    have hnx : twistC t i = false → ∀ c, c < i + 1 → twistC t c = false := fun h c hc => by
     by_cases hci : c = i
     ·subst hci; exact h
     ·exact hlm c (by omega)
    rw [htw] at r21 hnx
    clear hse hlm hres
    generalize frC t i = lo at *
    generalize toC t i = hi2 at *
    generalize (badC t i).isSome = sure at *
    cases sure with
    | false =>
     repeat' (first | (with_reducible refine sk ?_; intro K hK) | ((first | (with_reducible first | refine rg (h := ?_) | refine nx ?_) | refine pK (hs) ?_); try simp (disch := omega) only [h1, h4, hw, cTest,go_sem, simprocAttr]) | (with_reducible refine bk ?_) | ((with_reducible refine' cE ?hv ?_ ?_); (case hv => first | rfl | (simp only [h1, h4, hw, cTest,go_sem, simprocAttr]; rfl)); all_goals (intro hc; (try simp only [go_sem, simprocAttr] at hc); try (exfalso; omega))) | ((with_reducible first | refine grdS_split ?_ ?_ | refine lkG_split ?_ ?_) <;> intro hg <;> (try simp (disch := omega) only [hg, h1, h4, hw, cTest,go_sem, simprocAttr]) <;> (try simp only [go_sem, simprocAttr] at hg) <;> (try (exfalso; omega))) | with_reducible intro (ep : Nat → Nat) | with_reducible apply_assumption -exfalso -symm only [*])
     exact ⟨6 - (i + 1), by omega, i + 1, rfl, by omega, rfl, hnx (by simp)⟩
    | true =>
     by_cases hlo : hi2 < lo
     ·have := r21 (by simp [hlo])
      clear r21 hnx
      repeat' (first | (with_reducible refine sk ?_; intro K hK) | ((first | (with_reducible first | refine rg (h := ?_) | refine nx ?_) | refine pK (hs) ?_); try simp (disch := omega) only [h1, h4, hw, hlo, cTest,go_sem, simprocAttr]) | (with_reducible refine bk ?_) | ((with_reducible refine' cE ?hv ?_ ?_); (case hv => first | rfl | (simp only [h1, h4, hw, hlo, cTest,go_sem, simprocAttr]; rfl)); all_goals (intro hc; (try simp only [go_sem, simprocAttr] at hc); try (exfalso; omega))) | ((with_reducible first | refine grdS_split ?_ ?_ | refine lkG_split ?_ ?_) <;> intro hg <;> (try simp (disch := omega) only [hg, h1, h4, hw, hlo, cTest,go_sem, simprocAttr]) <;> (try simp only [go_sem, simprocAttr] at hg) <;> (try (exfalso; omega))) | ((with_reducible refine fe ?_); refine ⟨_, (by simp only [Tryd.f12, h1, h4, hw, hlo, cTest,go_sem, simprocAttr]; rfl), ?_⟩; first | rfl | (try simp only [h1, h4, hw, hlo, cTest,go_sem, simprocAttr, seval])) | with_reducible intro (ep : Nat → Nat) | with_reducible apply_assumption -exfalso -symm only [*])
     ·repeat' (first | (with_reducible refine sk ?_; intro K hK) | ((first | (with_reducible first | refine rg (h := ?_) | refine nx ?_) | refine pK (hs) ?_); try simp (disch := omega) only [h1, h4, hw, hlo, cTest,go_sem, simprocAttr]) | (with_reducible refine bk ?_) | ((with_reducible refine' cE ?hv ?_ ?_); (case hv => first | rfl | (simp only [h1, h4, hw, hlo, cTest,go_sem, simprocAttr]; rfl)); all_goals (intro hc; (try simp only [go_sem, simprocAttr] at hc); try (exfalso; omega))) | ((with_reducible first | refine grdS_split ?_ ?_ | refine lkG_split ?_ ?_) <;> intro hg <;> (try simp (disch := omega) only [hg, h1, h4, hw, hlo, cTest,go_sem, simprocAttr]) <;> (try simp only [go_sem, simprocAttr] at hg) <;> (try (exfalso; omega))) | with_reducible intro (ep : Nat → Nat) | with_reducible apply_assumption -exfalso -symm only [*])
      exact ⟨6 - (i + 1), by omega, i + 1, rfl, by omega, rfl, hnx (by simp [hlo])⟩
   ·obtain rfl : i = 6 := by omega
    have h0 : 0 = res := by
     rw [← hres, if_neg]
     rw [twistT, List.any_eq_true]
     rintro ⟨c, hc, h⟩
     rw [hlm c (by simpa using hc)] at h
     cases h
    clear hse hlm hres
    repeat' (first | (with_reducible refine sk ?_; intro K hK) | ((with_reducible first | refine rg (h := ?_) | refine nx ?_); try simp (disch := omega) only [h1, h4, cTest,go_sem, simprocAttr]) | (with_reducible refine bk ?_) | ((with_reducible refine' cE ?hv ?_ ?_); (case hv => first | rfl | (simp only [h1, h4, cTest,go_sem, simprocAttr]; rfl)); all_goals (intro hc; (try simp only [go_sem, simprocAttr] at hc); try (exfalso; omega))) | ((with_reducible first | refine grdS_split ?_ ?_ | refine lkG_split ?_ ?_) <;> intro hg <;> (try simp (disch := omega) only [hg, h1, h4, cTest,go_sem, simprocAttr]) <;> (try simp only [go_sem, simprocAttr] at hg) <;> (try (exfalso; omega))) | ((with_reducible refine fe ?_); refine ⟨_, (by simp only [Tryd.f12, h1, h4, cTest,go_sem, simprocAttr]; rfl), ?_⟩; first | rfl | (try simp only [h1, h4, cTest,go_sem, simprocAttr, seval])) | with_reducible intro (ep : Nat → Nat) | with_reducible apply_assumption -exfalso -symm only [*])
    all_goals exact h0
  ·rw [if_neg hT]
   rw [Bool.eq_false_iff.2 hT] at hTs
   refine PureC_of (fn := Tryd.f12) tabOK (by kernel_rfl) rfl (by kernel_rfl) (by simp [Tryd.f12]) (by simp [noids, noid, noidss, go_sem, encTest, cTest]) (by first | rfl | simp [noids, noid, noidss, go_sem, encTest, cTest]) ?_
   intro X hX0 hXs
   repeat' (first | (with_reducible refine sk ?_; intro K hK) | ((first | (with_reducible first | refine rg (h := ?_) | refine nx ?_) | refine pK (hck) ?_ | refine pK (hTs) ?_); try simp (disch := omega) only [encTest, cTest, encRun, cRun, encRules, cRules,go_sem, simprocAttr]) | (with_reducible refine bk ?_) | ((with_reducible refine' cE ?hv ?_ ?_); (case hv => first | rfl | (simp only [encTest, cTest, encRun, cRun, encRules, cRules,go_sem, simprocAttr]; rfl)); all_goals (intro hc; (try simp only [go_sem, simprocAttr] at hc); try (exfalso; omega))) | ((with_reducible first | refine grdS_split ?_ ?_ | refine lkG_split ?_ ?_) <;> intro hg <;> (try simp (disch := omega) only [hg, encTest, cTest, encRun, cRun, encRules, cRules,go_sem, simprocAttr]) <;> (try simp only [go_sem, simprocAttr] at hg) <;> (try (exfalso; omega))) | ((with_reducible refine fe ?_); refine ⟨_, (by simp only [Tryd.f12, encTest, cTest, encRun, cRun, encRules, cRules,go_sem, simprocAttr]; rfl), ?_⟩; first | rfl | (try simp only [encTest, cTest, encRun, cRun, encRules, cRules,go_sem, simprocAttr, seval])) | with_reducible intro (ep : Nat → Nat) | with_reducible apply_assumption -exfalso -symm only [*])
 ·rw [if_neg hE]
  refine PureC_of (fn := Tryd.f12) tabOK (by kernel_rfl) rfl (by kernel_rfl) (by simp [Tryd.f12]) (by simp [noids, noid, noidss, go_sem, encTest, cTest]) (by first | rfl | simp [noids, noid, noidss, go_sem, encTest, cTest]) ?_
  intro X hX0 hXs
  repeat' (first | (with_reducible refine sk ?_; intro K hK) | ((first | (with_reducible first | refine rg (h := ?_) | refine nx ?_) | refine pK (hck) ?_); try simp (disch := omega) only [encTest, cTest, encRun, cRun, encRules, cRules, hE,go_sem, simprocAttr]) | (with_reducible refine bk ?_) | ((with_reducible refine' cE ?hv ?_ ?_); (case hv => first | rfl | (simp only [encTest, cTest, encRun, cRun, encRules, cRules, hE,go_sem, simprocAttr]; rfl)); all_goals (intro hc; (try simp only [go_sem, simprocAttr] at hc); try (exfalso; omega))) | ((with_reducible first | refine grdS_split ?_ ?_ | refine lkG_split ?_ ?_) <;> intro hg <;> (try simp (disch := omega) only [hg, encTest, cTest, encRun, cRun, encRules, cRules, hE,go_sem, simprocAttr]) <;> (try simp only [go_sem, simprocAttr] at hg) <;> (try (exfalso; omega))) | ((with_reducible refine fe ?_); refine ⟨_, (by simp only [Tryd.f12, encTest, cTest, encRun, cRun, encRules, cRules, hE,go_sem, simprocAttr]; rfl), ?_⟩; first | rfl | (try simp only [encTest, cTest, encRun, cRun, encRules, cRules, hE,go_sem, simprocAttr, seval])) | with_reducible intro (ep : Nat → Nat) | with_reducible apply_assumption -exfalso -symm only [*])
end Cp
namespace Cp
open Go
def rStep (o f : FailT) : FailT := if f.held = 2 then o else if o.held = 2 then f else
 ⟨min o.held f.held, ⟨min o.at1.lo f.at1.lo, if f.held = 0 ∧ o.held = 0 then min o.at1.hi f.at1.hi else if f.held = 0 then f.at1.hi else if o.held = 1 then max o.at1.hi f.at1.hi else o.at1.hi⟩⟩
def FailB (f : FailT) : Prop := (f.held = 0 ∨ f.held = 1 ∨ f.held = 2) ∧ -36000 ≤ f.at1.hi ∧ f.at1.hi ≤ 36000
theorem hi_none {l : List FailT} : ∀ {h : Int}, (∀ f ∈ l, ¬ f.held = 0) → l.foldl (hiStep true) h = h := by
 induction l with
 | nil => intro h _; rfl
 | cons a l ih =>
  intro h hh
  rw [List.foldl_cons]
  have : hiStep true h a = h := by simp [hiStep, hh a (by simp)]
  rw [this]
  exact ih fun f hf => hh f (by simp [hf])
theorem come_mem {fs : List FailT} {f : FailT} (h : f ∈ comeF fs) : f ∈ fs ∧ ¬ f.held = 2 := by
 simpa [comeF] using h
theorem first_snoc {fs : List FailT} {x : FailT} (hx : FailB x) (hb : ∀ f ∈ fs, FailB f) : fstS (fs ++ [x]) = rStep (fstS fs) x := by
 have hc : comeF (fs ++ [x]) = comeF fs ++ (if x.held = 2 then [] else [x]) := by
  rw [comeF, List.filter_append]
  by_cases h : x.held = 2 <;> simp [comeF, h]
 have hs : sureF (fs ++ [x]) = (sureF fs || decide (x.held = 0)) := by simp [sureF]
 obtain ⟨hx1, hx2, hx3⟩ := hx
 by_cases h2 : x.held = 2
 ·have h0 : ¬ x.held = 0 := by omega
  rw [if_pos h2, List.append_nil] at hc
  rw [decide_eq_false h0, Bool.or_false] at hs
  unfold fstS rStep
  rw [hc, hs, if_pos h2]
 ·rw [if_neg h2] at hc
  unfold fstS rStep
  rw [if_neg h2, hc, hs]
  cases hC : comeF fs with
  | nil =>
   have hns : sureF fs = false := by
    rw [sureF, List.any_eq_false]
    intro f hf
    by_cases h : f.held = 2
    ·simp [h]
    ·have : f ∈ comeF fs := by simp [comeF, hf, h]
     rw [hC] at this; cases this
   rw [hns]
   obtain ⟨a, b, c⟩ := x
   simp only at *
   rcases hx1 with rfl | rfl | rfl
   ·simp [hiStep]; omega
   ·simp [hiStep]; omega
   ·exact absurd rfl h2
  | cons b l =>
   simp only [List.cons_append]
   have hfo : ∀ {β : Type} (g : β → FailT → β) (a : β), (b :: (l ++ [x])).foldl g a = g ((b :: l).foldl g a) x := fun g a => by
    rw [← List.cons_append, List.foldl_append]; rfl
   rw [hfo, hfo]
   cases hS : sureF fs with
   | true =>
    simp only [Bool.true_or, if_true]
    rcases hx1 with h | h | h
    ·simp [hiStep, h]
    ·simp [hiStep, h]; decide
    ·exact absurd h h2
   | false =>
    have hn0 : ∀ f ∈ b :: l, ¬ f.held = 0 := fun f hf h => by
     rw [← hC] at hf
     have hm := (come_mem hf).1
     rw [sureF, List.any_eq_false] at hS
     have := hS f hm
     simp [h] at this
    simp only [Bool.false_or]
    rcases hx1 with h | h | h
    ·have e := hi_none (h := 36000) hn0
     simp only [h, decide_true, if_true, e]
     simp [hiStep, h]; omega
    ·simp [hiStep, h]
    ·exact absurd h h2
theorem first_fold (fs : List FailT) (hb : ∀ f ∈ fs, FailB f) : fs.foldl rStep ⟨2, ⟨0, 0⟩⟩ = fstS fs := by
 have gen : ∀ n, (fs.take n).foldl rStep ⟨2, ⟨0, 0⟩⟩ = fstS (fs.take n) := by
  intro n
  induction n with
  | zero => rfl
  | succ n ih =>
   by_cases h : n < fs.length
   ·have hx : fs[n]? = some fs[n] := List.getElem?_eq_getElem h
    rw [take_snocC hx, List.foldl_append, ih, first_snoc (hb _ (List.getElem_mem h)) fun f hf => hb f (List.mem_of_mem_take hf)]
    rfl
   ·rw [List.take_of_length_le (by omega)] at ih ⊢
    exact ih
 have := gen fs.length
 rwa [List.take_of_length_le (Nat.le_refl _)] at this
end Cp
namespace Cp
open Go Go.Proofs
set_option maxRecDepth 10000
set_option maxHeartbeats 1000000
theorem r2Fails_ok (t : TestT) (hb : TestB t) (c : Int) (hc : 0 ≤ c ∧ c ≤ 255) : PureC Tryd.prog 8 [encTest t, .int .u8 c] (failsV t c) := by
 have hck := r2Check_ok t hb
 have hnv : noid (failsV t c) = true := by unfold failsV; (repeat' split) <;> rfl
 unfold failsV at hnv ⊢
 by_cases h : checkT t = 0
 ·rw [if_pos h] at hnv ⊢
  rw [h] at hck
  obtain ⟨hT, hR⟩ := check0' h
  simp only [testOK, headT, Bool.and_eq_true, decide_eq_true_eq] at hT
  obtain ⟨hH, hN⟩ := hT
  by_cases hcr : 1 ≤ c ∧ c ≤ 6
  ·rw [if_pos hcr] at hnv ⊢
   obtain ⟨k, rfl⟩ : ∃ k : Nat, c = ((k + 1 : Nat) : Int) := ⟨(c - 1).toNat, by omega⟩
   have hk : (((k + 1 : Nat) : Int) - 1).toNat = k := by omega
   rw [hk] at hnv ⊢
   have hf := r2fails_ok t hb.notes hN (by omega) (by omega) k (by omega)
   generalize failC t k = F at *
   simp only [encTest, cTest, encFail, cFail] at hck hf hnv
   refine PureC_of (fn := Tryd.f8) tabOK (by kernel_rfl) rfl (by kernel_rfl) (by simp [Tryd.f8]) (by simp [noids, noid, noidss, go_sem, encTest, cTest, encFail, cFail, hnv]) (by first | rfl | simp [noids, noid, noidss, go_sem, encTest, cTest, encFail, cFail, hnv]) ?_
   intro X hX0 hXs
   repeat' (first | (with_reducible refine sk ?_; intro K hK) | ((first | (with_reducible first | refine rg (h := ?_) | refine rgS [4] (h := ?_) | refine nx ?_) | refine pK (hck) ?_ | refine pK (hf) ?_ | refine pK (r2within_ok _ _ _) ?_); try simp (disch := omega) only [encTest, cTest, encFail, cFail, hcr,go_sem, simprocAttr]) | (with_reducible refine bk ?_) | ((with_reducible refine' cE ?hv ?_ ?_); (case hv => first | rfl | (simp only [encTest, cTest, encFail, cFail, hcr,go_sem, simprocAttr]; rfl)); all_goals (intro hc; (try simp only [go_sem, simprocAttr] at hc); try (exfalso; omega))) | ((with_reducible refine fe ?_); refine ⟨_, (by simp only [Tryd.f8, encTest, cTest, encFail, cFail, hcr,go_sem, simprocAttr]; rfl), ?_⟩; first | rfl | (try simp only [encTest, cTest, encFail, cFail, hcr,go_sem, simprocAttr, seval])) | with_reducible intro (ep : Nat → Nat) | with_reducible apply_assumption -exfalso -symm only [*])
  ·rw [if_neg hcr] at hnv ⊢
   simp only [encTest, cTest] at hck
   refine PureC_of (fn := Tryd.f8) tabOK (by kernel_rfl) rfl (by kernel_rfl) (by simp [Tryd.f8]) (by simp [noids, noid, noidss, go_sem, encTest, cTest, hnv]) (by first | rfl | simp [noids, noid, noidss, go_sem, encTest, cTest, hnv]) ?_
   intro X hX0 hXs
   repeat' (first | (with_reducible refine sk ?_; intro K hK) | ((first | (with_reducible first | refine rg (h := ?_) | refine rgS [4] (h := ?_) | refine nx ?_) | refine pK (hck) ?_ | refine pK (r2within_ok _ _ _) ?_); try simp (disch := omega) only [encTest, cTest, encFail, cFail, hcr,go_sem, simprocAttr]) | (with_reducible refine bk ?_) | ((with_reducible refine' cE ?hv ?_ ?_); (case hv => first | rfl | (simp only [encTest, cTest, encFail, cFail, hcr,go_sem, simprocAttr]; rfl)); all_goals (intro hc; (try simp only [go_sem, simprocAttr] at hc); try (exfalso; omega))) | ((with_reducible refine fe ?_); refine ⟨_, (by simp only [Tryd.f8, encTest, cTest, encFail, cFail, hcr,go_sem, simprocAttr]; rfl), ?_⟩; first | rfl | (try simp only [encTest, cTest, encFail, cFail, hcr,go_sem, simprocAttr, seval])) | with_reducible intro (ep : Nat → Nat) | with_reducible apply_assumption -exfalso -symm only [*])
 ·rw [if_neg h] at hnv ⊢
  simp only [encTest, cTest] at hck
  refine PureC_of (fn := Tryd.f8) tabOK (by kernel_rfl) rfl (by kernel_rfl) (by simp [Tryd.f8]) (by simp [noids, noid, noidss, go_sem, encTest, cTest, hnv]) (by first | rfl | simp [noids, noid, noidss, go_sem, encTest, cTest, hnv]) ?_
  intro X hX0 hXs
  repeat' (first | (with_reducible refine sk ?_; intro K hK) | ((first | (with_reducible first | refine rg (h := ?_) | refine rgS [4] (h := ?_) | refine nx ?_) | refine pK (hck) ?_); try simp (disch := omega) only [encTest, cTest, encFail, cFail, h,go_sem, simprocAttr]) | (with_reducible refine bk ?_) | ((with_reducible refine' cE ?hv ?_ ?_); (case hv => first | rfl | (simp only [encTest, cTest, encFail, cFail, h,go_sem, simprocAttr]; rfl)); all_goals (intro hc; (try simp only [go_sem, simprocAttr] at hc); try (exfalso; omega))) | ((with_reducible refine fe ?_); refine ⟨_, (by simp only [Tryd.f8, encTest, cTest, encFail, cFail, h,go_sem, simprocAttr]; rfl), ?_⟩; first | rfl | (try simp only [encTest, cTest, encFail, cFail, h,go_sem, simprocAttr, seval])) | with_reducible intro (ep : Nat → Nat) | with_reducible apply_assumption -exfalso -symm only [*])
end Cp
namespace Cp
open Go Go.Proofs
set_option maxRecDepth 10000
set_option maxHeartbeats 1000000
def foldR (t : TestT) (i : Nat) : FailT := (failsL t i).foldl rStep ⟨2, ⟨0, 0⟩⟩
theorem foldR_succ {t : TestT} {i : Nat} : foldR t (i + 1) = rStep (foldR t i) (failC t i) := by rw [foldR, failsL_succ, List.foldl_append]; rfl
theorem rStep_held {o f : FailT} (ho : o.held = 0 ∨ o.held = 1 ∨ o.held = 2) (hf : f.held = 0 ∨ f.held = 1 ∨ f.held = 2) : (rStep o f).held = 0 ∨ (rStep o f).held = 1 ∨ (rStep o f).held = 2 := by
 unfold rStep
 split
 ·exact ho
 ·split
  ·exact hf
  ·simp only; omega
theorem foldR_held {t : TestT} : ∀ {i : Nat}, (foldR t i).held = 0 ∨ (foldR t i).held = 1 ∨ (foldR t i).held = 2
 | 0 => .inr (.inr rfl)
 | i + 1 => by rw [foldR_succ]; exact rStep_held foldR_held (failC_held t i)
theorem r2first_ok (t : TestT) (hl : t.notes.length ≤ 100000) (hN : notesFrom t.fin 0 t.notes = true) (hf : 0 ≤ t.fin ∧ t.fin ≤ 3600) (hcl : -120 ≤ t.clock.lo ∧ t.clock.lo ≤ t.clock.hi ∧ t.clock.hi ≤ 120) (l : Nat) (hl3 : 1 ≤ l ∧ l ≤ 3) :
  PureC Tryd.prog 30 [encTest t, .int .u8 (l : Int)] (encFail (foldR t (2 * l))) := by
 have hfs := fun k hk => r2fails_ok t hl hN hf hcl k hk
 have hw2 : IntKind.u8.wrap (2 * (l : Int)) = ((2 * l : Nat) : Int) := by rw [IntWalk.u8_in _ (by omega)]; omega
 have hnv : noid (encFail (foldR t (2 * l))) = true := rfl
 simp only [encTest, cTest] at hfs
 refine PureC_of (fn := Tryd.f30) tabOK (by kernel_rfl) rfl (by kernel_rfl) (by simp [Tryd.f30]) (by simp [noids, noid, noidss, go_sem, encTest, cTest, hnv]) (by first | rfl | simp [noids, noid, noidss, go_sem, encTest, cTest, hnv]) ?_
 intro X hX0 hXs
 repeat' (first | (with_reducible refine sk ?_; intro K hK) | ((with_reducible first | refine rg (md := { base := 0, own := [4, 5] }) (h := ?_) | refine rgS [4, 5, 7] (md := { base := 0, own := [4, 5] }) (h := ?_) | refine nx ?_); try simp (disch := omega) only [encTest, cTest,go_sem, simprocAttr]) | (with_reducible refine bk ?_) | ((with_reducible refine' cE ?hv ?_ ?_); (case hv => first | rfl | (simp only [encTest, cTest,go_sem, simprocAttr]; rfl)); all_goals (intro hc; (try simp only [go_sem, simprocAttr] at hc); try (exfalso; omega))) | ((with_reducible first | refine grdS_split ?_ ?_ | refine lkG_split ?_ ?_) <;> intro hg <;> (try simp (disch := omega) only [hg, encTest, cTest,go_sem, simprocAttr]) <;> (try simp only [go_sem, simprocAttr] at hg) <;> (try (exfalso; omega))) | with_reducible intro (ep : Nat → Nat) | with_reducible apply_assumption -exfalso -symm only [*])
 refine AW_block (AW_loop (fun m f H => ∃ i : Nat, m = 2 * l - i ∧ i ≤ 2 * l ∧ (f 1 = .int .u8 (l : Int) ∧ f 2 = .pim (cTest t) ∧ f 6 = .int .u8 ((i + 1 : Nat) : Int)) ∧ ∃ e4 e5, f 4 = .ptr 4 e4 3 0 0 ∧ f 5 = .ptr 5 e5 3 0 0 ∧ H 4 = some (e4, .arr 3 [[.int .u8 0, .int .i64 0, .int .i64 0]]) ∧ H 5 = some (e5, .arr 3 [cFail (foldR t i)])) (2 * l)
  ⟨0, rfl, Nat.zero_le _, by (and_intros <;> first | rfl | (simp only [cTest, go_sem, simprocAttr]; done) | (simp only [cTest, go_sem, simprocAttr]; rfl)), _, _, by (first | rfl | (simp only [go_sem, simprocAttr]; done) | (simp only [go_sem, simprocAttr]; rfl)), by (first | rfl | (simp only [go_sem, simprocAttr]; done) | (simp only [go_sem, simprocAttr]; rfl)), by (first | rfl | (simp only [go_sem, simprocAttr]; done) | (simp only [go_sem, simprocAttr]; rfl)), by (first | rfl | (simp only [cFail, foldR, failsL, List.range_zero, List.map_nil, List.foldl_nil, go_sem, simprocAttr]; done) | (simp only [cFail, foldR, failsL, List.range_zero, List.map_nil, List.foldl_nil, go_sem, simprocAttr]; rfl))⟩ ?_)
 rintro m f H ⟨i, rfl, hi, ⟨h1, h2, h6⟩, e4, e5, h4, h5, H4, H5⟩
 by_cases hlt : i < 2 * l
 ·have hs := hfs i (by omega)
  have hw : IntKind.u8.wrap ((i + 1 + 1 : Nat) : Int) = ((i + 1 + 1 : Nat) : Int) := IntWalk.u8_in _ (by omega)
  have hst := @foldR_succ t i
  have ho := @foldR_held t i
  have hF := failC_held t i
  generalize foldR t i = o at *
  generalize failC t i = F at *
  refine AW_keep [4, 5] ?_
  have k7 : keep H [4, 5] 7 = none := rfl
  change keep H [4, 5] 4 = _ at H4
  change keep H [4, 5] 5 = _ at H5
  generalize keep H [4, 5] = H2 at *
  obtain ⟨oh, ol, oi⟩ := o
  obtain ⟨Fh, Fl, Fi⟩ := F
  simp only [cFail, encFail] at H5 hs
  simp only at ho hF
  have hc12 : ((i + 1 : Nat) : Int) ≤ ((2 * l : Nat) : Int) := by omega
  rcases hF with rfl | rfl | rfl <;> rcases ho with rfl | rfl | rfl
  all_goals
   simp [rStep] at hst
   repeat' (first | (with_reducible refine sk ?_; intro K hK) | ((first | (with_reducible first | refine rg (md := { base := 0, own := [4, 5] }) (h := ?_) | refine rgS [4, 5, 7] (md := { base := 0, own := [4, 5] }) (h := ?_) | refine nx ?_) | refine pK (hs) ?_); try simp (disch := omega) only [h1, h2, h4, h5, h6, H4, H5, k7, hw, hw2, hc12, cTest,go_sem, simprocAttr]) | (with_reducible refine bk ?_) | ((with_reducible refine' cE ?hv ?_ ?_); (case hv => first | rfl | (simp only [h1, h2, h4, h5, h6, H4, H5, k7, hw, hw2, hc12, cTest,go_sem, simprocAttr]; rfl)); all_goals (intro hc; (try simp only [go_sem, simprocAttr] at hc); try (exfalso; omega))) | ((with_reducible first | refine grdS_split ?_ ?_ | refine lkG_split ?_ ?_) <;> intro hg <;> (try simp (disch := omega) only [hg, h1, h2, h4, h5, h6, H4, H5, k7, hw, hw2, hc12, cTest,go_sem, simprocAttr]) <;> (try simp only [go_sem, simprocAttr] at hg) <;> (try (exfalso; omega))) | with_reducible intro (ep : Nat → Nat) | with_reducible apply_assumption -exfalso -symm only [*])
   exact ⟨2 * l - (i + 1), by omega, i + 1, rfl, by omega, rfl, e4, e5, by (first | rfl | (simp only [h4, go_sem, simprocAttr]; done) | (simp only [h4, go_sem, simprocAttr]; rfl)), by (first | rfl | (simp only [h5, go_sem, simprocAttr]; done) | (simp only [h5, go_sem, simprocAttr]; rfl)), by (first | rfl | (simp only [H4, go_sem, simprocAttr]; done) | (simp only [H4, go_sem, simprocAttr]; rfl)), by rw [hst]; (first | rfl | (simp only [H5, cFail, go_sem, simprocAttr]; done) | (simp only [H5, cFail, go_sem, simprocAttr]; rfl))⟩
 ·obtain rfl : i = 2 * l := by omega
  have hc12 : ¬ ((2 * l + 1 : Nat) : Int) ≤ ((2 * l : Nat) : Int) := by omega
  simp only [cFail] at H5
  repeat' (first | (with_reducible refine sk ?_; intro K hK) | ((with_reducible first | refine rg (md := { base := 0, own := [4, 5] }) (h := ?_) | refine rgS [4, 5, 7] (md := { base := 0, own := [4, 5] }) (h := ?_) | refine nx ?_); try simp (disch := omega) only [h1, h2, h4, h5, h6, H4, H5, hw2, hc12, cTest, encFail, cFail,go_sem, simprocAttr]) | (with_reducible refine bk ?_) | ((with_reducible refine' cE ?hv ?_ ?_); (case hv => first | rfl | (simp only [h1, h2, h4, h5, h6, H4, H5, hw2, hc12, cTest, encFail, cFail,go_sem, simprocAttr]; rfl)); all_goals (intro hc; (try simp only [go_sem, simprocAttr] at hc); try (exfalso; omega))) | ((with_reducible first | refine grdS_split ?_ ?_ | refine lkG_split ?_ ?_) <;> intro hg <;> (try simp (disch := omega) only [hg, h1, h2, h4, h5, h6, H4, H5, hw2, hc12, cTest, encFail, cFail,go_sem, simprocAttr]) <;> (try simp only [go_sem, simprocAttr] at hg) <;> (try (exfalso; omega))) | ((with_reducible refine fe ?_); refine ⟨_, (by simp only [Tryd.f30, h1, h2, h4, h5, h6, H4, H5, hw2, hc12, cTest, encFail, cFail,go_sem, simprocAttr]; rfl), ?_⟩; first | rfl | (try simp only [h1, h2, h4, h5, h6, H4, H5, hw2, hc12, cTest, encFail, cFail,go_sem, simprocAttr, seval])) | with_reducible intro (ep : Nat → Nat) | with_reducible apply_assumption -exfalso -symm only [*])
end Cp
namespace Cp
open Go Go.Proofs
set_option maxRecDepth 10000
set_option maxHeartbeats 1000000
theorem r2First_ok (t : TestT) (hb : TestB t) (c : Int) (hc : 0 ≤ c ∧ c ≤ 255) : PureC Tryd.prog 10 [encTest t, .int .u8 c] (firstV t c) := by
 have hck := r2Check_ok t hb
 have hnv : noid (firstV t c) = true := by unfold firstV; (repeat' split) <;> rfl
 unfold firstV at hnv ⊢
 by_cases h : checkT t = 0
 ·rw [if_pos h] at hnv ⊢
  rw [h] at hck
  obtain ⟨hT, hR⟩ := check0' h
  simp only [testOK, headT, Bool.and_eq_true, decide_eq_true_eq] at hT
  obtain ⟨hH, hN⟩ := hT
  by_cases hcr : 1 ≤ c ∧ c ≤ 3
  ·rw [if_pos hcr] at hnv ⊢
   obtain ⟨k, rfl⟩ : ∃ k : Nat, c = (k : Int) := ⟨c.toNat, by omega⟩
   rw [Int.toNat_natCast] at hnv ⊢
   have hf := r2first_ok t hb.notes hN (by omega) (by omega) k (by omega)
   have he : foldR t (2 * k) = letterS t k := first_fold _ fun f hf => by
    unfold failsL at hf
    obtain ⟨c, _, rfl⟩ := List.mem_map.1 hf
    refine ⟨failC_held t c, ?_⟩
    have := fr_bnd hN (by omega) c
    unfold failC
    split
    ·simp
    ·simp only; omega
   rw [he] at hf
   generalize letterS t k = F at *
   simp only [encTest, cTest, encFail, cFail] at hck hf hnv
   refine PureC_of (fn := Tryd.f10) tabOK (by kernel_rfl) rfl (by kernel_rfl) (by simp [Tryd.f10]) (by simp [noids, noid, noidss, go_sem, encTest, cTest, encFail, cFail, hnv]) (by first | rfl | simp [noids, noid, noidss, go_sem, encTest, cTest, encFail, cFail, hnv]) ?_
   intro X hX0 hXs
   repeat' (first | (with_reducible refine sk ?_; intro K hK) | ((first | (with_reducible first | refine rg (h := ?_) | refine rgS [4] (h := ?_) | refine nx ?_) | refine pK (hck) ?_ | refine pK (hf) ?_ | refine pK (r2within_ok _ _ _) ?_); try simp (disch := omega) only [encTest, cTest, encFail, cFail, hcr,go_sem, simprocAttr]) | (with_reducible refine bk ?_) | ((with_reducible refine' cE ?hv ?_ ?_); (case hv => first | rfl | (simp only [encTest, cTest, encFail, cFail, hcr,go_sem, simprocAttr]; rfl)); all_goals (intro hc; (try simp only [go_sem, simprocAttr] at hc); try (exfalso; omega))) | ((with_reducible refine fe ?_); refine ⟨_, (by simp only [Tryd.f10, encTest, cTest, encFail, cFail, hcr,go_sem, simprocAttr]; rfl), ?_⟩; first | rfl | (try simp only [encTest, cTest, encFail, cFail, hcr,go_sem, simprocAttr, seval])) | with_reducible intro (ep : Nat → Nat) | with_reducible apply_assumption -exfalso -symm only [*])
  ·rw [if_neg hcr] at hnv ⊢
   simp only [encTest, cTest] at hck
   refine PureC_of (fn := Tryd.f10) tabOK (by kernel_rfl) rfl (by kernel_rfl) (by simp [Tryd.f10]) (by simp [noids, noid, noidss, go_sem, encTest, cTest, hnv]) (by first | rfl | simp [noids, noid, noidss, go_sem, encTest, cTest, hnv]) ?_
   intro X hX0 hXs
   repeat' (first | (with_reducible refine sk ?_; intro K hK) | ((first | (with_reducible first | refine rg (h := ?_) | refine rgS [4] (h := ?_) | refine nx ?_) | refine pK (hck) ?_ | refine pK (r2within_ok _ _ _) ?_); try simp (disch := omega) only [encTest, cTest, encFail, cFail, hcr,go_sem, simprocAttr]) | (with_reducible refine bk ?_) | ((with_reducible refine' cE ?hv ?_ ?_); (case hv => first | rfl | (simp only [encTest, cTest, encFail, cFail, hcr,go_sem, simprocAttr]; rfl)); all_goals (intro hc; (try simp only [go_sem, simprocAttr] at hc); try (exfalso; omega))) | ((with_reducible refine fe ?_); refine ⟨_, (by simp only [Tryd.f10, encTest, cTest, encFail, cFail, hcr,go_sem, simprocAttr]; rfl), ?_⟩; first | rfl | (try simp only [encTest, cTest, encFail, cFail, hcr,go_sem, simprocAttr, seval])) | with_reducible intro (ep : Nat → Nat) | with_reducible apply_assumption -exfalso -symm only [*])
 ·rw [if_neg h] at hnv ⊢
  simp only [encTest, cTest] at hck
  refine PureC_of (fn := Tryd.f10) tabOK (by kernel_rfl) rfl (by kernel_rfl) (by simp [Tryd.f10]) (by simp [noids, noid, noidss, go_sem, encTest, cTest, hnv]) (by first | rfl | simp [noids, noid, noidss, go_sem, encTest, cTest, hnv]) ?_
  intro X hX0 hXs
  repeat' (first | (with_reducible refine sk ?_; intro K hK) | ((first | (with_reducible first | refine rg (h := ?_) | refine rgS [4] (h := ?_) | refine nx ?_) | refine pK (hck) ?_); try simp (disch := omega) only [encTest, cTest, encFail, cFail, h,go_sem, simprocAttr]) | (with_reducible refine bk ?_) | ((with_reducible refine' cE ?hv ?_ ?_); (case hv => first | rfl | (simp only [encTest, cTest, encFail, cFail, h,go_sem, simprocAttr]; rfl)); all_goals (intro hc; (try simp only [go_sem, simprocAttr] at hc); try (exfalso; omega))) | ((with_reducible refine fe ?_); refine ⟨_, (by simp only [Tryd.f10, encTest, cTest, encFail, cFail, h,go_sem, simprocAttr]; rfl), ?_⟩; first | rfl | (try simp only [encTest, cTest, encFail, cFail, h,go_sem, simprocAttr, seval])) | with_reducible intro (ep : Nat → Nat) | with_reducible apply_assumption -exfalso -symm only [*])
end Cp
namespace Cp
open Go Go.Proofs
set_option maxRecDepth 10000
set_option maxHeartbeats 1000000
def greatT (t : TestT) : Bool := greatS t.run t.rules || decide (80 < t.notes.length)
theorem r2great_ok (t : TestT) : PureC Tryd.prog 5 [encTest t] (.bool (greatT t)) := by
 have hg := great_ok t.run t.rules
 simp only [encRun, cRun, encRules, cRules] at hg
 unfold greatT
 generalize greatS t.run t.rules = g at *
 refine PureC_of (fn := Tryd.f5) tabOK (by kernel_rfl) rfl (by kernel_rfl) (by simp [Tryd.f5]) (by simp [noids, noid, noidss, go_sem, encTest, cTest]) (by first | rfl | simp [noids, noid, noidss, go_sem, encTest, cTest]) ?_
 intro X hX0 hXs
 cases g with
 | true =>
  repeat' (first | (with_reducible refine sk ?_; intro K hK) | ((first | (with_reducible first | refine rg (h := ?_) | refine nx ?_) | refine pK (hg) ?_); try simp (disch := omega) only [encTest, cTest, encRun, cRun, encRules, cRules,go_sem, simprocAttr]) | (with_reducible refine bk ?_) | ((with_reducible refine' cE ?hv ?_ ?_); (case hv => first | rfl | (simp only [encTest, cTest, encRun, cRun, encRules, cRules,go_sem, simprocAttr]; rfl)); all_goals (intro hc; (try simp only [go_sem, simprocAttr] at hc); try (exfalso; omega))) | ((with_reducible first | refine grdS_split ?_ ?_ | refine lkG_split ?_ ?_) <;> intro hg <;> (try simp (disch := omega) only [hg, encTest, cTest, encRun, cRun, encRules, cRules,go_sem, simprocAttr]) <;> (try simp only [go_sem, simprocAttr] at hg) <;> (try (exfalso; omega))) | ((with_reducible refine fe ?_); refine ⟨_, (by simp only [Tryd.f5, encTest, cTest, encRun, cRun, encRules, cRules,go_sem, simprocAttr]; rfl), ?_⟩; first | rfl | (try simp only [encTest, cTest, encRun, cRun, encRules, cRules,go_sem, simprocAttr, seval])) | with_reducible intro (ep : Nat → Nat) | with_reducible apply_assumption -exfalso -symm only [*])
 | false =>
  repeat' (first | (with_reducible refine sk ?_; intro K hK) | ((first | (with_reducible first | refine rg (h := ?_) | refine nx ?_) | refine pK (hg) ?_); try simp (disch := omega) only [encTest, cTest, encRun, cRun, encRules, cRules,go_sem, simprocAttr]) | (with_reducible refine bk ?_) | ((with_reducible refine' cE ?hv ?_ ?_); (case hv => first | rfl | (simp only [encTest, cTest, encRun, cRun, encRules, cRules,go_sem, simprocAttr]; rfl)); all_goals (intro hc; (try simp only [go_sem, simprocAttr] at hc); try (exfalso; omega))) | ((with_reducible first | refine grdS_split ?_ ?_ | refine lkG_split ?_ ?_) <;> intro hg <;> (try simp (disch := omega) only [hg, encTest, cTest, encRun, cRun, encRules, cRules,go_sem, simprocAttr]) <;> (try simp only [go_sem, simprocAttr] at hg) <;> (try (exfalso; omega))) | ((with_reducible refine fe ?_); refine ⟨_, (by simp only [Tryd.f5, encTest, cTest, encRun, cRun, encRules, cRules,go_sem, simprocAttr]; rfl), ?_⟩; first | rfl | (try simp only [encTest, cTest, encRun, cRun, encRules, cRules,go_sem, simprocAttr, seval])) | with_reducible intro (ep : Nat → Nat) | with_reducible apply_assumption -exfalso -symm only [*])
  rw [Bool.eq_iff_iff]; simp only [decide_eq_true_eq]; omega
theorem r2twin_ok (t : TestT) (hr : RunSm t.run) (hu : t.rules.steps.length ≤ 1073741824) (hn : t.notes.length ≤ 1073741824) : PureC Tryd.prog 6 [encTest t] (encTest t) := by
 have h1 := twin_ok t.run hr
 have h2 := twinRules_ok t.rules hu
 simp only [encRun, cRun, encRules, cRules] at h1 h2
 refine PureC_of (fn := Tryd.f6) tabOK (by kernel_rfl) rfl (by kernel_rfl) (by simp [Tryd.f6]) (by simp [noids, noid, noidss, go_sem, encTest, cTest]) (by first | rfl | simp [noids, noid, noidss, go_sem, encTest, cTest]) ?_
 intro X hX0 hXs
 repeat' (first | (with_reducible refine sk ?_; intro K hK) | ((first | (with_reducible first | refine rg (md := { base := 0, own := [1] }) (h := ?_) | refine rgS [2] (md := { base := 0, own := [1] }) (h := ?_) | refine nx ?_) | refine pK (h1) ?_ | refine pK (h2) ?_); try simp (disch := omega) only [encTest, cTest, encRun, cRun, encRules, cRules, hn,go_sem, simprocAttr]) | (with_reducible refine bk ?_) | ((with_reducible refine' cE ?hv ?_ ?_); (case hv => first | rfl | (simp only [encTest, cTest, encRun, cRun, encRules, cRules, hn,go_sem, simprocAttr]; rfl)); all_goals (intro hc; (try simp only [go_sem, simprocAttr] at hc); try (exfalso; omega))) | ((with_reducible refine fe ?_); refine ⟨_, (by simp only [Tryd.f6, encTest, cTest, encRun, cRun, encRules, cRules, hn,go_sem, simprocAttr]; rfl), ?_⟩; first | rfl | (try simp only [encTest, cTest, encRun, cRun, encRules, cRules, hn,go_sem, simprocAttr, seval])) | with_reducible intro (ep : Nat → Nat) | with_reducible apply_assumption -exfalso -symm only [*])
end Cp
namespace Cp
open Go Go.Proofs
set_option maxRecDepth 10000
set_option maxHeartbeats 1000000
theorem r2same_ok (t : TestT) (hr : RunB t.run) (hu : t.rules.steps.length ≤ 100000) (hn : t.notes.length ≤ 100000) : PureC Tryd.prog 13 [encTest t, encTest t] (.bool true) := by
 have s1 := same_ok t.run t.run hr
 have s2 := sameRules_ok t.rules t.rules (by omega)
 simp only [decide_true, encRun, cRun, encRules, cRules] at s1 s2
 refine PureC_of (fn := Tryd.f13) tabOK (by kernel_rfl) rfl (by kernel_rfl) (by simp [Tryd.f13]) (by simp [noids, noid, noidss, go_sem, encTest, cTest]) (by first | rfl | simp [noids, noid, noidss, go_sem, encTest, cTest]) ?_
 intro X hX0 hXs
 repeat' (first | (with_reducible refine sk ?_; intro K hK) | ((first | (with_reducible first | refine rg (h := ?_) | refine nx ?_) | refine pK (s1) ?_ | refine pK (s2) ?_); try simp (disch := omega) only [List.range_zero, List.nil_append, List.cons_append, List.map_cons, List.map_nil, encTest, cTest, encRun, cRun, encRules, cRules,go_sem, simprocAttr]) | (with_reducible refine bk ?_) | ((with_reducible refine' cE ?hv ?_ ?_); (case hv => first | rfl | (simp only [List.range_zero, List.nil_append, List.cons_append, List.map_cons, List.map_nil, encTest, cTest, encRun, cRun, encRules, cRules,go_sem, simprocAttr]; rfl)); all_goals (intro hc; (try simp only [go_sem, simprocAttr] at hc); try (exfalso; omega))) | ((with_reducible first | refine grdS_split ?_ ?_ | refine lkG_split ?_ ?_) <;> intro hg <;> (try simp (disch := omega) only [hg, List.range_zero, List.nil_append, List.cons_append, List.map_cons, List.map_nil, encTest, cTest, encRun, cRun, encRules, cRules,go_sem, simprocAttr]) <;> (try simp only [go_sem, simprocAttr] at hg) <;> (try (exfalso; omega))) | with_reducible intro (ep : Nat → Nat) | with_reducible apply_assumption -exfalso -symm only [*])
 refine AW_block (AW_loop (fun m f H => ∃ i : Nat, m = t.notes.length - i ∧ i ≤ t.notes.length ∧ (f 2 = .pim (cTest t) ∧ f 3 = .pim (cTest t) ∧ f 5 = .int .i64 (i : Int))) t.notes.length
  ⟨0, rfl, Nat.zero_le _, by (and_intros <;> first | rfl | (simp only [cTest, go_sem, simprocAttr]; done) | (simp only [cTest, go_sem, simprocAttr]; rfl))⟩ ?_)
 rintro m f H ⟨i, rfl, hi, h2, h3, h5⟩
 by_cases hlt : i < t.notes.length
 ·obtain ⟨n, hn⟩ : ∃ x, t.notes[i]? = some x := ⟨_, List.getElem?_eq_getElem hlt⟩
  have hna := note_at hn
  simp only [cNote] at hna
  repeat' (first | (with_reducible refine sk ?_; intro K hK) | ((with_reducible first | refine rg (h := ?_) | refine nx ?_); try simp (disch := omega) only [h2, h3, h5, hlt, hna, cTest,go_sem, simprocAttr]) | (with_reducible refine bk ?_) | ((with_reducible refine' cE ?hv ?_ ?_); (case hv => first | rfl | (simp only [h2, h3, h5, hlt, hna, cTest,go_sem, simprocAttr]; rfl)); all_goals (intro hc; (try simp only [go_sem, simprocAttr] at hc); try (exfalso; omega))) | ((with_reducible first | refine grdS_split ?_ ?_ | refine lkG_split ?_ ?_) <;> intro hg <;> (try simp (disch := omega) only [hg, h2, h3, h5, hlt, hna, cTest,go_sem, simprocAttr]) <;> (try simp only [go_sem, simprocAttr] at hg) <;> (try (exfalso; omega))) | with_reducible intro (ep : Nat → Nat) | with_reducible apply_assumption -exfalso -symm only [*])
  exact ⟨t.notes.length - (i + 1), by omega, i + 1, rfl, by omega, rfl⟩
 ·repeat' (first | (with_reducible refine sk ?_; intro K hK) | ((with_reducible first | refine rg (h := ?_) | refine nx ?_); try simp (disch := omega) only [h2, h3, h5, hlt, cTest,go_sem, simprocAttr]) | (with_reducible refine bk ?_) | ((with_reducible refine' cE ?hv ?_ ?_); (case hv => first | rfl | (simp only [h2, h3, h5, hlt, cTest,go_sem, simprocAttr]; rfl)); all_goals (intro hc; (try simp only [go_sem, simprocAttr] at hc); try (exfalso; omega))) | ((with_reducible first | refine grdS_split ?_ ?_ | refine lkG_split ?_ ?_) <;> intro hg <;> (try simp (disch := omega) only [hg, h2, h3, h5, hlt, cTest,go_sem, simprocAttr]) <;> (try simp only [go_sem, simprocAttr] at hg) <;> (try (exfalso; omega))) | ((with_reducible refine fe ?_); refine ⟨_, (by simp only [Tryd.f13, h2, h3, h5, hlt, cTest,go_sem, simprocAttr]; rfl), ?_⟩; first | rfl | (try simp only [h2, h3, h5, hlt, cTest,go_sem, simprocAttr, seval])) | with_reducible intro (ep : Nat → Nat) | with_reducible apply_assumption -exfalso -symm only [*])
end Cp
namespace Cp
open Go
theorem fit_map {α : Type} {c : α → List Val} : ∀ {xss : List (List Val)}, (∀ es ∈ xss, ∃ x, es = c x) → ∃ l : List α, xss = l.map c
 | [], _ => ⟨[], rfl⟩
 | es :: xss, h => by
  obtain ⟨x, rfl⟩ := h es (by simp)
  obtain ⟨l, rfl⟩ := fit_map fun es he => h es (List.mem_cons_of_mem _ he)
  exact ⟨x :: l, rfl⟩
theorem fit_slice {T : Tab} {n : Nat} {t e sz : Nat} {vs : List Val} {b b2 s1 : Nat} {z z2 : Val} {p p2 : Bool} {k2 : TK} {α : Type} {c : α → List Val} (ht : T t = some { kind := .slice e, sz := s1, bytes := b, zero := z, plain := p })
  (he : T e = some { kind := k2, sz := sz, bytes := b2, zero := z2, plain := p2 }) (h : Fit T (n + 1) t vs) (hc : ∀ es, Fit T n e es → ∃ x, es = c x) : ∃ l : List α, vs = [.lst sz (l.map c)] := by
 simp only [Fit, ht] at h
 obtain ⟨sz', xss, rfl, hs, _, hx⟩ := h
 rw [he] at hs
 cases hs
 obtain ⟨l, rfl⟩ := fit_map (c := c) fun es hes => hc es (hx es hes).2
 exact ⟨l, rfl⟩
theorem fit_struct {T : Tab} {n : Nat} {t sz : Nat} {vs : List Val} {b : Nat} {z : Val} {p : Bool} {fs : List (Nat × Nat)} (ht : T t = some { kind := .struct fs, sz := sz, bytes := b, zero := z, plain := p }) (h : Fit T (n + 1) t vs) :
  vs.length = sz ∧ ∀ q ∈ fs, ∃ fi, T q.2 = some fi ∧ Fit T n q.2 ((vs.drop q.1).take fi.sz) := by
 simp only [Fit, ht] at h
 exact h
theorem fit_int {T : Tab} {n : Nat} {t : Nat} {vs : List Val} {s b : Nat} {z : Val} {p : Bool} {k : IntKind} (ht : T t = some { kind := .int k, sz := s, bytes := b, zero := z, plain := p }) (h : Fit T (n + 1) t vs) : ∃ m, vs = [.int k m] ∧ (Lit.int k m).wf = true := by
 simp only [Fit, ht] at h
 exact h
theorem fit3 {n : Nat} {vs : List Val} (h : Fit tab (n + 1) 3 vs) : ∃ m, vs = [.int .i64 m] := by
 obtain ⟨m, h, _⟩ := fit_int tab_3 h; exact ⟨m, h⟩
theorem fit_ints {n : Nat} {vs : List Val} {t b s1 : Nat} {z : Val} {p : Bool} (ht : tab t = some { kind := .slice 3, sz := s1, bytes := b, zero := z, plain := p }) (h : Fit tab (n + 2) t vs) : ∃ l : List Int, vs = [.lst 1 (ints l)] := by
 obtain ⟨l, rfl⟩ := fit_slice (c := fun m : Int => [Val.int .i64 m]) ht tab_3 h fun es he => fit3 he
 exact ⟨l, rfl⟩
theorem fit_two {n : Nat} {vs : List Val} {t b : Nat} {z : Val} {p : Bool} (ht : tab t = some { kind := .struct [(0, 3), (1, 3)], sz := 2, bytes := b, zero := z, plain := p }) (h : Fit tab (n + 2) t vs) : ∃ x y : Int, vs = [.int .i64 x, .int .i64 y] := by
 obtain ⟨hl, hq⟩ := fit_struct ht h
 match vs, hl with
 | [a, b], _ =>
  obtain ⟨fi, e, h0⟩ := hq (0, 3) (by simp)
  rw [tab_3] at e; cases e
  obtain ⟨fi, e, h1⟩ := hq (1, 3) (by simp)
  rw [tab_3] at e; cases e
  obtain ⟨x, hx⟩ := fit3 h0
  obtain ⟨y, hy⟩ := fit3 h1
  simp at hx hy
  exact ⟨x, y, by rw [hx, hy]⟩
theorem fit_span {n : Nat} {vs : List Val} (h : Fit tab (n + 2) 26 vs) : ∃ s : Span, vs = [.int .i64 s.lo, .int .i64 s.hi] := by
 obtain ⟨x, y, h⟩ := fit_two tab_26 h; exact ⟨⟨x, y⟩, h⟩
theorem fit_pt {n : Nat} {vs : List Val} (h : Fit tab (n + 2) 81 vs) : ∃ x : Pt, vs = cPt x := by
 obtain ⟨x, y, h⟩ := fit_two tab_81 h; exact ⟨⟨x, y⟩, h⟩
theorem fit_step {n : Nat} {vs : List Val} (h : Fit tab (n + 2) 123 vs) : ∃ x : StepT, vs = cStep x := by
 obtain ⟨x, y, h⟩ := fit_two tab_123 h; exact ⟨⟨x, y⟩, h⟩
theorem fit_cpl {n : Nat} {vs : List Val} (h : Fit tab (n + 3) 83 vs) : ∃ x : Cpl, vs = cCpl x := by
 obtain ⟨hl, hq⟩ := fit_struct tab_83 h
 match vs, hl with
 | [a, b, c, d, e, f], _ =>
  obtain ⟨fi, e0, h0⟩ := hq (0, 3) (by simp)
  rw [tab_3] at e0; cases e0
  obtain ⟨fi, e1, h1⟩ := hq (1, 26) (by simp)
  rw [tab_26] at e1; cases e1
  obtain ⟨fi, e2, h2⟩ := hq (3, 26) (by simp)
  rw [tab_26] at e2; cases e2
  obtain ⟨fi, e3, h3⟩ := hq (5, 3) (by simp)
  rw [tab_3] at e3; cases e3
  obtain ⟨x0, h0⟩ := fit3 h0
  obtain ⟨x1, h1⟩ := fit_span h1
  obtain ⟨x2, h2⟩ := fit_span h2
  obtain ⟨x3, h3⟩ := fit3 h3
  simp at h0 h1 h2 h3
  obtain ⟨h1, h1'⟩ := h1
  obtain ⟨h2, h2'⟩ := h2
  exact ⟨⟨x0, x1, x2, x3⟩, by rw [h0, h1, h1', h2, h2', h3]; rfl⟩
theorem fit_row {n : Nat} {vs : List Val} (h : Fit tab (n + 3) 86 vs) : ∃ x : RowT, vs = cRow x := by
 obtain ⟨hl, hq⟩ := fit_struct tab_86 h
 match vs, hl with
 | [a, b], _ =>
  obtain ⟨fi, e0, h0⟩ := hq (0, 84) (by simp)
  rw [tab_84] at e0; cases e0
  obtain ⟨fi, e1, h1⟩ := hq (1, 3) (by simp)
  rw [tab_3] at e1; cases e1
  obtain ⟨x0, h0⟩ := fit_ints tab_84 h0
  obtain ⟨x1, h1⟩ := fit3 h1
  simp at h0 h1
  exact ⟨⟨x0, x1⟩, by rw [h0, h1]; rfl⟩
theorem fit_pts {n : Nat} {vs : List Val} (h : Fit tab (n + 3) 22 vs) : ∃ l : List Pt, vs = [.lst 2 (l.map cPt)] := fit_slice tab_22 tab_81 h fun es he => fit_pt he
theorem fit_run {n : Nat} {vs : List Val} (h : Fit tab (n + 5) 28 vs) : ∃ r : RunT, vs = cRun r := by
 obtain ⟨hl, hq⟩ := fit_struct tab_28 h
 match vs, hl with
 | [a, b, c, d, e, f], _ =>
  obtain ⟨fi, e0, h0⟩ := hq (0, 3) (by simp)
  rw [tab_3] at e0; cases e0
  obtain ⟨fi, e1, h1⟩ := hq (1, 22) (by simp)
  rw [tab_22] at e1; cases e1
  obtain ⟨fi, e2, h2⟩ := hq (2, 23) (by simp)
  rw [tab_23] at e2; cases e2
  obtain ⟨fi, e3, h3⟩ := hq (3, 24) (by simp)
  rw [tab_24] at e3; cases e3
  obtain ⟨fi, e4, h4⟩ := hq (4, 26) (by simp)
  rw [tab_26] at e4; cases e4
  obtain ⟨x0, h0⟩ := fit3 h0
  obtain ⟨x1, h1⟩ := fit_pts h1
  obtain ⟨x2, h2⟩ := fit_slice tab_23 tab_83 h2 fun es he => fit_cpl he
  obtain ⟨x3, h3⟩ := fit_slice tab_24 tab_86 h3 fun es he => fit_row he
  obtain ⟨x4, h4⟩ := fit_span h4
  simp at h0 h1 h2 h3 h4
  obtain ⟨h4, h4'⟩ := h4
  exact ⟨⟨x0, x1, x2, x3, x4⟩, by rw [h0, h1, h2, h3, h4, h4']; rfl⟩
theorem fit_rules {n : Nat} {vs : List Val} (h : Fit tab (n + 5) 31 vs) : ∃ u : RulesT, vs = cRules u := by
 obtain ⟨hl, hq⟩ := fit_struct tab_31 h
 match vs, hl with
 | [a, b, c, d, e, f], _ =>
  obtain ⟨fi, e0, h0⟩ := hq (0, 29) (by simp)
  rw [tab_29] at e0; cases e0
  obtain ⟨fi, e1, h1⟩ := hq (1, 3) (by simp)
  rw [tab_3] at e1; cases e1
  obtain ⟨fi, e2, h2⟩ := hq (2, 3) (by simp)
  rw [tab_3] at e2; cases e2
  obtain ⟨fi, e3, h3⟩ := hq (3, 26) (by simp)
  rw [tab_26] at e3; cases e3
  obtain ⟨fi, e4, h4⟩ := hq (5, 3) (by simp)
  rw [tab_3] at e4; cases e4
  obtain ⟨x0, h0⟩ := fit_slice tab_29 tab_123 h0 fun es he => fit_step he
  obtain ⟨x1, h1⟩ := fit3 h1
  obtain ⟨x2, h2⟩ := fit3 h2
  obtain ⟨x3, h3⟩ := fit_span h3
  obtain ⟨x4, h4⟩ := fit3 h4
  simp at h0 h1 h2 h3 h4
  obtain ⟨h3, h3'⟩ := h3
  exact ⟨⟨x0, x1, x2, x3, x4⟩, by rw [h0, h1, h2, h3, h3', h4]; rfl⟩
theorem arg_byte {a : Val} (h : FitV tab 8 5 a) : ∃ m, a = .int .u8 m ∧ 0 ≤ m ∧ m ≤ 255 := by
 obtain ⟨ti, cs, e, h, _, rfl⟩ := h
 obtain ⟨m, rfl, hw⟩ := fit_int tab_5 h
 rw [tab_5] at e; cases e
 simp [Lit.wf, IntKind.min, IntKind.max, IntKind.signed, IntKind.bits] at hw
 exact ⟨m, rfl, by omega, by omega⟩
theorem fit_note {n : Nat} {vs : List Val} (h : Fit tab (n + 3) 54 vs) : ∃ x : NoteT, vs = cNote x ∧ 0 ≤ x.kind ∧ x.kind ≤ 255 := by
 obtain ⟨hl, hq⟩ := fit_struct tab_54 h
 match vs, hl with
 | [a, b, c, d, e], _ =>
  obtain ⟨fi, e0, h0⟩ := hq (0, 3) (by simp)
  rw [tab_3] at e0; cases e0
  obtain ⟨fi, e1, h1⟩ := hq (1, 5) (by simp)
  rw [tab_5] at e1; cases e1
  obtain ⟨fi, e2, h2⟩ := hq (2, 3) (by simp)
  rw [tab_3] at e2; cases e2
  obtain ⟨fi, e3, h3⟩ := hq (3, 26) (by simp)
  rw [tab_26] at e3; cases e3
  obtain ⟨x0, h0⟩ := fit3 h0
  obtain ⟨x1, h1, hw⟩ := fit_int tab_5 h1
  obtain ⟨x2, h2⟩ := fit3 h2
  obtain ⟨x3, h3⟩ := fit_span h3
  simp [Lit.wf, IntKind.min, IntKind.max, IntKind.signed, IntKind.bits] at hw
  simp at h0 h1 h2 h3
  obtain ⟨h3, h3'⟩ := h3
  exact ⟨⟨x0, x1, x2, x3⟩, by rw [h0, h1, h2, h3, h3']; rfl, by simp only; omega, by simp only; omega⟩
theorem fit_map3 {α : Type} {c : α → List Val} {p : α → Prop} : ∀ {xss : List (List Val)}, (∀ es ∈ xss, ∃ x, es = c x ∧ p x) → ∃ l : List α, xss = l.map c ∧ ∀ x ∈ l, p x
 | [], _ => ⟨[], rfl, fun x h => by simp at h⟩
 | es :: xss, h => by
  obtain ⟨x, rfl, hp⟩ := h es (by simp)
  obtain ⟨l, rfl, hl⟩ := fit_map3 fun es he => h es (List.mem_cons_of_mem _ he)
  exact ⟨x :: l, rfl, fun y hy => by rcases List.mem_cons.1 hy with rfl | hy; exact hp; exact hl y hy⟩
theorem fit_slice2 {T : Tab} {n : Nat} {t e sz : Nat} {vs : List Val} {b b2 s1 : Nat} {z z2 : Val} {p p2 : Bool} {k2 : TK} {α : Type} {c : α → List Val} {q : α → Prop} (ht : T t = some { kind := .slice e, sz := s1, bytes := b, zero := z, plain := p })
  (he : T e = some { kind := k2, sz := sz, bytes := b2, zero := z2, plain := p2 }) (h : Fit T (n + 1) t vs) (hc : ∀ es, Fit T n e es → ∃ x, es = c x ∧ q x) : ∃ l : List α, vs = [.lst sz (l.map c)] ∧ ∀ x ∈ l, q x := by
 simp only [Fit, ht] at h
 obtain ⟨sz', xss, rfl, hs, _, hx⟩ := h
 rw [he] at hs
 cases hs
 obtain ⟨l, rfl, hq⟩ := fit_map3 (c := c) fun es hes => hc es (hx es hes).2
 exact ⟨l, rfl, hq⟩
theorem fit_array {T : Tab} {n : Nat} {t sz m e : Nat} {vs : List Val} {b : Nat} {z : Val} {p : Bool} (ht : T t = some { kind := .array m e, sz := sz, bytes := b, zero := z, plain := p }) (h : Fit T (n + 1) t vs) :
  vs.length = sz ∧ ∀ i, i < m → ∃ fi, T e = some fi ∧ Fit T n e ((vs.drop (i * fi.sz)).take fi.sz) := by
 simp only [Fit, ht] at h
 exact h
theorem fit_lims {n : Nat} {vs : List Val} (h : Fit tab (n + 2) 32 vs) : ∃ a b c d e g : Int, vs = [.int .i64 a, .int .i64 b, .int .i64 c, .int .i64 d, .int .i64 e, .int .i64 g] := by
 obtain ⟨hl, hq⟩ := fit_array tab_32 h
 match vs, hl with
 | [a, b, c, d, e, g], _ =>
  have q := fun i hi => hq i hi
  have one : ∀ i v, i < 6 → ([a, b, c, d, e, g] : List Val)[i]? = some v → ∃ m, v = .int .i64 m := by
   intro i v hi hv
   obtain ⟨fi, ef, hf⟩ := q i hi
   rw [tab_3] at ef; cases ef
   obtain ⟨m, hm⟩ := fit3 hf
   refine ⟨m, ?_⟩
   have : ((([a, b, c, d, e, g] : List Val).drop (i * 1)).take 1)[0]? = some (.int .i64 m) := by rw [hm]; rfl
   rw [List.getElem?_take, if_pos (by decide), List.getElem?_drop, Nat.mul_one, Nat.add_zero, hv] at this
   exact Option.some.inj this
  obtain ⟨m0, rfl⟩ := one 0 a (by decide) rfl
  obtain ⟨m1, rfl⟩ := one 1 b (by decide) rfl
  obtain ⟨m2, rfl⟩ := one 2 c (by decide) rfl
  obtain ⟨m3, rfl⟩ := one 3 d (by decide) rfl
  obtain ⟨m4, rfl⟩ := one 4 e (by decide) rfl
  obtain ⟨m5, rfl⟩ := one 5 g (by decide) rfl
  exact ⟨m0, m1, m2, m3, m4, m5, rfl⟩
def NotesU (t : TestT) : Prop := ∀ n ∈ t.notes, 0 ≤ n.kind ∧ n.kind ≤ 255
set_option maxHeartbeats 2000000 in
theorem fit_test {n : Nat} {vs : List Val} (h : Fit tab (n + 6) 35 vs) : ∃ t : TestT, vs = cTest t ∧ NotesU t := by
 obtain ⟨hl, hq⟩ := fit_struct tab_35 h
 have cut : ∀ (vs : List Val), vs.length = 23 → vs = vs.take 1 ++ ((vs.drop 1).take 6 ++ ((vs.drop 7).take 6 ++ ((vs.drop 13).take 2 ++ ((vs.drop 15).take 1 ++ ((vs.drop 16).take 6 ++ (vs.drop 22).take 1))))) := by
  intro vs hl
  have d : ∀ (a k : Nat), vs.drop a = (vs.drop a).take k ++ vs.drop (a + k) := fun a k => by rw [← List.drop_drop, List.take_append_drop]
  have e : (vs.drop 22).take 1 = vs.drop 22 := List.take_of_length_le (by rw [List.length_drop]; omega)
  rw [e, ← d 16 6, ← d 15 1, ← d 13 2, ← d 7 6, ← d 1 6]
  exact (List.take_append_drop 1 vs).symm
 obtain ⟨fi, e0, h0⟩ := hq (0, 3) (by simp)
 rw [tab_3] at e0; cases e0
 obtain ⟨fi, e1, h1⟩ := hq (1, 28) (by simp)
 rw [tab_28] at e1; cases e1
 obtain ⟨fi, e2, h2⟩ := hq (7, 31) (by simp)
 rw [tab_31] at e2; cases e2
 obtain ⟨fi, e3, h3⟩ := hq (13, 26) (by simp)
 rw [tab_26] at e3; cases e3
 obtain ⟨fi, e4, h4⟩ := hq (15, 3) (by simp)
 rw [tab_3] at e4; cases e4
 obtain ⟨fi, e5, h5⟩ := hq (16, 32) (by simp)
 rw [tab_32] at e5; cases e5
 obtain ⟨fi, e6, h6⟩ := hq (22, 33) (by simp)
 rw [tab_33] at e6; cases e6
 obtain ⟨x0, h0⟩ := fit3 h0
 obtain ⟨x1, h1⟩ := fit_run h1
 obtain ⟨x2, h2⟩ := fit_rules h2
 obtain ⟨x3, h3⟩ := fit_span h3
 obtain ⟨x4, h4⟩ := fit3 h4
 obtain ⟨l0, l1, l2, l3, l4, l5, h5⟩ := fit_lims h5
 obtain ⟨x6, h6, hu⟩ := fit_slice2 tab_33 tab_54 h6 fun es he => fit_note he
 simp only [List.drop_zero] at h0
 refine ⟨⟨x0, x1, x2, x3, x4, l0, l1, l2, l3, l4, l5, x6⟩, ?_, hu⟩
 rw [cut vs hl, h0, h1, h2, h3, h4, h5, h6]
 rfl
theorem arg_test {a : Val} (h : FitV tab 8 35 a) : ∃ t : TestT, a = encTest t ∧ NotesU t := by
 obtain ⟨ti, cs, e, h, _, rfl⟩ := h
 obtain ⟨l, rfl, hu⟩ := fit_test h
 rw [tab_35] at e; cases e; exact ⟨l, rfl, hu⟩
end Cp
namespace Cp
open Go Go.Proofs
set_option maxRecDepth 10000
set_option maxHeartbeats 1000000
structure TestG (t : TestT) : Prop where
 sm : RunSm t.run
 steps : t.rules.steps.length ≤ 10
 notes : t.notes.length ≤ 80
 tb : TestB t
theorem testG {t : TestT} (h : greatT t = false) (hu : NotesU t) : TestG t := by
 unfold greatT at h
 rw [Bool.or_eq_false_iff, decide_eq_false_iff_not] at h
 obtain ⟨h1, h2⟩ := great_sm h.1
 exact ⟨h1, h2, by omega, h1.b, ⟨by omega⟩, by omega, hu⟩
theorem failsV_tup {t : TestT} {c : Int} : ∃ (F : FailT) (e : Int), failsV t c = .tup [.agg (cFail F), .int .i64 e] := by
 unfold failsV; (repeat' split) <;> exact ⟨_, _, rfl⟩
theorem firstV_tup {t : TestT} {c : Int} : ∃ (F : FailT) (e : Int), firstV t c = .tup [.agg (cFail F), .int .i64 e] := by
 unfold firstV; (repeat' split) <;> exact ⟨_, _, rfl⟩
theorem fails_law (t : TestT) (hu : NotesU t) (c : Int) (hc0 : 0 ≤ c) (hc1 : c ≤ 255) (l : Int) (hl0 : 0 ≤ l) (hl1 : l ≤ 255) : PureC Tryd.prog 3 [encTest t, .int .u8 c, .int .u8 l] (.bool true) := by
 have hg := r2great_ok t
 simp only [encTest, cTest] at hg
 cases hgr : greatT t with
 | true =>
  rw [hgr] at hg
  refine PureC_of (fn := Tryd.f3) tabOK (by kernel_rfl) rfl (by kernel_rfl) (by simp [Tryd.f3]) (by simp [noids, noid, noidss, go_sem, encTest, cTest]) (by first | rfl | simp [noids, noid, noidss, go_sem, encTest, cTest]) ?_
  intro X hX0 hXs
  repeat' (first | (with_reducible refine sk ?_; intro K hK) | ((first | (with_reducible first | refine rg (h := ?_) | refine rgS [7, 8, 10, 12, 14] (h := ?_) | refine nx ?_) | refine pK (hg) ?_); try simp (disch := omega) only [encTest, cTest,go_sem, simprocAttr]) | (with_reducible refine bk ?_) | ((with_reducible refine' cE ?hv ?_ ?_); (case hv => first | rfl | (simp only [encTest, cTest,go_sem, simprocAttr]; rfl)); all_goals (intro hc; (try simp only [go_sem, simprocAttr] at hc); try (exfalso; omega))) | ((with_reducible first | refine grdS_split ?_ ?_ | refine lkG_split ?_ ?_) <;> intro hg <;> (try simp (disch := omega) only [hg, encTest, cTest,go_sem, simprocAttr]) <;> (try simp only [go_sem, simprocAttr] at hg) <;> (try (exfalso; omega))) | ((with_reducible refine fe ?_); refine ⟨_, (by simp only [Tryd.f3, encTest, cTest,go_sem, simprocAttr]; rfl), ?_⟩; first | rfl | (try simp only [encTest, cTest,go_sem, simprocAttr, seval])) | with_reducible intro (ep : Nat → Nat) | with_reducible apply_assumption -exfalso -symm only [*])
 | false =>
  rw [hgr] at hg
  obtain ⟨hsm, hst, hnt, htb⟩ := testG hgr hu
  have h1 := r2twin_ok t hsm (by omega) (by omega)
  have h2 := cFails_ok t htb c ⟨hc0, hc1⟩
  have h3 := r2Fails_ok t htb c ⟨hc0, hc1⟩
  have h4 := cFirst_ok t htb l ⟨hl0, hl1⟩
  have h5 := r2First_ok t htb l ⟨hl0, hl1⟩
  have h6 := cCheck_ok t htb
  have h7 := r2Check_ok t htb
  have h8 := r2same_ok t hsm.b (by omega) (by omega)
  obtain ⟨F, e, hF⟩ := @failsV_tup t c
  obtain ⟨G, d, hG⟩ := @firstV_tup t l
  rw [hF] at h2 h3
  rw [hG] at h4 h5
  simp only [encTest, cTest, cFail] at h1 h2 h3 h4 h5 h6 h7 h8
  generalize checkT t = k at *
  refine PureC_of (fn := Tryd.f3) tabOK (by kernel_rfl) rfl (by kernel_rfl) (by simp [Tryd.f3]) (by simp [noids, noid, noidss, go_sem, encTest, cTest]) (by first | rfl | simp [noids, noid, noidss, go_sem, encTest, cTest]) ?_
  intro X hX0 hXs
  repeat' (first | (with_reducible refine sk ?_; intro K hK) | ((first | (with_reducible first | refine rg (h := ?_) | refine rgS [7, 8, 10, 12, 14] (h := ?_) | refine nx ?_) | refine pK (hg) ?_ | refine pK (h1) ?_ | refine pK (h2) ?_ | refine pK (h3) ?_ | refine pK (h4) ?_ | refine pK (h5) ?_ | refine pK (h6) ?_ | refine pK (h7) ?_ | refine pK (h8) ?_); try simp (disch := omega) only [encTest, cTest,go_sem, simprocAttr]) | (with_reducible refine bk ?_) | ((with_reducible refine' cE ?hv ?_ ?_); (case hv => first | rfl | (simp only [encTest, cTest,go_sem, simprocAttr]; rfl)); all_goals (intro hc; (try simp only [go_sem, simprocAttr] at hc); try (exfalso; omega))) | ((with_reducible first | refine grdS_split ?_ ?_ | refine lkG_split ?_ ?_) <;> intro hg <;> (try simp (disch := omega) only [hg, encTest, cTest,go_sem, simprocAttr]) <;> (try simp only [go_sem, simprocAttr] at hg) <;> (try (exfalso; omega))) | ((with_reducible refine fe ?_); refine ⟨_, (by simp only [Tryd.f3, encTest, cTest,go_sem, simprocAttr]; rfl), ?_⟩; first | rfl | (try simp only [encTest, cTest,go_sem, simprocAttr, seval])) | with_reducible intro (ep : Nat → Nat) | with_reducible apply_assumption -exfalso -symm only [*])
end Cp
namespace Cp
open Go Go.Proofs
set_option maxRecDepth 100000
theorem shows_one {W : World} {fuel : Nat} {v : Value} {cs : List Value} {b : UInt8} {r : List UInt8} {q : List MemPlace} {f0 : FuncId} (hl : cs.length = 1) (hv : cs = [v])
  (hone : ((List.range Tryd.prog.funcs.size).filter fun f => (Tryd.prog.funcs[f]?).any (·.name.toUTF8.data.toList == b :: r)) = [f0])
  (h : DataW.trod (funcToken Tryd.prog) Tryd.prog W 0 (fun _ => true) true fuel 107 cs = some (.agg [.held (b :: r)], q)) : v = .func (.func f0) #[] #[] := by
 subst hv
 obtain ⟨xs, m, rfl, e1, _, hxl, hf⟩ := DataW.trod_struct Tryd.underlying107 h
 simp only [Prod.mk.injEq, DataW.agg.injEq] at e1
 have h0 : DataW.trod (funcToken Tryd.prog) Tryd.prog W 0 (fun _ => true) true m 106 (([v].drop 0).take (Tryd.prog.cellsOf 106)) = xs[0]? := hf 0 _ rfl
 have hc1 : Tryd.prog.cellsOf 106 = 1 := by kernel_rfl
 rw [hc1] at h0
 match xs, hxl with
 | [x], _ =>
  obtain ⟨x1, x2⟩ := x
  simp only [List.map_cons, List.map_nil, List.cons.injEq, and_true] at e1
  simp only [List.drop_zero, List.take_succ_cons, List.take_zero, List.getElem?_cons_zero] at h0
  rw [← e1.1] at h0
  exact func_of_trod Tryd.underlying106 hone h0
def showsD : DataW Unit := .agg [.agg [.iface "func" (.lit (.string [99, 111, 116, 116, 111, 110, 112, 97, 100, 47, 99, 108, 97, 115, 115, 46, 115, 104, 111, 119, 115, 36, 49]))], .agg [.iface "func" (.lit (.string [99, 111, 116, 116, 111, 110, 112, 97, 100, 47, 99, 108, 97, 115, 115, 46, 115, 104, 111, 119, 115, 36, 50]))]]
theorem glb_ok {W : World} (h : laidMetH Tryd.prog [("cottonpad/class.shows", .iface "func table" showsD)] W) : GlbOK W := by
 obtain ⟨g, t, cs, fuel, p, e1, e2, e3, e4⟩ := h.funcs (n := "cottonpad/class.shows") (d := showsD) (List.mem_singleton.2 rfl)
 have hg : Tryd.prog.globalNamed "cottonpad/class.shows" = some 0 := by kernel_rfl
 obtain rfl : 0 = g := Option.some.inj (hg.symm.trans e1)
 have ht : (Tryd.prog.globals[0]?).map (·.type) = some 108 := by kernel_rfl
 obtain rfl : 108 = t := Option.some.inj (ht.symm.trans e2)
 have hcell := fun i => World.var?_cell e1 e3 i
 obtain ⟨xs, m, rfl, x1, hl, hxl, hf⟩ := DataW.trod_array Tryd.underlying108 e4
 have hc1 : Tryd.prog.cellsOf 107 = 1 := by kernel_rfl
 have hc2 : Tryd.prog.cellsOf 108 = 2 := by kernel_rfl
 rw [hc2] at hl
 obtain ⟨cs⟩ := cs
 match cs, hl, xs, hxl with
 | [v0, v1], _, [y0, y1], _ =>
  have h0 := hf 0 (by decide)
  have h1 := hf 1 (by decide)
  simp only [hc1, Nat.zero_mul, Nat.one_mul, List.drop_zero, List.drop_succ_cons, List.take_succ_cons, List.take_zero, List.getElem?_cons_zero, List.getElem?_cons_succ] at h0 h1
  obtain ⟨y0, z0⟩ := y0
  obtain ⟨y1, z1⟩ := y1
  simp only [Prod.mk.injEq, List.map_cons, List.map_nil] at x1
  have hx := x1.1
  have hd : showsD.funcsOut = .agg [.agg [.held [99, 111, 116, 116, 111, 110, 112, 97, 100, 47, 99, 108, 97, 115, 115, 46, 115, 104, 111, 119, 115, 36, 49]], .agg [.held [99, 111, 116, 116, 111, 110, 112, 97, 100, 47, 99, 108, 97, 115, 115, 46, 115, 104, 111, 119, 115, 36, 50]]] := by kernel_rfl
  rw [hd] at hx
  simp only [DataW.agg.injEq, List.cons.injEq, and_true] at hx
  rw [← hx.1] at h0
  rw [← hx.2] at h1
  have r0 := shows_one (f0 := 136) rfl rfl (by kernel_rfl) h0
  have r1 := shows_one (f0 := 137) rfl rfl (by kernel_rfl) h1
  subst r0 r1
  have c0 := hcell 0
  have c1 := hcell 1
  intro g cs hge
  unfold GE at hge
  split at hge
  ·rename_i h0; subst h0
   cases hge
   refine .pim _ 0 0 (fun j => if j = 0 then .func (.func 136) #[] #[] else .func (.func 137) #[] #[]) (cell_lt c0) (fun j v hj => ?_) (fun j v hj => ?_) (fun j v hj => ?_)
   ·match j, hj with
    | 0, hj => simpa using c0
    | 1, hj => simpa using c1
    | j + 2, hj => simp at hj
   ·match j, hj with
    | 0, hj => cases hj; rfl
    | 1, hj => cases hj; rfl
    | j + 2, hj => simp at hj
   ·match j, hj with
    | 0, hj => cases hj; exact .fn _ _ _ rfl (fun i v h => by simp at h)
    | 1, hj => cases hj; exact .fn _ _ _ rfl (fun i v h => by simp at h)
    | j + 2, hj => simp at hj
  ·cases hge
end Cp
