/- Rules, facts and contracts that the statement's proof leans on. Conditions: none. -/
import Derived.Test.YtfpbidbjgigljaaP9
set_option linter.unusedVariables false
set_option linter.unusedSimpArgs false
set_option linter.unusedSectionVars false
namespace Cp
open Go Go.Proofs
set_option maxRecDepth 10000
set_option maxHeartbeats 1000000
theorem without_fro (n : NetT) (hs : List HeadT) (e36 e33 e34 ver : Nat) (out : List Int) (hlo : out.length ≤ 100000) (hp : out.Pairwise (· < ·)) (g : FuncId) (caps : List Val) (H0 : Hp)
  (h36 : H0 436 = some (e36, .fro 10 [cPlant n hs e33 e34 (n.pipes.length + 1)])) (h34 : H0 434 = some (e34, .map ver [])) (R : Hp → Prop)
  (hg : ∀ (ver' : Nat) (H : Hp), (∀ j, ¬ j = 434 → H j = H0 j) → H 434 = some (e34, .map ver' (imap .i64 (offM out))) → ACall Try.prog g caps H fun v H' => v = .tup [] ∧ H' 436 = H 436 ∧ (∃ ver2, H' 434 = some (e34, .map ver2 (imap .i64 (offM out)))) ∧ R H') :
  ACall Try.prog 58 [.ptr 436 e36 10 0 0, .lst 1 (ints out), .fn g caps] H0 fun v H' => v = .tup [] ∧ ∃ H2 ver2, R H2 ∧ (∀ j, ¬ j = 434 → H' j = H2 j) ∧ H' 434 = some (e34, .map ver2 []) := by
 refine ACall_of (fn := Try.f58) tabOK (by kernel_rfl) rfl (by kernel_rfl) (by simp [Try.f58]) ?_
 intro X hX0 hXs
 repeat' (first | ((fail_if_success (with_reducible refine AW_at (id := 0) ?_)); with_reducible refine sk ?_; intro K hK) | ((with_reducible first | refine rg (md := { base := 1400, own := [], imp := [23] }) (h := ?_) | refine nx ?_); try simp (disch := omega) only [go_sem, simprocAttr]) | (with_reducible refine bk ?_) | ((with_reducible refine' cE ?hv ?_ ?_); (case hv => first | rfl | (simp only [go_sem, simprocAttr]; rfl)); all_goals (intro hc; (try simp only [go_sem, simprocAttr] at hc); try (exfalso; omega))) | ((with_reducible refine fe ?_); refine ⟨_, (by simp only [Try.f58, go_sem, simprocAttr]; rfl), ?_⟩; first | rfl | (try simp only [go_sem, simprocAttr, seval])) | with_reducible intro (ep : Nat → Nat) | with_reducible apply_assumption -exfalso -symm only [*])
 have hcut : ∀ f H, (f 0 = .ptr 436 e36 10 0 0 ∧ f 1 = .lst 1 (ints out) ∧ f 2 = .fn g caps) ∧ (∀ j, ¬ j = 434 → H j = H0 j) ∧ (∃ ver', H 434 = some (e34, .map ver' (imap .i64 (offM out)))) → K f H := by
  rintro f H ⟨⟨h0, h1, h2⟩, hlow, ver', hm⟩
  refine hK f H ?_
  clear hK
  have k36 : H 436 = some (e36, .fro 10 [cPlant n hs e33 e34 (n.pipes.length + 1)]) := by rw [hlow _ (by decide), h36]
  repeat' (first | ((fail_if_success (with_reducible refine AW_at (id := 6) ?_)); with_reducible refine sk ?_; intro K hK) | ((first | (with_reducible first | refine rg (md := { base := 1400, own := [], imp := [23] }) (h := ?_) | refine nx ?_) | refine pK (hg ver' H hlow hm) ?_); try simp (disch := omega) only [h0, h1, h2,go_sem, simprocAttr]) | (with_reducible refine bk ?_) | ((with_reducible refine' cE ?hv ?_ ?_); (case hv => first | rfl | (simp only [h0, h1, h2,go_sem, simprocAttr]; rfl)); all_goals (intro hc; (try simp only [go_sem, simprocAttr] at hc); try (exfalso; omega))) | (first | refine iK (hg ver' H hlow hm) ?_) | ((with_reducible refine fe ?_); refine ⟨_, (by simp only [Try.f58, h0, h1, h2,go_sem, simprocAttr]; rfl), ?_⟩; first | rfl | (try simp only [h0, h1, h2,go_sem, simprocAttr, seval])) | with_reducible intro (ep : Nat → Nat) | with_reducible apply_assumption -exfalso -symm only [*])
  rintro v H2 ⟨rfl, k36', ⟨ver2, hm2⟩, hR⟩
  rw [k36] at k36'
  simp only [go_sem, simprocAttr]
  repeat' (first | (with_reducible refine sk ?_; intro K hK) | ((with_reducible first | refine rg (md := { base := 1400, own := [], imp := [23] }) (h := ?_) | refine nx ?_); try simp (disch := omega) only [h0, h1,go_sem, simprocAttr]) | (with_reducible refine bk ?_) | ((with_reducible refine' cE ?hv ?_ ?_); (case hv => first | rfl | (simp only [h0, h1,go_sem, simprocAttr]; rfl)); all_goals (intro hc; (try simp only [go_sem, simprocAttr] at hc); try (exfalso; omega))) | with_reducible intro (ep : Nat → Nat) | with_reducible apply_assumption -exfalso -symm only [*])
  refine AW_range tabOK out.length (fun k f H => (f 0 = .ptr 436 e36 10 0 0 ∧ f 24 = .lst 1 (ints out)) ∧ (∀ j, ¬ j = 434 → H j = H2 j) ∧ ∃ v, H 434 = some (e34, .map v (imap .i64 (offM (out.drop k))))) (by omega) (by rw [hXs]; decide) (by decide) (by (first | rfl | (simp only [go_sem, simprocAttr]; done) | (simp only [go_sem, simprocAttr]; rfl))) (by (first | rfl | (simp only [go_sem, simprocAttr]; done) | (simp only [go_sem, simprocAttr]; rfl)))
   ⟨by (and_intros <;> first | rfl | (simp only [h0, h1, go_sem, simprocAttr]; done) | (simp only [h0, h1, go_sem, simprocAttr]; rfl)), fun j _ => rfl, ver2, by rw [List.drop_zero]; exact hm2⟩ ?_ ?_
  ·clear h0 h1 h2 hm
   rintro k f H3 hk h26 h25 ⟨⟨h0, h24⟩, hlow3, v, hm⟩
   obtain ⟨x, hx⟩ : ∃ x, out[k]? = some x := ⟨_, List.getElem?_eq_getElem hk⟩
   have q36 : H3 436 = some (e36, .fro 10 [cPlant n hs e33 e34 (n.pipes.length + 1)]) := by rw [hlow3 _ (by decide), k36']
   rw [drop_cons hx] at hm
   have hf : findI x (offM (x :: out.drop (k + 1))) 0 = some (0, .bool true) := by simp [offM, findI]
   have he : (imap .i64 (offM (x :: out.drop (k + 1)))).eraseIdx 0 = imap .i64 (offM (out.drop (k + 1))) := by simp [imap, offM]
   repeat' (first | (with_reducible refine sk ?_; intro K hK) | ((with_reducible first | refine rg (md := { base := 1400, own := [], imp := [23] }) (h := ?_) | refine nx ?_); try simp (disch := omega) only [h0, h24, h25, h26, hx, q36, hm, hf, he, cPlant,go_sem, simprocAttr]) | (with_reducible refine bk ?_) | ((with_reducible refine' cE ?hv ?_ ?_); (case hv => first | rfl | (simp only [h0, h24, h25, h26, hx, q36, hm, hf, he, cPlant,go_sem, simprocAttr]; rfl)); all_goals (intro hc; (try simp only [go_sem, simprocAttr] at hc); try (exfalso; omega))) | with_reducible intro (ep : Nat → Nat) | with_reducible apply_assumption -exfalso -symm only [*])
   exact ⟨fun j hj => by rw [if_neg hj]; exact hlow3 j hj, _, rfl⟩
  ·clear h0 h1 h2 hm
   rintro f H3 h26 h25 ⟨⟨h0, h24⟩, hlow3, v, hm⟩
   rw [drop_none (Nat.le_refl _)] at hm
   refine FnQ_end (Or.inr rfl) (.refl _) (by simp only [Try.f58, go_sem, simprocAttr]; rfl) ?_
   exact ⟨rfl, H2, v, hR, hlow3, hm⟩
 clear hK
 repeat' (first | (with_reducible refine sk ?_; intro K hK) | ((with_reducible first | refine rg (md := { base := 1400, own := [], imp := [23] }) (h := ?_) | refine nx ?_); try simp (disch := omega) only [go_sem, simprocAttr]) | (with_reducible refine bk ?_) | ((with_reducible refine' cE ?hv ?_ ?_); (case hv => first | rfl | (simp only [go_sem, simprocAttr]; rfl)); all_goals (intro hc; (try simp only [go_sem, simprocAttr] at hc); try (exfalso; omega))) | with_reducible intro (ep : Nat → Nat) | with_reducible apply_assumption -exfalso -symm only [*])
 refine AW_range tabOK out.length (fun k f H => (f 0 = .ptr 436 e36 10 0 0 ∧ f 1 = .lst 1 (ints out) ∧ f 2 = .fn g caps ∧ f 10 = .lst 1 (ints out)) ∧ (∀ j, ¬ j = 434 → H j = H0 j) ∧ ∃ v, H 434 = some (e34, .map v (imap .i64 (offM (out.take k))))) (by omega) (by rw [hXs]; decide) (by decide) (by (first | rfl | (simp only [go_sem, simprocAttr]; done) | (simp only [go_sem, simprocAttr]; rfl))) (by (first | rfl | (simp only [go_sem, simprocAttr]; done) | (simp only [go_sem, simprocAttr]; rfl)))
  ⟨by (and_intros <;> first | rfl | (simp only [go_sem, simprocAttr]; done) | (simp only [go_sem, simprocAttr]; rfl)), fun j _ => rfl, ver, by rw [List.take_zero]; exact h34⟩ ?_ ?_
 ·clear hcut
  rintro k f H3 hk h12 h11 ⟨⟨h0, h1, h2, h10⟩, hlow3, v, hm⟩
  obtain ⟨x, hx⟩ : ∃ x, out[k]? = some x := ⟨_, List.getElem?_eq_getElem hk⟩
  have q36 : H3 436 = some (e36, .fro 10 [cPlant n hs e33 e34 (n.pipes.length + 1)]) := by rw [hlow3 _ (by decide), h36]
  have hf : findI x (offM (out.take k)) 0 = none := findI_end (v := .any) fun p hq => by
   obtain ⟨y, hy, rfl⟩ := List.mem_map.1 hq
   obtain ⟨i, hi⟩ := List.mem_iff_getElem?.1 hy
   have hik : i < k := by have := (List.getElem?_eq_some_iff.1 hi).1; simp at this; omega
   rw [List.getElem?_take_of_lt hik] at hi
   obtain ⟨z1, rfl⟩ := List.getElem?_eq_some_iff.1 hi
   obtain ⟨z2, rfl⟩ := List.getElem?_eq_some_iff.1 hx
   have := List.pairwise_iff_getElem.1 hp i k z1 z2 hik
   simp only; omega
  repeat' (first | (with_reducible refine sk ?_; intro K hK) | ((with_reducible first | refine rg (md := { base := 1400, own := [], imp := [23] }) (h := ?_) | refine nx ?_); try simp (disch := omega) only [h0, h1, h2, h10, h11, h12, hx, q36, hm, hf, cPlant,go_sem, simprocAttr]) | (with_reducible refine bk ?_) | ((with_reducible refine' cE ?hv ?_ ?_); (case hv => first | rfl | (simp only [h0, h1, h2, h10, h11, h12, hx, q36, hm, hf, cPlant,go_sem, simprocAttr]; rfl)); all_goals (intro hc; (try simp only [go_sem, simprocAttr] at hc); try (exfalso; omega))) | with_reducible intro (ep : Nat → Nat) | with_reducible apply_assumption -exfalso -symm only [*])
  exact ⟨fun j hj => by rw [if_neg hj]; exact hlow3 j hj, _, by rw [offM_snoc, take_snoc' hx]⟩
 ·rintro f H3 h12 h11 ⟨⟨h0, h1, h2, h10⟩, hlow3, v, hm⟩
  rw [List.take_of_length_le (Nat.le_refl _)] at hm
  repeat' (first | (with_reducible refine sk ?_; intro K hK) | ((with_reducible first | refine rg (md := { base := 1400, own := [], imp := [23] }) (h := ?_) | refine nx ?_); try simp (disch := omega) only [h0, h1, h2,go_sem, simprocAttr]) | (with_reducible refine bk ?_) | ((with_reducible refine' cE ?hv ?_ ?_); (case hv => first | rfl | (simp only [h0, h1, h2,go_sem, simprocAttr]; rfl)); all_goals (intro hc; (try simp only [go_sem, simprocAttr] at hc); try (exfalso; omega))) | with_reducible intro (ep : Nat → Nat) | with_reducible apply_assumption -exfalso -symm only [*])
  exact ⟨by (and_intros <;> first | rfl | (simp only [h0, h1, h2, go_sem, simprocAttr]; done) | (simp only [h0, h1, h2, go_sem, simprocAttr]; rfl)), hlow3, v, hm⟩
end Cp
namespace Cp
open Go Go.Proofs
set_option maxRecDepth 10000
set_option maxHeartbeats 1000000
theorem xf155 {a : Int} {b : Bool} : xfield tab 155 (.agg [.int .i64 a, .bool b]) 1 = some (.bool b) := by rfl
def getStep (n : NetT) (hs : List HeadT) (s : LackT × Bool) (out : List Int) : LackT × Bool :=
 (if (lackS n hs out false).2 = true ∧ s.1.known = 2 then ⟨0, (lackS n hs out false).1, out⟩ else s.1, s.2 || !(lackS n hs out true).2)
def cTold (t : LackT) : List Val := [.int .u8 t.known, .int .i64 t.head, if t.known = 2 then .nils else .lst 1 (ints t.out)]
theorem gets1_ok (n : NetT) (hF : NetF n) (hs : List HeadT) (h5 : heads500 hs) (hsl : hs.length ≤ 12) (hnd : ∀ h ∈ hs, 1 ≤ h.node ∧ h.node ≤ n.pipes.length) (out : List Int) (ho : outOK n out = true) (e36 e33 e34 ver e3 e4 e5 e6 : Nat) (t : LackT) (ht : t.known = 0 ∨ t.known = 2) (g : Bool) (H0 : Hp)
  (g36 : H0 436 = some (e36, .fro 10 [cPlant n hs e33 e34 (n.pipes.length + 1)])) (g33 : H0 433 = some (e33, .arr 1 (ints (flowL n.pipes (n.pipes.length + 1) hs)))) (g34 : H0 434 = some (e34, .map ver (imap .i64 (offM out))))
  (g3 : H0 603 = some (e3, .arr 3 [cTold t])) (g4 : H0 604 = some (e4, .arr 1 [[.bool g]])) (g5 : H0 605 = some (e5, .arr 4 [[.fn (sgF false) [], .fn (sgF true) [], .fn (sgF true) [], .fn (sgF false) []]])) (g6 : H0 606 = some (e6, .arr 1 [[.lst 1 (ints out)]]))
  (hroom : H0 1208 = none ∧ H0 1604 = none ∧ H0 1605 = none ∧ H0 1607 = none) :
  ACall Try.prog 95 [.pim [.ptr 436 e36 10 0 0], .ptr 605 e5 4 0 0, .ptr 603 e3 3 0 0, .ptr 606 e6 1 0 0, .ptr 604 e4 1 0 0] H0 fun v H' => v = .tup [] ∧ (∀ j, ¬ j = 603 → ¬ j = 604 → ¬ j = 1705 → H' j = H0 j) ∧
   H' 603 = some (e3, .arr 3 [cTold (getStep n hs (t, g) out).1]) ∧ H' 604 = some (e4, .arr 1 [[.bool (getStep n hs (t, g) out).2]]) := by
 refine ACall_of (fn := Try.f95) tabOK (by kernel_rfl) rfl (by kernel_rfl) (by simp [Try.f95]) ?_
 intro X hX0 hXs
 refine AW_lose 1705 fun H1 w5 hs1 => ?_
 obtain ⟨r0, r1, r2, r3⟩ := hroom
 have k36 := (hs1 436 (by decide)).trans g36
 have k33 := (hs1 433 (by decide)).trans g33
 have k34 := (hs1 434 (by decide)).trans g34
 have k3 := (hs1 603 (by decide)).trans g3
 have k4 := (hs1 604 (by decide)).trans g4
 have k5 := (hs1 605 (by decide)).trans g5
 have k6 := (hs1 606 (by decide)).trans g6
 have lk : ∀ (best : Bool) (H : Hp), (∀ j, ¬ j = 603 → ¬ j = 604 → ¬ j = 1705 → H j = H0 j) → LookC Try.prog 96 [.ptr 436 e36 10 0 0, endV best] H (.agg (cLk (lackS n hs out best))) := fun best H h =>
  lacks_look n hF hs h5 hsl hnd out ho best e36 e33 e34 H ⟨by rw [h _ (by decide) (by decide) (by decide), g36]; rfl, by rw [h _ (by decide) (by decide) (by decide), g33]; rfl, ver, by rw [h _ (by decide) (by decide) (by decide), g34]; rfl⟩
   ⟨by rw [h _ (by decide) (by decide) (by decide), r0], by rw [h _ (by decide) (by decide) (by decide), r1], by rw [h _ (by decide) (by decide) (by decide), r2], by rw [h _ (by decide) (by decide) (by decide), r3]⟩
 have hsame : ∀ j, ¬ j = 603 → ¬ j = 604 → ¬ j = 1705 → H1 j = H0 j := fun j _ _ h => hs1 j h
 simp only [getStep]
 obtain ⟨⟨i0, b0⟩, hl0⟩ : ∃ p, lackS n hs out false = p := ⟨_, rfl⟩
 obtain ⟨⟨i1, b1⟩, hl1⟩ : ∃ p, lackS n hs out true = p := ⟨_, rfl⟩
 have l0 := lk false H1 hsame
 have l1 := lk true
 rw [hl0] at l0 ⊢
 rw [hl1] at l1 ⊢
 simp only [endV, cLk, Bool.not_false, Bool.not_true] at l0 l1
 clear lk hs1 g36 g33 g34 g3 g4 g5 g6 r0 r1 r2 r3
 simp only [cTold] at k3 ⊢
 cases b0 <;> cases b1 <;> cases g <;> rcases ht with ht | ht <;> simp only [ht] at k3
 ·repeat' (first | (with_reducible refine sk ?_; intro K hK) | ((first | (with_reducible first | refine rgL [] [9, 26] (md := { base := 1700, own := [] }) (h := ?_) | refine rgL [5] [9, 26] (md := { base := 1700, own := [] }) (h := ?_) | refine nx ?_) | refine pK (l0) ?_ | refine pK (l1 _ (fun j q1 q2 q3 => by simp only [upd_ne _ _ q1, upd_ne _ _ q2, upd_ne _ _ q3]; exact hsame j q1 q2 q3)) ?_ | refine lK (l0) ?_ | refine lK (l1 _ (fun j q1 q2 q3 => by simp only [upd_ne _ _ q1, upd_ne _ _ q2, upd_ne _ _ q3]; exact hsame j q1 q2 q3)) ?_); try simp (disch := omega) only [k36, k3, k4, k5, k6, w5, ht, xf155,go_sem, simprocAttr]) | (with_reducible refine bk ?_) | ((with_reducible refine' cE ?hv ?_ ?_); (case hv => first | rfl | (simp only [k36, k3, k4, k5, k6, w5, ht, xf155,go_sem, simprocAttr]; rfl)); all_goals (intro hc; (try simp only [go_sem, simprocAttr] at hc); try (exfalso; omega))) | ((with_reducible first | refine grdS_split ?_ ?_ | refine lkG_split ?_ ?_) <;> intro hg <;> (try simp (disch := omega) only [hg, k36, k3, k4, k5, k6, w5, ht, xf155,go_sem, simprocAttr]) <;> (try simp only [go_sem, simprocAttr] at hg) <;> (try (exfalso; omega))) | with_reducible intro (ep : Nat → Nat) | with_reducible apply_assumption -exfalso -symm only [*])
  refine FnQ_end (Or.inr rfl) (.refl _) (by simp only [Try.f95, go_sem, simprocAttr]; rfl) ?_
  exact ⟨rfl, fun j q1 q2 q3 => by simp only [upd_ne _ _ q1, upd_ne _ _ q2, upd_ne _ _ q3]; exact hsame j q1 q2 q3, by (first | rfl | (simp only [k3, ht, go_sem, simprocAttr]; done) | (simp only [k3, ht, go_sem, simprocAttr]; rfl)), by (first | rfl | (simp only [k4, go_sem, simprocAttr]; done) | (simp only [k4, go_sem, simprocAttr]; rfl))⟩
 ·repeat' (first | (with_reducible refine sk ?_; intro K hK) | ((first | (with_reducible first | refine rgL [] [9, 26] (md := { base := 1700, own := [] }) (h := ?_) | refine rgL [5] [9, 26] (md := { base := 1700, own := [] }) (h := ?_) | refine nx ?_) | refine pK (l0) ?_ | refine pK (l1 _ (fun j q1 q2 q3 => by simp only [upd_ne _ _ q1, upd_ne _ _ q2, upd_ne _ _ q3]; exact hsame j q1 q2 q3)) ?_ | refine lK (l0) ?_ | refine lK (l1 _ (fun j q1 q2 q3 => by simp only [upd_ne _ _ q1, upd_ne _ _ q2, upd_ne _ _ q3]; exact hsame j q1 q2 q3)) ?_); try simp (disch := omega) only [k36, k3, k4, k5, k6, w5, ht, xf155,go_sem, simprocAttr]) | (with_reducible refine bk ?_) | ((with_reducible refine' cE ?hv ?_ ?_); (case hv => first | rfl | (simp only [k36, k3, k4, k5, k6, w5, ht, xf155,go_sem, simprocAttr]; rfl)); all_goals (intro hc; (try simp only [go_sem, simprocAttr] at hc); try (exfalso; omega))) | ((with_reducible first | refine grdS_split ?_ ?_ | refine lkG_split ?_ ?_) <;> intro hg <;> (try simp (disch := omega) only [hg, k36, k3, k4, k5, k6, w5, ht, xf155,go_sem, simprocAttr]) <;> (try simp only [go_sem, simprocAttr] at hg) <;> (try (exfalso; omega))) | with_reducible intro (ep : Nat → Nat) | with_reducible apply_assumption -exfalso -symm only [*])
  refine FnQ_end (Or.inr rfl) (.refl _) (by simp only [Try.f95, go_sem, simprocAttr]; rfl) ?_
  exact ⟨rfl, fun j q1 q2 q3 => by simp only [upd_ne _ _ q1, upd_ne _ _ q2, upd_ne _ _ q3]; exact hsame j q1 q2 q3, by (first | rfl | (simp only [k3, ht, go_sem, simprocAttr]; done) | (simp only [k3, ht, go_sem, simprocAttr]; rfl)), by (first | rfl | (simp only [k4, go_sem, simprocAttr]; done) | (simp only [k4, go_sem, simprocAttr]; rfl))⟩
 ·repeat' (first | (with_reducible refine sk ?_; intro K hK) | ((first | (with_reducible first | refine rgL [] [9, 26] (md := { base := 1700, own := [] }) (h := ?_) | refine rgL [5] [9, 26] (md := { base := 1700, own := [] }) (h := ?_) | refine nx ?_) | refine pK (l0) ?_ | refine pK (l1 _ (fun j q1 q2 q3 => by simp only [upd_ne _ _ q1, upd_ne _ _ q2, upd_ne _ _ q3]; exact hsame j q1 q2 q3)) ?_ | refine lK (l0) ?_ | refine lK (l1 _ (fun j q1 q2 q3 => by simp only [upd_ne _ _ q1, upd_ne _ _ q2, upd_ne _ _ q3]; exact hsame j q1 q2 q3)) ?_); try simp (disch := omega) only [k36, k3, k4, k5, k6, w5, ht, xf155,go_sem, simprocAttr]) | (with_reducible refine bk ?_) | ((with_reducible refine' cE ?hv ?_ ?_); (case hv => first | rfl | (simp only [k36, k3, k4, k5, k6, w5, ht, xf155,go_sem, simprocAttr]; rfl)); all_goals (intro hc; (try simp only [go_sem, simprocAttr] at hc); try (exfalso; omega))) | ((with_reducible first | refine grdS_split ?_ ?_ | refine lkG_split ?_ ?_) <;> intro hg <;> (try simp (disch := omega) only [hg, k36, k3, k4, k5, k6, w5, ht, xf155,go_sem, simprocAttr]) <;> (try simp only [go_sem, simprocAttr] at hg) <;> (try (exfalso; omega))) | with_reducible intro (ep : Nat → Nat) | with_reducible apply_assumption -exfalso -symm only [*])
  refine FnQ_end (Or.inr rfl) (.refl _) (by simp only [Try.f95, go_sem, simprocAttr]; rfl) ?_
  exact ⟨rfl, fun j q1 q2 q3 => by simp only [upd_ne _ _ q1, upd_ne _ _ q2, upd_ne _ _ q3]; exact hsame j q1 q2 q3, by (first | rfl | (simp only [k3, ht, go_sem, simprocAttr]; done) | (simp only [k3, ht, go_sem, simprocAttr]; rfl)), by (first | rfl | (simp only [k4, go_sem, simprocAttr]; done) | (simp only [k4, go_sem, simprocAttr]; rfl))⟩
 ·repeat' (first | (with_reducible refine sk ?_; intro K hK) | ((first | (with_reducible first | refine rgL [] [9, 26] (md := { base := 1700, own := [] }) (h := ?_) | refine rgL [5] [9, 26] (md := { base := 1700, own := [] }) (h := ?_) | refine nx ?_) | refine pK (l0) ?_ | refine pK (l1 _ (fun j q1 q2 q3 => by simp only [upd_ne _ _ q1, upd_ne _ _ q2, upd_ne _ _ q3]; exact hsame j q1 q2 q3)) ?_ | refine lK (l0) ?_ | refine lK (l1 _ (fun j q1 q2 q3 => by simp only [upd_ne _ _ q1, upd_ne _ _ q2, upd_ne _ _ q3]; exact hsame j q1 q2 q3)) ?_); try simp (disch := omega) only [k36, k3, k4, k5, k6, w5, ht, xf155,go_sem, simprocAttr]) | (with_reducible refine bk ?_) | ((with_reducible refine' cE ?hv ?_ ?_); (case hv => first | rfl | (simp only [k36, k3, k4, k5, k6, w5, ht, xf155,go_sem, simprocAttr]; rfl)); all_goals (intro hc; (try simp only [go_sem, simprocAttr] at hc); try (exfalso; omega))) | ((with_reducible first | refine grdS_split ?_ ?_ | refine lkG_split ?_ ?_) <;> intro hg <;> (try simp (disch := omega) only [hg, k36, k3, k4, k5, k6, w5, ht, xf155,go_sem, simprocAttr]) <;> (try simp only [go_sem, simprocAttr] at hg) <;> (try (exfalso; omega))) | with_reducible intro (ep : Nat → Nat) | with_reducible apply_assumption -exfalso -symm only [*])
  refine FnQ_end (Or.inr rfl) (.refl _) (by simp only [Try.f95, go_sem, simprocAttr]; rfl) ?_
  exact ⟨rfl, fun j q1 q2 q3 => by simp only [upd_ne _ _ q1, upd_ne _ _ q2, upd_ne _ _ q3]; exact hsame j q1 q2 q3, by (first | rfl | (simp only [k3, ht, go_sem, simprocAttr]; done) | (simp only [k3, ht, go_sem, simprocAttr]; rfl)), by (first | rfl | (simp only [k4, go_sem, simprocAttr]; done) | (simp only [k4, go_sem, simprocAttr]; rfl))⟩
 ·repeat' (first | (with_reducible refine sk ?_; intro K hK) | ((first | (with_reducible first | refine rgL [] [9, 26] (md := { base := 1700, own := [] }) (h := ?_) | refine rgL [5] [9, 26] (md := { base := 1700, own := [] }) (h := ?_) | refine nx ?_) | refine pK (l0) ?_ | refine pK (l1 _ (fun j q1 q2 q3 => by simp only [upd_ne _ _ q1, upd_ne _ _ q2, upd_ne _ _ q3]; exact hsame j q1 q2 q3)) ?_ | refine lK (l0) ?_ | refine lK (l1 _ (fun j q1 q2 q3 => by simp only [upd_ne _ _ q1, upd_ne _ _ q2, upd_ne _ _ q3]; exact hsame j q1 q2 q3)) ?_); try simp (disch := omega) only [k36, k3, k4, k5, k6, w5, ht, xf155,go_sem, simprocAttr]) | (with_reducible refine bk ?_) | ((with_reducible refine' cE ?hv ?_ ?_); (case hv => first | rfl | (simp only [k36, k3, k4, k5, k6, w5, ht, xf155,go_sem, simprocAttr]; rfl)); all_goals (intro hc; (try simp only [go_sem, simprocAttr] at hc); try (exfalso; omega))) | ((with_reducible first | refine grdS_split ?_ ?_ | refine lkG_split ?_ ?_) <;> intro hg <;> (try simp (disch := omega) only [hg, k36, k3, k4, k5, k6, w5, ht, xf155,go_sem, simprocAttr]) <;> (try simp only [go_sem, simprocAttr] at hg) <;> (try (exfalso; omega))) | with_reducible intro (ep : Nat → Nat) | with_reducible apply_assumption -exfalso -symm only [*])
  refine FnQ_end (Or.inr rfl) (.refl _) (by simp only [Try.f95, go_sem, simprocAttr]; rfl) ?_
  exact ⟨rfl, fun j q1 q2 q3 => by simp only [upd_ne _ _ q1, upd_ne _ _ q2, upd_ne _ _ q3]; exact hsame j q1 q2 q3, by (first | rfl | (simp only [k3, ht, go_sem, simprocAttr]; done) | (simp only [k3, ht, go_sem, simprocAttr]; rfl)), by (first | rfl | (simp only [k4, go_sem, simprocAttr]; done) | (simp only [k4, go_sem, simprocAttr]; rfl))⟩
 ·repeat' (first | (with_reducible refine sk ?_; intro K hK) | ((first | (with_reducible first | refine rgL [] [9, 26] (md := { base := 1700, own := [] }) (h := ?_) | refine rgL [5] [9, 26] (md := { base := 1700, own := [] }) (h := ?_) | refine nx ?_) | refine pK (l0) ?_ | refine pK (l1 _ (fun j q1 q2 q3 => by simp only [upd_ne _ _ q1, upd_ne _ _ q2, upd_ne _ _ q3]; exact hsame j q1 q2 q3)) ?_ | refine lK (l0) ?_ | refine lK (l1 _ (fun j q1 q2 q3 => by simp only [upd_ne _ _ q1, upd_ne _ _ q2, upd_ne _ _ q3]; exact hsame j q1 q2 q3)) ?_); try simp (disch := omega) only [k36, k3, k4, k5, k6, w5, ht, xf155,go_sem, simprocAttr]) | (with_reducible refine bk ?_) | ((with_reducible refine' cE ?hv ?_ ?_); (case hv => first | rfl | (simp only [k36, k3, k4, k5, k6, w5, ht, xf155,go_sem, simprocAttr]; rfl)); all_goals (intro hc; (try simp only [go_sem, simprocAttr] at hc); try (exfalso; omega))) | ((with_reducible first | refine grdS_split ?_ ?_ | refine lkG_split ?_ ?_) <;> intro hg <;> (try simp (disch := omega) only [hg, k36, k3, k4, k5, k6, w5, ht, xf155,go_sem, simprocAttr]) <;> (try simp only [go_sem, simprocAttr] at hg) <;> (try (exfalso; omega))) | with_reducible intro (ep : Nat → Nat) | with_reducible apply_assumption -exfalso -symm only [*])
  refine FnQ_end (Or.inr rfl) (.refl _) (by simp only [Try.f95, go_sem, simprocAttr]; rfl) ?_
  exact ⟨rfl, fun j q1 q2 q3 => by simp only [upd_ne _ _ q1, upd_ne _ _ q2, upd_ne _ _ q3]; exact hsame j q1 q2 q3, by (first | rfl | (simp only [k3, ht, go_sem, simprocAttr]; done) | (simp only [k3, ht, go_sem, simprocAttr]; rfl)), by (first | rfl | (simp only [k4, go_sem, simprocAttr]; done) | (simp only [k4, go_sem, simprocAttr]; rfl))⟩
 ·repeat' (first | (with_reducible refine sk ?_; intro K hK) | ((first | (with_reducible first | refine rgL [] [9, 26] (md := { base := 1700, own := [] }) (h := ?_) | refine rgL [5] [9, 26] (md := { base := 1700, own := [] }) (h := ?_) | refine nx ?_) | refine pK (l0) ?_ | refine pK (l1 _ (fun j q1 q2 q3 => by simp only [upd_ne _ _ q1, upd_ne _ _ q2, upd_ne _ _ q3]; exact hsame j q1 q2 q3)) ?_ | refine lK (l0) ?_ | refine lK (l1 _ (fun j q1 q2 q3 => by simp only [upd_ne _ _ q1, upd_ne _ _ q2, upd_ne _ _ q3]; exact hsame j q1 q2 q3)) ?_); try simp (disch := omega) only [k36, k3, k4, k5, k6, w5, ht, xf155,go_sem, simprocAttr]) | (with_reducible refine bk ?_) | ((with_reducible refine' cE ?hv ?_ ?_); (case hv => first | rfl | (simp only [k36, k3, k4, k5, k6, w5, ht, xf155,go_sem, simprocAttr]; rfl)); all_goals (intro hc; (try simp only [go_sem, simprocAttr] at hc); try (exfalso; omega))) | ((with_reducible first | refine grdS_split ?_ ?_ | refine lkG_split ?_ ?_) <;> intro hg <;> (try simp (disch := omega) only [hg, k36, k3, k4, k5, k6, w5, ht, xf155,go_sem, simprocAttr]) <;> (try simp only [go_sem, simprocAttr] at hg) <;> (try (exfalso; omega))) | with_reducible intro (ep : Nat → Nat) | with_reducible apply_assumption -exfalso -symm only [*])
  refine FnQ_end (Or.inr rfl) (.refl _) (by simp only [Try.f95, go_sem, simprocAttr]; rfl) ?_
  exact ⟨rfl, fun j q1 q2 q3 => by simp only [upd_ne _ _ q1, upd_ne _ _ q2, upd_ne _ _ q3]; exact hsame j q1 q2 q3, by (first | rfl | (simp only [k3, ht, go_sem, simprocAttr]; done) | (simp only [k3, ht, go_sem, simprocAttr]; rfl)), by (first | rfl | (simp only [k4, go_sem, simprocAttr]; done) | (simp only [k4, go_sem, simprocAttr]; rfl))⟩
 ·repeat' (first | (with_reducible refine sk ?_; intro K hK) | ((first | (with_reducible first | refine rgL [] [9, 26] (md := { base := 1700, own := [] }) (h := ?_) | refine rgL [5] [9, 26] (md := { base := 1700, own := [] }) (h := ?_) | refine nx ?_) | refine pK (l0) ?_ | refine pK (l1 _ (fun j q1 q2 q3 => by simp only [upd_ne _ _ q1, upd_ne _ _ q2, upd_ne _ _ q3]; exact hsame j q1 q2 q3)) ?_ | refine lK (l0) ?_ | refine lK (l1 _ (fun j q1 q2 q3 => by simp only [upd_ne _ _ q1, upd_ne _ _ q2, upd_ne _ _ q3]; exact hsame j q1 q2 q3)) ?_); try simp (disch := omega) only [k36, k3, k4, k5, k6, w5, ht, xf155,go_sem, simprocAttr]) | (with_reducible refine bk ?_) | ((with_reducible refine' cE ?hv ?_ ?_); (case hv => first | rfl | (simp only [k36, k3, k4, k5, k6, w5, ht, xf155,go_sem, simprocAttr]; rfl)); all_goals (intro hc; (try simp only [go_sem, simprocAttr] at hc); try (exfalso; omega))) | ((with_reducible first | refine grdS_split ?_ ?_ | refine lkG_split ?_ ?_) <;> intro hg <;> (try simp (disch := omega) only [hg, k36, k3, k4, k5, k6, w5, ht, xf155,go_sem, simprocAttr]) <;> (try simp only [go_sem, simprocAttr] at hg) <;> (try (exfalso; omega))) | with_reducible intro (ep : Nat → Nat) | with_reducible apply_assumption -exfalso -symm only [*])
  refine FnQ_end (Or.inr rfl) (.refl _) (by simp only [Try.f95, go_sem, simprocAttr]; rfl) ?_
  exact ⟨rfl, fun j q1 q2 q3 => by simp only [upd_ne _ _ q1, upd_ne _ _ q2, upd_ne _ _ q3]; exact hsame j q1 q2 q3, by (first | rfl | (simp only [k3, ht, go_sem, simprocAttr]; done) | (simp only [k3, ht, go_sem, simprocAttr]; rfl)), by (first | rfl | (simp only [k4, go_sem, simprocAttr]; done) | (simp only [k4, go_sem, simprocAttr]; rfl))⟩
 ·repeat' (first | (with_reducible refine sk ?_; intro K hK) | ((first | (with_reducible first | refine rgL [] [9, 26] (md := { base := 1700, own := [] }) (h := ?_) | refine rgL [5] [9, 26] (md := { base := 1700, own := [] }) (h := ?_) | refine nx ?_) | refine pK (l0) ?_ | refine pK (l1 _ (fun j q1 q2 q3 => by simp only [upd_ne _ _ q1, upd_ne _ _ q2, upd_ne _ _ q3]; exact hsame j q1 q2 q3)) ?_ | refine lK (l0) ?_ | refine lK (l1 _ (fun j q1 q2 q3 => by simp only [upd_ne _ _ q1, upd_ne _ _ q2, upd_ne _ _ q3]; exact hsame j q1 q2 q3)) ?_); try simp (disch := omega) only [k36, k3, k4, k5, k6, w5, ht, xf155,go_sem, simprocAttr]) | (with_reducible refine bk ?_) | ((with_reducible refine' cE ?hv ?_ ?_); (case hv => first | rfl | (simp only [k36, k3, k4, k5, k6, w5, ht, xf155,go_sem, simprocAttr]; rfl)); all_goals (intro hc; (try simp only [go_sem, simprocAttr] at hc); try (exfalso; omega))) | ((with_reducible first | refine grdS_split ?_ ?_ | refine lkG_split ?_ ?_) <;> intro hg <;> (try simp (disch := omega) only [hg, k36, k3, k4, k5, k6, w5, ht, xf155,go_sem, simprocAttr]) <;> (try simp only [go_sem, simprocAttr] at hg) <;> (try (exfalso; omega))) | with_reducible intro (ep : Nat → Nat) | with_reducible apply_assumption -exfalso -symm only [*])
  refine FnQ_end (Or.inr rfl) (.refl _) (by simp only [Try.f95, go_sem, simprocAttr]; rfl) ?_
  exact ⟨rfl, fun j q1 q2 q3 => by simp only [upd_ne _ _ q1, upd_ne _ _ q2, upd_ne _ _ q3]; exact hsame j q1 q2 q3, by (first | rfl | (simp only [k3, ht, go_sem, simprocAttr]; done) | (simp only [k3, ht, go_sem, simprocAttr]; rfl)), by (first | rfl | (simp only [k4, go_sem, simprocAttr]; done) | (simp only [k4, go_sem, simprocAttr]; rfl))⟩
 ·repeat' (first | (with_reducible refine sk ?_; intro K hK) | ((first | (with_reducible first | refine rgL [] [9, 26] (md := { base := 1700, own := [] }) (h := ?_) | refine rgL [5] [9, 26] (md := { base := 1700, own := [] }) (h := ?_) | refine nx ?_) | refine pK (l0) ?_ | refine pK (l1 _ (fun j q1 q2 q3 => by simp only [upd_ne _ _ q1, upd_ne _ _ q2, upd_ne _ _ q3]; exact hsame j q1 q2 q3)) ?_ | refine lK (l0) ?_ | refine lK (l1 _ (fun j q1 q2 q3 => by simp only [upd_ne _ _ q1, upd_ne _ _ q2, upd_ne _ _ q3]; exact hsame j q1 q2 q3)) ?_); try simp (disch := omega) only [k36, k3, k4, k5, k6, w5, ht, xf155,go_sem, simprocAttr]) | (with_reducible refine bk ?_) | ((with_reducible refine' cE ?hv ?_ ?_); (case hv => first | rfl | (simp only [k36, k3, k4, k5, k6, w5, ht, xf155,go_sem, simprocAttr]; rfl)); all_goals (intro hc; (try simp only [go_sem, simprocAttr] at hc); try (exfalso; omega))) | ((with_reducible first | refine grdS_split ?_ ?_ | refine lkG_split ?_ ?_) <;> intro hg <;> (try simp (disch := omega) only [hg, k36, k3, k4, k5, k6, w5, ht, xf155,go_sem, simprocAttr]) <;> (try simp only [go_sem, simprocAttr] at hg) <;> (try (exfalso; omega))) | with_reducible intro (ep : Nat → Nat) | with_reducible apply_assumption -exfalso -symm only [*])
  refine FnQ_end (Or.inr rfl) (.refl _) (by simp only [Try.f95, go_sem, simprocAttr]; rfl) ?_
  exact ⟨rfl, fun j q1 q2 q3 => by simp only [upd_ne _ _ q1, upd_ne _ _ q2, upd_ne _ _ q3]; exact hsame j q1 q2 q3, by (first | rfl | (simp only [k3, ht, go_sem, simprocAttr]; done) | (simp only [k3, ht, go_sem, simprocAttr]; rfl)), by (first | rfl | (simp only [k4, go_sem, simprocAttr]; done) | (simp only [k4, go_sem, simprocAttr]; rfl))⟩
 ·repeat' (first | (with_reducible refine sk ?_; intro K hK) | ((first | (with_reducible first | refine rgL [] [9, 26] (md := { base := 1700, own := [] }) (h := ?_) | refine rgL [5] [9, 26] (md := { base := 1700, own := [] }) (h := ?_) | refine nx ?_) | refine pK (l0) ?_ | refine pK (l1 _ (fun j q1 q2 q3 => by simp only [upd_ne _ _ q1, upd_ne _ _ q2, upd_ne _ _ q3]; exact hsame j q1 q2 q3)) ?_ | refine lK (l0) ?_ | refine lK (l1 _ (fun j q1 q2 q3 => by simp only [upd_ne _ _ q1, upd_ne _ _ q2, upd_ne _ _ q3]; exact hsame j q1 q2 q3)) ?_); try simp (disch := omega) only [k36, k3, k4, k5, k6, w5, ht, xf155,go_sem, simprocAttr]) | (with_reducible refine bk ?_) | ((with_reducible refine' cE ?hv ?_ ?_); (case hv => first | rfl | (simp only [k36, k3, k4, k5, k6, w5, ht, xf155,go_sem, simprocAttr]; rfl)); all_goals (intro hc; (try simp only [go_sem, simprocAttr] at hc); try (exfalso; omega))) | ((with_reducible first | refine grdS_split ?_ ?_ | refine lkG_split ?_ ?_) <;> intro hg <;> (try simp (disch := omega) only [hg, k36, k3, k4, k5, k6, w5, ht, xf155,go_sem, simprocAttr]) <;> (try simp only [go_sem, simprocAttr] at hg) <;> (try (exfalso; omega))) | with_reducible intro (ep : Nat → Nat) | with_reducible apply_assumption -exfalso -symm only [*])
  refine FnQ_end (Or.inr rfl) (.refl _) (by simp only [Try.f95, go_sem, simprocAttr]; rfl) ?_
  exact ⟨rfl, fun j q1 q2 q3 => by simp only [upd_ne _ _ q1, upd_ne _ _ q2, upd_ne _ _ q3]; exact hsame j q1 q2 q3, by (first | rfl | (simp only [k3, ht, go_sem, simprocAttr]; done) | (simp only [k3, ht, go_sem, simprocAttr]; rfl)), by (first | rfl | (simp only [k4, go_sem, simprocAttr]; done) | (simp only [k4, go_sem, simprocAttr]; rfl))⟩
 ·repeat' (first | (with_reducible refine sk ?_; intro K hK) | ((first | (with_reducible first | refine rgL [] [9, 26] (md := { base := 1700, own := [] }) (h := ?_) | refine rgL [5] [9, 26] (md := { base := 1700, own := [] }) (h := ?_) | refine nx ?_) | refine pK (l0) ?_ | refine pK (l1 _ (fun j q1 q2 q3 => by simp only [upd_ne _ _ q1, upd_ne _ _ q2, upd_ne _ _ q3]; exact hsame j q1 q2 q3)) ?_ | refine lK (l0) ?_ | refine lK (l1 _ (fun j q1 q2 q3 => by simp only [upd_ne _ _ q1, upd_ne _ _ q2, upd_ne _ _ q3]; exact hsame j q1 q2 q3)) ?_); try simp (disch := omega) only [k36, k3, k4, k5, k6, w5, ht, xf155,go_sem, simprocAttr]) | (with_reducible refine bk ?_) | ((with_reducible refine' cE ?hv ?_ ?_); (case hv => first | rfl | (simp only [k36, k3, k4, k5, k6, w5, ht, xf155,go_sem, simprocAttr]; rfl)); all_goals (intro hc; (try simp only [go_sem, simprocAttr] at hc); try (exfalso; omega))) | ((with_reducible first | refine grdS_split ?_ ?_ | refine lkG_split ?_ ?_) <;> intro hg <;> (try simp (disch := omega) only [hg, k36, k3, k4, k5, k6, w5, ht, xf155,go_sem, simprocAttr]) <;> (try simp only [go_sem, simprocAttr] at hg) <;> (try (exfalso; omega))) | with_reducible intro (ep : Nat → Nat) | with_reducible apply_assumption -exfalso -symm only [*])
  refine FnQ_end (Or.inr rfl) (.refl _) (by simp only [Try.f95, go_sem, simprocAttr]; rfl) ?_
  exact ⟨rfl, fun j q1 q2 q3 => by simp only [upd_ne _ _ q1, upd_ne _ _ q2, upd_ne _ _ q3]; exact hsame j q1 q2 q3, by (first | rfl | (simp only [k3, ht, go_sem, simprocAttr]; done) | (simp only [k3, ht, go_sem, simprocAttr]; rfl)), by (first | rfl | (simp only [k4, go_sem, simprocAttr]; done) | (simp only [k4, go_sem, simprocAttr]; rfl))⟩
 ·repeat' (first | (with_reducible refine sk ?_; intro K hK) | ((first | (with_reducible first | refine rgL [] [9, 26] (md := { base := 1700, own := [] }) (h := ?_) | refine rgL [5] [9, 26] (md := { base := 1700, own := [] }) (h := ?_) | refine nx ?_) | refine pK (l0) ?_ | refine pK (l1 _ (fun j q1 q2 q3 => by simp only [upd_ne _ _ q1, upd_ne _ _ q2, upd_ne _ _ q3]; exact hsame j q1 q2 q3)) ?_ | refine lK (l0) ?_ | refine lK (l1 _ (fun j q1 q2 q3 => by simp only [upd_ne _ _ q1, upd_ne _ _ q2, upd_ne _ _ q3]; exact hsame j q1 q2 q3)) ?_); try simp (disch := omega) only [k36, k3, k4, k5, k6, w5, ht, xf155,go_sem, simprocAttr]) | (with_reducible refine bk ?_) | ((with_reducible refine' cE ?hv ?_ ?_); (case hv => first | rfl | (simp only [k36, k3, k4, k5, k6, w5, ht, xf155,go_sem, simprocAttr]; rfl)); all_goals (intro hc; (try simp only [go_sem, simprocAttr] at hc); try (exfalso; omega))) | ((with_reducible first | refine grdS_split ?_ ?_ | refine lkG_split ?_ ?_) <;> intro hg <;> (try simp (disch := omega) only [hg, k36, k3, k4, k5, k6, w5, ht, xf155,go_sem, simprocAttr]) <;> (try simp only [go_sem, simprocAttr] at hg) <;> (try (exfalso; omega))) | with_reducible intro (ep : Nat → Nat) | with_reducible apply_assumption -exfalso -symm only [*])
  refine FnQ_end (Or.inr rfl) (.refl _) (by simp only [Try.f95, go_sem, simprocAttr]; rfl) ?_
  exact ⟨rfl, fun j q1 q2 q3 => by simp only [upd_ne _ _ q1, upd_ne _ _ q2, upd_ne _ _ q3]; exact hsame j q1 q2 q3, by (first | rfl | (simp only [k3, ht, go_sem, simprocAttr]; done) | (simp only [k3, ht, go_sem, simprocAttr]; rfl)), by (first | rfl | (simp only [k4, go_sem, simprocAttr]; done) | (simp only [k4, go_sem, simprocAttr]; rfl))⟩
 ·repeat' (first | (with_reducible refine sk ?_; intro K hK) | ((first | (with_reducible first | refine rgL [] [9, 26] (md := { base := 1700, own := [] }) (h := ?_) | refine rgL [5] [9, 26] (md := { base := 1700, own := [] }) (h := ?_) | refine nx ?_) | refine pK (l0) ?_ | refine pK (l1 _ (fun j q1 q2 q3 => by simp only [upd_ne _ _ q1, upd_ne _ _ q2, upd_ne _ _ q3]; exact hsame j q1 q2 q3)) ?_ | refine lK (l0) ?_ | refine lK (l1 _ (fun j q1 q2 q3 => by simp only [upd_ne _ _ q1, upd_ne _ _ q2, upd_ne _ _ q3]; exact hsame j q1 q2 q3)) ?_); try simp (disch := omega) only [k36, k3, k4, k5, k6, w5, ht, xf155,go_sem, simprocAttr]) | (with_reducible refine bk ?_) | ((with_reducible refine' cE ?hv ?_ ?_); (case hv => first | rfl | (simp only [k36, k3, k4, k5, k6, w5, ht, xf155,go_sem, simprocAttr]; rfl)); all_goals (intro hc; (try simp only [go_sem, simprocAttr] at hc); try (exfalso; omega))) | ((with_reducible first | refine grdS_split ?_ ?_ | refine lkG_split ?_ ?_) <;> intro hg <;> (try simp (disch := omega) only [hg, k36, k3, k4, k5, k6, w5, ht, xf155,go_sem, simprocAttr]) <;> (try simp only [go_sem, simprocAttr] at hg) <;> (try (exfalso; omega))) | with_reducible intro (ep : Nat → Nat) | with_reducible apply_assumption -exfalso -symm only [*])
  refine FnQ_end (Or.inr rfl) (.refl _) (by simp only [Try.f95, go_sem, simprocAttr]; rfl) ?_
  exact ⟨rfl, fun j q1 q2 q3 => by simp only [upd_ne _ _ q1, upd_ne _ _ q2, upd_ne _ _ q3]; exact hsame j q1 q2 q3, by (first | rfl | (simp only [k3, ht, go_sem, simprocAttr]; done) | (simp only [k3, ht, go_sem, simprocAttr]; rfl)), by (first | rfl | (simp only [k4, go_sem, simprocAttr]; done) | (simp only [k4, go_sem, simprocAttr]; rfl))⟩
 ·repeat' (first | (with_reducible refine sk ?_; intro K hK) | ((first | (with_reducible first | refine rgL [] [9, 26] (md := { base := 1700, own := [] }) (h := ?_) | refine rgL [5] [9, 26] (md := { base := 1700, own := [] }) (h := ?_) | refine nx ?_) | refine pK (l0) ?_ | refine pK (l1 _ (fun j q1 q2 q3 => by simp only [upd_ne _ _ q1, upd_ne _ _ q2, upd_ne _ _ q3]; exact hsame j q1 q2 q3)) ?_ | refine lK (l0) ?_ | refine lK (l1 _ (fun j q1 q2 q3 => by simp only [upd_ne _ _ q1, upd_ne _ _ q2, upd_ne _ _ q3]; exact hsame j q1 q2 q3)) ?_); try simp (disch := omega) only [k36, k3, k4, k5, k6, w5, ht, xf155,go_sem, simprocAttr]) | (with_reducible refine bk ?_) | ((with_reducible refine' cE ?hv ?_ ?_); (case hv => first | rfl | (simp only [k36, k3, k4, k5, k6, w5, ht, xf155,go_sem, simprocAttr]; rfl)); all_goals (intro hc; (try simp only [go_sem, simprocAttr] at hc); try (exfalso; omega))) | ((with_reducible first | refine grdS_split ?_ ?_ | refine lkG_split ?_ ?_) <;> intro hg <;> (try simp (disch := omega) only [hg, k36, k3, k4, k5, k6, w5, ht, xf155,go_sem, simprocAttr]) <;> (try simp only [go_sem, simprocAttr] at hg) <;> (try (exfalso; omega))) | with_reducible intro (ep : Nat → Nat) | with_reducible apply_assumption -exfalso -symm only [*])
  refine FnQ_end (Or.inr rfl) (.refl _) (by simp only [Try.f95, go_sem, simprocAttr]; rfl) ?_
  exact ⟨rfl, fun j q1 q2 q3 => by simp only [upd_ne _ _ q1, upd_ne _ _ q2, upd_ne _ _ q3]; exact hsame j q1 q2 q3, by (first | rfl | (simp only [k3, ht, go_sem, simprocAttr]; done) | (simp only [k3, ht, go_sem, simprocAttr]; rfl)), by (first | rfl | (simp only [k4, go_sem, simprocAttr]; done) | (simp only [k4, go_sem, simprocAttr]; rfl))⟩
 ·repeat' (first | (with_reducible refine sk ?_; intro K hK) | ((first | (with_reducible first | refine rgL [] [9, 26] (md := { base := 1700, own := [] }) (h := ?_) | refine rgL [5] [9, 26] (md := { base := 1700, own := [] }) (h := ?_) | refine nx ?_) | refine pK (l0) ?_ | refine pK (l1 _ (fun j q1 q2 q3 => by simp only [upd_ne _ _ q1, upd_ne _ _ q2, upd_ne _ _ q3]; exact hsame j q1 q2 q3)) ?_ | refine lK (l0) ?_ | refine lK (l1 _ (fun j q1 q2 q3 => by simp only [upd_ne _ _ q1, upd_ne _ _ q2, upd_ne _ _ q3]; exact hsame j q1 q2 q3)) ?_); try simp (disch := omega) only [k36, k3, k4, k5, k6, w5, ht, xf155,go_sem, simprocAttr]) | (with_reducible refine bk ?_) | ((with_reducible refine' cE ?hv ?_ ?_); (case hv => first | rfl | (simp only [k36, k3, k4, k5, k6, w5, ht, xf155,go_sem, simprocAttr]; rfl)); all_goals (intro hc; (try simp only [go_sem, simprocAttr] at hc); try (exfalso; omega))) | ((with_reducible first | refine grdS_split ?_ ?_ | refine lkG_split ?_ ?_) <;> intro hg <;> (try simp (disch := omega) only [hg, k36, k3, k4, k5, k6, w5, ht, xf155,go_sem, simprocAttr]) <;> (try simp only [go_sem, simprocAttr] at hg) <;> (try (exfalso; omega))) | with_reducible intro (ep : Nat → Nat) | with_reducible apply_assumption -exfalso -symm only [*])
  refine FnQ_end (Or.inr rfl) (.refl _) (by simp only [Try.f95, go_sem, simprocAttr]; rfl) ?_
  exact ⟨rfl, fun j q1 q2 q3 => by simp only [upd_ne _ _ q1, upd_ne _ _ q2, upd_ne _ _ q3]; exact hsame j q1 q2 q3, by (first | rfl | (simp only [k3, ht, go_sem, simprocAttr]; done) | (simp only [k3, ht, go_sem, simprocAttr]; rfl)), by (first | rfl | (simp only [k4, go_sem, simprocAttr]; done) | (simp only [k4, go_sem, simprocAttr]; rfl))⟩
end Cp
namespace Cp
open Go Go.Proofs
set_option maxRecDepth 10000
set_option maxHeartbeats 1000000
def getF (n : NetT) (hs : List HeadT) (L : List (List Int)) : LackT × Bool := L.foldl (getStep n hs) (⟨2, 0, []⟩, false)
def getsS (n : NetT) (hs : List HeadT) : LackT :=
 if (getF n hs (outsL n.pumps.length n.out.toNat)).2 = true ∧ (getF n hs (outsL n.pumps.length n.out.toNat)).1.known = 0 then { (getF n hs (outsL n.pumps.length n.out.toNat)).1 with known := 1 } else (getF n hs (outsL n.pumps.length n.out.toNat)).1
theorem getF_snoc {n : NetT} {hs : List HeadT} {L : List (List Int)} {k : Nat} {l : List Int} (h : L[k]? = some l) : getF n hs (L.take (k + 1)) = getStep n hs (getF n hs (L.take k)) l := by
 unfold getF; rw [take_snoc' h, List.foldl_append]; rfl
theorem getStep_kn {n : NetT} {hs : List HeadT} {s : LackT × Bool} {l : List Int} (h : s.1.known = 0 ∨ s.1.known = 2) : (getStep n hs s l).1.known = 0 ∨ (getStep n hs s l).1.known = 2 := by
 unfold getStep
 simp only
 split
 ·exact .inl rfl
 ·exact h
theorem getF_kn {n : NetT} {hs : List HeadT} : ∀ (k : Nat) (L : List (List Int)), (getF n hs (L.take k)).1.known = 0 ∨ (getF n hs (L.take k)).1.known = 2
 | 0, L => .inr rfl
 | k + 1, L => by
  cases h : L[k]? with
  | some l => rw [getF_snoc h]; exact getStep_kn (getF_kn k L)
  | none =>
   have hk : L.length ≤ k := List.getElem?_eq_none_iff.1 h
   have := getF_kn (n := n) (hs := hs) k L
   rw [List.take_of_length_le hk] at this
   rw [List.take_of_length_le (by omega)]
   exact this
theorem fzd_plant {n : NetT} {hs : List HeadT} {e36 e33 e34 k : Nat} {H : Hp} (h : H 436 = some (e36, .fro 10 [cPlant n hs e33 e34 k])) : fzd H 3 (.ptr 436 e36 10 0 0) = .pim ((cPlant n hs e33 e34 k).map (fzd H 2)) := by
 simp [fzd, h]
theorem take_plant {n : NetT} {hs : List HeadT} {e33 e34 k : Nat} {H : Hp} : ((cPlant n hs e33 e34 k).map (fzd H 2)).take 7 = cNet n := by
 simp [cPlant, cNet, fzd, cPipe, cHead, cPump, List.map_map, Function.comp_def]
theorem outs_call (n : NetT) (hF : NetF n) {hs : List HeadT} {e36 e33 e34 k : Nat} {H : Hp} (h : H 436 = some (e36, .fro 10 [cPlant n hs e33 e34 k])) :
  ACall Try.prog 94 [.ptr 436 e36 10 0 0] H fun v' H' => v' = outsF n.pumps.length n.out.toNat ∧ H' = H :=
 PureC.acall_fro 7 (by rw [take_plant]; exact outs_ok n hF) (fzd_plant h)
end Cp
namespace Cp
open Go
def badO (n : NetT) (hs : List HeadT) (o : List Int) : Bool := (lackS n hs o false).2
def goodO (n : NetT) (hs : List HeadT) (o : List Int) : Bool := !(lackS n hs o true).2
theorem getF_gen {n : NetT} {hs : List HeadT} : ∀ (L : List (List Int)) (s : LackT × Bool), (s.1.known = 0 ∨ s.1.known = 2) →
  L.foldl (getStep n hs) s = (if s.1.known = 2 then (match L.find? (badO n hs) with | none => s.1 | some o => ⟨0, (lackS n hs o false).1, o⟩) else s.1, s.2 || L.any (goodO n hs))
 | [], s, h => by rcases h with h | h <;> simp
 | o :: L, s, h => by
  rw [List.foldl_cons, getF_gen L _ (getStep_kn h)]
  have e2 : (getStep n hs s o).2 = (s.2 || goodO n hs o) := rfl
  have e1 : (getStep n hs s o).1 = if badO n hs o = true ∧ s.1.known = 2 then ⟨0, (lackS n hs o false).1, o⟩ else s.1 := rfl
  rw [e2, e1, List.any_cons, Bool.or_assoc, List.find?_cons]
  rcases h with h | h
  ·have : ¬ s.1.known = 2 := by omega
   simp only [this, and_false, if_false]
  ·cases hb : badO n hs o with
   | false => simp only [hb, Bool.false_eq_true, false_and, if_false, h, if_true]
   | true => simp [hb, h]
theorem getsS_eq (n : NetT) (hs : List HeadT) : getsS n hs = match (outsL n.pumps.length n.out.toNat).find? (badO n hs) with
  | none => ⟨2, 0, []⟩
  | some o => ⟨if (outsL n.pumps.length n.out.toNat).any (goodO n hs) = true then 1 else 0, (lackS n hs o false).1, o⟩ := by
 have h := getF_gen (n := n) (hs := hs) (outsL n.pumps.length n.out.toNat) (⟨2, 0, []⟩, false) (.inr rfl)
 have h' : getF n hs (outsL n.pumps.length n.out.toNat) = _ := h
 unfold getsS
 rw [h']
 cases hf : (outsL n.pumps.length n.out.toNat).find? (badO n hs) with
 | none => simp
 | some o =>
  cases hg : (outsL n.pumps.length n.out.toNat).any (goodO n hs) <;> simp
theorem mem_combos : ∀ {m : List Int} {k : Nat} {l : List Int}, l ∈ combos k m ↔ l.Sublist m ∧ l.length = k
 | [], 0, l => by
  simp only [combos, List.mem_singleton, List.sublist_nil]
  exact ⟨fun h => ⟨h, by rw [h]; rfl⟩, fun h => h.1⟩
 | [], k + 1, l => by
  simp only [combos, List.not_mem_nil, List.sublist_nil, false_iff, not_and]
  intro h; subst h; simp
 | x :: m, 0, l => by
  simp only [combos, List.mem_singleton, List.length_eq_zero_iff]
  exact ⟨fun h => ⟨by subst h; exact List.nil_sublist _, h⟩, fun h => h.2⟩
 | x :: m, k + 1, l => by
  simp only [combos, List.mem_append, List.mem_map]
  constructor
  ·rintro (⟨t, ht, rfl⟩ | h)
   ·obtain ⟨h1, h2⟩ := mem_combos.1 ht
    exact ⟨h1.cons_cons x, by simp [h2]⟩
   ·obtain ⟨h1, h2⟩ := mem_combos.1 h
    exact ⟨h1.cons x, h2⟩
  ·rintro ⟨h1, h2⟩
   cases h1 with
   | cons _ h => exact .inr (mem_combos.2 ⟨h, h2⟩)
   | cons_cons _ h => exact .inl ⟨_, mem_combos.2 ⟨h, by simpa using h2⟩, rfl⟩
theorem sub_of_pair : ∀ {m l : List Int}, m.Pairwise (· < ·) → l.Pairwise (· < ·) → (∀ a ∈ l, a ∈ m) → l.Sublist m
 | _, [], _, _, _ => List.nil_sublist _
 | [], a :: l, _, _, h => by have := h a (by simp); simp at this
 | x :: m, a :: l, hm, hl, h => by
  obtain ⟨hm1, hm2⟩ := List.pairwise_cons.1 hm
  obtain ⟨hl1, hl2⟩ := List.pairwise_cons.1 hl
  have key : ∀ b ∈ l, x < b → b ∈ m := fun b hb hxb => by
   rcases List.mem_cons.1 (h b (by simp [hb])) with rfl | h1
   ·omega
   ·exact h1
  rcases List.mem_cons.1 (h a (by simp)) with rfl | h1
  ·exact (sub_of_pair hm2 hl2 fun b hb => key b hb (hl1 b hb)).cons_cons _
  ·refine (sub_of_pair hm2 hl fun b hb => ?_).cons x
   rcases List.mem_cons.1 hb with rfl | hb
   ·exact h1
   ·exact key b hb (Int.lt_trans (hm1 _ h1) (hl1 b hb))
theorem range_pair (np : Nat) : ((List.range np).map Int.ofNat).Pairwise (· < ·) := by
 rw [List.pairwise_map]
 exact List.pairwise_lt_range.imp fun h => by simpa using h
theorem mem_rangeI {np : Nat} {a : Int} : a ∈ (List.range np).map Int.ofNat ↔ 0 ≤ a ∧ a < np := by
 simp only [List.mem_map, List.mem_range]
 constructor
 ·rintro ⟨i, hi, rfl⟩; simp; omega
 ·rintro ⟨h1, h2⟩; exact ⟨a.toNat, by omega, by simp; omega⟩
theorem mem_outsL {np o : Nat} {l : List Int} : l ∈ outsL np o ↔ (∀ a ∈ l, 0 ≤ a ∧ a < np) ∧ l.Pairwise (· < ·) ∧ l.length ≤ o := by
 simp only [outsL, List.mem_flatMap, List.mem_range, mem_combos]
 constructor
 ·rintro ⟨k, hk, h1, h2⟩
  exact ⟨fun a ha => mem_rangeI.1 (h1.subset ha), (range_pair np).sublist h1, by omega⟩
 ·rintro ⟨h1, h2, h3⟩
  exact ⟨l.length, by omega, sub_of_pair (range_pair np) h2 fun a ha => mem_rangeI.2 (h1 a ha), rfl⟩
theorem mem_outs {n : NetT} (h0 : 0 ≤ n.out) {l : List Int} : l ∈ outsL n.pumps.length n.out.toNat ↔ outOK n l = true := by
 rw [mem_outsL]
 constructor
 ·rintro ⟨h1, h2, h3⟩
  unfold outOK
  rw [Bool.and_eq_true]
  exact ⟨okL_of (fun a ha => by simpa [isPump] using h1 a ha) h2 (fun c hc => by cases hc), by simp; omega⟩
 ·intro h
  obtain ⟨h1, h2, h3⟩ := out_facts h
  exact ⟨h1, h2, by omega⟩
def lexB : List Int → List Int → Prop
 | a :: l, b :: m => a < b ∨ (a = b ∧ lexB l m)
 | _, _ => False
def befO (a b : List Int) : Prop := a.length < b.length ∨ (a.length = b.length ∧ lexB a b)
theorem combos_pair : ∀ {m : List Int} {k : Nat}, m.Pairwise (· < ·) → (combos k m).Pairwise lexB
 | m, 0, _ => by unfold combos; simp
 | [], k + 1, _ => by simp [combos]
 | x :: m, k + 1, h => by
  obtain ⟨h1, h2⟩ := List.pairwise_cons.1 h
  simp only [combos]
  rw [List.pairwise_append]
  refine ⟨?_, combos_pair h2, ?_⟩
  ·rw [List.pairwise_map]
   exact (combos_pair h2).imp fun h => .inr ⟨rfl, h⟩
  ·intro a ha b hb
   rw [List.mem_map] at ha
   obtain ⟨t, ht, rfl⟩ := ha
   obtain ⟨q1, q2⟩ := mem_combos.1 hb
   cases b with
   | nil => simp at q2
   | cons y b => exact .inl (h1 y (q1.subset (by simp)))
theorem outsL_pair (np o : Nat) : (outsL np o).Pairwise befO := by
 unfold outsL
 rw [List.pairwise_flatMap]
 refine ⟨fun k hk => ?_, ?_⟩
 ·have hl : ∀ a ∈ combos k ((List.range np).map Int.ofNat), a.length = k := fun a ha => (mem_combos.1 ha).2
  exact (combos_pair (range_pair np)).imp_of_mem fun ha hb h => .inr ⟨by rw [hl _ ha, hl _ hb], h⟩
 ·refine List.pairwise_lt_range.imp fun {i j} hij a ha b hb => .inl ?_
  rw [(mem_combos.1 ha).2, (mem_combos.1 hb).2]; exact hij
theorem find_first {α : Type} {R : α → α → Prop} {p : α → Bool} : ∀ {l : List α} {x : α}, l.Pairwise R → l.find? p = some x → x ∈ l ∧ p x = true ∧ ∀ y ∈ l, p y = true → y = x ∨ R x y
 | [], x, _, h => by simp at h
 | a :: l, x, hp, h => by
  obtain ⟨h1, h2⟩ := List.pairwise_cons.1 hp
  rw [List.find?_cons] at h
  split at h
  ·rename_i hpa
   cases h
   refine ⟨by simp, hpa, fun y hy hpy => ?_⟩
   rcases List.mem_cons.1 hy with rfl | hy
   ·exact .inl rfl
   ·exact .inr (h1 y hy)
  ·rename_i hpa
   obtain ⟨q1, q2, q3⟩ := find_first h2 h
   refine ⟨by simp [q1], q2, fun y hy hpy => ?_⟩
   rcases List.mem_cons.1 hy with rfl | hy
   ·rw [hpa] at hpy; cases hpy
   ·exact q3 y hy hpy
structure GetF (n : NetT) (hs : List HeadT) (t : LackT) : Prop where
 kn : t.known = 0 ∨ t.known = 1 ∨ t.known = 2
 yes : t.known = 2 → t.head = 0 ∧ t.out = [] ∧ ∀ o, outOK n o = true → badO n hs o = false
 bad : ¬ t.known = 2 → outOK n t.out = true ∧ badO n hs t.out = true ∧ t.head = (lackS n hs t.out false).1 ∧ ∀ o, outOK n o = true → badO n hs o = true → o = t.out ∨ befO t.out o
 no : t.known = 0 → ∀ o, outOK n o = true → goodO n hs o = false
 op : t.known = 1 → ∃ o, outOK n o = true ∧ goodO n hs o = true
theorem gets_facts {n : NetT} (h0 : 0 ≤ n.out) (hs : List HeadT) : GetF n hs (getsS n hs) := by
 rw [getsS_eq]
 have hm := fun l => @mem_outs n h0 l
 obtain ⟨L, hL⟩ : ∃ L, outsL n.pumps.length n.out.toNat = L := ⟨_, rfl⟩
 have hp : L.Pairwise befO := hL ▸ outsL_pair _ _
 rw [hL] at hm ⊢
 cases hf : L.find? (badO n hs) with
 | none =>
  refine ⟨.inr (.inr rfl), fun _ => ⟨rfl, rfl, fun o ho => ?_⟩, fun h => (h rfl).elim, fun h => (by cases h), fun h => (by cases h)⟩
  have := List.find?_eq_none.1 hf o ((hm o).2 ho)
  simpa using this
 | some o =>
  obtain ⟨q1, q2, q3⟩ := find_first hp hf
  simp only
  cases hg : L.any (goodO n hs) with
  | true =>
   simp only [if_true]
   refine ⟨.inr (.inl rfl), fun h => (by cases h), fun _ => ⟨(hm o).1 q1, q2, rfl, fun o' h1 h2 => q3 o' ((hm o').2 h1) h2⟩, fun h => (by cases h), fun _ => ?_⟩
   obtain ⟨x, hx, hx2⟩ := List.any_eq_true.1 hg
   exact ⟨x, (hm x).1 hx, hx2⟩
  | false =>
   simp only [Bool.false_eq_true, if_false]
   refine ⟨.inl rfl, fun h => (by cases h), fun _ => ⟨(hm o).1 q1, q2, rfl, fun o' h1 h2 => q3 o' ((hm o').2 h1) h2⟩, fun _ o' h1 => ?_, fun h => (by cases h)⟩
   have := List.any_eq_false.1 hg o' ((hm o').2 h1)
   simpa using this
end Cp
namespace Cp
open Go Go.Proofs
set_option maxRecDepth 10000
set_option maxHeartbeats 4000000
end Cp
namespace Cp
open Go
theorem lackS_false {n : NetT} {hs : List HeadT} {out : List Int} {best : Bool} : (lackS n hs out best).2 = false ↔ (∀ h ∈ hs, h.least ≤ pressS n hs out best h) ∧ needs hs * n.mins ≤ tankH n best := by
 unfold lackS
 cases hf : lackF n hs out best hs with
 | some x =>
  obtain ⟨h1, h2⟩ : x ∈ hs ∧ pressS n hs out best x < x.least := ⟨List.mem_of_find?_eq_some hf, by simpa using List.find?_some hf⟩
  simp only [Bool.true_eq_false, false_iff, not_and]
  intro h
  have := h x h1
  omega
 | none =>
  have h1 : ∀ h ∈ hs, h.least ≤ pressS n hs out best h := fun h hm => by simpa using List.find?_eq_none.1 hf h hm
  simp only
  split
  ·simp only [Bool.true_eq_false, false_iff, not_and]; intro _; omega
  ·simp only [true_iff]; exact ⟨h1, by omega⟩
theorem openH_get {hs : List HeadT} {l : List Int} (hal : ∀ a ∈ l, (headAt hs a).isSome = true) {k : Nat} {a : Int} {x : HeadT} (ha : l[k]? = some a) (hx : headAt hs a = some x) : (openH hs l)[k]? = some x := by
 have h1 := openH_snoc ha hx
 have h2 : (openH hs (l.take k)).length = k := by
  rw [openH_len' fun b hb => hal b (List.mem_of_mem_take hb)]
  have := (List.getElem?_eq_some_iff.1 ha).1
  simp; omega
 have h3 : openH hs l = openH hs (l.take (k + 1)) ++ openH hs (l.drop (k + 1)) := by unfold openH; rw [← List.filterMap_append, List.take_append_drop]
 rw [h3, h1, List.append_assoc, List.getElem?_append_right (by omega), h2]
 simp
end Cp
namespace Cp
open Go Go.Proofs
set_option maxRecDepth 10000
set_option maxHeartbeats 4000000
end Cp
namespace Cp
open Go
theorem ACall.imp {P : Program} {fid : FuncId} {args : List Val} {H : Hp} {R R' : Val → Hp → Prop} (h : ACall P fid args H R) (hR : ∀ v H', R v H' → R' v H') : ACall P fid args H R' :=
 ⟨h.1, fun G w xs hr hv => Calls.mono (h.2 G w xs hr hv) (by rintro e w' ⟨v, x, G', H', h1, h2, h3, h4, h5, h6⟩; exact ⟨v, x, G', H', h1, h2, h3, h4, h5, hR _ _ h6⟩)⟩
theorem ACall.weak {P : Program} {fid : FuncId} {args : List Val} {H : Hp} {a b : Val} {R : Hp → Prop} (h : ACall P fid args H fun v H' => v = a ∧ R H') (hw : ∀ G w x, VR G w a x → VR G w b x) : ACall P fid args H fun v H' => v = b ∧ R H' :=
 ⟨h.1, fun G w xs hr hv => Calls.mono (h.2 G w xs hr hv) (by rintro e w' ⟨v, x, G', H', h1, h2, h3, h4, h5, rfl, h6⟩; exact ⟨b, x, G', H', h1, h2, h3, h4, hw _ _ _ h5, rfl, h6⟩)⟩
theorem VR.tup_imp {G : Gh} {w : World} {vs vs' : List Val} {x : Value} (hl : vs.length = vs'.length) (hi : ∀ (i : Nat) (v v' : Val), vs[i]? = some v → vs'[i]? = some v' → ∀ y, VR G w v y → VR G w v' y) (h : VR G w (.tup vs) x) : VR G w (.tup vs') x := by
 cases h with
 | tup _ xs hs hv =>
  refine .tup _ xs (by omega) (fun i v' hi' => ?_)
  have hlt := (List.getElem?_eq_some_iff.1 hi').1
  have h1 : vs[i]? = some vs[i] := List.getElem?_eq_getElem (by omega)
  exact hi i _ _ h1 hi' _ (hv i _ h1)
theorem VR.agg3_nils {G : Gh} {w : World} {a b : Val} {n : Nat} {x : Value} (h : VR G w (.agg [a, b, .nils]) x) : VR G w (.agg [a, b, .lst n []]) x := by
 cases h with
 | agg _ xs hs hc hv =>
  refine .agg _ xs (by simpa using hs) (fun i v hi => ?_) (fun i v hi => ?_)
  ·match i, hi with
   | 0, hi => exact hc 0 v hi
   | 1, hi => exact hc 1 v hi
   | 2, hi => cases hi; rfl
  ·match i, hi with
   | 0, hi => exact hv 0 v hi
   | 1, hi => exact hv 1 v hi
   | 2, hi => cases hi; exact (hv 2 .nils rfl).nils_lst _
end Cp
namespace Cp
open Go Go.Proofs
set_option maxRecDepth 10000
set_option maxHeartbeats 1000000
def GJ (Hz : Hp) (n : NetT) (hs : List HeadT) (e36 e33 e34 e2 e3 e4 e5 ey : Nat) (L0 : AObj) (k : Nat) (H : Hp) : Prop :=
 (∀ j, j < 100 → H j = Hz j) ∧ H 436 = some (e36, .fro 10 [cPlant n hs e33 e34 (n.pipes.length + 1)]) ∧ H 433 = some (e33, .arr 1 (ints (flowL n.pipes (n.pipes.length + 1) hs))) ∧ (∃ ver, H 434 = some (e34, .map ver [])) ∧
 H 602 = some (e2, .arr 3 [[.int .u8 0, .int .i64 0, .nils]]) ∧ H 603 = some (e3, .arr 3 [cTold (getF n hs ((outsL n.pumps.length n.out.toNat).take k)).1]) ∧ H 604 = some (e4, .arr 1 [[.bool (getF n hs ((outsL n.pumps.length n.out.toNat).take k)).2]]) ∧
 H 605 = some (e5, .arr 4 [[.fn (sgF false) [], .fn (sgF true) [], .fn (sgF true) [], .fn (sgF false) []]]) ∧ H 100 = some (ey, L0) ∧ (H 1208 = none ∧ H 1604 = none ∧ H 1605 = none ∧ H 1607 = none)
theorem outsL_len {np o : Nat} (hn : np ≤ 4) (ho : o ≤ 3) : (outsL np o).length ≤ 100000 := by
 have h : ∀ np, np < 5 → ∀ o, o < 4 → (outsL np o).length ≤ 100000 := by decide +kernel
 exact h np (by omega) o (by omega)
theorem gets_ok (n : NetT) (hF : NetF n) (hs : List HeadT) (h5 : heads500 hs) (hsl : hs.length ≤ 12) (hnd : ∀ h ∈ hs, 1 ≤ h.node ∧ h.node ≤ n.pipes.length) (e36 e33 e34 ver : Nat) (H0 : Hp)
  (g36 : H0 436 = some (e36, .fro 10 [cPlant n hs e33 e34 (n.pipes.length + 1)])) (g33 : H0 433 = some (e33, .arr 1 (ints (flowL n.pipes (n.pipes.length + 1) hs)))) (g34 : H0 434 = some (e34, .map ver []))
  (hroom : ∀ j, 600 ≤ j → H0 j = none) (h100 : H0 100 = none) :
  ACall Try.prog 69 [.ptr 436 e36 10 0 0] H0 fun v H' => v = .agg (cTold (getsS n hs)) ∧ ∀ j, j < 100 → H' j = H0 j := by
 refine ACall_ofR (fn := Try.f69) tabOK (by kernel_rfl) rfl (by kernel_rfl) (by simp [Try.f69]) ?_
 intro X hX0 hXs hXr
 have q1 := hroom 601 (by decide)
 have q2 := hroom 602 (by decide)
 have q3 := hroom 603 (by decide)
 have q4 := hroom 604 (by decide)
 have q5 := hroom 605 (by decide)
 have oc := fun H h => outs_call n hF (hs := hs) (e36 := e36) (e33 := e33) (e34 := e34) (k := n.pipes.length + 1) (H := H) h
 repeat' (first | (with_reducible refine sk ?_; intro K hK) | ((first | (with_reducible first | refine rg (md := { base := 600, own := [3, 4, 5, 6], imp := [10] }) (h := ?_) | refine rgS [2, 3, 4, 5, 6] (md := { base := 600, own := [3, 4, 5, 6], imp := [10] }) (h := ?_) | refine nx ?_) | refine pK (ends_ok) ?_); try simp (disch := omega) only [g36, q1, q2, q3, q4, q5,go_sem, simprocAttr]) | (with_reducible refine bk ?_) | ((with_reducible refine' cE ?hv ?_ ?_); (case hv => first | rfl | (simp only [g36, q1, q2, q3, q4, q5,go_sem, simprocAttr]; rfl)); all_goals (intro hc; (try simp only [go_sem, simprocAttr] at hc); try (exfalso; omega))) | ((with_reducible first | refine grdS_split ?_ ?_ | refine lkG_split ?_ ?_) <;> intro hg <;> (try simp (disch := omega) only [hg, g36, q1, q2, q3, q4, q5,go_sem, simprocAttr]) <;> (try simp only [go_sem, simprocAttr] at hg) <;> (try (exfalso; omega))) | (first | refine iK (ends_ok) ?_) | with_reducible intro (ep : Nat → Nat) | with_reducible apply_assumption -exfalso -symm only [*])
 refine iK (oc _ (by (first | rfl | (simp only [g36, go_sem, simprocAttr]; done) | (simp only [g36, go_sem, simprocAttr]; rfl)))) ?_
 rintro v H3 ⟨rfl, rfl⟩
 simp only [go_sem, simprocAttr]
 repeat' (first | (with_reducible refine sk ?_; intro K hK) | ((with_reducible first | refine rg (md := { base := 600, own := [3, 4, 5, 6], imp := [10] }) (h := ?_) | refine rgS [2, 3, 4, 5, 6] (md := { base := 600, own := [3, 4, 5, 6], imp := [10] }) (h := ?_) | refine nx ?_); try simp (disch := omega) only [go_sem, simprocAttr]) | (with_reducible refine bk ?_) | ((with_reducible refine' cE ?hv ?_ ?_); (case hv => first | rfl | (simp only [go_sem, simprocAttr]; rfl)); all_goals (intro hc; (try simp only [go_sem, simprocAttr] at hc); try (exfalso; omega))) | ((with_reducible first | refine grdS_split ?_ ?_ | refine lkG_split ?_ ?_) <;> intro hg <;> (try simp (disch := omega) only [hg, go_sem, simprocAttr]) <;> (try simp only [go_sem, simprocAttr] at hg) <;> (try (exfalso; omega))) | with_reducible intro (ep : Nat → Nat) | with_reducible apply_assumption -exfalso -symm only [*])
 refine AW_block ?_
 refine AW_rangeFunc 100 (by simp only [go_sem, simprocAttr, outsF]; rfl) hXr fun ey => ?_
 generalize hf0 : (upd _ _ _ : Fr) = f0
 generalize hH : (upd (upd (upd (upd (upd (upd (upd H0 _ _) _ _) _ _) _ _) _ _) _ _) _ _ : Hp) = HH
 obtain ⟨e2, e3, e4, e5, k1, k2, k3, k4, k5, G2, G3, G4, G5, Gs⟩ : ∃ e2 e3 e4 e5, f0 1 = .pim [.ptr 436 e36 10 0 0] ∧ f0 2 = .ptr 602 e2 3 0 0 ∧ f0 3 = .ptr 603 e3 3 0 0 ∧ f0 4 = .ptr 604 e4 1 0 0 ∧ f0 5 = .ptr 605 e5 4 0 0 ∧
   HH 602 = some (e2, .arr 3 [[.int .u8 0, .int .i64 0, .nils]]) ∧ HH 603 = some (e3, .arr 3 [[.int .u8 2, .int .i64 0, .nils]]) ∧ HH 604 = some (e4, .arr 1 [[.bool false]]) ∧ HH 605 = some (e5, .arr 4 [[.fn (sgF false) [], .fn (sgF true) [], .fn (sgF true) [], .fn (sgF false) []]]) ∧ ∀ j, ¬ j = 602 → ¬ j = 603 → ¬ j = 604 → ¬ j = 605 → HH j = H0 j := by
  refine ⟨_, _, _, _, by rw [← hf0]; rfl, by rw [← hf0]; rfl, by rw [← hf0]; rfl, by rw [← hf0]; rfl, by rw [← hf0]; rfl, by rw [← hH]; rfl, by rw [← hH]; rfl, by rw [← hH]; rfl, by rw [← hH]; rfl, fun j h1 h2 h3 h4 => ?_⟩
  rw [← hH, upd_ne _ _ h4, upd_ne _ _ h4, upd_ne _ _ h3, upd_ne _ _ h3, upd_ne _ _ h2, upd_ne _ _ h2, upd_ne _ _ h1]
 have G36 := (Gs 436 (by decide) (by decide) (by decide) (by decide)).trans g36
 have G33 := (Gs 433 (by decide) (by decide) (by decide) (by decide)).trans g33
 have G34 := (Gs 434 (by decide) (by decide) (by decide) (by decide)).trans g34
 have Gr : ∀ j, 606 ≤ j → HH j = none := fun j hj => (Gs j (by omega) (by omega) (by omega) (by omega)).trans (hroom j (by omega))
 have Gl : ∀ j, j < 100 → HH j = H0 j := fun j hj => Gs j (by omega) (by omega) (by omega) (by omega)
 have hXs0 : X.sz = 24 := hXs
 clear hf0 hH hXs Gs g36 g33 g34 hroom q1 q2 q3 q4 q5 oc h100
 generalize hL : AObj.loop _ _ _ _ _ _ = L0
 have hll := @outsL_len n.pumps.length n.out.toNat hF.pumps.2 (by have := hF.out.2; have := hF.pumps.2; omega)
 have hmo := fun l => @mem_outs n hF.out.1 l
 refine ⟨fun v H' => GJ H0 n hs e36 e33 e34 e2 e3 e4 e5 ey L0 (outsL n.pumps.length n.out.toNat).length H', values1_ok _ hll _ 100 ey (GJ H0 n hs e36 e33 e34 e2 e3 e4 e5 ey L0) ?_ ?_, ?_⟩
 ·have h0 : getF n hs ((outsL n.pumps.length n.out.toNat).take 0) = (⟨2, 0, []⟩, false) := rfl
  unfold GJ
  rw [h0]
  exact ⟨fun j hj => by rw [upd_ne _ _ (by omega), Gl j hj], by rw [upd_ne _ _ (by decide), G36], by rw [upd_ne _ _ (by decide), G33], ⟨_, by rw [upd_ne _ _ (by decide), G34]⟩, by rw [upd_ne _ _ (by decide), G2], by rw [upd_ne _ _ (by decide), G3]; rfl, by rw [upd_ne _ _ (by decide), G4], by rw [upd_ne _ _ (by decide), G5], upd_same _ _ _,
   by rw [upd_ne _ _ (by decide), Gr _ (by decide)], by rw [upd_ne _ _ (by decide), Gr _ (by decide)], by rw [upd_ne _ _ (by decide), Gr _ (by decide)], by rw [upd_ne _ _ (by decide), Gr _ (by decide)]⟩
 ·clear G36 G33 G34 G2 G3 G4 G5 Gr
  rintro k l Hs hk ⟨jl, j36, j33, ⟨ver', j34⟩, j2, j3, j4, j5, j100, jr0, jr1, jr2, jr3⟩
  have hol := (hmo l).1 (List.mem_of_getElem? hk)
  have hkn := @getF_kn n hs k (outsL n.pumps.length n.out.toNat)
  have hsn := @getF_snoc n hs _ _ _ hk
  generalize getF n hs ((outsL n.pumps.length n.out.toNat).take k) = s at *
  obtain ⟨t, g⟩ := s
  simp only at hkn j3 j4
  subst hL
  refine ⟨_, _, _, _, _, j100, rfl, fun t ht => ?_, fun X1 b h10 h1s h1r => ?_⟩
  ·rw [frL_len, hXs0]
   have ht' : t = 11 := by simpa using ht
   subst ht'; decide
  have hXs : X1.sz = 24 := by rw [h1s, frL_len, hXs0]
  show AW _ _ _ _ _ (upd (frOf (frL f0 X.sz)) 11 (.lst 1 (ints l))) Hs
  have k1' : frOf (frL f0 X.sz) 1 = .pim [.ptr 436 e36 10 0 0] := by rw [frOf_frL, hXs0, if_pos (by decide), k1]
  have k3' : frOf (frL f0 X.sz) 3 = .ptr 603 e3 3 0 0 := by rw [frOf_frL, hXs0, if_pos (by decide), k3]
  have k4' : frOf (frL f0 X.sz) 4 = .ptr 604 e4 1 0 0 := by rw [frOf_frL, hXs0, if_pos (by decide), k4]
  have k5' : frOf (frL f0 X.sz) 5 = .ptr 605 e5 4 0 0 := by rw [frOf_frL, hXs0, if_pos (by decide), k5]
  generalize frOf (frL f0 X.sz) = f1 at k1' k3' k4' k5'
  refine AW_lose 606 fun H1 w6 hs1 => ?_
  repeat' (first | (with_reducible refine sk ?_; intro K hK) | ((with_reducible first | refine rg (md := { base := 600, own := [3, 4, 5, 6], imp := [10] }) (h := ?_) | refine rgS [2, 3, 4, 5, 6] (md := { base := 600, own := [3, 4, 5, 6], imp := [10] }) (h := ?_) | refine nx ?_); try simp (disch := omega) only [k1', k3', k4', k5', w6,go_sem, simprocAttr]) | (with_reducible refine bk ?_) | ((with_reducible refine' cE ?hv ?_ ?_); (case hv => first | rfl | (simp only [k1', k3', k4', k5', w6,go_sem, simprocAttr]; rfl)); all_goals (intro hc; (try simp only [go_sem, simprocAttr] at hc); try (exfalso; omega))) | ((with_reducible first | refine grdS_split ?_ ?_ | refine lkG_split ?_ ?_) <;> intro hg <;> (try simp (disch := omega) only [hg, k1', k3', k4', k5', w6,go_sem, simprocAttr]) <;> (try simp only [go_sem, simprocAttr] at hg) <;> (try (exfalso; omega))) | with_reducible intro (ep : Nat → Nat) | with_reducible apply_assumption -exfalso -symm only [*])
  refine ⟨rfl, _, _, _, _, _, by rw [upd_ne _ _ (by decide), upd_ne _ _ (by decide), hs1 _ (by decide), j100], ?_⟩
  generalize hHs : (upd (upd (upd H1 _ _) _ _) 100 _ : Hp) = HB
  generalize hfB : (upd _ _ _ : Fr) = fB
  obtain ⟨e6, b1, b3, b4, b5, b6, B6, B100, Bs⟩ : ∃ e6, fB 1 = .pim [.ptr 436 e36 10 0 0] ∧ fB 3 = .ptr 603 e3 3 0 0 ∧ fB 4 = .ptr 604 e4 1 0 0 ∧ fB 5 = .ptr 605 e5 4 0 0 ∧ fB 6 = .ptr 606 e6 1 0 0 ∧ HB 606 = some (e6, .arr 1 [[.lst 1 (ints l)]]) ∧ HB 100 = _ ∧ ∀ j, ¬ j = 606 → ¬ j = 100 → HB j = Hs j := by
   refine ⟨_, by rw [← hfB]; simp only [k1', go_sem, simprocAttr], by rw [← hfB]; simp only [k3', go_sem, simprocAttr], by rw [← hfB]; simp only [k4', go_sem, simprocAttr], by rw [← hfB]; simp only [k5', go_sem, simprocAttr], by rw [← hfB]; rfl, by rw [← hHs]; rfl, by rw [← hHs, upd_same], fun j h1 h2 => ?_⟩
   rw [← hHs, upd_ne _ _ h2, upd_ne _ _ h1, upd_ne _ _ h1, hs1 _ h1]
  clear hHs hfB hs1 k1' k3' k4' k5' w6
  have B36 := (Bs 436 (by decide) (by decide)).trans j36
  have B34 := (Bs 434 (by decide) (by decide)).trans j34
  have hst : ∀ (ver' : Nat) (H : Hp), (∀ j, ¬ j = 434 → H j = HB j) → H 434 = some (e34, .map ver' (imap .i64 (offM l))) →
    ACall Try.prog 95 [.pim [.ptr 436 e36 10 0 0], .ptr 605 e5 4 0 0, .ptr 603 e3 3 0 0, .ptr 606 e6 1 0 0, .ptr 604 e4 1 0 0] H fun v H' => v = .tup [] ∧ H' 436 = H 436 ∧ (∃ ver2, H' 434 = some (e34, .map ver2 (imap .i64 (offM l)))) ∧
     ((∀ j, ¬ j = 434 → ¬ j = 603 → ¬ j = 604 → ¬ j = 1705 → H' j = HB j) ∧ H' 603 = some (e3, .arr 3 [cTold (getStep n hs (t, g) l).1]) ∧ H' 604 = some (e4, .arr 1 [[.bool (getStep n hs (t, g) l).2]])) := fun ver' H hH h34 => by
   have hc : ∀ j, ¬ j = 434 → ¬ j = 606 → ¬ j = 100 → H j = Hs j := fun j h1 h2 h3 => (hH j h1).trans (Bs j h2 h3)
   refine (gets1_ok n hF hs h5 hsl hnd l hol e36 e33 e34 ver' e3 e4 e5 e6 t hkn g H ((hc _ (by decide) (by decide) (by decide)).trans j36) ((hc _ (by decide) (by decide) (by decide)).trans j33) h34 ((hc _ (by decide) (by decide) (by decide)).trans j3) ((hc _ (by decide) (by decide) (by decide)).trans j4) ((hc _ (by decide) (by decide) (by decide)).trans j5) ((hH _ (by decide)).trans B6)
    ⟨(hc _ (by decide) (by decide) (by decide)).trans jr0, (hc _ (by decide) (by decide) (by decide)).trans jr1, (hc _ (by decide) (by decide) (by decide)).trans jr2, (hc _ (by decide) (by decide) (by decide)).trans jr3⟩).imp ?_
   rintro v H' ⟨hv, hlow, h3, h4⟩
   exact ⟨hv, hlow _ (by decide) (by decide) (by decide), ⟨ver', (hlow _ (by decide) (by decide) (by decide)).trans h34⟩, fun j a1 a2 a3 a4 => (hlow j a2 a3 a4).trans (hH j a1), h3, h4⟩
  have hlo : l.length ≤ 100000 := by
   have h1 := (out_facts hol).2.2
   have h2 := hF.out.2
   have h3 := hF.pumps.2
   omega
  repeat' (first | (with_reducible refine sk ?_; intro K hK) | ((with_reducible first | refine rg (md := { base := 600, own := [], imp := [15] }) (h := ?_) | refine rgS [2, 3, 4, 5, 6] (md := { base := 600, own := [], imp := [15] }) (h := ?_) | refine nx ?_); try simp (disch := omega) only [b1, b3, b4, b5, b6, B36, B6,go_sem, simprocAttr]) | (with_reducible refine bk ?_) | ((with_reducible refine' cE ?hv ?_ ?_); (case hv => first | rfl | (simp only [b1, b3, b4, b5, b6, B36, B6,go_sem, simprocAttr]; rfl)); all_goals (intro hc; (try simp only [go_sem, simprocAttr] at hc); try (exfalso; omega))) | ((with_reducible first | refine grdS_split ?_ ?_ | refine lkG_split ?_ ?_) <;> intro hg <;> (try simp (disch := omega) only [hg, b1, b3, b4, b5, b6, B36, B6,go_sem, simprocAttr]) <;> (try simp only [go_sem, simprocAttr] at hg) <;> (try (exfalso; omega))) | with_reducible intro (ep : Nat → Nat) | with_reducible apply_assumption -exfalso -symm only [*])
  refine iK (without_fro n hs e36 e33 e34 ver' l hlo (out_facts hol).2.1 _ _ HB (by (first | rfl | (simp only [B36, go_sem, simprocAttr]; done) | (simp only [B36, go_sem, simprocAttr]; rfl))) (by (first | rfl | (simp only [B34, go_sem, simprocAttr]; done) | (simp only [B34, go_sem, simprocAttr]; rfl))) _ hst) ?_
  rintro v H3 ⟨rfl, H2, ver2, ⟨hlow, r3, r4⟩, hsame, hm⟩
  have hc : ∀ j, ¬ j = 434 → ¬ j = 603 → ¬ j = 604 → ¬ j = 1705 → H3 j = HB j := fun j h1 h2 h3 h4 => (hsame j h1).trans (hlow j h1 h2 h3 h4)
  have hd : ∀ j, ¬ j = 434 → ¬ j = 603 → ¬ j = 604 → ¬ j = 1705 → ¬ j = 606 → ¬ j = 100 → H3 j = Hs j := fun j h1 h2 h3 h4 h5 h6 => (hc j h1 h2 h3 h4).trans (Bs j h5 h6)
  have C100 := (hc 100 (by decide) (by decide) (by decide) (by decide)).trans B100
  have C3 := (hsame 603 (by decide)).trans r3
  have C4 := (hsame 604 (by decide)).trans r4
  rw [← hsn] at C3 C4
  refine ⟨_, _, _, _, _, _, C100, ?_⟩
  refine ⟨rfl, ?_⟩
  have z : ∀ {o : Option (Nat × AObj)} (j : Nat), ¬ j = 434 → ¬ j = 603 → ¬ j = 604 → ¬ j = 1705 → ¬ j = 606 → ¬ j = 100 → upd H3 100 o j = Hs j := fun j h1 h2 h3 h4 h5 h6 => by rw [upd_ne _ _ h6]; exact hd j h1 h2 h3 h4 h5 h6
  exact ⟨fun j hj => (z j (by omega) (by omega) (by omega) (by omega) (by omega) (by omega)).trans (jl j hj), (z 436 (by decide) (by decide) (by decide) (by decide) (by decide) (by decide)).trans j36, (z 433 (by decide) (by decide) (by decide) (by decide) (by decide) (by decide)).trans j33, ⟨ver2, by rw [upd_ne _ _ (by decide)]; exact hm⟩, (z 602 (by decide) (by decide) (by decide) (by decide) (by decide) (by decide)).trans j2, by rw [upd_ne _ _ (by decide)]; exact C3, by rw [upd_ne _ _ (by decide)]; exact C4,
   (z 605 (by decide) (by decide) (by decide) (by decide) (by decide) (by decide)).trans j5, upd_same _ _ _, (z 1208 (by decide) (by decide) (by decide) (by decide) (by decide) (by decide)).trans jr0, (z 1604 (by decide) (by decide) (by decide) (by decide) (by decide) (by decide)).trans jr1,
   (z 1605 (by decide) (by decide) (by decide) (by decide) (by decide) (by decide)).trans jr2, (z 1607 (by decide) (by decide) (by decide) (by decide) (by decide) (by decide)).trans jr3⟩
 ·clear G36 G33 G34 G2 G3 G4 G5 Gr
  rintro v Hs ⟨jl, j36, j33, ⟨ver', j34⟩, j2, j3, j4, j5, j100, jr0, jr1, jr2, jr3⟩
  rw [List.take_of_length_le (Nat.le_refl _)] at j3 j4
  subst hL
  refine ⟨_, _, _, _, _, _, j100, by simp, ?_⟩
  have hkn := @getF_kn n hs (outsL n.pumps.length n.out.toNat).length (outsL n.pumps.length n.out.toNat)
  rw [List.take_of_length_le (Nat.le_refl _)] at hkn
  obtain ⟨G, hG⟩ : ∃ G, getsS n hs = G := ⟨_, rfl⟩
  have hgs := hG
  unfold getsS at hgs
  generalize getF n hs (outsL n.pumps.length n.out.toNat) = s at *
  obtain ⟨⟨kn, hd, ol⟩, g⟩ := s
  have yl : ∀ j, j < 100 → upd Hs 100 none j = H0 j := fun j hj => by rw [upd_ne _ _ (by omega), jl j hj]
  have y2 : upd Hs 100 none 602 = _ := (upd_ne _ _ (by decide)).trans j2
  have y3 : upd Hs 100 none 603 = _ := (upd_ne _ _ (by decide)).trans j3
  have y4 : upd Hs 100 none 604 = _ := (upd_ne _ _ (by decide)).trans j4
  generalize upd Hs 100 none = H2 at y2 y3 y4 yl
  clear j36 j33 j34 j2 j3 j4 j5 j100 jr0 jr1 jr2 jr3 hmo hll
  simp only at hkn
  rcases hkn with rfl | rfl <;> cases g
  ·simp only [cTold] at y3
   simp only [Bool.false_eq_true, false_and, and_self, if_true, if_false, Int.reduceEq, true_and] at hgs
   repeat' (first | (with_reducible refine sk ?_; intro K hK) | ((with_reducible first | refine rg (md := { base := 600, own := [], imp := [] }) (h := ?_) | refine rgS [2, 3, 4, 5, 6] (md := { base := 600, own := [], imp := [] }) (h := ?_) | refine nx ?_); try simp (disch := omega) only [k1, k2, k3, k4, y2, y3, y4,go_sem, simprocAttr]) | (with_reducible refine bk ?_) | ((with_reducible refine' cE ?hv ?_ ?_); (case hv => first | rfl | (simp only [k1, k2, k3, k4, y2, y3, y4,go_sem, simprocAttr]; rfl)); all_goals (intro hc; (try simp only [go_sem, simprocAttr] at hc); try (exfalso; omega))) | ((with_reducible first | refine grdS_split ?_ ?_ | refine lkG_split ?_ ?_) <;> intro hg <;> (try simp (disch := omega) only [hg, k1, k2, k3, k4, y2, y3, y4,go_sem, simprocAttr]) <;> (try simp only [go_sem, simprocAttr] at hg) <;> (try (exfalso; omega))) | with_reducible intro (ep : Nat → Nat) | with_reducible apply_assumption -exfalso -symm only [*])
   exact FnQ_end (Or.inl rfl) (.refl _) (by simp only [Try.f69, go_sem, simprocAttr, k2]; rfl) ⟨by rw [hG, ← hgs]; simp only [cTold, go_sem, simprocAttr], fun j hj => by (repeat rw [upd_ne _ _ (by omega)]); exact yl j hj⟩
  ·simp only [cTold] at y3
   simp only [Bool.false_eq_true, false_and, and_self, if_true, if_false, Int.reduceEq, true_and] at hgs
   repeat' (first | (with_reducible refine sk ?_; intro K hK) | ((with_reducible first | refine rg (md := { base := 600, own := [], imp := [] }) (h := ?_) | refine rgS [2, 3, 4, 5, 6] (md := { base := 600, own := [], imp := [] }) (h := ?_) | refine nx ?_); try simp (disch := omega) only [k1, k2, k3, k4, y2, y3, y4,go_sem, simprocAttr]) | (with_reducible refine bk ?_) | ((with_reducible refine' cE ?hv ?_ ?_); (case hv => first | rfl | (simp only [k1, k2, k3, k4, y2, y3, y4,go_sem, simprocAttr]; rfl)); all_goals (intro hc; (try simp only [go_sem, simprocAttr] at hc); try (exfalso; omega))) | ((with_reducible first | refine grdS_split ?_ ?_ | refine lkG_split ?_ ?_) <;> intro hg <;> (try simp (disch := omega) only [hg, k1, k2, k3, k4, y2, y3, y4,go_sem, simprocAttr]) <;> (try simp only [go_sem, simprocAttr] at hg) <;> (try (exfalso; omega))) | with_reducible intro (ep : Nat → Nat) | with_reducible apply_assumption -exfalso -symm only [*])
   exact FnQ_end (Or.inl rfl) (.refl _) (by simp only [Try.f69, go_sem, simprocAttr, k2]; rfl) ⟨by rw [hG, ← hgs]; simp only [cTold, go_sem, simprocAttr], fun j hj => by (repeat rw [upd_ne _ _ (by omega)]); exact yl j hj⟩
  ·simp only [cTold] at y3
   simp only [Bool.false_eq_true, false_and, and_self, if_true, if_false, Int.reduceEq, true_and] at hgs
   repeat' (first | (with_reducible refine sk ?_; intro K hK) | ((with_reducible first | refine rg (md := { base := 600, own := [], imp := [] }) (h := ?_) | refine rgS [2, 3, 4, 5, 6] (md := { base := 600, own := [], imp := [] }) (h := ?_) | refine nx ?_); try simp (disch := omega) only [k1, k2, k3, k4, y2, y3, y4,go_sem, simprocAttr]) | (with_reducible refine bk ?_) | ((with_reducible refine' cE ?hv ?_ ?_); (case hv => first | rfl | (simp only [k1, k2, k3, k4, y2, y3, y4,go_sem, simprocAttr]; rfl)); all_goals (intro hc; (try simp only [go_sem, simprocAttr] at hc); try (exfalso; omega))) | ((with_reducible first | refine grdS_split ?_ ?_ | refine lkG_split ?_ ?_) <;> intro hg <;> (try simp (disch := omega) only [hg, k1, k2, k3, k4, y2, y3, y4,go_sem, simprocAttr]) <;> (try simp only [go_sem, simprocAttr] at hg) <;> (try (exfalso; omega))) | with_reducible intro (ep : Nat → Nat) | with_reducible apply_assumption -exfalso -symm only [*])
   exact FnQ_end (Or.inl rfl) (.refl _) (by simp only [Try.f69, go_sem, simprocAttr, k2]; rfl) ⟨by rw [hG, ← hgs]; simp only [cTold, go_sem, simprocAttr], fun j hj => by (repeat rw [upd_ne _ _ (by omega)]); exact yl j hj⟩
  ·simp only [cTold] at y3
   simp only [Bool.false_eq_true, false_and, and_self, if_true, if_false, Int.reduceEq, true_and] at hgs
   repeat' (first | (with_reducible refine sk ?_; intro K hK) | ((with_reducible first | refine rg (md := { base := 600, own := [], imp := [] }) (h := ?_) | refine rgS [2, 3, 4, 5, 6] (md := { base := 600, own := [], imp := [] }) (h := ?_) | refine nx ?_); try simp (disch := omega) only [k1, k2, k3, k4, y2, y3, y4,go_sem, simprocAttr]) | (with_reducible refine bk ?_) | ((with_reducible refine' cE ?hv ?_ ?_); (case hv => first | rfl | (simp only [k1, k2, k3, k4, y2, y3, y4,go_sem, simprocAttr]; rfl)); all_goals (intro hc; (try simp only [go_sem, simprocAttr] at hc); try (exfalso; omega))) | ((with_reducible first | refine grdS_split ?_ ?_ | refine lkG_split ?_ ?_) <;> intro hg <;> (try simp (disch := omega) only [hg, k1, k2, k3, k4, y2, y3, y4,go_sem, simprocAttr]) <;> (try simp only [go_sem, simprocAttr] at hg) <;> (try (exfalso; omega))) | with_reducible intro (ep : Nat → Nat) | with_reducible apply_assumption -exfalso -symm only [*])
   exact FnQ_end (Or.inl rfl) (.refl _) (by simp only [Try.f69, go_sem, simprocAttr, k2]; rfl) ⟨by rw [hG, ← hgs]; simp only [cTold, go_sem, simprocAttr], fun j hj => by (repeat rw [upd_ne _ _ (by omega)]); exact yl j hj⟩
def lackV (t : LackT) : Val := .agg [.int .u8 t.known, .int .i64 t.head, .lst 1 (ints t.out)]
theorem cTold_weak (n : NetT) (h0 : 0 ≤ n.out) (hs : List HeadT) {G : Gh} {w : World} {x : Value} (h : VR G w (.agg (cTold (getsS n hs))) x) : VR G w (lackV (getsS n hs)) x := by
 have hf := gets_facts h0 hs
 unfold cTold at h
 unfold lackV
 split at h
 ·rename_i hk
  rw [(hf.yes hk).2.1]
  exact h.agg3_nils
 ·exact h
theorem getsV_ok (n : NetT) (hF : NetF n) (hs : List HeadT) (h5 : heads500 hs) (hsl : hs.length ≤ 12) (hnd : ∀ h ∈ hs, 1 ≤ h.node ∧ h.node ≤ n.pipes.length) (e36 e33 e34 ver : Nat) (H0 : Hp)
  (g36 : H0 436 = some (e36, .fro 10 [cPlant n hs e33 e34 (n.pipes.length + 1)])) (g33 : H0 433 = some (e33, .arr 1 (ints (flowL n.pipes (n.pipes.length + 1) hs)))) (g34 : H0 434 = some (e34, .map ver []))
  (hroom : ∀ j, 600 ≤ j → H0 j = none) (h100 : H0 100 = none) :
  ACall Try.prog 69 [.ptr 436 e36 10 0 0] H0 fun v H' => v = lackV (getsS n hs) ∧ ∀ j, j < 100 → H' j = H0 j :=
 (gets_ok n hF hs h5 hsl hnd e36 e33 e34 ver H0 g36 g33 g34 hroom h100).weak fun G w x h => cTold_weak n hF.out.1 hs h
end Cp
namespace Cp
open Go Go.Proofs
set_option maxRecDepth 10000
set_option maxHeartbeats 1000000
def lackN : Val := .agg [.int .u8 0, .int .i64 0, .nils]
def lackZ : LackT := ⟨0, 0, []⟩
def getsD (z : Val) (n : NetT) (l : List Int) : Val := if netOK n = true then (if openOK n.heads l = true then .tup [lackV (getsS n (openH n.heads l)), .int .i64 0] else .tup [z, .int .i64 2]) else .tup [z, .int .i64 50]
theorem lackV_noid {t : LackT} : noid (lackV t) = true := by simp only [lackV, noid, noids, noid_ints]; rfl
theorem Gets_ok0 (n : NetT) (hs : NetS n) (l : List Int) (hl : l.length ≤ 100000) : PureC Try.prog 26 [encNet n, .lst 1 (ints l)] (getsD lackN n l) := by
 have hnoid : noid (getsD lackN n l) = true := by unfold getsD; split <;> (try split) <;> (simp only [noid, noids, noidss, lackN, lackV_noid, go_sem, simprocAttr]; rfl)
 have hop := fun H0 => opened_ok n hs l hl H0
 unfold openR at hop
 have hpl := hs.pipes
 simp only [encNet, cNet] at hop
 refine PureC_of (fn := Try.f26) tabOK (by kernel_rfl) rfl (by kernel_rfl) (by simp [Try.f26]) (by simp [noids, noid, noidss, go_sem, encNet, cNet, hnoid]) (by first | rfl | simp [noids, noid, noidss, go_sem, encNet, cNet, hnoid]) ?_
 intro X hX0 hXs
 unfold getsD
 cases hN : netOK n with
 | false =>
  simp only [hN, Bool.false_eq_true, if_false] at hop
  repeat' (first | (with_reducible refine sk ?_; intro K hK) | ((first | (with_reducible first | refine rg (md := { base := 0, own := [4], imp := [11, 19] }) (h := ?_) | refine rgS [4] (md := { base := 0, own := [4], imp := [11, 19] }) (h := ?_) | refine nx ?_) | refine pK (hop _) ?_); try simp (disch := omega) only [encNet, cNet,go_sem, simprocAttr]) | (with_reducible refine bk ?_) | ((with_reducible refine' cE ?hv ?_ ?_); (case hv => first | rfl | (simp only [encNet, cNet,go_sem, simprocAttr]; rfl)); all_goals (intro hc; (try simp only [go_sem, simprocAttr] at hc); try (exfalso; omega))) | (first | refine iK (hop _) ?_) | ((with_reducible refine fe ?_); refine ⟨_, (by simp only [Try.f26, encNet, cNet,go_sem, simprocAttr]; rfl), ?_⟩; first | rfl | (try simp only [encNet, cNet,go_sem, simprocAttr, seval])) | with_reducible intro (ep : Nat → Nat) | with_reducible apply_assumption -exfalso -symm only [*])
  rintro v H3 ⟨hlow, rfl⟩
  have g4 := hlow 4 (by decide)
  simp only [go_sem, simprocAttr] at g4
  simp only [go_sem, simprocAttr]
  repeat' (first | (with_reducible refine sk ?_; intro K hK) | ((with_reducible first | refine rg (md := { base := 0, own := [4], imp := [11, 19] }) (h := ?_) | refine rgS [4] (md := { base := 0, own := [4], imp := [11, 19] }) (h := ?_) | refine nx ?_); try simp (disch := omega) only [g4, lackN,go_sem, simprocAttr]) | (with_reducible refine bk ?_) | ((with_reducible refine' cE ?hv ?_ ?_); (case hv => first | rfl | (simp only [g4, lackN,go_sem, simprocAttr]; rfl)); all_goals (intro hc; (try simp only [go_sem, simprocAttr] at hc); try (exfalso; omega))) | ((with_reducible refine fe ?_); refine ⟨_, (by simp only [Try.f26, g4, lackN,go_sem, simprocAttr]; rfl), ?_⟩; first | rfl | (try simp only [g4, lackN,go_sem, simprocAttr, seval])) | with_reducible intro (ep : Nat → Nat) | with_reducible apply_assumption -exfalso -symm only [*])
 | true =>
  have hF := net_facts hN
  cases hO : openOK n.heads l with
  | false =>
   simp only [hN, hO, Bool.false_eq_true, if_false, if_true] at hop
   repeat' (first | (with_reducible refine sk ?_; intro K hK) | ((first | (with_reducible first | refine rg (md := { base := 0, own := [4], imp := [11, 19] }) (h := ?_) | refine rgS [4] (md := { base := 0, own := [4], imp := [11, 19] }) (h := ?_) | refine nx ?_) | refine pK (hop _) ?_); try simp (disch := omega) only [encNet, cNet,go_sem, simprocAttr]) | (with_reducible refine bk ?_) | ((with_reducible refine' cE ?hv ?_ ?_); (case hv => first | rfl | (simp only [encNet, cNet,go_sem, simprocAttr]; rfl)); all_goals (intro hc; (try simp only [go_sem, simprocAttr] at hc); try (exfalso; omega))) | (first | refine iK (hop _) ?_) | ((with_reducible refine fe ?_); refine ⟨_, (by simp only [Try.f26, encNet, cNet,go_sem, simprocAttr]; rfl), ?_⟩; first | rfl | (try simp only [encNet, cNet,go_sem, simprocAttr, seval])) | with_reducible intro (ep : Nat → Nat) | with_reducible apply_assumption -exfalso -symm only [*])
   rintro v H3 ⟨hlow, rfl⟩
   have g4 := hlow 4 (by decide)
   simp only [go_sem, simprocAttr] at g4
   simp only [go_sem, simprocAttr]
   repeat' (first | (with_reducible refine sk ?_; intro K hK) | ((with_reducible first | refine rg (md := { base := 0, own := [4], imp := [11, 19] }) (h := ?_) | refine rgS [4] (md := { base := 0, own := [4], imp := [11, 19] }) (h := ?_) | refine nx ?_); try simp (disch := omega) only [g4, lackN,go_sem, simprocAttr]) | (with_reducible refine bk ?_) | ((with_reducible refine' cE ?hv ?_ ?_); (case hv => first | rfl | (simp only [g4, lackN,go_sem, simprocAttr]; rfl)); all_goals (intro hc; (try simp only [go_sem, simprocAttr] at hc); try (exfalso; omega))) | ((with_reducible refine fe ?_); refine ⟨_, (by simp only [Try.f26, g4, lackN,go_sem, simprocAttr]; rfl), ?_⟩; first | rfl | (try simp only [g4, lackN,go_sem, simprocAttr, seval])) | with_reducible intro (ep : Nat → Nat) | with_reducible apply_assumption -exfalso -symm only [*])
  | true =>
   simp only [hN, hO, if_true] at hop
   repeat' (first | (with_reducible refine sk ?_; intro K hK) | ((first | (with_reducible first | refine rg (md := { base := 0, own := [4], imp := [11, 19] }) (h := ?_) | refine rgS [4] (md := { base := 0, own := [4], imp := [11, 19] }) (h := ?_) | refine nx ?_) | refine pK (hop _) ?_); try simp (disch := omega) only [encNet, cNet,go_sem, simprocAttr]) | (with_reducible refine bk ?_) | ((with_reducible refine' cE ?hv ?_ ?_); (case hv => first | rfl | (simp only [encNet, cNet,go_sem, simprocAttr]; rfl)); all_goals (intro hc; (try simp only [go_sem, simprocAttr] at hc); try (exfalso; omega))) | (first | refine iK (hop _) ?_) | ((with_reducible refine fe ?_); refine ⟨_, (by simp only [Try.f26, encNet, cNet,go_sem, simprocAttr]; rfl), ?_⟩; first | rfl | (try simp only [encNet, cNet,go_sem, simprocAttr, seval])) | with_reducible intro (ep : Nat → Nat) | with_reducible apply_assumption -exfalso -symm only [*])
   rintro v H3 ⟨hlow, e36, e33, e34, ver, rfl, h36, h33, h34⟩
   have g4 := hlow 4 (by decide)
   simp only [go_sem, simprocAttr] at g4
   simp only [go_sem, simprocAttr]
   repeat' (first | ((fail_if_success (with_reducible refine AW_at (id := 4) ?_)); with_reducible refine sk ?_; intro K hK) | ((with_reducible first | refine rg (md := { base := 0, own := [4], imp := [11, 19] }) (h := ?_) | refine rgS [4] (md := { base := 0, own := [4], imp := [11, 19] }) (h := ?_) | refine nx ?_); try simp (disch := omega) only [h36, h33, h34, g4,go_sem, simprocAttr]) | (with_reducible refine bk ?_) | ((with_reducible refine' cE ?hv ?_ ?_); (case hv => first | rfl | (simp only [h36, h33, h34, g4,go_sem, simprocAttr]; rfl)); all_goals (intro hc; (try simp only [go_sem, simprocAttr] at hc); try (exfalso; omega))) | ((with_reducible refine fe ?_); refine ⟨_, (by simp only [Try.f26, h36, h33, h34, g4,go_sem, simprocAttr]; rfl), ?_⟩; first | rfl | (try simp only [h36, h33, h34, g4,go_sem, simprocAttr, seval])) | with_reducible intro (ep : Nat → Nat) | with_reducible apply_assumption -exfalso -symm only [*])
   refine AW_freeze 436 h36 ?_
   refine AW_keep [4, 433, 434, 436] ?_
   obtain ⟨H4, hH4⟩ : ∃ H4, keep (upd H3 436 (some (e36, .fro 10 [cPlant n (openH n.heads l) e33 e34 (n.pipes.length + 1)]))) [4, 433, 434, 436] = H4 := ⟨_, rfl⟩
   have k36 : H4 436 = some (e36, .fro 10 [cPlant n (openH n.heads l) e33 e34 (n.pipes.length + 1)]) := by rw [← hH4]; rfl
   have k33 : H4 433 = some (e33, .arr 1 (ints (flowL n.pipes (n.pipes.length + 1) (openH n.heads l)))) := by rw [← hH4]; exact h33
   have k34 : H4 434 = some (e34, .map ver []) := by rw [← hH4]; exact h34
   have k4 := (congrFun hH4 4).symm.trans g4
   have kr : ∀ j, 600 ≤ j → H4 j = none := fun j hj => by
    rw [← hH4]; unfold keep; rw [if_neg]; simp; omega
   have k100 : H4 100 = none := by rw [← hH4]; rfl
   rw [hH4]
   clear hH4 h36 h33 h34 g4 hlow hop
   have hgo := getsV_ok n hF _ (openH_500 hF l) (by have := open_le hF.ids hO; have := @openH_len n.heads l; have := hF.heads; omega) (fun h hm => openH_node hF hm) e36 e33 e34 ver H4 k36 k33 k34 kr k100
   repeat' (first | (with_reducible refine sk ?_; intro K hK) | ((first | (with_reducible first | refine rg (md := { base := 0, own := [4], imp := [11, 19] }) (h := ?_) | refine rgS [4] (md := { base := 0, own := [4], imp := [11, 19] }) (h := ?_) | refine nx ?_) | refine pK (hgo) ?_); try simp (disch := omega) only [k36, k4,go_sem, simprocAttr]) | (with_reducible refine bk ?_) | ((with_reducible refine' cE ?hv ?_ ?_); (case hv => first | rfl | (simp only [k36, k4,go_sem, simprocAttr]; rfl)); all_goals (intro hc; (try simp only [go_sem, simprocAttr] at hc); try (exfalso; omega))) | (first | refine iK (hgo) ?_) | with_reducible intro (ep : Nat → Nat) | with_reducible apply_assumption -exfalso -symm only [*])
   rintro v H5 ⟨rfl, hlow⟩
   have g4 := (hlow 4 (by decide)).trans k4
   simp only [go_sem, simprocAttr, lackV, g4]
   repeat' (first | (with_reducible refine sk ?_; intro K hK) | ((with_reducible first | refine rg (md := { base := 0, own := [4], imp := [11, 19] }) (h := ?_) | refine rgS [4] (md := { base := 0, own := [4], imp := [11, 19] }) (h := ?_) | refine nx ?_); try simp (disch := omega) only [g4, lackV,go_sem, simprocAttr]) | (with_reducible refine bk ?_) | ((with_reducible refine' cE ?hv ?_ ?_); (case hv => first | rfl | (simp only [g4, lackV,go_sem, simprocAttr]; rfl)); all_goals (intro hc; (try simp only [go_sem, simprocAttr] at hc); try (exfalso; omega))) | ((with_reducible refine fe ?_); refine ⟨_, (by simp only [Try.f26, g4, lackV,go_sem, simprocAttr]; rfl), ?_⟩; first | rfl | (try simp only [g4, lackV,go_sem, simprocAttr, seval])) | with_reducible intro (ep : Nat → Nat) | with_reducible apply_assumption -exfalso -symm only [*])
theorem Gets_ok (n : NetT) (hs : NetS n) (l : List Int) (hl : l.length ≤ 100000) : PureC Try.prog 26 [encNet n, .lst 1 (ints l)] (getsD (lackV lackZ) n l) := by
 refine (Gets_ok0 n hs l hl).weak ?_ fun G w x h => ?_
 ·unfold getsD; split <;> (try split) <;> (simp only [noid, noids, noidss, lackV_noid, go_sem, simprocAttr]; rfl)
 ·have key : ∀ e, VR G w (.tup [lackN, .int .i64 e]) x → VR G w (.tup [lackV lackZ, .int .i64 e]) x := fun e h => by
   refine VR.tup_imp (vs := [lackN, .int .i64 e]) rfl (fun i v v' h1 h2 y hy => ?_) h
   match i, h1, h2 with
   | 0, h1, h2 => cases h1; cases h2; exact hy.agg3_nils
   | 1, h1, h2 => cases h1; cases h2; exact hy
  unfold getsD at h ⊢
  split
  ·rename_i hN
   rw [if_pos hN] at h
   split
   ·rename_i hO
    rw [if_pos hO] at h
    exact h
   ·rename_i hO
    rw [if_neg hO] at h
    exact key _ h
  ·rename_i hN
   rw [if_neg hN] at h
   exact key _ h
end Cp
namespace Cp
open Go Go.Proofs
set_option maxRecDepth 10000
set_option maxHeartbeats 4000000
end Cp
namespace Cp
open Go
end Cp
namespace Cp
open Go Go.Proofs
set_option maxRecDepth 10000
set_option maxHeartbeats 4000000
end Cp
namespace Cp
open Go
structure Bet (n n' : NetT) : Prop where
 np : n'.pipes.length = n.pipes.length
 pipe : ∀ (i : Nat) (p p' : PipeT), n.pipes[i]? = some p → n'.pipes[i]? = some p' → p'.frm = p.frm ∧ p'.foul.lo ≤ p.foul.lo ∧ p'.foul.hi ≤ p.foul.hi
 nq : n'.pumps.length = n.pumps.length
 pump : ∀ (i : Nat) (p p' : PumpT), n.pumps[i]? = some p → n'.pumps[i]? = some p' → p.full.lo ≤ p'.full.lo ∧ p.full.hi ≤ p'.full.hi ∧ p'.slope ≤ p.slope
 heads : n'.heads = n.heads
 tlo : n.tank.lo ≤ n'.tank.lo
 thi : n.tank.hi ≤ n'.tank.hi
 mins : n'.mins = n.mins
theorem Bet.refl (n : NetT) : Bet n n := ⟨rfl, fun i p p' h1 h2 => by rw [h1] at h2; cases h2; simp, rfl, fun i p p' h1 h2 => by rw [h1] at h2; cases h2; simp, rfl, Int.le_refl _, Int.le_refl _, rfl⟩
theorem Bet.frm {n n' : NetT} (h : Bet n n') (k : Nat) : frmOf n'.pipes k = frmOf n.pipes k := by
 unfold frmOf
 have hl := h.np
 cases h1 : n.pipes[k - 1]? with
 | none =>
  have : n'.pipes[k - 1]? = none := by rw [List.getElem?_eq_none_iff] at h1 ⊢; omega
  rw [this]
 | some p =>
  obtain ⟨p', h2⟩ : ∃ x, n'.pipes[k - 1]? = some x := ⟨_, List.getElem?_eq_getElem (by have := (List.getElem?_eq_some_iff.1 h1).1; omega)⟩
  rw [h2]
  simp only [(h.pipe _ p p' h1 h2).1]
theorem Bet.upN {n n' : NetT} (h : Bet n n') : ∀ (f k : Nat), upN n'.pipes f k = upN n.pipes f k
 | 0, k => rfl
 | f + 1, k => by simp only [Cp.upN, h.frm, h.upN f]
theorem Bet.path {n n' : NetT} (h : Bet n n') (k : Nat) : path n'.pipes k = path n.pipes k := h.upN k k
theorem Bet.via {n n' : NetT} (h : Bet n n') (k j : Nat) : via n'.pipes k j = via n.pipes k j := by unfold Cp.via; rw [h.path]
theorem Bet.flow {n n' : NetT} (h : Bet n n') (j : Nat) : ∀ (l : List HeadT), flowAt n'.pipes j l = flowAt n.pipes j l
 | [] => rfl
 | x :: l => by simp only [flowAt, h.via, h.flow j l]
theorem flow_sub {ps : List PipeT} {j : Nat} : ∀ {M L : List HeadT}, M.Sublist L → heads500 L → flowAt ps j M ≤ flowAt ps j L
 | _, _, .slnil, _ => Int.le_refl _
 | _, _, .cons (l₂ := L) x h, h5 => by
  have h1 := flow_sub (ps := ps) (j := j) h fun y hy => h5 y (by simp [hy])
  have h2 := h5 x (by simp)
  simp only [flowAt]; split <;> omega
 | _, _, .cons_cons x h, h5 => by
  have h1 := flow_sub (ps := ps) (j := j) h fun y hy => h5 y (by simp [hy])
  simp only [flowAt]; omega
theorem needs_sub : ∀ {M L : List HeadT}, M.Sublist L → heads500 L → needs M ≤ needs L
 | _, _, .slnil, _ => Int.le_refl _
 | _, _, .cons (l₂ := L) x h, h5 => by
  have h1 := needs_sub h fun y hy => h5 y (by simp [hy])
  have h2 := h5 x (by simp)
  simp only [needs]; omega
 | _, _, .cons_cons x h, h5 => by
  have h1 := needs_sub h fun y hy => h5 y (by simp [hy])
  simp only [needs]; omega
theorem sub500 {M L : List HeadT} (h : M.Sublist L) (h5 : heads500 L) : heads500 M := fun x hx => h5 x (h.subset hx)
theorem pumpsF_mono {best : Bool} {s s' : Int} (h0 : 0 ≤ s') (hs : s' ≤ s) {out : List Int} : ∀ {l l' : List PumpT} {i : Nat} {a a' : Int}, l'.length = l.length →
  (∀ (j : Nat) (p p' : PumpT), l[j]? = some p → l'[j]? = some p' → p.full.lo ≤ p'.full.lo ∧ p.full.hi ≤ p'.full.hi ∧ p'.slope ≤ p.slope ∧ 0 ≤ p'.slope) → a ≤ a' → pumpsF best s out l i a ≤ pumpsF best s' out l' i a'
 | [], [], _, _, _, _, _, ha => ha
 | p :: l, p' :: l', i, a, a', hl, hp, ha => by
  obtain ⟨h1, h2, h3, h4⟩ := hp 0 p p' rfl rfl
  have e1 : p'.slope * s' ≤ p.slope * s := Int.mul_le_mul h3 hs h0 (by omega)
  have e2 : fullE best p ≤ fullE best p' := by unfold fullE; split <;> assumption
  simp only [pumpsF]
  refine pumpsF_mono h0 hs (by simpa using hl) (fun j q q' hq hq' => hp (j + 1) q q' (by simpa using hq) (by simpa using hq')) ?_
  split <;> omega
theorem loss_mono {n n' : NetT} (h : Bet n n') (hF' : NetF n') {M L : List HeadT} (hs : M.Sublist L) (h5 : heads500 L) (best : Bool) (k : Nat) : lossAt n'.pipes M best k ≤ lossAt n.pipes L best k := by
 unfold lossAt
 have hl := h.np
 rw [h.flow]
 cases h1 : n.pipes[k - 1]? with
 | none =>
  have : n'.pipes[k - 1]? = none := by rw [List.getElem?_eq_none_iff] at h1 ⊢; omega
  rw [this]; exact Int.le_refl _
 | some p =>
  obtain ⟨p', h2⟩ : ∃ x, n'.pipes[k - 1]? = some x := ⟨_, List.getElem?_eq_getElem (by have := (List.getElem?_eq_some_iff.1 h1).1; omega)⟩
  rw [h2]
  obtain ⟨_, h3, h4⟩ := h.pipe _ p p' h1 h2
  have hb := foulE_bnd (hF'.pipe _ p' h2).2.2 best
  have e2 : foulE best p' ≤ foulE best p := by unfold foulE; split <;> assumption
  have f0 := (flowAt_bnd (ps := n.pipes) (j := k) (sub500 hs h5)).1
  have f1 := flow_sub (ps := n.pipes) (j := k) hs h5
  simp only
  refine upD_mono ?_ (by omega)
  refine Int.mul_le_mul (Int.mul_le_mul e2 f1 f0 (by omega)) f1 f0 ?_
  exact Int.mul_nonneg (by omega) (by omega)
theorem lossL_mono {n n' : NetT} (h : Bet n n') (hF' : NetF n') {M L : List HeadT} (hs : M.Sublist L) (h5 : heads500 L) (best : Bool) : ∀ (l : List Nat), lossL n'.pipes M best l ≤ lossL n.pipes L best l
 | [] => Int.le_refl _
 | k :: l => by
  have h1 := loss_mono h hF' hs h5 best k
  have h2 := lossL_mono h hF' hs h5 best l
  simp only [lossL]; omega
theorem press_mono {n n' : NetT} (h : Bet n n') (hF : NetF n) (hF' : NetF n') {M L : List HeadT} (hs : M.Sublist L) (h5 : heads500 L) {out : List Int} (ho : outOK n out = true) (best : Bool) (x : HeadT) : pressS n L out best x ≤ pressS n' M out best x := by
 have hoF := out_facts ho
 have hlo := hF.out
 have n0 := (needs_bnd (sub500 hs h5)).1
 have hn0 : 0 ≤ needs M := by omega
 have hsh : shareS n' (needs M) out ≤ shareS n (needs L) out := by
  unfold shareS
  rw [h.nq]
  exact upD_mono (needs_sub hs h5) (by omega)
 have hs0 : 0 ≤ shareS n' (needs M) out := (upD_bnd hn0 (by rw [h.nq]; omega)).1
 have e1 : pumpsS n L out best ≤ pumpsS n' M out best := by
  unfold pumpsS
  refine pumpsF_mono hs0 hsh h.nq (fun j p p' h1 h2 => ?_) (Int.le_refl _)
  obtain ⟨a, b, c⟩ := h.pump j p p' h1 h2
  exact ⟨a, b, c, (hF'.pump p' (List.mem_of_getElem? h2)).2.1⟩
 have e2 := lossL_mono h hF' hs h5 best (path n.pipes x.node.toNat)
 unfold pressS
 rw [h.path]
 omega
theorem lack_mono {n n' : NetT} (h : Bet n n') (hF : NetF n) (hF' : NetF n') {M L : List HeadT} (hs : M.Sublist L) (h5 : heads500 L) {out : List Int} (ho : outOK n out = true) (best : Bool) (hl : (lackS n L out best).2 = false) : (lackS n' M out best).2 = false := by
 obtain ⟨h1, h2⟩ := lackS_false.1 hl
 refine lackS_false.2 ⟨fun x hx => Int.le_trans (h1 x (hs.subset hx)) (press_mono h hF hF' hs h5 ho best x), ?_⟩
 have e1 : tankH n best ≤ tankH n' best := by unfold tankH; split; exact h.thi; exact h.tlo
 have e2 : needs M * n'.mins ≤ needs L * n.mins := by
  rw [h.mins]
  exact Int.mul_le_mul_of_nonneg_right (needs_sub hs h5) hF.mins.1
 omega
theorem sure_mono {n n' : NetT} (h : Bet n n') (hF : NetF n) (hF' : NetF n') (ho : ∀ o, outOK n' o = true → outOK n o = true) {M L : List HeadT} (hs : M.Sublist L) (h5 : heads500 L) (hk : (getsS n L).known = 2) : (getsS n' M).known = 2 := by
 have g1 := gets_facts hF.out.1 L
 have g2 := gets_facts hF'.out.1 M
 refine Decidable.byContradiction fun hne => ?_
 obtain ⟨q1, q2, _⟩ := g2.bad hne
 have h1 : (lackS n L (getsS n' M).out false).2 = false := (g1.yes hk).2.2 _ (ho _ q1)
 have h2 : (lackS n' M (getsS n' M).out false).2 = true := q2
 rw [lack_mono h hF hF' hs h5 (ho _ q1) false h1] at h2
 cases h2
theorem known_mono {n n' : NetT} (h : Bet n n') (hF : NetF n) (hF' : NetF n') (ho : ∀ o, outOK n' o = outOK n o) {M L : List HeadT} (hs : M.Sublist L) (h5 : heads500 L) : (getsS n L).known ≤ (getsS n' M).known := by
 have g1 := gets_facts hF.out.1 L
 have g2 := gets_facts hF'.out.1 M
 rcases g1.kn with hk | hk | hk
 ·have := g2.kn; omega
 ·obtain ⟨o, q1, q2⟩ := g1.op hk
  have h3 : (lackS n L o true).2 = false := by unfold goodO at q2; simpa using q2
  have h4 := lack_mono h hF hF' hs h5 q1 true h3
  have : ¬ (getsS n' M).known = 0 := fun h0 => by
   have := g2.no h0 o (by rw [ho]; exact q1)
   unfold goodO at this
   rw [h4] at this
   cases this
  have := g2.kn; omega
 ·have := sure_mono h hF hF' (fun o h => by rw [← ho]; exact h) hs h5 hk
  omega
end Cp
namespace Cp
open Go Go.Proofs
set_option maxRecDepth 10000
set_option maxHeartbeats 4000000
theorem bitI_nat (x i : Nat) : bitI (x : Int) i = x.testBit i := by
 unfold bitI
 rw [Nat.testBit_eq_decide_div_mod_eq]
 have e : (x : Int).fdiv (2 ^ i) = ((x / 2 ^ i : Nat) : Int) := by
  have h2 : (2 : Int) ^ i = ((2 ^ i : Nat) : Int) := by simp
  rw [h2, Int.fdiv_eq_ediv_of_nonneg _ (Int.natCast_nonneg _)]; rfl
 rw [e]
 refine dec_congr ?_
 omega
theorem and_nat {n m : Nat} (hn : n < 256) (hm : m < 256) : andI .u8 (n : Int) (m : Int) = ((n &&& m : Nat) : Int) := by
 have hle : n &&& m < 256 := Nat.and_lt_two_pow n (n := 8) (by omega)
 have h1 : (BitVec.ofInt 8 (n : Int) &&& BitVec.ofInt 8 (m : Int)).toNat = n &&& m := by
  rw [BitVec.toNat_and, BitVec.ofInt_natCast, BitVec.ofInt_natCast, BitVec.toNat_ofNat, BitVec.toNat_ofNat, Nat.mod_eq_of_lt (by omega), Nat.mod_eq_of_lt (by omega)]
 have h2 : andI .u8 (n : Int) (m : Int) = IntKind.u8.wrap ((BitVec.ofInt 8 (n : Int) &&& BitVec.ofInt 8 (m : Int)).toNat) := rfl
 rw [h2, h1, wrapu8 (by omega)]
theorem and_bits {a c : Int} (ha : 0 ≤ a ∧ a ≤ 255) (hc : 0 ≤ c ∧ c ≤ 255) : (0 ≤ andI .u8 a c ∧ andI .u8 a c ≤ 255) ∧ ∀ i, bitI (andI .u8 a c) i = true → bitI a i = true := by
 obtain ⟨n, rfl⟩ : ∃ n : Nat, a = n := ⟨a.toNat, by omega⟩
 obtain ⟨m, rfl⟩ : ∃ m : Nat, c = m := ⟨c.toNat, by omega⟩
 have hle : n &&& m < 256 := Nat.and_lt_two_pow n (n := 8) (by omega)
 rw [and_nat (by omega) (by omega)]
 refine ⟨by omega, fun i h => ?_⟩
 rw [bitI_nat] at h ⊢
 rw [Nat.testBit_and] at h
 simp at h
 exact h.1
theorem someF_sub {a b : Int} (h : ∀ i, bitI a i = true → bitI b i = true) : ∀ (l : List HeadT) (i : Nat), (someF a l i).Sublist (someF b l i)
 | [], _ => List.Sublist.slnil
 | x :: l, i => by
  simp only [someF]
  refine List.Sublist.append ?_ (someF_sub h l (i + 1))
  cases ha : bitI a (i % 8) with
  | false => exact List.nil_sublist _
  | true => rw [h _ ha]; exact List.Sublist.refl _
theorem sub_step {x y : HeadT} {L M : List HeadT} (h : (y :: M).Sublist (x :: L)) (hp : (x :: L).Pairwise fun a b => a.id < b.id) : (y.id = x.id → y = x ∧ M.Sublist L) ∧ (¬ y.id = x.id → (y :: M).Sublist L) := by
 have h1 := (List.pairwise_cons.1 hp).1
 cases h with
 | cons _ h =>
  exact ⟨fun e => by have := h1 y (h.subset (by simp)); omega, fun _ => h⟩
 | cons_cons _ h => exact ⟨fun _ => ⟨rfl, h⟩, fun e => (e rfl).elim⟩
theorem openH_ids {hs : List HeadT} {l : List Int} (ho : openOK hs l = true) : (openH hs l).Pairwise fun a b => a.id < b.id := by
 obtain ⟨h1, h2⟩ := okL_none ho
 unfold openH
 rw [List.pairwise_filterMap]
 exact h2.imp fun {a b} hab x hx y hy => by rw [(headAt_mem hx).2, (headAt_mem hy).2]; exact hab
theorem fewer_law (n : NetT) (b : Int) (b0 : 0 ≤ b) (b1 : b ≤ 255) (st : Int) (st0 : 0 ≤ st) (st1 : st ≤ 255) (c : Int) (c0 : 0 ≤ c) (c1 : c ≤ 255) : PureC Try.prog 9 [encNet n, .int .u8 b, .int .u8 st, .int .u8 c] (.bool true) := by
 have hrd := ready_ok n
 simp only [encNet, cNet] at hrd
 by_cases hr : (!greatN n && netOK n) = true
 ·have hr2 : greatN n = false ∧ netOK n = true := by simpa using hr
  have hs := great_small hr2.1
  have hF := net_facts hr2.2
  have hpq := hF.pumps
  have hhl := hF.heads
  rw [hr] at hrd
  obtain ⟨d01, hdb⟩ := and_bits (a := b) (c := st) ⟨b0, b1⟩ ⟨st0, st1⟩
  have hsu : (someL n.heads (andI .u8 b st)).Sublist (someL n.heads b) := someF_sub hdb n.heads 0
  obtain ⟨d, hd⟩ : ∃ d, andI .u8 b st = d := ⟨_, rfl⟩
  rw [hd] at hsu d01
  clear hdb
  have hso := some_ok n (by omega) b ⟨b0, b1⟩
  have hfo := some_ok n (by omega) d d01
  have hid := idle_ok n (by omega) c ⟨c0, c1⟩
  have hopen := some_ok' hF b
  have hopf := some_ok' hF d
  have hno := idle_ok' hF c
  obtain ⟨ho1, ho2⟩ := okL_none hopen
  obtain ⟨hf1, hf2⟩ := okL_none hopf
  obtain ⟨q1, q2, q3⟩ := out_facts hno
  have hol : (someL n.heads b).length ≤ n.heads.length := someF_len
  have hfl : (someL n.heads d).length ≤ n.heads.length := someF_len
  have hoo := hF.out
  have hpr := Press_ok n hs (someL n.heads b) (by omega) (idleL n c) (by omega)
  have hpf := Press_ok n hs (someL n.heads d) (by omega) (idleL n c) (by omega)
  unfold pressT pressV at hpr hpf
  rw [if_pos hr2.2, if_pos ⟨hopen, hno⟩] at hpr
  rw [if_pos hr2.2, if_pos ⟨hopf, hno⟩] at hpf
  have hgt := Gets_ok n hs (someL n.heads b) (by omega)
  have hgf := Gets_ok n hs (someL n.heads d) (by omega)
  unfold getsD at hgt hgf
  rw [if_pos hr2.2, if_pos hopen] at hgt
  rw [if_pos hr2.2, if_pos hopf] at hgf
  have hlen := openH_len' ho1
  have hlef := openH_len' hf1
  have h5 := openH_500 hF (someL n.heads b)
  have hsH : (openH n.heads (someL n.heads d)).Sublist (openH n.heads (someL n.heads b)) := hsu.filterMap _
  have hkm := known_mono (Bet.refl n) hF hF (fun o => rfl) hsH h5
  have hk1 := (gets_facts hF.out.1 (openH n.heads (someL n.heads b))).kn
  have hk2 := (gets_facts hF.out.1 (openH n.heads (someL n.heads d))).kn
  have hpm := fun best x => press_mono (Bet.refl n) hF hF hsH h5 hno best x
  have hids := openH_ids hopen
  have hgb := fun k a x ha hx => openH_get (k := k) (a := a) (x := x) ho1 ha hx
  have hgd := fun k a x ha hx => openH_get (k := k) (a := a) (x := x) hf1 ha hx
  obtain ⟨O, hO⟩ : ∃ O, someL n.heads b = O := ⟨_, rfl⟩
  obtain ⟨D, hD⟩ : ∃ D, someL n.heads d = D := ⟨_, rfl⟩
  obtain ⟨I, hI⟩ : ∃ I, idleL n c = I := ⟨_, rfl⟩
  simp only [hO] at *
  simp only [hD] at *
  simp only [hI] at *
  obtain ⟨L, hL⟩ : ∃ L, openH n.heads O = L := ⟨_, rfl⟩
  obtain ⟨M, hM⟩ : ∃ M, openH n.heads D = M := ⟨_, rfl⟩
  simp only [hL] at *
  simp only [hM] at *
  obtain ⟨⟨kn, hd1, ou⟩, hG⟩ : ∃ G, getsS n L = G := ⟨_, rfl⟩
  obtain ⟨⟨km, hd2, ov⟩, hG2⟩ : ∃ G, getsS n M = G := ⟨_, rfl⟩
  rw [hG] at hkm hk1 hgt
  rw [hG2] at hkm hk2 hgf
  simp only at hkm hk1 hk2
  simp only [lackV] at hgt hgf
  have hgL : ∀ (k : Nat) (x : HeadT), L[k]? = some x → (L.map (spanS n L I))[k]? = some ⟨pressS n L I false x, pressS n L I true x⟩ := fun k x hx => by simp [hx, spanS]
  have hgM : ∀ (k : Nat) (x : HeadT), M[k]? = some x → (M.map (spanS n M I))[k]? = some ⟨pressS n M I false x, pressS n M I true x⟩ := fun k x hx => by simp [hx, spanS]
  have hl0 : (L.map (spanS n L I)).length = L.length := List.length_map ..
  have hl1 : (M.map (spanS n M I)).length = M.length := List.length_map ..
  obtain ⟨S, hS⟩ : ∃ S, L.map (spanS n L I) = S := ⟨_, rfl⟩
  obtain ⟨R, hR⟩ : ∃ R, M.map (spanS n M I) = R := ⟨_, rfl⟩
  rw [hS] at hpr hl0
  rw [hR] at hpf hl1
  simp only [hS] at hgL
  simp only [hR] at hgM
  simp only [encNet, cNet] at hso hfo hid hpr hpf hgt hgf
  have hSO : (S.length : Int) = O.length := by omega
  have hRO : (R.length : Int) = D.length := by omega
  have hkm' : ¬ km < kn := by omega
  refine PureC_of (fn := Try.f9) tabOK (by kernel_rfl) rfl (by kernel_rfl) (by simp [Try.f9]) (by simp [noids, noid, noidss, go_sem, encNet, cNet]) (by first | rfl | simp [noids, noid, noidss, go_sem, encNet, cNet]) ?_
  intro X hX0 hXs
  repeat' (first | ((fail_if_success (with_reducible refine AW_at (id := 14) ?_)); with_reducible refine sk ?_; intro K hK) | ((first | (with_reducible first | refine rg (md := { base := 0, own := [17, 19] }) (h := ?_) | refine rgS [17, 19] (md := { base := 0, own := [17, 19] }) (h := ?_) | refine nx ?_) | refine pK (alive_run) ?_ | refine pK (hrd) ?_ | refine pK (hso) ?_ | refine pK (hfo) ?_ | refine pK (hid) ?_ | refine pK (hpr) ?_ | refine pK (hpf) ?_ | refine pK (hgt) ?_ | refine pK (hgf) ?_); try simp (disch := omega) only [encNet, cNet, hSO, hRO, hkm', hd, List.length_map,go_sem, simprocAttr]) | (with_reducible refine bk ?_) | ((with_reducible refine' cE ?hv ?_ ?_); (case hv => first | rfl | (simp only [encNet, cNet, hSO, hRO, hkm', hd, List.length_map,go_sem, simprocAttr]; rfl)); all_goals (intro hc; (try simp only [go_sem, simprocAttr] at hc); try (exfalso; omega))) | ((with_reducible first | refine grdS_split ?_ ?_ | refine lkG_split ?_ ?_) <;> intro hg <;> (try simp (disch := omega) only [hg, encNet, cNet, hSO, hRO, hkm', hd, List.length_map,go_sem, simprocAttr]) <;> (try simp only [go_sem, simprocAttr] at hg) <;> (try (exfalso; omega))) | ((with_reducible refine fe ?_); refine ⟨_, (by simp only [Try.f9, encNet, cNet, hSO, hRO, hkm', hd, List.length_map,go_sem, simprocAttr]; rfl), ?_⟩; first | rfl | (try simp only [encNet, cNet, hSO, hRO, hkm', hd, List.length_map,go_sem, simprocAttr, seval])) | with_reducible intro (ep : Nat → Nat) | with_reducible apply_assumption -exfalso -symm only [*])
  have hcut : ∀ f H, f 9 = .bool true → f 11 = .lst 1 (ints D) → f 21 = .int .i64 D.length → K f H := by
   intro f H h9 h11 h21
   refine hK f H ?_
   clear hK
   repeat' (first | (with_reducible refine sk ?_; intro K hK) | ((with_reducible first | refine rg (md := { base := 0, own := [17, 19] }) (h := ?_) | refine rgS [17, 19] (md := { base := 0, own := [17, 19] }) (h := ?_) | refine nx ?_); try simp (disch := omega) only [h9, h11, h21,go_sem, simprocAttr]) | (with_reducible refine bk ?_) | ((with_reducible refine' cE ?hv ?_ ?_); (case hv => first | rfl | (simp only [h9, h11, h21,go_sem, simprocAttr]; rfl)); all_goals (intro hc; (try simp only [go_sem, simprocAttr] at hc); try (exfalso; omega))) | ((with_reducible first | refine grdS_split ?_ ?_ | refine lkG_split ?_ ?_) <;> intro hg <;> (try simp (disch := omega) only [hg, h9, h11, h21,go_sem, simprocAttr]) <;> (try simp only [go_sem, simprocAttr] at hg) <;> (try (exfalso; omega))) | ((with_reducible refine fe ?_); refine ⟨_, (by simp only [Try.f9, h9, h11, h21,go_sem, simprocAttr]; rfl), ?_⟩; first | rfl | (try simp only [h9, h11, h21,go_sem, simprocAttr, seval])) | with_reducible intro (ep : Nat → Nat) | with_reducible apply_assumption -exfalso -symm only [*])
  clear hK
  repeat' (first | (with_reducible refine sk ?_; intro K hK) | ((with_reducible first | refine rg (md := { base := 0, own := [17, 19] }) (h := ?_) | refine rgS [17, 19] (md := { base := 0, own := [17, 19] }) (h := ?_) | refine nx ?_); try simp (disch := omega) only [go_sem, simprocAttr]) | (with_reducible refine bk ?_) | ((with_reducible refine' cE ?hv ?_ ?_); (case hv => first | rfl | (simp only [go_sem, simprocAttr]; rfl)); all_goals (intro hc; (try simp only [go_sem, simprocAttr] at hc); try (exfalso; omega))) | ((with_reducible first | refine grdS_split ?_ ?_ | refine lkG_split ?_ ?_) <;> intro hg <;> (try simp (disch := omega) only [hg, go_sem, simprocAttr]) <;> (try simp only [go_sem, simprocAttr] at hg) <;> (try (exfalso; omega))) | with_reducible intro (ep : Nat → Nat) | with_reducible apply_assumption -exfalso -symm only [*])
  refine AW_range tabOK O.length (fun i f H => ∃ k : Nat, (f 9 = .bool true ∧ f 10 = .lst 1 (ints O) ∧ f 11 = .lst 1 (ints D) ∧ f 13 = .lst 2 (S.map cSpan) ∧ f 15 = .lst 2 (R.map cSpan) ∧ f 21 = .int .i64 k ∧ f 103 = .lst 1 (ints O)) ∧ k ≤ D.length ∧ (M.drop k).Sublist (L.drop i)) (by omega) (by rw [hXs]; decide) (by decide) (by (first | rfl | (simp only [go_sem, simprocAttr]; done) | (simp only [go_sem, simprocAttr]; rfl))) (by (first | rfl | (simp only [go_sem, simprocAttr]; done) | (simp only [go_sem, simprocAttr]; rfl)))
   ⟨0, by (and_intros <;> first | rfl | (simp only [go_sem, simprocAttr]; done) | (simp only [go_sem, simprocAttr]; rfl)), by omega, by simpa using hsH⟩ ?_ ?_
  ·clear hcut
   rintro i f H hk h105 h104 ⟨k, ⟨h9, h10, h11, h13, h15, h21, h103⟩, hkl, hsub⟩
   obtain ⟨a, ha⟩ : ∃ a, O[i]? = some a := ⟨_, List.getElem?_eq_getElem hk⟩
   obtain ⟨x, hax⟩ : ∃ x, headAt n.heads a = some x := Option.isSome_iff_exists.1 (ho1 a (List.mem_of_getElem? ha))
   have hx := hgb i a x ha hax
   have hxa : x.id = a := (headAt_mem hax).2
   have hxs := hgL i x hx
   by_cases hkD : k < D.length
   ·obtain ⟨a', ha'⟩ : ∃ a, D[k]? = some a := ⟨_, List.getElem?_eq_getElem hkD⟩
    obtain ⟨y, hay⟩ : ∃ x, headAt n.heads a' = some x := Option.isSome_iff_exists.1 (hf1 a' (List.mem_of_getElem? ha'))
    have hy := hgd k a' y ha' hay
    have hya : y.id = a' := (headAt_mem hay).2
    have hys := hgM k y hy
    rw [drop_cons hx, drop_cons hy] at hsub
    have hpd : (x :: L.drop (i + 1)).Pairwise fun a b => a.id < b.id := by rw [← drop_cons hx]; exact hids.drop
    obtain ⟨t1, t2⟩ := sub_step hsub hpd
    by_cases hid : a' = a
    ·subst hid
     obtain ⟨t3, t4⟩ := t1 (by rw [hya, hxa])
     subst t3
     have p0 : ¬ pressS n M I false y < pressS n L I false y := by have := hpm false y; omega
     have p1 : ¬ pressS n M I true y < pressS n L I true y := by have := hpm true y; omega
     repeat' (first | (with_reducible refine sk ?_; intro K hK) | ((with_reducible first | refine rg (md := { base := 0, own := [17, 19] }) (h := ?_) | refine rgS [17, 19] (md := { base := 0, own := [17, 19] }) (h := ?_) | refine nx ?_); try simp (disch := omega) only [h9, h10, h11, h13, h15, h21, h103, h104, h105, ha, ha', hkD, hxs, hys, p0, p1, cSpan,go_sem, simprocAttr]) | (with_reducible refine bk ?_) | ((with_reducible refine' cE ?hv ?_ ?_); (case hv => first | rfl | (simp only [h9, h10, h11, h13, h15, h21, h103, h104, h105, ha, ha', hkD, hxs, hys, p0, p1, cSpan,go_sem, simprocAttr]; rfl)); all_goals (intro hc; (try simp only [go_sem, simprocAttr] at hc); try (exfalso; omega))) | ((with_reducible first | refine grdS_split ?_ ?_ | refine lkG_split ?_ ?_) <;> intro hg <;> (try simp (disch := omega) only [hg, h9, h10, h11, h13, h15, h21, h103, h104, h105, ha, ha', hkD, hxs, hys, p0, p1, cSpan,go_sem, simprocAttr]) <;> (try simp only [go_sem, simprocAttr] at hg) <;> (try (exfalso; omega))) | with_reducible intro (ep : Nat → Nat) | with_reducible apply_assumption -exfalso -symm only [*])
     exact ⟨k + 1, by (and_intros <;> first | rfl | (simp only [h9, h10, h11, h13, h15, h103, go_sem, simprocAttr]; done) | (simp only [h9, h10, h11, h13, h15, h103, go_sem, simprocAttr]; rfl)), by omega, t4⟩
    ·have t4 := t2 (by rw [hya, hxa]; exact hid)
     rw [← drop_cons hy] at t4
     repeat' (first | (with_reducible refine sk ?_; intro K hK) | ((with_reducible first | refine rg (md := { base := 0, own := [17, 19] }) (h := ?_) | refine rgS [17, 19] (md := { base := 0, own := [17, 19] }) (h := ?_) | refine nx ?_); try simp (disch := omega) only [h9, h10, h11, h13, h15, h21, h103, h104, h105, ha, ha', hkD, hid,go_sem, simprocAttr]) | (with_reducible refine bk ?_) | ((with_reducible refine' cE ?hv ?_ ?_); (case hv => first | rfl | (simp only [h9, h10, h11, h13, h15, h21, h103, h104, h105, ha, ha', hkD, hid,go_sem, simprocAttr]; rfl)); all_goals (intro hc; (try simp only [go_sem, simprocAttr] at hc); try (exfalso; omega))) | ((with_reducible first | refine grdS_split ?_ ?_ | refine lkG_split ?_ ?_) <;> intro hg <;> (try simp (disch := omega) only [hg, h9, h10, h11, h13, h15, h21, h103, h104, h105, ha, ha', hkD, hid,go_sem, simprocAttr]) <;> (try simp only [go_sem, simprocAttr] at hg) <;> (try (exfalso; omega))) | with_reducible intro (ep : Nat → Nat) | with_reducible apply_assumption -exfalso -symm only [*])
     exact ⟨k, by (and_intros <;> first | rfl | (simp only [h9, h10, h11, h13, h15, h21, h103, go_sem, simprocAttr]; done) | (simp only [h9, h10, h11, h13, h15, h21, h103, go_sem, simprocAttr]; rfl)), hkl, t4⟩
   ·rw [drop_none (by omega)] at hsub
    repeat' (first | (with_reducible refine sk ?_; intro K hK) | ((with_reducible first | refine rg (md := { base := 0, own := [17, 19] }) (h := ?_) | refine rgS [17, 19] (md := { base := 0, own := [17, 19] }) (h := ?_) | refine nx ?_); try simp (disch := omega) only [h9, h10, h11, h13, h15, h21, h103, h104, h105, ha, hkD,go_sem, simprocAttr]) | (with_reducible refine bk ?_) | ((with_reducible refine' cE ?hv ?_ ?_); (case hv => first | rfl | (simp only [h9, h10, h11, h13, h15, h21, h103, h104, h105, ha, hkD,go_sem, simprocAttr]; rfl)); all_goals (intro hc; (try simp only [go_sem, simprocAttr] at hc); try (exfalso; omega))) | ((with_reducible first | refine grdS_split ?_ ?_ | refine lkG_split ?_ ?_) <;> intro hg <;> (try simp (disch := omega) only [hg, h9, h10, h11, h13, h15, h21, h103, h104, h105, ha, hkD,go_sem, simprocAttr]) <;> (try simp only [go_sem, simprocAttr] at hg) <;> (try (exfalso; omega))) | with_reducible intro (ep : Nat → Nat) | with_reducible apply_assumption -exfalso -symm only [*])
    exact ⟨k, by (and_intros <;> first | rfl | (simp only [h9, h10, h11, h13, h15, h21, h103, go_sem, simprocAttr]; done) | (simp only [h9, h10, h11, h13, h15, h21, h103, go_sem, simprocAttr]; rfl)), hkl, by rw [drop_none (by omega)]; exact List.nil_sublist _⟩
  ·rintro f H h105 h104 ⟨k, ⟨h9, h10, h11, h13, h15, h21, h103⟩, hkl, hsub⟩
   rw [drop_none (l := L) (by omega)] at hsub
   have h0 := List.eq_nil_of_sublist_nil hsub
   have : M.length ≤ k := by simpa using h0
   obtain rfl : k = D.length := by omega
   exact hcut _ _ (by (first | rfl | (simp only [h9, go_sem, simprocAttr]; done) | (simp only [h9, go_sem, simprocAttr]; rfl))) (by (first | rfl | (simp only [h11, go_sem, simprocAttr]; done) | (simp only [h11, go_sem, simprocAttr]; rfl))) (by (first | rfl | (simp only [h21, go_sem, simprocAttr]; done) | (simp only [h21, go_sem, simprocAttr]; rfl)))
 ·simp only [Bool.not_eq_true] at hr
  rw [hr] at hrd
  refine PureC_of (fn := Try.f9) tabOK (by kernel_rfl) rfl (by kernel_rfl) (by simp [Try.f9]) (by simp [noids, noid, noidss, go_sem, encNet, cNet]) (by first | rfl | simp [noids, noid, noidss, go_sem, encNet, cNet]) ?_
  intro X hX0 hXs
  repeat' (first | (with_reducible refine sk ?_; intro K hK) | ((first | (with_reducible first | refine rg (md := { base := 0, own := [17, 19] }) (h := ?_) | refine rgS [17, 19] (md := { base := 0, own := [17, 19] }) (h := ?_) | refine nx ?_) | refine pK (alive_run) ?_ | refine pK (hrd) ?_); try simp (disch := omega) only [encNet, cNet,go_sem, simprocAttr]) | (with_reducible refine bk ?_) | ((with_reducible refine' cE ?hv ?_ ?_); (case hv => first | rfl | (simp only [encNet, cNet,go_sem, simprocAttr]; rfl)); all_goals (intro hc; (try simp only [go_sem, simprocAttr] at hc); try (exfalso; omega))) | ((with_reducible first | refine grdS_split ?_ ?_ | refine lkG_split ?_ ?_) <;> intro hg <;> (try simp (disch := omega) only [hg, encNet, cNet,go_sem, simprocAttr]) <;> (try simp only [go_sem, simprocAttr] at hg) <;> (try (exfalso; omega))) | ((with_reducible refine fe ?_); refine ⟨_, (by simp only [Try.f9, encNet, cNet,go_sem, simprocAttr]; rfl), ?_⟩; first | rfl | (try simp only [encNet, cNet,go_sem, simprocAttr, seval])) | with_reducible intro (ep : Nat → Nat) | with_reducible apply_assumption -exfalso -symm only [*])
end Cp
namespace Cp
open Go
theorem fit_map {α : Type} {c : α → List Val} : ∀ {xss : List (List Val)}, (∀ es ∈ xss, ∃ x, es = c x) → ∃ l : List α, xss = l.map c
 | [], _ => ⟨[], rfl⟩
 | es :: xss, h => by
  obtain ⟨x, rfl⟩ := h es (by simp)
  obtain ⟨l, rfl⟩ := fit_map fun es he => h es (List.mem_cons_of_mem _ he)
  exact ⟨x :: l, rfl⟩
theorem fit_slice {T : Tab} {n : Nat} {t e sz : Nat} {vs : List Val} {b b2 s1 : Nat} {z z2 : Val} {p p2 : Bool} {k2 : TK} {α : Type} {c : α → List Val} (ht : T t = some { kind := .slice e, sz := s1, bytes := b, zero := z, plain := p })
  (he : T e = some { kind := k2, sz := sz, bytes := b2, zero := z2, plain := p2 }) (h : Fit T (n + 1) t vs) (hc : ∀ es, Fit T n e es → ∃ x, es = c x) : ∃ l : List α, vs = [.lst sz (l.map c)] := by
 simp only [Fit, ht] at h
 obtain ⟨sz', xss, rfl, hs, _, hx⟩ := h
 rw [he] at hs
 cases hs
 obtain ⟨l, rfl⟩ := fit_map (c := c) fun es hes => hc es (hx es hes).2
 exact ⟨l, rfl⟩
theorem fit_struct {T : Tab} {n : Nat} {t sz : Nat} {vs : List Val} {b : Nat} {z : Val} {p : Bool} {fs : List (Nat × Nat)} (ht : T t = some { kind := .struct fs, sz := sz, bytes := b, zero := z, plain := p }) (h : Fit T (n + 1) t vs) :
  vs.length = sz ∧ ∀ q ∈ fs, ∃ fi, T q.2 = some fi ∧ Fit T n q.2 ((vs.drop q.1).take fi.sz) := by
 simp only [Fit, ht] at h
 exact h
theorem fit_int {T : Tab} {n : Nat} {t : Nat} {vs : List Val} {s b : Nat} {z : Val} {p : Bool} {k : IntKind} (ht : T t = some { kind := .int k, sz := s, bytes := b, zero := z, plain := p }) (h : Fit T (n + 1) t vs) : ∃ m, vs = [.int k m] ∧ (Lit.int k m).wf = true := by
 simp only [Fit, ht] at h
 exact h
theorem fit3 {n : Nat} {vs : List Val} (h : Fit tab (n + 1) 3 vs) : ∃ m, vs = [.int .i64 m] := by
 obtain ⟨m, h, _⟩ := fit_int tab_3 h; exact ⟨m, h⟩
theorem fit_two {n : Nat} {vs : List Val} {t b : Nat} {z : Val} {p : Bool} (ht : tab t = some { kind := .struct [(0, 3), (1, 3)], sz := 2, bytes := b, zero := z, plain := p }) (h : Fit tab (n + 2) t vs) : ∃ x y : Int, vs = [.int .i64 x, .int .i64 y] := by
 obtain ⟨hl, hq⟩ := fit_struct ht h
 match vs, hl with
 | [a, b], _ =>
  obtain ⟨fi, e, h0⟩ := hq (0, 3) (by simp)
  rw [tab_3] at e; cases e
  obtain ⟨fi, e, h1⟩ := hq (1, 3) (by simp)
  rw [tab_3] at e; cases e
  obtain ⟨x, hx⟩ := fit3 h0
  obtain ⟨y, hy⟩ := fit3 h1
  simp at hx hy
  exact ⟨x, y, by rw [hx, hy]⟩
theorem fit_span {n : Nat} {vs : List Val} (h : Fit tab (n + 2) 26 vs) : ∃ s : Span, vs = [.int .i64 s.lo, .int .i64 s.hi] := by
 obtain ⟨x, y, h⟩ := fit_two tab_26 h; exact ⟨⟨x, y⟩, h⟩
theorem fit_pipe {n : Nat} {vs : List Val} (h : Fit tab (n + 3) 89 vs) : ∃ x : PipeT, vs = cPipe x := by
 obtain ⟨hl, hq⟩ := fit_struct tab_89 h
 match vs, hl with
 | [a0, a1, a2, a3], _ =>
  obtain ⟨fi, e0, h0⟩ := hq (0, 3) (by simp)
  rw [tab_3] at e0; cases e0
  obtain ⟨fi, e1, h1⟩ := hq (1, 3) (by simp)
  rw [tab_3] at e1; cases e1
  obtain ⟨fi, e2, h2⟩ := hq (2, 26) (by simp)
  rw [tab_26] at e2; cases e2
  obtain ⟨x0, h0⟩ := fit3 h0
  obtain ⟨x1, h1⟩ := fit3 h1
  obtain ⟨x2, h2⟩ := fit_span h2
  simp at h0 h1 h2
  obtain ⟨h2, h2'⟩ := h2
  exact ⟨⟨x0, x1, x2⟩, by rw [h0, h1, h2, h2']; rfl⟩
theorem fit_head {n : Nat} {vs : List Val} (h : Fit tab (n + 3) 61 vs) : ∃ x : HeadT, vs = cHead x := by
 obtain ⟨hl, hq⟩ := fit_struct tab_61 h
 match vs, hl with
 | [a0, a1, a2, a3, a4, a5, a6, a7], _ =>
  obtain ⟨fi, e0, h0⟩ := hq (0, 3) (by simp)
  rw [tab_3] at e0; cases e0
  obtain ⟨fi, e1, h1⟩ := hq (1, 3) (by simp)
  rw [tab_3] at e1; cases e1
  obtain ⟨fi, e2, h2⟩ := hq (2, 3) (by simp)
  rw [tab_3] at e2; cases e2
  obtain ⟨fi, e3, h3⟩ := hq (3, 3) (by simp)
  rw [tab_3] at e3; cases e3
  obtain ⟨fi, e4, h4⟩ := hq (4, 26) (by simp)
  rw [tab_26] at e4; cases e4
  obtain ⟨fi, e5, h5⟩ := hq (6, 26) (by simp)
  rw [tab_26] at e5; cases e5
  obtain ⟨x0, h0⟩ := fit3 h0
  obtain ⟨x1, h1⟩ := fit3 h1
  obtain ⟨x2, h2⟩ := fit3 h2
  obtain ⟨x3, h3⟩ := fit3 h3
  obtain ⟨x4, h4⟩ := fit_span h4
  obtain ⟨x5, h5⟩ := fit_span h5
  simp at h0 h1 h2 h3 h4 h5
  obtain ⟨h4, h4'⟩ := h4
  obtain ⟨h5, h5'⟩ := h5
  exact ⟨⟨x0, x1, x2, x3, x4, x5⟩, by rw [h0, h1, h2, h3, h4, h4', h5, h5']; rfl⟩
theorem fit_pump {n : Nat} {vs : List Val} (h : Fit tab (n + 3) 94 vs) : ∃ x : PumpT, vs = cPump x := by
 obtain ⟨hl, hq⟩ := fit_struct tab_94 h
 match vs, hl with
 | [a0, a1, a2], _ =>
  obtain ⟨fi, e0, h0⟩ := hq (0, 26) (by simp)
  rw [tab_26] at e0; cases e0
  obtain ⟨fi, e1, h1⟩ := hq (2, 3) (by simp)
  rw [tab_3] at e1; cases e1
  obtain ⟨x0, h0⟩ := fit_span h0
  obtain ⟨x1, h1⟩ := fit3 h1
  simp at h0 h1
  obtain ⟨h0, h0'⟩ := h0
  exact ⟨⟨x0, x1⟩, by rw [h0, h0', h1]; rfl⟩
theorem fit_net {n : Nat} {vs : List Val} (h : Fit tab (n + 5) 28 vs) : ∃ x : NetT, vs = cNet x := by
 obtain ⟨hl, hq⟩ := fit_struct tab_28 h
 match vs, hl with
 | [a0, a1, a2, a3, a4, a5, a6], _ =>
  obtain ⟨fi, e0, h0⟩ := hq (0, 22) (by simp)
  rw [tab_22] at e0; cases e0
  obtain ⟨fi, e1, h1⟩ := hq (1, 23) (by simp)
  rw [tab_23] at e1; cases e1
  obtain ⟨fi, e2, h2⟩ := hq (2, 24) (by simp)
  rw [tab_24] at e2; cases e2
  obtain ⟨fi, e3, h3⟩ := hq (3, 3) (by simp)
  rw [tab_3] at e3; cases e3
  obtain ⟨fi, e4, h4⟩ := hq (4, 26) (by simp)
  rw [tab_26] at e4; cases e4
  obtain ⟨fi, e5, h5⟩ := hq (6, 3) (by simp)
  rw [tab_3] at e5; cases e5
  obtain ⟨x0, h0⟩ := fit_slice tab_22 tab_89 h0 fun es he => fit_pipe he
  obtain ⟨x1, h1⟩ := fit_slice tab_23 tab_61 h1 fun es he => fit_head he
  obtain ⟨x2, h2⟩ := fit_slice tab_24 tab_94 h2 fun es he => fit_pump he
  obtain ⟨x3, h3⟩ := fit3 h3
  obtain ⟨x4, h4⟩ := fit_span h4
  obtain ⟨x5, h5⟩ := fit3 h5
  simp at h0 h1 h2 h3 h4 h5
  obtain ⟨h4, h4'⟩ := h4
  exact ⟨⟨x0, x1, x2, x3, x4, x5⟩, by rw [h0, h1, h2, h3, h4, h4', h5]; rfl⟩
theorem arg_byte {a : Val} (h : FitV tab 8 5 a) : ∃ m, a = .int .u8 m ∧ 0 ≤ m ∧ m ≤ 255 := by
 obtain ⟨ti, cs, e, h, _, rfl⟩ := h
 obtain ⟨m, rfl, hw⟩ := fit_int tab_5 h
 rw [tab_5] at e; cases e
 simp [Lit.wf, IntKind.min, IntKind.max, IntKind.signed, IntKind.bits] at hw
 exact ⟨m, rfl, by omega, by omega⟩
theorem arg_net {a : Val} (h : FitV tab 8 28 a) : ∃ x : NetT, a = encNet x := by
 obtain ⟨ti, cs, e, h, _, rfl⟩ := h
 obtain ⟨l, rfl⟩ := fit_net h
 rw [tab_28] at e; cases e; exact ⟨l, rfl⟩
end Cp
