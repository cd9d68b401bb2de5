/- Rules, facts and contracts that the statement's proof leans on. Conditions: none. -/
import Derived.Test.YtfpbidbjgigljaaP9
set_option linter.unusedVariables false
set_option linter.unusedSimpArgs false
set_option linter.unusedSectionVars false
namespace Cp
open Go Go.Proofs
set_option maxRecDepth 10000
set_option maxHeartbeats 1000000
theorem without_fro (n : NetT) (hs : List HeadT) (e36 e33 e34 ver : Nat) (out : List Int) (hlo : out.length ≤ 100000) (hp : out.Pairwise (· < ·)) (g : FuncId) (caps : List Val) (H0 : Hp)
  (h36 : H0 436 = some (e36, .fro 10 [cPlant n hs e33 e34 (n.pipes.length + 1)])) (h34 : H0 434 = some (e34, .map ver [])) (R : Hp → Prop)
  (hg : ∀ (ver' : Nat) (H : Hp), (∀ j, ¬ j = 434 → H j = H0 j) → H 434 = some (e34, .map ver' (imap .i64 (offM out))) → ACall Try.prog g caps H fun v H' => v = .tup [] ∧ H' 436 = H 436 ∧ (∃ ver2, H' 434 = some (e34, .map ver2 (imap .i64 (offM out)))) ∧ R H') :
  ACall Try.prog 58 [.ptr 436 e36 10 0 0, .lst 1 (ints out), .fn g caps] H0 fun v H' => v = .tup [] ∧ ∃ H2 ver2, R H2 ∧ (∀ j, ¬ j = 434 → H' j = H2 j) ∧ H' 434 = some (e34, .map ver2 []) := by
 refine ACall_of (fn := Try.f58) tabOK (by kernel_rfl) rfl (by kernel_rfl) (by simp [Try.f58]) ?_
 intro X hX0 hXs
 repeat' (first | ((fail_if_success (with_reducible refine AW_at (id := 0) ?_)); with_reducible refine sk ?_; intro K hK) | ((with_reducible first | refine rg (md := { base := 1400, own := [], imp := [23] }) (h := ?_) | refine nx ?_); try simp (disch := omega) only [go_sem, simprocAttr]) | (with_reducible refine bk ?_) | ((with_reducible refine' cE ?hv ?_ ?_); (case hv => first | rfl | (simp only [go_sem, simprocAttr]; rfl)); all_goals (intro hc; (try simp only [go_sem, simprocAttr] at hc); try (exfalso; omega))) | ((with_reducible refine fe ?_); refine ⟨_, (by simp only [Try.f58, go_sem, simprocAttr]; rfl), ?_⟩; first | rfl | (try simp only [go_sem, simprocAttr, seval])) | with_reducible intro (ep : Nat → Nat) | with_reducible apply_assumption -exfalso -symm only [*])
 have hcut : ∀ f H, (f 0 = .ptr 436 e36 10 0 0 ∧ f 1 = .lst 1 (ints out) ∧ f 2 = .fn g caps) ∧ (∀ j, ¬ j = 434 → H j = H0 j) ∧ (∃ ver', H 434 = some (e34, .map ver' (imap .i64 (offM out)))) → K f H := by
  rintro f H ⟨⟨h0, h1, h2⟩, hlow, ver', hm⟩
  refine hK f H ?_
  clear hK
  have k36 : H 436 = some (e36, .fro 10 [cPlant n hs e33 e34 (n.pipes.length + 1)]) := by rw [hlow _ (by decide), h36]
  repeat' (first | ((fail_if_success (with_reducible refine AW_at (id := 6) ?_)); with_reducible refine sk ?_; intro K hK) | ((first | (with_reducible first | refine rg (md := { base := 1400, own := [], imp := [23] }) (h := ?_) | refine nx ?_) | refine pK (hg ver' H hlow hm) ?_); try simp (disch := omega) only [h0, h1, h2,go_sem, simprocAttr]) | (with_reducible refine bk ?_) | ((with_reducible refine' cE ?hv ?_ ?_); (case hv => first | rfl | (simp only [h0, h1, h2,go_sem, simprocAttr]; rfl)); all_goals (intro hc; (try simp only [go_sem, simprocAttr] at hc); try (exfalso; omega))) | (first | refine iK (hg ver' H hlow hm) ?_) | ((with_reducible refine fe ?_); refine ⟨_, (by simp only [Try.f58, h0, h1, h2,go_sem, simprocAttr]; rfl), ?_⟩; first | rfl | (try simp only [h0, h1, h2,go_sem, simprocAttr, seval])) | with_reducible intro (ep : Nat → Nat) | with_reducible apply_assumption -exfalso -symm only [*])
  rintro v H2 ⟨rfl, k36', ⟨ver2, hm2⟩, hR⟩
  rw [k36] at k36'
  simp only [go_sem, simprocAttr]
  repeat' (first | (with_reducible refine sk ?_; intro K hK) | ((with_reducible first | refine rg (md := { base := 1400, own := [], imp := [23] }) (h := ?_) | refine nx ?_); try simp (disch := omega) only [h0, h1,go_sem, simprocAttr]) | (with_reducible refine bk ?_) | ((with_reducible refine' cE ?hv ?_ ?_); (case hv => first | rfl | (simp only [h0, h1,go_sem, simprocAttr]; rfl)); all_goals (intro hc; (try simp only [go_sem, simprocAttr] at hc); try (exfalso; omega))) | with_reducible intro (ep : Nat → Nat) | with_reducible apply_assumption -exfalso -symm only [*])
  refine AW_range tabOK out.length (fun k f H => (f 0 = .ptr 436 e36 10 0 0 ∧ f 24 = .lst 1 (ints out)) ∧ (∀ j, ¬ j = 434 → H j = H2 j) ∧ ∃ v, H 434 = some (e34, .map v (imap .i64 (offM (out.drop k))))) (by omega) (by rw [hXs]; decide) (by decide) (by (first | rfl | (simp only [go_sem, simprocAttr]; done) | (simp only [go_sem, simprocAttr]; rfl))) (by (first | rfl | (simp only [go_sem, simprocAttr]; done) | (simp only [go_sem, simprocAttr]; rfl)))
   ⟨by (and_intros <;> first | rfl | (simp only [h0, h1, go_sem, simprocAttr]; done) | (simp only [h0, h1, go_sem, simprocAttr]; rfl)), fun j _ => rfl, ver2, by rw [List.drop_zero]; exact hm2⟩ ?_ ?_
  ·clear h0 h1 h2 hm
   rintro k f H3 hk h26 h25 ⟨⟨h0, h24⟩, hlow3, v, hm⟩
   obtain ⟨x, hx⟩ : ∃ x, out[k]? = some x := ⟨_, List.getElem?_eq_getElem hk⟩
   have q36 : H3 436 = some (e36, .fro 10 [cPlant n hs e33 e34 (n.pipes.length + 1)]) := by rw [hlow3 _ (by decide), k36']
   rw [drop_cons hx] at hm
   have hf : findI x (offM (x :: out.drop (k + 1))) 0 = some (0, .bool true) := by simp [offM, findI]
   have he : (imap .i64 (offM (x :: out.drop (k + 1)))).eraseIdx 0 = imap .i64 (offM (out.drop (k + 1))) := by simp [imap, offM]
   repeat' (first | (with_reducible refine sk ?_; intro K hK) | ((with_reducible first | refine rg (md := { base := 1400, own := [], imp := [23] }) (h := ?_) | refine nx ?_); try simp (disch := omega) only [h0, h24, h25, h26, hx, q36, hm, hf, he, cPlant,go_sem, simprocAttr]) | (with_reducible refine bk ?_) | ((with_reducible refine' cE ?hv ?_ ?_); (case hv => first | rfl | (simp only [h0, h24, h25, h26, hx, q36, hm, hf, he, cPlant,go_sem, simprocAttr]; rfl)); all_goals (intro hc; (try simp only [go_sem, simprocAttr] at hc); try (exfalso; omega))) | with_reducible intro (ep : Nat → Nat) | with_reducible apply_assumption -exfalso -symm only [*])
   exact ⟨fun j hj => by rw [if_neg hj]; exact hlow3 j hj, _, rfl⟩
  ·clear h0 h1 h2 hm
   rintro f H3 h26 h25 ⟨⟨h0, h24⟩, hlow3, v, hm⟩
   rw [drop_none (Nat.le_refl _)] at hm
   refine FnQ_end (Or.inr rfl) (.refl _) (by simp only [Try.f58, go_sem, simprocAttr]; rfl) ?_
   exact ⟨rfl, H2, v, hR, hlow3, hm⟩
 clear hK
 repeat' (first | (with_reducible refine sk ?_; intro K hK) | ((with_reducible first | refine rg (md := { base := 1400, own := [], imp := [23] }) (h := ?_) | refine nx ?_); try simp (disch := omega) only [go_sem, simprocAttr]) | (with_reducible refine bk ?_) | ((with_reducible refine' cE ?hv ?_ ?_); (case hv => first | rfl | (simp only [go_sem, simprocAttr]; rfl)); all_goals (intro hc; (try simp only [go_sem, simprocAttr] at hc); try (exfalso; omega))) | with_reducible intro (ep : Nat → Nat) | with_reducible apply_assumption -exfalso -symm only [*])
 refine AW_range tabOK out.length (fun k f H => (f 0 = .ptr 436 e36 10 0 0 ∧ f 1 = .lst 1 (ints out) ∧ f 2 = .fn g caps ∧ f 10 = .lst 1 (ints out)) ∧ (∀ j, ¬ j = 434 → H j = H0 j) ∧ ∃ v, H 434 = some (e34, .map v (imap .i64 (offM (out.take k))))) (by omega) (by rw [hXs]; decide) (by decide) (by (first | rfl | (simp only [go_sem, simprocAttr]; done) | (simp only [go_sem, simprocAttr]; rfl))) (by (first | rfl | (simp only [go_sem, simprocAttr]; done) | (simp only [go_sem, simprocAttr]; rfl)))
  ⟨by (and_intros <;> first | rfl | (simp only [go_sem, simprocAttr]; done) | (simp only [go_sem, simprocAttr]; rfl)), fun j _ => rfl, ver, by rw [List.take_zero]; exact h34⟩ ?_ ?_
 ·clear hcut
  rintro k f H3 hk h12 h11 ⟨⟨h0, h1, h2, h10⟩, hlow3, v, hm⟩
  obtain ⟨x, hx⟩ : ∃ x, out[k]? = some x := ⟨_, List.getElem?_eq_getElem hk⟩
  have q36 : H3 436 = some (e36, .fro 10 [cPlant n hs e33 e34 (n.pipes.length + 1)]) := by rw [hlow3 _ (by decide), h36]
  have hf : findI x (offM (out.take k)) 0 = none := findI_end (v := .any) fun p hq => by
   obtain ⟨y, hy, rfl⟩ := List.mem_map.1 hq
   obtain ⟨i, hi⟩ := List.mem_iff_getElem?.1 hy
   have hik : i < k := by have := (List.getElem?_eq_some_iff.1 hi).1; simp at this; omega
   rw [List.getElem?_take_of_lt hik] at hi
   obtain ⟨z1, rfl⟩ := List.getElem?_eq_some_iff.1 hi
   obtain ⟨z2, rfl⟩ := List.getElem?_eq_some_iff.1 hx
   have := List.pairwise_iff_getElem.1 hp i k z1 z2 hik
   simp only; omega
  repeat' (first | (with_reducible refine sk ?_; intro K hK) | ((with_reducible first | refine rg (md := { base := 1400, own := [], imp := [23] }) (h := ?_) | refine nx ?_); try simp (disch := omega) only [h0, h1, h2, h10, h11, h12, hx, q36, hm, hf, cPlant,go_sem, simprocAttr]) | (with_reducible refine bk ?_) | ((with_reducible refine' cE ?hv ?_ ?_); (case hv => first | rfl | (simp only [h0, h1, h2, h10, h11, h12, hx, q36, hm, hf, cPlant,go_sem, simprocAttr]; rfl)); all_goals (intro hc; (try simp only [go_sem, simprocAttr] at hc); try (exfalso; omega))) | with_reducible intro (ep : Nat → Nat) | with_reducible apply_assumption -exfalso -symm only [*])
  exact ⟨fun j hj => by rw [if_neg hj]; exact hlow3 j hj, _, by rw [offM_snoc, take_snoc' hx]⟩
 ·rintro f H3 h12 h11 ⟨⟨h0, h1, h2, h10⟩, hlow3, v, hm⟩
  rw [List.take_of_length_le (Nat.le_refl _)] at hm
  repeat' (first | (with_reducible refine sk ?_; intro K hK) | ((with_reducible first | refine rg (md := { base := 1400, own := [], imp := [23] }) (h := ?_) | refine nx ?_); try simp (disch := omega) only [h0, h1, h2,go_sem, simprocAttr]) | (with_reducible refine bk ?_) | ((with_reducible refine' cE ?hv ?_ ?_); (case hv => first | rfl | (simp only [h0, h1, h2,go_sem, simprocAttr]; rfl)); all_goals (intro hc; (try simp only [go_sem, simprocAttr] at hc); try (exfalso; omega))) | with_reducible intro (ep : Nat → Nat) | with_reducible apply_assumption -exfalso -symm only [*])
  exact ⟨by (and_intros <;> first | rfl | (simp only [h0, h1, h2, go_sem, simprocAttr]; done) | (simp only [h0, h1, h2, go_sem, simprocAttr]; rfl)), hlow3, v, hm⟩
end Cp
namespace Cp
open Go Go.Proofs
set_option maxRecDepth 10000
set_option maxHeartbeats 1000000
theorem xf155 {a : Int} {b : Bool} : xfield tab 155 (.agg [.int .i64 a, .bool b]) 1 = some (.bool b) := by rfl
def getStep (n : NetT) (hs : List HeadT) (s : LackT × Bool) (out : List Int) : LackT × Bool :=
 (if (lackS n hs out false).2 = true ∧ s.1.known = 2 then ⟨0, (lackS n hs out false).1, out⟩ else s.1, s.2 || !(lackS n hs out true).2)
def cTold (t : LackT) : List Val := [.int .u8 t.known, .int .i64 t.head, if t.known = 2 then .nils else .lst 1 (ints t.out)]
theorem gets1_ok (n : NetT) (hF : NetF n) (hs : List HeadT) (h5 : heads500 hs) (hsl : hs.length ≤ 12) (hnd : ∀ h ∈ hs, 1 ≤ h.node ∧ h.node ≤ n.pipes.length) (out : List Int) (ho : outOK n out = true) (e36 e33 e34 ver e3 e4 e5 e6 : Nat) (t : LackT) (ht : t.known = 0 ∨ t.known = 2) (g : Bool) (H0 : Hp)
  (g36 : H0 436 = some (e36, .fro 10 [cPlant n hs e33 e34 (n.pipes.length + 1)])) (g33 : H0 433 = some (e33, .arr 1 (ints (flowL n.pipes (n.pipes.length + 1) hs)))) (g34 : H0 434 = some (e34, .map ver (imap .i64 (offM out))))
  (g3 : H0 603 = some (e3, .arr 3 [cTold t])) (g4 : H0 604 = some (e4, .arr 1 [[.bool g]])) (g5 : H0 605 = some (e5, .arr 4 [[.fn (sgF false) [], .fn (sgF true) [], .fn (sgF true) [], .fn (sgF false) []]])) (g6 : H0 606 = some (e6, .arr 1 [[.lst 1 (ints out)]]))
  (hroom : H0 1208 = none ∧ H0 1604 = none ∧ H0 1605 = none ∧ H0 1607 = none) :
  ACall Try.prog 95 [.pim [.ptr 436 e36 10 0 0], .ptr 605 e5 4 0 0, .ptr 603 e3 3 0 0, .ptr 606 e6 1 0 0, .ptr 604 e4 1 0 0] H0 fun v H' => v = .tup [] ∧ (∀ j, ¬ j = 603 → ¬ j = 604 → ¬ j = 1705 → H' j = H0 j) ∧
   H' 603 = some (e3, .arr 3 [cTold (getStep n hs (t, g) out).1]) ∧ H' 604 = some (e4, .arr 1 [[.bool (getStep n hs (t, g) out).2]]) := by
 refine ACall_of (fn := Try.f95) tabOK (by kernel_rfl) rfl (by kernel_rfl) (by simp [Try.f95]) ?_
 intro X hX0 hXs
 refine AW_lose 1705 fun H1 w5 hs1 => ?_
 obtain ⟨r0, r1, r2, r3⟩ := hroom
 have k36 := (hs1 436 (by decide)).trans g36
 have k33 := (hs1 433 (by decide)).trans g33
 have k34 := (hs1 434 (by decide)).trans g34
 have k3 := (hs1 603 (by decide)).trans g3
 have k4 := (hs1 604 (by decide)).trans g4
 have k5 := (hs1 605 (by decide)).trans g5
 have k6 := (hs1 606 (by decide)).trans g6
 have lk : ∀ (best : Bool) (H : Hp), (∀ j, ¬ j = 603 → ¬ j = 604 → ¬ j = 1705 → H j = H0 j) → LookC Try.prog 96 [.ptr 436 e36 10 0 0, endV best] H (.agg (cLk (lackS n hs out best))) := fun best H h =>
  lacks_look n hF hs h5 hsl hnd out ho best e36 e33 e34 H ⟨by rw [h _ (by decide) (by decide) (by decide), g36]; rfl, by rw [h _ (by decide) (by decide) (by decide), g33]; rfl, ver, by rw [h _ (by decide) (by decide) (by decide), g34]; rfl⟩
   ⟨by rw [h _ (by decide) (by decide) (by decide), r0], by rw [h _ (by decide) (by decide) (by decide), r1], by rw [h _ (by decide) (by decide) (by decide), r2], by rw [h _ (by decide) (by decide) (by decide), r3]⟩
 have hsame : ∀ j, ¬ j = 603 → ¬ j = 604 → ¬ j = 1705 → H1 j = H0 j := fun j _ _ h => hs1 j h
 simp only [getStep]
 obtain ⟨⟨i0, b0⟩, hl0⟩ : ∃ p, lackS n hs out false = p := ⟨_, rfl⟩
 obtain ⟨⟨i1, b1⟩, hl1⟩ : ∃ p, lackS n hs out true = p := ⟨_, rfl⟩
 have l0 := lk false H1 hsame
 have l1 := lk true
 rw [hl0] at l0 ⊢
 rw [hl1] at l1 ⊢
 simp only [endV, cLk, Bool.not_false, Bool.not_true] at l0 l1
 clear lk hs1 g36 g33 g34 g3 g4 g5 g6 r0 r1 r2 r3
 simp only [cTold] at k3 ⊢
 cases b0 <;> cases b1 <;> cases g <;> rcases ht with ht | ht <;> simp only [ht] at k3
 ·repeat' (first | (with_reducible refine sk ?_; intro K hK) | ((first | (with_reducible first | refine rgL [] [9, 26] (md := { base := 1700, own := [] }) (h := ?_) | refine rgL [5] [9, 26] (md := { base := 1700, own := [] }) (h := ?_) | refine nx ?_) | refine pK (l0) ?_ | refine pK (l1 _ (fun j q1 q2 q3 => by simp only [upd_ne _ _ q1, upd_ne _ _ q2, upd_ne _ _ q3]; exact hsame j q1 q2 q3)) ?_ | refine lK (l0) ?_ | refine lK (l1 _ (fun j q1 q2 q3 => by simp only [upd_ne _ _ q1, upd_ne _ _ q2, upd_ne _ _ q3]; exact hsame j q1 q2 q3)) ?_); try simp (disch := omega) only [k36, k3, k4, k5, k6, w5, ht, xf155,go_sem, simprocAttr]) | (with_reducible refine bk ?_) | ((with_reducible refine' cE ?hv ?_ ?_); (case hv => first | rfl | (simp only [k36, k3, k4, k5, k6, w5, ht, xf155,go_sem, simprocAttr]; rfl)); all_goals (intro hc; (try simp only [go_sem, simprocAttr] at hc); try (exfalso; omega))) | ((with_reducible first | refine grdS_split ?_ ?_ | refine lkG_split ?_ ?_) <;> intro hg <;> (try simp (disch := omega) only [hg, k36, k3, k4, k5, k6, w5, ht, xf155,go_sem, simprocAttr]) <;> (try simp only [go_sem, simprocAttr] at hg) <;> (try (exfalso; omega))) | with_reducible intro (ep : Nat → Nat) | with_reducible apply_assumption -exfalso -symm only [*])
  refine FnQ_end (Or.inr rfl) (.refl _) (by simp only [Try.f95, go_sem, simprocAttr]; rfl) ?_
  exact ⟨rfl, fun j q1 q2 q3 => by simp only [upd_ne _ _ q1, upd_ne _ _ q2, upd_ne _ _ q3]; exact hsame j q1 q2 q3, by (first | rfl | (simp only [k3, ht, go_sem, simprocAttr]; done) | (simp only [k3, ht, go_sem, simprocAttr]; rfl)), by (first | rfl | (simp only [k4, go_sem, simprocAttr]; done) | (simp only [k4, go_sem, simprocAttr]; rfl))⟩
 ·repeat' (first | (with_reducible refine sk ?_; intro K hK) | ((first | (with_reducible first | refine rgL [] [9, 26] (md := { base := 1700, own := [] }) (h := ?_) | refine rgL [5] [9, 26] (md := { base := 1700, own := [] }) (h := ?_) | refine nx ?_) | refine pK (l0) ?_ | refine pK (l1 _ (fun j q1 q2 q3 => by simp only [upd_ne _ _ q1, upd_ne _ _ q2, upd_ne _ _ q3]; exact hsame j q1 q2 q3)) ?_ | refine lK (l0) ?_ | refine lK (l1 _ (fun j q1 q2 q3 => by simp only [upd_ne _ _ q1, upd_ne _ _ q2, upd_ne _ _ q3]; exact hsame j q1 q2 q3)) ?_); try simp (disch := omega) only [k36, k3, k4, k5, k6, w5, ht, xf155,go_sem, simprocAttr]) | (with_reducible refine bk ?_) | ((with_reducible refine' cE ?hv ?_ ?_); (case hv => first | rfl | (simp only [k36, k3, k4, k5, k6, w5, ht, xf155,go_sem, simprocAttr]; rfl)); all_goals (intro hc; (try simp only [go_sem, simprocAttr] at hc); try (exfalso; omega))) | ((with_reducible first | refine grdS_split ?_ ?_ | refine lkG_split ?_ ?_) <;> intro hg <;> (try simp (disch := omega) only [hg, k36, k3, k4, k5, k6, w5, ht, xf155,go_sem, simprocAttr]) <;> (try simp only [go_sem, simprocAttr] at hg) <;> (try (exfalso; omega))) | with_reducible intro (ep : Nat → Nat) | with_reducible apply_assumption -exfalso -symm only [*])
  refine FnQ_end (Or.inr rfl) (.refl _) (by simp only [Try.f95, go_sem, simprocAttr]; rfl) ?_
  exact ⟨rfl, fun j q1 q2 q3 => by simp only [upd_ne _ _ q1, upd_ne _ _ q2, upd_ne _ _ q3]; exact hsame j q1 q2 q3, by (first | rfl | (simp only [k3, ht, go_sem, simprocAttr]; done) | (simp only [k3, ht, go_sem, simprocAttr]; rfl)), by (first | rfl | (simp only [k4, go_sem, simprocAttr]; done) | (simp only [k4, go_sem, simprocAttr]; rfl))⟩
 ·repeat' (first | (with_reducible refine sk ?_; intro K hK) | ((first | (with_reducible first | refine rgL [] [9, 26] (md := { base := 1700, own := [] }) (h := ?_) | refine rgL [5] [9, 26] (md := { base := 1700, own := [] }) (h := ?_) | refine nx ?_) | refine pK (l0) ?_ | refine pK (l1 _ (fun j q1 q2 q3 => by simp only [upd_ne _ _ q1, upd_ne _ _ q2, upd_ne _ _ q3]; exact hsame j q1 q2 q3)) ?_ | refine lK (l0) ?_ | refine lK (l1 _ (fun j q1 q2 q3 => by simp only [upd_ne _ _ q1, upd_ne _ _ q2, upd_ne _ _ q3]; exact hsame j q1 q2 q3)) ?_); try simp (disch := omega) only [k36, k3, k4, k5, k6, w5, ht, xf155,go_sem, simprocAttr]) | (with_reducible refine bk ?_) | ((with_reducible refine' cE ?hv ?_ ?_); (case hv => first | rfl | (simp only [k36, k3, k4, k5, k6, w5, ht, xf155,go_sem, simprocAttr]; rfl)); all_goals (intro hc; (try simp only [go_sem, simprocAttr] at hc); try (exfalso; omega))) | ((with_reducible first | refine grdS_split ?_ ?_ | refine lkG_split ?_ ?_) <;> intro hg <;> (try simp (disch := omega) only [hg, k36, k3, k4, k5, k6, w5, ht, xf155,go_sem, simprocAttr]) <;> (try simp only [go_sem, simprocAttr] at hg) <;> (try (exfalso; omega))) | with_reducible intro (ep : Nat → Nat) | with_reducible apply_assumption -exfalso -symm only [*])
  refine FnQ_end (Or.inr rfl) (.refl _) (by simp only [Try.f95, go_sem, simprocAttr]; rfl) ?_
  exact ⟨rfl, fun j q1 q2 q3 => by simp only [upd_ne _ _ q1, upd_ne _ _ q2, upd_ne _ _ q3]; exact hsame j q1 q2 q3, by (first | rfl | (simp only [k3, ht, go_sem, simprocAttr]; done) | (simp only [k3, ht, go_sem, simprocAttr]; rfl)), by (first | rfl | (simp only [k4, go_sem, simprocAttr]; done) | (simp only [k4, go_sem, simprocAttr]; rfl))⟩
 ·repeat' (first | (with_reducible refine sk ?_; intro K hK) | ((first | (with_reducible first | refine rgL [] [9, 26] (md := { base := 1700, own := [] }) (h := ?_) | refine rgL [5] [9, 26] (md := { base := 1700, own := [] }) (h := ?_) | refine nx ?_) | refine pK (l0) ?_ | refine pK (l1 _ (fun j q1 q2 q3 => by simp only [upd_ne _ _ q1, upd_ne _ _ q2, upd_ne _ _ q3]; exact hsame j q1 q2 q3)) ?_ | refine lK (l0) ?_ | refine lK (l1 _ (fun j q1 q2 q3 => by simp only [upd_ne _ _ q1, upd_ne _ _ q2, upd_ne _ _ q3]; exact hsame j q1 q2 q3)) ?_); try simp (disch := omega) only [k36, k3, k4, k5, k6, w5, ht, xf155,go_sem, simprocAttr]) | (with_reducible refine bk ?_) | ((with_reducible refine' cE ?hv ?_ ?_); (case hv => first | rfl | (simp only [k36, k3, k4, k5, k6, w5, ht, xf155,go_sem, simprocAttr]; rfl)); all_goals (intro hc; (try simp only [go_sem, simprocAttr] at hc); try (exfalso; omega))) | ((with_reducible first | refine grdS_split ?_ ?_ | refine lkG_split ?_ ?_) <;> intro hg <;> (try simp (disch := omega) only [hg, k36, k3, k4, k5, k6, w5, ht, xf155,go_sem, simprocAttr]) <;> (try simp only [go_sem, simprocAttr] at hg) <;> (try (exfalso; omega))) | with_reducible intro (ep : Nat → Nat) | with_reducible apply_assumption -exfalso -symm only [*])
  refine FnQ_end (Or.inr rfl) (.refl _) (by simp only [Try.f95, go_sem, simprocAttr]; rfl) ?_
  exact ⟨rfl, fun j q1 q2 q3 => by simp only [upd_ne _ _ q1, upd_ne _ _ q2, upd_ne _ _ q3]; exact hsame j q1 q2 q3, by (first | rfl | (simp only [k3, ht, go_sem, simprocAttr]; done) | (simp only [k3, ht, go_sem, simprocAttr]; rfl)), by (first | rfl | (simp only [k4, go_sem, simprocAttr]; done) | (simp only [k4, go_sem, simprocAttr]; rfl))⟩
 ·repeat' (first | (with_reducible refine sk ?_; intro K hK) | ((first | (with_reducible first | refine rgL [] [9, 26] (md := { base := 1700, own := [] }) (h := ?_) | refine rgL [5] [9, 26] (md := { base := 1700, own := [] }) (h := ?_) | refine nx ?_) | refine pK (l0) ?_ | refine pK (l1 _ (fun j q1 q2 q3 => by simp only [upd_ne _ _ q1, upd_ne _ _ q2, upd_ne _ _ q3]; exact hsame j q1 q2 q3)) ?_ | refine lK (l0) ?_ | refine lK (l1 _ (fun j q1 q2 q3 => by simp only [upd_ne _ _ q1, upd_ne _ _ q2, upd_ne _ _ q3]; exact hsame j q1 q2 q3)) ?_); try simp (disch := omega) only [k36, k3, k4, k5, k6, w5, ht, xf155,go_sem, simprocAttr]) | (with_reducible refine bk ?_) | ((with_reducible refine' cE ?hv ?_ ?_); (case hv => first | rfl | (simp only [k36, k3, k4, k5, k6, w5, ht, xf155,go_sem, simprocAttr]; rfl)); all_goals (intro hc; (try simp only [go_sem, simprocAttr] at hc); try (exfalso; omega))) | ((with_reducible first | refine grdS_split ?_ ?_ | refine lkG_split ?_ ?_) <;> intro hg <;> (try simp (disch := omega) only [hg, k36, k3, k4, k5, k6, w5, ht, xf155,go_sem, simprocAttr]) <;> (try simp only [go_sem, simprocAttr] at hg) <;> (try (exfalso; omega))) | with_reducible intro (ep : Nat → Nat) | with_reducible apply_assumption -exfalso -symm only [*])
  refine FnQ_end (Or.inr rfl) (.refl _) (by simp only [Try.f95, go_sem, simprocAttr]; rfl) ?_
  exact ⟨rfl, fun j q1 q2 q3 => by simp only [upd_ne _ _ q1, upd_ne _ _ q2, upd_ne _ _ q3]; exact hsame j q1 q2 q3, by (first | rfl | (simp only [k3, ht, go_sem, simprocAttr]; done) | (simp only [k3, ht, go_sem, simprocAttr]; rfl)), by (first | rfl | (simp only [k4, go_sem, simprocAttr]; done) | (simp only [k4, go_sem, simprocAttr]; rfl))⟩
 ·repeat' (first | (with_reducible refine sk ?_; intro K hK) | ((first | (with_reducible first | refine rgL [] [9, 26] (md := { base := 1700, own := [] }) (h := ?_) | refine rgL [5] [9, 26] (md := { base := 1700, own := [] }) (h := ?_) | refine nx ?_) | refine pK (l0) ?_ | refine pK (l1 _ (fun j q1 q2 q3 => by simp only [upd_ne _ _ q1, upd_ne _ _ q2, upd_ne _ _ q3]; exact hsame j q1 q2 q3)) ?_ | refine lK (l0) ?_ | refine lK (l1 _ (fun j q1 q2 q3 => by simp only [upd_ne _ _ q1, upd_ne _ _ q2, upd_ne _ _ q3]; exact hsame j q1 q2 q3)) ?_); try simp (disch := omega) only [k36, k3, k4, k5, k6, w5, ht, xf155,go_sem, simprocAttr]) | (with_reducible refine bk ?_) | ((with_reducible refine' cE ?hv ?_ ?_); (case hv => first | rfl | (simp only [k36, k3, k4, k5, k6, w5, ht, xf155,go_sem, simprocAttr]; rfl)); all_goals (intro hc; (try simp only [go_sem, simprocAttr] at hc); try (exfalso; omega))) | ((with_reducible first | refine grdS_split ?_ ?_ | refine lkG_split ?_ ?_) <;> intro hg <;> (try simp (disch := omega) only [hg, k36, k3, k4, k5, k6, w5, ht, xf155,go_sem, simprocAttr]) <;> (try simp only [go_sem, simprocAttr] at hg) <;> (try (exfalso; omega))) | with_reducible intro (ep : Nat → Nat) | with_reducible apply_assumption -exfalso -symm only [*])
  refine FnQ_end (Or.inr rfl) (.refl _) (by simp only [Try.f95, go_sem, simprocAttr]; rfl) ?_
  exact ⟨rfl, fun j q1 q2 q3 => by simp only [upd_ne _ _ q1, upd_ne _ _ q2, upd_ne _ _ q3]; exact hsame j q1 q2 q3, by (first | rfl | (simp only [k3, ht, go_sem, simprocAttr]; done) | (simp only [k3, ht, go_sem, simprocAttr]; rfl)), by (first | rfl | (simp only [k4, go_sem, simprocAttr]; done) | (simp only [k4, go_sem, simprocAttr]; rfl))⟩
 ·repeat' (first | (with_reducible refine sk ?_; intro K hK) | ((first | (with_reducible first | refine rgL [] [9, 26] (md := { base := 1700, own := [] }) (h := ?_) | refine rgL [5] [9, 26] (md := { base := 1700, own := [] }) (h := ?_) | refine nx ?_) | refine pK (l0) ?_ | refine pK (l1 _ (fun j q1 q2 q3 => by simp only [upd_ne _ _ q1, upd_ne _ _ q2, upd_ne _ _ q3]; exact hsame j q1 q2 q3)) ?_ | refine lK (l0) ?_ | refine lK (l1 _ (fun j q1 q2 q3 => by simp only [upd_ne _ _ q1, upd_ne _ _ q2, upd_ne _ _ q3]; exact hsame j q1 q2 q3)) ?_); try simp (disch := omega) only [k36, k3, k4, k5, k6, w5, ht, xf155,go_sem, simprocAttr]) | (with_reducible refine bk ?_) | ((with_reducible refine' cE ?hv ?_ ?_); (case hv => first | rfl | (simp only [k36, k3, k4, k5, k6, w5, ht, xf155,go_sem, simprocAttr]; rfl)); all_goals (intro hc; (try simp only [go_sem, simprocAttr] at hc); try (exfalso; omega))) | ((with_reducible first | refine grdS_split ?_ ?_ | refine lkG_split ?_ ?_) <;> intro hg <;> (try simp (disch := omega) only [hg, k36, k3, k4, k5, k6, w5, ht, xf155,go_sem, simprocAttr]) <;> (try simp only [go_sem, simprocAttr] at hg) <;> (try (exfalso; omega))) | with_reducible intro (ep : Nat → Nat) | with_reducible apply_assumption -exfalso -symm only [*])
  refine FnQ_end (Or.inr rfl) (.refl _) (by simp only [Try.f95, go_sem, simprocAttr]; rfl) ?_
  exact ⟨rfl, fun j q1 q2 q3 => by simp only [upd_ne _ _ q1, upd_ne _ _ q2, upd_ne _ _ q3]; exact hsame j q1 q2 q3, by (first | rfl | (simp only [k3, ht, go_sem, simprocAttr]; done) | (simp only [k3, ht, go_sem, simprocAttr]; rfl)), by (first | rfl | (simp only [k4, go_sem, simprocAttr]; done) | (simp only [k4, go_sem, simprocAttr]; rfl))⟩
 ·repeat' (first | (with_reducible refine sk ?_; intro K hK) | ((first | (with_reducible first | refine rgL [] [9, 26] (md := { base := 1700, own := [] }) (h := ?_) | refine rgL [5] [9, 26] (md := { base := 1700, own := [] }) (h := ?_) | refine nx ?_) | refine pK (l0) ?_ | refine pK (l1 _ (fun j q1 q2 q3 => by simp only [upd_ne _ _ q1, upd_ne _ _ q2, upd_ne _ _ q3]; exact hsame j q1 q2 q3)) ?_ | refine lK (l0) ?_ | refine lK (l1 _ (fun j q1 q2 q3 => by simp only [upd_ne _ _ q1, upd_ne _ _ q2, upd_ne _ _ q3]; exact hsame j q1 q2 q3)) ?_); try simp (disch := omega) only [k36, k3, k4, k5, k6, w5, ht, xf155,go_sem, simprocAttr]) | (with_reducible refine bk ?_) | ((with_reducible refine' cE ?hv ?_ ?_); (case hv => first | rfl | (simp only [k36, k3, k4, k5, k6, w5, ht, xf155,go_sem, simprocAttr]; rfl)); all_goals (intro hc; (try simp only [go_sem, simprocAttr] at hc); try (exfalso; omega))) | ((with_reducible first | refine grdS_split ?_ ?_ | refine lkG_split ?_ ?_) <;> intro hg <;> (try simp (disch := omega) only [hg, k36, k3, k4, k5, k6, w5, ht, xf155,go_sem, simprocAttr]) <;> (try simp only [go_sem, simprocAttr] at hg) <;> (try (exfalso; omega))) | with_reducible intro (ep : Nat → Nat) | with_reducible apply_assumption -exfalso -symm only [*])
  refine FnQ_end (Or.inr rfl) (.refl _) (by simp only [Try.f95, go_sem, simprocAttr]; rfl) ?_
  exact ⟨rfl, fun j q1 q2 q3 => by simp only [upd_ne _ _ q1, upd_ne _ _ q2, upd_ne _ _ q3]; exact hsame j q1 q2 q3, by (first | rfl | (simp only [k3, ht, go_sem, simprocAttr]; done) | (simp only [k3, ht, go_sem, simprocAttr]; rfl)), by (first | rfl | (simp only [k4, go_sem, simprocAttr]; done) | (simp only [k4, go_sem, simprocAttr]; rfl))⟩
 ·repeat' (first | (with_reducible refine sk ?_; intro K hK) | ((first | (with_reducible first | refine rgL [] [9, 26] (md := { base := 1700, own := [] }) (h := ?_) | refine rgL [5] [9, 26] (md := { base := 1700, own := [] }) (h := ?_) | refine nx ?_) | refine pK (l0) ?_ | refine pK (l1 _ (fun j q1 q2 q3 => by simp only [upd_ne _ _ q1, upd_ne _ _ q2, upd_ne _ _ q3]; exact hsame j q1 q2 q3)) ?_ | refine lK (l0) ?_ | refine lK (l1 _ (fun j q1 q2 q3 => by simp only [upd_ne _ _ q1, upd_ne _ _ q2, upd_ne _ _ q3]; exact hsame j q1 q2 q3)) ?_); try simp (disch := omega) only [k36, k3, k4, k5, k6, w5, ht, xf155,go_sem, simprocAttr]) | (with_reducible refine bk ?_) | ((with_reducible refine' cE ?hv ?_ ?_); (case hv => first | rfl | (simp only [k36, k3, k4, k5, k6, w5, ht, xf155,go_sem, simprocAttr]; rfl)); all_goals (intro hc; (try simp only [go_sem, simprocAttr] at hc); try (exfalso; omega))) | ((with_reducible first | refine grdS_split ?_ ?_ | refine lkG_split ?_ ?_) <;> intro hg <;> (try simp (disch := omega) only [hg, k36, k3, k4, k5, k6, w5, ht, xf155,go_sem, simprocAttr]) <;> (try simp only [go_sem, simprocAttr] at hg) <;> (try (exfalso; omega))) | with_reducible intro (ep : Nat → Nat) | with_reducible apply_assumption -exfalso -symm only [*])
  refine FnQ_end (Or.inr rfl) (.refl _) (by simp only [Try.f95, go_sem, simprocAttr]; rfl) ?_
  exact ⟨rfl, fun j q1 q2 q3 => by simp only [upd_ne _ _ q1, upd_ne _ _ q2, upd_ne _ _ q3]; exact hsame j q1 q2 q3, by (first | rfl | (simp only [k3, ht, go_sem, simprocAttr]; done) | (simp only [k3, ht, go_sem, simprocAttr]; rfl)), by (first | rfl | (simp only [k4, go_sem, simprocAttr]; done) | (simp only [k4, go_sem, simprocAttr]; rfl))⟩
 ·repeat' (first | (with_reducible refine sk ?_; intro K hK) | ((first | (with_reducible first | refine rgL [] [9, 26] (md := { base := 1700, own := [] }) (h := ?_) | refine rgL [5] [9, 26] (md := { base := 1700, own := [] }) (h := ?_) | refine nx ?_) | refine pK (l0) ?_ | refine pK (l1 _ (fun j q1 q2 q3 => by simp only [upd_ne _ _ q1, upd_ne _ _ q2, upd_ne _ _ q3]; exact hsame j q1 q2 q3)) ?_ | refine lK (l0) ?_ | refine lK (l1 _ (fun j q1 q2 q3 => by simp only [upd_ne _ _ q1, upd_ne _ _ q2, upd_ne _ _ q3]; exact hsame j q1 q2 q3)) ?_); try simp (disch := omega) only [k36, k3, k4, k5, k6, w5, ht, xf155,go_sem, simprocAttr]) | (with_reducible refine bk ?_) | ((with_reducible refine' cE ?hv ?_ ?_); (case hv => first | rfl | (simp only [k36, k3, k4, k5, k6, w5, ht, xf155,go_sem, simprocAttr]; rfl)); all_goals (intro hc; (try simp only [go_sem, simprocAttr] at hc); try (exfalso; omega))) | ((with_reducible first | refine grdS_split ?_ ?_ | refine lkG_split ?_ ?_) <;> intro hg <;> (try simp (disch := omega) only [hg, k36, k3, k4, k5, k6, w5, ht, xf155,go_sem, simprocAttr]) <;> (try simp only [go_sem, simprocAttr] at hg) <;> (try (exfalso; omega))) | with_reducible intro (ep : Nat → Nat) | with_reducible apply_assumption -exfalso -symm only [*])
  refine FnQ_end (Or.inr rfl) (.refl _) (by simp only [Try.f95, go_sem, simprocAttr]; rfl) ?_
  exact ⟨rfl, fun j q1 q2 q3 => by simp only [upd_ne _ _ q1, upd_ne _ _ q2, upd_ne _ _ q3]; exact hsame j q1 q2 q3, by (first | rfl | (simp only [k3, ht, go_sem, simprocAttr]; done) | (simp only [k3, ht, go_sem, simprocAttr]; rfl)), by (first | rfl | (simp only [k4, go_sem, simprocAttr]; done) | (simp only [k4, go_sem, simprocAttr]; rfl))⟩
 ·repeat' (first | (with_reducible refine sk ?_; intro K hK) | ((first | (with_reducible first | refine rgL [] [9, 26] (md := { base := 1700, own := [] }) (h := ?_) | refine rgL [5] [9, 26] (md := { base := 1700, own := [] }) (h := ?_) | refine nx ?_) | refine pK (l0) ?_ | refine pK (l1 _ (fun j q1 q2 q3 => by simp only [upd_ne _ _ q1, upd_ne _ _ q2, upd_ne _ _ q3]; exact hsame j q1 q2 q3)) ?_ | refine lK (l0) ?_ | refine lK (l1 _ (fun j q1 q2 q3 => by simp only [upd_ne _ _ q1, upd_ne _ _ q2, upd_ne _ _ q3]; exact hsame j q1 q2 q3)) ?_); try simp (disch := omega) only [k36, k3, k4, k5, k6, w5, ht, xf155,go_sem, simprocAttr]) | (with_reducible refine bk ?_) | ((with_reducible refine' cE ?hv ?_ ?_); (case hv => first | rfl | (simp only [k36, k3, k4, k5, k6, w5, ht, xf155,go_sem, simprocAttr]; rfl)); all_goals (intro hc; (try simp only [go_sem, simprocAttr] at hc); try (exfalso; omega))) | ((with_reducible first | refine grdS_split ?_ ?_ | refine lkG_split ?_ ?_) <;> intro hg <;> (try simp (disch := omega) only [hg, k36, k3, k4, k5, k6, w5, ht, xf155,go_sem, simprocAttr]) <;> (try simp only [go_sem, simprocAttr] at hg) <;> (try (exfalso; omega))) | with_reducible intro (ep : Nat → Nat) | with_reducible apply_assumption -exfalso -symm only [*])
  refine FnQ_end (Or.inr rfl) (.refl _) (by simp only [Try.f95, go_sem, simprocAttr]; rfl) ?_
  exact ⟨rfl, fun j q1 q2 q3 => by simp only [upd_ne _ _ q1, upd_ne _ _ q2, upd_ne _ _ q3]; exact hsame j q1 q2 q3, by (first | rfl | (simp only [k3, ht, go_sem, simprocAttr]; done) | (simp only [k3, ht, go_sem, simprocAttr]; rfl)), by (first | rfl | (simp only [k4, go_sem, simprocAttr]; done) | (simp only [k4, go_sem, simprocAttr]; rfl))⟩
 ·repeat' (first | (with_reducible refine sk ?_; intro K hK) | ((first | (with_reducible first | refine rgL [] [9, 26] (md := { base := 1700, own := [] }) (h := ?_) | refine rgL [5] [9, 26] (md := { base := 1700, own := [] }) (h := ?_) | refine nx ?_) | refine pK (l0) ?_ | refine pK (l1 _ (fun j q1 q2 q3 => by simp only [upd_ne _ _ q1, upd_ne _ _ q2, upd_ne _ _ q3]; exact hsame j q1 q2 q3)) ?_ | refine lK (l0) ?_ | refine lK (l1 _ (fun j q1 q2 q3 => by simp only [upd_ne _ _ q1, upd_ne _ _ q2, upd_ne _ _ q3]; exact hsame j q1 q2 q3)) ?_); try simp (disch := omega) only [k36, k3, k4, k5, k6, w5, ht, xf155,go_sem, simprocAttr]) | (with_reducible refine bk ?_) | ((with_reducible refine' cE ?hv ?_ ?_); (case hv => first | rfl | (simp only [k36, k3, k4, k5, k6, w5, ht, xf155,go_sem, simprocAttr]; rfl)); all_goals (intro hc; (try simp only [go_sem, simprocAttr] at hc); try (exfalso; omega))) | ((with_reducible first | refine grdS_split ?_ ?_ | refine lkG_split ?_ ?_) <;> intro hg <;> (try simp (disch := omega) only [hg, k36, k3, k4, k5, k6, w5, ht, xf155,go_sem, simprocAttr]) <;> (try simp only [go_sem, simprocAttr] at hg) <;> (try (exfalso; omega))) | with_reducible intro (ep : Nat → Nat) | with_reducible apply_assumption -exfalso -symm only [*])
  refine FnQ_end (Or.inr rfl) (.refl _) (by simp only [Try.f95, go_sem, simprocAttr]; rfl) ?_
  exact ⟨rfl, fun j q1 q2 q3 => by simp only [upd_ne _ _ q1, upd_ne _ _ q2, upd_ne _ _ q3]; exact hsame j q1 q2 q3, by (first | rfl | (simp only [k3, ht, go_sem, simprocAttr]; done) | (simp only [k3, ht, go_sem, simprocAttr]; rfl)), by (first | rfl | (simp only [k4, go_sem, simprocAttr]; done) | (simp only [k4, go_sem, simprocAttr]; rfl))⟩
 ·repeat' (first | (with_reducible refine sk ?_; intro K hK) | ((first | (with_reducible first | refine rgL [] [9, 26] (md := { base := 1700, own := [] }) (h := ?_) | refine rgL [5] [9, 26] (md := { base := 1700, own := [] }) (h := ?_) | refine nx ?_) | refine pK (l0) ?_ | refine pK (l1 _ (fun j q1 q2 q3 => by simp only [upd_ne _ _ q1, upd_ne _ _ q2, upd_ne _ _ q3]; exact hsame j q1 q2 q3)) ?_ | refine lK (l0) ?_ | refine lK (l1 _ (fun j q1 q2 q3 => by simp only [upd_ne _ _ q1, upd_ne _ _ q2, upd_ne _ _ q3]; exact hsame j q1 q2 q3)) ?_); try simp (disch := omega) only [k36, k3, k4, k5, k6, w5, ht, xf155,go_sem, simprocAttr]) | (with_reducible refine bk ?_) | ((with_reducible refine' cE ?hv ?_ ?_); (case hv => first | rfl | (simp only [k36, k3, k4, k5, k6, w5, ht, xf155,go_sem, simprocAttr]; rfl)); all_goals (intro hc; (try simp only [go_sem, simprocAttr] at hc); try (exfalso; omega))) | ((with_reducible first | refine grdS_split ?_ ?_ | refine lkG_split ?_ ?_) <;> intro hg <;> (try simp (disch := omega) only [hg, k36, k3, k4, k5, k6, w5, ht, xf155,go_sem, simprocAttr]) <;> (try simp only [go_sem, simprocAttr] at hg) <;> (try (exfalso; omega))) | with_reducible intro (ep : Nat → Nat) | with_reducible apply_assumption -exfalso -symm only [*])
  refine FnQ_end (Or.inr rfl) (.refl _) (by simp only [Try.f95, go_sem, simprocAttr]; rfl) ?_
  exact ⟨rfl, fun j q1 q2 q3 => by simp only [upd_ne _ _ q1, upd_ne _ _ q2, upd_ne _ _ q3]; exact hsame j q1 q2 q3, by (first | rfl | (simp only [k3, ht, go_sem, simprocAttr]; done) | (simp only [k3, ht, go_sem, simprocAttr]; rfl)), by (first | rfl | (simp only [k4, go_sem, simprocAttr]; done) | (simp only [k4, go_sem, simprocAttr]; rfl))⟩
 ·repeat' (first | (with_reducible refine sk ?_; intro K hK) | ((first | (with_reducible first | refine rgL [] [9, 26] (md := { base := 1700, own := [] }) (h := ?_) | refine rgL [5] [9, 26] (md := { base := 1700, own := [] }) (h := ?_) | refine nx ?_) | refine pK (l0) ?_ | refine pK (l1 _ (fun j q1 q2 q3 => by simp only [upd_ne _ _ q1, upd_ne _ _ q2, upd_ne _ _ q3]; exact hsame j q1 q2 q3)) ?_ | refine lK (l0) ?_ | refine lK (l1 _ (fun j q1 q2 q3 => by simp only [upd_ne _ _ q1, upd_ne _ _ q2, upd_ne _ _ q3]; exact hsame j q1 q2 q3)) ?_); try simp (disch := omega) only [k36, k3, k4, k5, k6, w5, ht, xf155,go_sem, simprocAttr]) | (with_reducible refine bk ?_) | ((with_reducible refine' cE ?hv ?_ ?_); (case hv => first | rfl | (simp only [k36, k3, k4, k5, k6, w5, ht, xf155,go_sem, simprocAttr]; rfl)); all_goals (intro hc; (try simp only [go_sem, simprocAttr] at hc); try (exfalso; omega))) | ((with_reducible first | refine grdS_split ?_ ?_ | refine lkG_split ?_ ?_) <;> intro hg <;> (try simp (disch := omega) only [hg, k36, k3, k4, k5, k6, w5, ht, xf155,go_sem, simprocAttr]) <;> (try simp only [go_sem, simprocAttr] at hg) <;> (try (exfalso; omega))) | with_reducible intro (ep : Nat → Nat) | with_reducible apply_assumption -exfalso -symm only [*])
  refine FnQ_end (Or.inr rfl) (.refl _) (by simp only [Try.f95, go_sem, simprocAttr]; rfl) ?_
  exact ⟨rfl, fun j q1 q2 q3 => by simp only [upd_ne _ _ q1, upd_ne _ _ q2, upd_ne _ _ q3]; exact hsame j q1 q2 q3, by (first | rfl | (simp only [k3, ht, go_sem, simprocAttr]; done) | (simp only [k3, ht, go_sem, simprocAttr]; rfl)), by (first | rfl | (simp only [k4, go_sem, simprocAttr]; done) | (simp only [k4, go_sem, simprocAttr]; rfl))⟩
 ·repeat' (first | (with_reducible refine sk ?_; intro K hK) | ((first | (with_reducible first | refine rgL [] [9, 26] (md := { base := 1700, own := [] }) (h := ?_) | refine rgL [5] [9, 26] (md := { base := 1700, own := [] }) (h := ?_) | refine nx ?_) | refine pK (l0) ?_ | refine pK (l1 _ (fun j q1 q2 q3 => by simp only [upd_ne _ _ q1, upd_ne _ _ q2, upd_ne _ _ q3]; exact hsame j q1 q2 q3)) ?_ | refine lK (l0) ?_ | refine lK (l1 _ (fun j q1 q2 q3 => by simp only [upd_ne _ _ q1, upd_ne _ _ q2, upd_ne _ _ q3]; exact hsame j q1 q2 q3)) ?_); try simp (disch := omega) only [k36, k3, k4, k5, k6, w5, ht, xf155,go_sem, simprocAttr]) | (with_reducible refine bk ?_) | ((with_reducible refine' cE ?hv ?_ ?_); (case hv => first | rfl | (simp only [k36, k3, k4, k5, k6, w5, ht, xf155,go_sem, simprocAttr]; rfl)); all_goals (intro hc; (try simp only [go_sem, simprocAttr] at hc); try (exfalso; omega))) | ((with_reducible first | refine grdS_split ?_ ?_ | refine lkG_split ?_ ?_) <;> intro hg <;> (try simp (disch := omega) only [hg, k36, k3, k4, k5, k6, w5, ht, xf155,go_sem, simprocAttr]) <;> (try simp only [go_sem, simprocAttr] at hg) <;> (try (exfalso; omega))) | with_reducible intro (ep : Nat → Nat) | with_reducible apply_assumption -exfalso -symm only [*])
  refine FnQ_end (Or.inr rfl) (.refl _) (by simp only [Try.f95, go_sem, simprocAttr]; rfl) ?_
  exact ⟨rfl, fun j q1 q2 q3 => by simp only [upd_ne _ _ q1, upd_ne _ _ q2, upd_ne _ _ q3]; exact hsame j q1 q2 q3, by (first | rfl | (simp only [k3, ht, go_sem, simprocAttr]; done) | (simp only [k3, ht, go_sem, simprocAttr]; rfl)), by (first | rfl | (simp only [k4, go_sem, simprocAttr]; done) | (simp only [k4, go_sem, simprocAttr]; rfl))⟩
 ·repeat' (first | (with_reducible refine sk ?_; intro K hK) | ((first | (with_reducible first | refine rgL [] [9, 26] (md := { base := 1700, own := [] }) (h := ?_) | refine rgL [5] [9, 26] (md := { base := 1700, own := [] }) (h := ?_) | refine nx ?_) | refine pK (l0) ?_ | refine pK (l1 _ (fun j q1 q2 q3 => by simp only [upd_ne _ _ q1, upd_ne _ _ q2, upd_ne _ _ q3]; exact hsame j q1 q2 q3)) ?_ | refine lK (l0) ?_ | refine lK (l1 _ (fun j q1 q2 q3 => by simp only [upd_ne _ _ q1, upd_ne _ _ q2, upd_ne _ _ q3]; exact hsame j q1 q2 q3)) ?_); try simp (disch := omega) only [k36, k3, k4, k5, k6, w5, ht, xf155,go_sem, simprocAttr]) | (with_reducible refine bk ?_) | ((with_reducible refine' cE ?hv ?_ ?_); (case hv => first | rfl | (simp only [k36, k3, k4, k5, k6, w5, ht, xf155,go_sem, simprocAttr]; rfl)); all_goals (intro hc; (try simp only [go_sem, simprocAttr] at hc); try (exfalso; omega))) | ((with_reducible first | refine grdS_split ?_ ?_ | refine lkG_split ?_ ?_) <;> intro hg <;> (try simp (disch := omega) only [hg, k36, k3, k4, k5, k6, w5, ht, xf155,go_sem, simprocAttr]) <;> (try simp only [go_sem, simprocAttr] at hg) <;> (try (exfalso; omega))) | with_reducible intro (ep : Nat → Nat) | with_reducible apply_assumption -exfalso -symm only [*])
  refine FnQ_end (Or.inr rfl) (.refl _) (by simp only [Try.f95, go_sem, simprocAttr]; rfl) ?_
  exact ⟨rfl, fun j q1 q2 q3 => by simp only [upd_ne _ _ q1, upd_ne _ _ q2, upd_ne _ _ q3]; exact hsame j q1 q2 q3, by (first | rfl | (simp only [k3, ht, go_sem, simprocAttr]; done) | (simp only [k3, ht, go_sem, simprocAttr]; rfl)), by (first | rfl | (simp only [k4, go_sem, simprocAttr]; done) | (simp only [k4, go_sem, simprocAttr]; rfl))⟩
end Cp
namespace Cp
open Go Go.Proofs
set_option maxRecDepth 10000
set_option maxHeartbeats 1000000
def getF (n : NetT) (hs : List HeadT) (L : List (List Int)) : LackT × Bool := L.foldl (getStep n hs) (⟨2, 0, []⟩, false)
def getsS (n : NetT) (hs : List HeadT) : LackT :=
 if (getF n hs (outsL n.pumps.length n.out.toNat)).2 = true ∧ (getF n hs (outsL n.pumps.length n.out.toNat)).1.known = 0 then { (getF n hs (outsL n.pumps.length n.out.toNat)).1 with known := 1 } else (getF n hs (outsL n.pumps.length n.out.toNat)).1
theorem getF_snoc {n : NetT} {hs : List HeadT} {L : List (List Int)} {k : Nat} {l : List Int} (h : L[k]? = some l) : getF n hs (L.take (k + 1)) = getStep n hs (getF n hs (L.take k)) l := by
 unfold getF; rw [take_snoc' h, List.foldl_append]; rfl
theorem getStep_kn {n : NetT} {hs : List HeadT} {s : LackT × Bool} {l : List Int} (h : s.1.known = 0 ∨ s.1.known = 2) : (getStep n hs s l).1.known = 0 ∨ (getStep n hs s l).1.known = 2 := by
 unfold getStep
 simp only
 split
 ·exact .inl rfl
 ·exact h
theorem getF_kn {n : NetT} {hs : List HeadT} : ∀ (k : Nat) (L : List (List Int)), (getF n hs (L.take k)).1.known = 0 ∨ (getF n hs (L.take k)).1.known = 2
 | 0, L => .inr rfl
 | k + 1, L => by
  cases h : L[k]? with
  | some l => rw [getF_snoc h]; exact getStep_kn (getF_kn k L)
  | none =>
   have hk : L.length ≤ k := List.getElem?_eq_none_iff.1 h
   have := getF_kn (n := n) (hs := hs) k L
   rw [List.take_of_length_le hk] at this
   rw [List.take_of_length_le (by omega)]
   exact this
theorem fzd_plant {n : NetT} {hs : List HeadT} {e36 e33 e34 k : Nat} {H : Hp} (h : H 436 = some (e36, .fro 10 [cPlant n hs e33 e34 k])) : fzd H 3 (.ptr 436 e36 10 0 0) = .pim ((cPlant n hs e33 e34 k).map (fzd H 2)) := by
 simp [fzd, h]
theorem take_plant {n : NetT} {hs : List HeadT} {e33 e34 k : Nat} {H : Hp} : ((cPlant n hs e33 e34 k).map (fzd H 2)).take 7 = cNet n := by
 simp [cPlant, cNet, fzd, cPipe, cHead, cPump, List.map_map, Function.comp_def]
theorem outs_call (n : NetT) (hF : NetF n) {hs : List HeadT} {e36 e33 e34 k : Nat} {H : Hp} (h : H 436 = some (e36, .fro 10 [cPlant n hs e33 e34 k])) :
  ACall Try.prog 94 [.ptr 436 e36 10 0 0] H fun v' H' => v' = outsF n.pumps.length n.out.toNat ∧ H' = H :=
 PureC.acall_fro 7 (by rw [take_plant]; exact outs_ok n hF) (fzd_plant h)
end Cp
namespace Cp
open Go
def badO (n : NetT) (hs : List HeadT) (o : List Int) : Bool := (lackS n hs o false).2
def goodO (n : NetT) (hs : List HeadT) (o : List Int) : Bool := !(lackS n hs o true).2
theorem getF_gen {n : NetT} {hs : List HeadT} : ∀ (L : List (List Int)) (s : LackT × Bool), (s.1.known = 0 ∨ s.1.known = 2) →
  L.foldl (getStep n hs) s = (if s.1.known = 2 then (match L.find? (badO n hs) with | none => s.1 | some o => ⟨0, (lackS n hs o false).1, o⟩) else s.1, s.2 || L.any (goodO n hs))
 | [], s, h => by rcases h with h | h <;> simp
 | o :: L, s, h => by
  rw [List.foldl_cons, getF_gen L _ (getStep_kn h)]
  have e2 : (getStep n hs s o).2 = (s.2 || goodO n hs o) := rfl
  have e1 : (getStep n hs s o).1 = if badO n hs o = true ∧ s.1.known = 2 then ⟨0, (lackS n hs o false).1, o⟩ else s.1 := rfl
  rw [e2, e1, List.any_cons, Bool.or_assoc, List.find?_cons]
  rcases h with h | h
  ·have : ¬ s.1.known = 2 := by omega
   simp only [this, and_false, if_false]
  ·cases hb : badO n hs o with
   | false => simp only [hb, Bool.false_eq_true, false_and, if_false, h, if_true]
   | true => simp [hb, h]
theorem getsS_eq (n : NetT) (hs : List HeadT) : getsS n hs = match (outsL n.pumps.length n.out.toNat).find? (badO n hs) with
  | none => ⟨2, 0, []⟩
  | some o => ⟨if (outsL n.pumps.length n.out.toNat).any (goodO n hs) = true then 1 else 0, (lackS n hs o false).1, o⟩ := by
 have h := getF_gen (n := n) (hs := hs) (outsL n.pumps.length n.out.toNat) (⟨2, 0, []⟩, false) (.inr rfl)
 have h' : getF n hs (outsL n.pumps.length n.out.toNat) = _ := h
 unfold getsS
 rw [h']
 cases hf : (outsL n.pumps.length n.out.toNat).find? (badO n hs) with
 | none => simp
 | some o =>
  cases hg : (outsL n.pumps.length n.out.toNat).any (goodO n hs) <;> simp
theorem mem_combos : ∀ {m : List Int} {k : Nat} {l : List Int}, l ∈ combos k m ↔ l.Sublist m ∧ l.length = k
 | [], 0, l => by
  simp only [combos, List.mem_singleton, List.sublist_nil]
  exact ⟨fun h => ⟨h, by rw [h]; rfl⟩, fun h => h.1⟩
 | [], k + 1, l => by
  simp only [combos, List.not_mem_nil, List.sublist_nil, false_iff, not_and]
  intro h; subst h; simp
 | x :: m, 0, l => by
  simp only [combos, List.mem_singleton, List.length_eq_zero_iff]
  exact ⟨fun h => ⟨by subst h; exact List.nil_sublist _, h⟩, fun h => h.2⟩
 | x :: m, k + 1, l => by
  simp only [combos, List.mem_append, List.mem_map]
  constructor
  ·rintro (⟨t, ht, rfl⟩ | h)
   ·obtain ⟨h1, h2⟩ := mem_combos.1 ht
    exact ⟨h1.cons_cons x, by simp [h2]⟩
   ·obtain ⟨h1, h2⟩ := mem_combos.1 h
    exact ⟨h1.cons x, h2⟩
  ·rintro ⟨h1, h2⟩
   cases h1 with
   | cons _ h => exact .inr (mem_combos.2 ⟨h, h2⟩)
   | cons_cons _ h => exact .inl ⟨_, mem_combos.2 ⟨h, by simpa using h2⟩, rfl⟩
theorem sub_of_pair : ∀ {m l : List Int}, m.Pairwise (· < ·) → l.Pairwise (· < ·) → (∀ a ∈ l, a ∈ m) → l.Sublist m
 | _, [], _, _, _ => List.nil_sublist _
 | [], a :: l, _, _, h => by have := h a (by simp); simp at this
 | x :: m, a :: l, hm, hl, h => by
  obtain ⟨hm1, hm2⟩ := List.pairwise_cons.1 hm
  obtain ⟨hl1, hl2⟩ := List.pairwise_cons.1 hl
  have key : ∀ b ∈ l, x < b → b ∈ m := fun b hb hxb => by
   rcases List.mem_cons.1 (h b (by simp [hb])) with rfl | h1
   ·omega
   ·exact h1
  rcases List.mem_cons.1 (h a (by simp)) with rfl | h1
  ·exact (sub_of_pair hm2 hl2 fun b hb => key b hb (hl1 b hb)).cons_cons _
  ·refine (sub_of_pair hm2 hl fun b hb => ?_).cons x
   rcases List.mem_cons.1 hb with rfl | hb
   ·exact h1
   ·exact key b hb (Int.lt_trans (hm1 _ h1) (hl1 b hb))
theorem range_pair (np : Nat) : ((List.range np).map Int.ofNat).Pairwise (· < ·) := by
 rw [List.pairwise_map]
 exact List.pairwise_lt_range.imp fun h => by simpa using h
theorem mem_rangeI {np : Nat} {a : Int} : a ∈ (List.range np).map Int.ofNat ↔ 0 ≤ a ∧ a < np := by
 simp only [List.mem_map, List.mem_range]
 constructor
 ·rintro ⟨i, hi, rfl⟩; simp; omega
 ·rintro ⟨h1, h2⟩; exact ⟨a.toNat, by omega, by simp; omega⟩
theorem mem_outsL {np o : Nat} {l : List Int} : l ∈ outsL np o ↔ (∀ a ∈ l, 0 ≤ a ∧ a < np) ∧ l.Pairwise (· < ·) ∧ l.length ≤ o := by
 simp only [outsL, List.mem_flatMap, List.mem_range, mem_combos]
 constructor
 ·rintro ⟨k, hk, h1, h2⟩
  exact ⟨fun a ha => mem_rangeI.1 (h1.subset ha), (range_pair np).sublist h1, by omega⟩
 ·rintro ⟨h1, h2, h3⟩
  exact ⟨l.length, by omega, sub_of_pair (range_pair np) h2 fun a ha => mem_rangeI.2 (h1 a ha), rfl⟩
theorem mem_outs {n : NetT} (h0 : 0 ≤ n.out) {l : List Int} : l ∈ outsL n.pumps.length n.out.toNat ↔ outOK n l = true := by
 rw [mem_outsL]
 constructor
 ·rintro ⟨h1, h2, h3⟩
  unfold outOK
  rw [Bool.and_eq_true]
  exact ⟨okL_of (fun a ha => by simpa [isPump] using h1 a ha) h2 (fun c hc => by cases hc), by simp; omega⟩
 ·intro h
  obtain ⟨h1, h2, h3⟩ := out_facts h
  exact ⟨h1, h2, by omega⟩
def lexB : List Int → List Int → Prop
 | a :: l, b :: m => a < b ∨ (a = b ∧ lexB l m)
 | _, _ => False
def befO (a b : List Int) : Prop := a.length < b.length ∨ (a.length = b.length ∧ lexB a b)
theorem combos_pair : ∀ {m : List Int} {k : Nat}, m.Pairwise (· < ·) → (combos k m).Pairwise lexB
 | m, 0, _ => by unfold combos; simp
 | [], k + 1, _ => by simp [combos]
 | x :: m, k + 1, h => by
  obtain ⟨h1, h2⟩ := List.pairwise_cons.1 h
  simp only [combos]
  rw [List.pairwise_append]
  refine ⟨?_, combos_pair h2, ?_⟩
  ·rw [List.pairwise_map]
   exact (combos_pair h2).imp fun h => .inr ⟨rfl, h⟩
  ·intro a ha b hb
   rw [List.mem_map] at ha
   obtain ⟨t, ht, rfl⟩ := ha
   obtain ⟨q1, q2⟩ := mem_combos.1 hb
   cases b with
   | nil => simp at q2
   | cons y b => exact .inl (h1 y (q1.subset (by simp)))
theorem outsL_pair (np o : Nat) : (outsL np o).Pairwise befO := by
 unfold outsL
 rw [List.pairwise_flatMap]
 refine ⟨fun k hk => ?_, ?_⟩
 ·have hl : ∀ a ∈ combos k ((List.range np).map Int.ofNat), a.length = k := fun a ha => (mem_combos.1 ha).2
  exact (combos_pair (range_pair np)).imp_of_mem fun ha hb h => .inr ⟨by rw [hl _ ha, hl _ hb], h⟩
 ·refine List.pairwise_lt_range.imp fun {i j} hij a ha b hb => .inl ?_
  rw [(mem_combos.1 ha).2, (mem_combos.1 hb).2]; exact hij
theorem find_first {α : Type} {R : α → α → Prop} {p : α → Bool} : ∀ {l : List α} {x : α}, l.Pairwise R → l.find? p = some x → x ∈ l ∧ p x = true ∧ ∀ y ∈ l, p y = true → y = x ∨ R x y
 | [], x, _, h => by simp at h
 | a :: l, x, hp, h => by
  obtain ⟨h1, h2⟩ := List.pairwise_cons.1 hp
  rw [List.find?_cons] at h
  split at h
  ·rename_i hpa
   cases h
   refine ⟨by simp, hpa, fun y hy hpy => ?_⟩
   rcases List.mem_cons.1 hy with rfl | hy
   ·exact .inl rfl
   ·exact .inr (h1 y hy)
  ·rename_i hpa
   obtain ⟨q1, q2, q3⟩ := find_first h2 h
   refine ⟨by simp [q1], q2, fun y hy hpy => ?_⟩
   rcases List.mem_cons.1 hy with rfl | hy
   ·rw [hpa] at hpy; cases hpy
   ·exact q3 y hy hpy
structure GetF (n : NetT) (hs : List HeadT) (t : LackT) : Prop where
 kn : t.known = 0 ∨ t.known = 1 ∨ t.known = 2
 yes : t.known = 2 → t.head = 0 ∧ t.out = [] ∧ ∀ o, outOK n o = true → badO n hs o = false
 bad : ¬ t.known = 2 → outOK n t.out = true ∧ badO n hs t.out = true ∧ t.head = (lackS n hs t.out false).1 ∧ ∀ o, outOK n o = true → badO n hs o = true → o = t.out ∨ befO t.out o
 no : t.known = 0 → ∀ o, outOK n o = true → goodO n hs o = false
 op : t.known = 1 → ∃ o, outOK n o = true ∧ goodO n hs o = true
theorem gets_facts {n : NetT} (h0 : 0 ≤ n.out) (hs : List HeadT) : GetF n hs (getsS n hs) := by
 rw [getsS_eq]
 have hm := fun l => @mem_outs n h0 l
 obtain ⟨L, hL⟩ : ∃ L, outsL n.pumps.length n.out.toNat = L := ⟨_, rfl⟩
 have hp : L.Pairwise befO := hL ▸ outsL_pair _ _
 rw [hL] at hm ⊢
 cases hf : L.find? (badO n hs) with
 | none =>
  refine ⟨.inr (.inr rfl), fun _ => ⟨rfl, rfl, fun o ho => ?_⟩, fun h => (h rfl).elim, fun h => (by cases h), fun h => (by cases h)⟩
  have := List.find?_eq_none.1 hf o ((hm o).2 ho)
  simpa using this
 | some o =>
  obtain ⟨q1, q2, q3⟩ := find_first hp hf
  simp only
  cases hg : L.any (goodO n hs) with
  | true =>
   simp only [if_true]
   refine ⟨.inr (.inl rfl), fun h => (by cases h), fun _ => ⟨(hm o).1 q1, q2, rfl, fun o' h1 h2 => q3 o' ((hm o').2 h1) h2⟩, fun h => (by cases h), fun _ => ?_⟩
   obtain ⟨x, hx, hx2⟩ := List.any_eq_true.1 hg
   exact ⟨x, (hm x).1 hx, hx2⟩
  | false =>
   simp only [Bool.false_eq_true, if_false]
   refine ⟨.inl rfl, fun h => (by cases h), fun _ => ⟨(hm o).1 q1, q2, rfl, fun o' h1 h2 => q3 o' ((hm o').2 h1) h2⟩, fun _ o' h1 => ?_, fun h => (by cases h)⟩
   have := List.any_eq_false.1 hg o' ((hm o').2 h1)
   simpa using this
end Cp
namespace Cp
open Go Go.Proofs
set_option maxRecDepth 10000
set_option maxHeartbeats 4000000
end Cp
namespace Cp
open Go
theorem openH_get {hs : List HeadT} {l : List Int} (hal : ∀ a ∈ l, (headAt hs a).isSome = true) {k : Nat} {a : Int} {x : HeadT} (ha : l[k]? = some a) (hx : headAt hs a = some x) : (openH hs l)[k]? = some x := by
 have h1 := openH_snoc ha hx
 have h2 : (openH hs (l.take k)).length = k := by
  rw [openH_len' fun b hb => hal b (List.mem_of_mem_take hb)]
  have := (List.getElem?_eq_some_iff.1 ha).1
  simp; omega
 have h3 : openH hs l = openH hs (l.take (k + 1)) ++ openH hs (l.drop (k + 1)) := by unfold openH; rw [← List.filterMap_append, List.take_append_drop]
 rw [h3, h1, List.append_assoc, List.getElem?_append_right (by omega), h2]
 simp
end Cp
namespace Cp
open Go Go.Proofs
set_option maxRecDepth 10000
set_option maxHeartbeats 4000000
end Cp
namespace Cp
open Go
theorem ACall.imp {P : Program} {fid : FuncId} {args : List Val} {H : Hp} {R R' : Val → Hp → Prop} (h : ACall P fid args H R) (hR : ∀ v H', R v H' → R' v H') : ACall P fid args H R' :=
 ⟨h.1, fun G w xs hr hv => Calls.mono (h.2 G w xs hr hv) (by rintro e w' ⟨v, x, G', H', h1, h2, h3, h4, h5, h6⟩; exact ⟨v, x, G', H', h1, h2, h3, h4, h5, hR _ _ h6⟩)⟩
theorem ACall.weak {P : Program} {fid : FuncId} {args : List Val} {H : Hp} {a b : Val} {R : Hp → Prop} (h : ACall P fid args H fun v H' => v = a ∧ R H') (hw : ∀ G w x, VR G w a x → VR G w b x) : ACall P fid args H fun v H' => v = b ∧ R H' :=
 ⟨h.1, fun G w xs hr hv => Calls.mono (h.2 G w xs hr hv) (by rintro e w' ⟨v, x, G', H', h1, h2, h3, h4, h5, rfl, h6⟩; exact ⟨b, x, G', H', h1, h2, h3, h4, hw _ _ _ h5, rfl, h6⟩)⟩
theorem VR.tup_imp {G : Gh} {w : World} {vs vs' : List Val} {x : Value} (hl : vs.length = vs'.length) (hi : ∀ (i : Nat) (v v' : Val), vs[i]? = some v → vs'[i]? = some v' → ∀ y, VR G w v y → VR G w v' y) (h : VR G w (.tup vs) x) : VR G w (.tup vs') x := by
 cases h with
 | tup _ xs hs hv =>
  refine .tup _ xs (by omega) (fun i v' hi' => ?_)
  have hlt := (List.getElem?_eq_some_iff.1 hi').1
  have h1 : vs[i]? = some vs[i] := List.getElem?_eq_getElem (by omega)
  exact hi i _ _ h1 hi' _ (hv i _ h1)
theorem VR.agg3_nils {G : Gh} {w : World} {a b : Val} {n : Nat} {x : Value} (h : VR G w (.agg [a, b, .nils]) x) : VR G w (.agg [a, b, .lst n []]) x := by
 cases h with
 | agg _ xs hs hc hv =>
  refine .agg _ xs (by simpa using hs) (fun i v hi => ?_) (fun i v hi => ?_)
  ·match i, hi with
   | 0, hi => exact hc 0 v hi
   | 1, hi => exact hc 1 v hi
   | 2, hi => cases hi; rfl
  ·match i, hi with
   | 0, hi => exact hv 0 v hi
   | 1, hi => exact hv 1 v hi
   | 2, hi => cases hi; exact (hv 2 .nils rfl).nils_lst _
end Cp
namespace Cp
open Go Go.Proofs
set_option maxRecDepth 10000
set_option maxHeartbeats 1000000
def GJ (Hz : Hp) (n : NetT) (hs : List HeadT) (e36 e33 e34 e2 e3 e4 e5 ey : Nat) (L0 : AObj) (k : Nat) (H : Hp) : Prop :=
 (∀ j, j < 100 → H j = Hz j) ∧ H 436 = some (e36, .fro 10 [cPlant n hs e33 e34 (n.pipes.length + 1)]) ∧ H 433 = some (e33, .arr 1 (ints (flowL n.pipes (n.pipes.length + 1) hs))) ∧ (∃ ver, H 434 = some (e34, .map ver [])) ∧
 H 602 = some (e2, .arr 3 [[.int .u8 0, .int .i64 0, .nils]]) ∧ H 603 = some (e3, .arr 3 [cTold (getF n hs ((outsL n.pumps.length n.out.toNat).take k)).1]) ∧ H 604 = some (e4, .arr 1 [[.bool (getF n hs ((outsL n.pumps.length n.out.toNat).take k)).2]]) ∧
 H 605 = some (e5, .arr 4 [[.fn (sgF false) [], .fn (sgF true) [], .fn (sgF true) [], .fn (sgF false) []]]) ∧ H 100 = some (ey, L0) ∧ (H 1208 = none ∧ H 1604 = none ∧ H 1605 = none ∧ H 1607 = none)
theorem outsL_len {np o : Nat} (hn : np ≤ 4) (ho : o ≤ 3) : (outsL np o).length ≤ 100000 := by
 have h : ∀ np, np < 5 → ∀ o, o < 4 → (outsL np o).length ≤ 100000 := by decide +kernel
 exact h np (by omega) o (by omega)
theorem gets_ok (n : NetT) (hF : NetF n) (hs : List HeadT) (h5 : heads500 hs) (hsl : hs.length ≤ 12) (hnd : ∀ h ∈ hs, 1 ≤ h.node ∧ h.node ≤ n.pipes.length) (e36 e33 e34 ver : Nat) (H0 : Hp)
  (g36 : H0 436 = some (e36, .fro 10 [cPlant n hs e33 e34 (n.pipes.length + 1)])) (g33 : H0 433 = some (e33, .arr 1 (ints (flowL n.pipes (n.pipes.length + 1) hs)))) (g34 : H0 434 = some (e34, .map ver []))
  (hroom : ∀ j, 600 ≤ j → H0 j = none) (h100 : H0 100 = none) :
  ACall Try.prog 69 [.ptr 436 e36 10 0 0] H0 fun v H' => v = .agg (cTold (getsS n hs)) ∧ ∀ j, j < 100 → H' j = H0 j := by
 refine ACall_ofR (fn := Try.f69) tabOK (by kernel_rfl) rfl (by kernel_rfl) (by simp [Try.f69]) ?_
 intro X hX0 hXs hXr
 have q1 := hroom 601 (by decide)
 have q2 := hroom 602 (by decide)
 have q3 := hroom 603 (by decide)
 have q4 := hroom 604 (by decide)
 have q5 := hroom 605 (by decide)
 have oc := fun H h => outs_call n hF (hs := hs) (e36 := e36) (e33 := e33) (e34 := e34) (k := n.pipes.length + 1) (H := H) h
 repeat' (first | (with_reducible refine sk ?_; intro K hK) | ((first | (with_reducible first | refine rg (md := { base := 600, own := [3, 4, 5, 6], imp := [10] }) (h := ?_) | refine rgS [2, 3, 4, 5, 6] (md := { base := 600, own := [3, 4, 5, 6], imp := [10] }) (h := ?_) | refine nx ?_) | refine pK (ends_ok) ?_); try simp (disch := omega) only [g36, q1, q2, q3, q4, q5,go_sem, simprocAttr]) | (with_reducible refine bk ?_) | ((with_reducible refine' cE ?hv ?_ ?_); (case hv => first | rfl | (simp only [g36, q1, q2, q3, q4, q5,go_sem, simprocAttr]; rfl)); all_goals (intro hc; (try simp only [go_sem, simprocAttr] at hc); try (exfalso; omega))) | ((with_reducible first | refine grdS_split ?_ ?_ | refine lkG_split ?_ ?_) <;> intro hg <;> (try simp (disch := omega) only [hg, g36, q1, q2, q3, q4, q5,go_sem, simprocAttr]) <;> (try simp only [go_sem, simprocAttr] at hg) <;> (try (exfalso; omega))) | (first | refine iK (ends_ok) ?_) | with_reducible intro (ep : Nat → Nat) | with_reducible apply_assumption -exfalso -symm only [*])
 refine iK (oc _ (by (first | rfl | (simp only [g36, go_sem, simprocAttr]; done) | (simp only [g36, go_sem, simprocAttr]; rfl)))) ?_
 rintro v H3 ⟨rfl, rfl⟩
 simp only [go_sem, simprocAttr]
 repeat' (first | (with_reducible refine sk ?_; intro K hK) | ((with_reducible first | refine rg (md := { base := 600, own := [3, 4, 5, 6], imp := [10] }) (h := ?_) | refine rgS [2, 3, 4, 5, 6] (md := { base := 600, own := [3, 4, 5, 6], imp := [10] }) (h := ?_) | refine nx ?_); try simp (disch := omega) only [go_sem, simprocAttr]) | (with_reducible refine bk ?_) | ((with_reducible refine' cE ?hv ?_ ?_); (case hv => first | rfl | (simp only [go_sem, simprocAttr]; rfl)); all_goals (intro hc; (try simp only [go_sem, simprocAttr] at hc); try (exfalso; omega))) | ((with_reducible first | refine grdS_split ?_ ?_ | refine lkG_split ?_ ?_) <;> intro hg <;> (try simp (disch := omega) only [hg, go_sem, simprocAttr]) <;> (try simp only [go_sem, simprocAttr] at hg) <;> (try (exfalso; omega))) | with_reducible intro (ep : Nat → Nat) | with_reducible apply_assumption -exfalso -symm only [*])
 refine AW_block ?_
 refine AW_rangeFunc 100 (by simp only [go_sem, simprocAttr, outsF]; rfl) hXr fun ey => ?_
 generalize hf0 : (upd _ _ _ : Fr) = f0
 generalize hH : (upd (upd (upd (upd (upd (upd (upd H0 _ _) _ _) _ _) _ _) _ _) _ _) _ _ : Hp) = HH
 obtain ⟨e2, e3, e4, e5, k1, k2, k3, k4, k5, G2, G3, G4, G5, Gs⟩ : ∃ e2 e3 e4 e5, f0 1 = .pim [.ptr 436 e36 10 0 0] ∧ f0 2 = .ptr 602 e2 3 0 0 ∧ f0 3 = .ptr 603 e3 3 0 0 ∧ f0 4 = .ptr 604 e4 1 0 0 ∧ f0 5 = .ptr 605 e5 4 0 0 ∧
   HH 602 = some (e2, .arr 3 [[.int .u8 0, .int .i64 0, .nils]]) ∧ HH 603 = some (e3, .arr 3 [[.int .u8 2, .int .i64 0, .nils]]) ∧ HH 604 = some (e4, .arr 1 [[.bool false]]) ∧ HH 605 = some (e5, .arr 4 [[.fn (sgF false) [], .fn (sgF true) [], .fn (sgF true) [], .fn (sgF false) []]]) ∧ ∀ j, ¬ j = 602 → ¬ j = 603 → ¬ j = 604 → ¬ j = 605 → HH j = H0 j := by
  refine ⟨_, _, _, _, by rw [← hf0]; rfl, by rw [← hf0]; rfl, by rw [← hf0]; rfl, by rw [← hf0]; rfl, by rw [← hf0]; rfl, by rw [← hH]; rfl, by rw [← hH]; rfl, by rw [← hH]; rfl, by rw [← hH]; rfl, fun j h1 h2 h3 h4 => ?_⟩
  rw [← hH, upd_ne _ _ h4, upd_ne _ _ h4, upd_ne _ _ h3, upd_ne _ _ h3, upd_ne _ _ h2, upd_ne _ _ h2, upd_ne _ _ h1]
 have G36 := (Gs 436 (by decide) (by decide) (by decide) (by decide)).trans g36
 have G33 := (Gs 433 (by decide) (by decide) (by decide) (by decide)).trans g33
 have G34 := (Gs 434 (by decide) (by decide) (by decide) (by decide)).trans g34
 have Gr : ∀ j, 606 ≤ j → HH j = none := fun j hj => (Gs j (by omega) (by omega) (by omega) (by omega)).trans (hroom j (by omega))
 have Gl : ∀ j, j < 100 → HH j = H0 j := fun j hj => Gs j (by omega) (by omega) (by omega) (by omega)
 have hXs0 : X.sz = 24 := hXs
 clear hf0 hH hXs Gs g36 g33 g34 hroom q1 q2 q3 q4 q5 oc h100
 generalize hL : AObj.loop _ _ _ _ _ _ = L0
 have hll := @outsL_len n.pumps.length n.out.toNat hF.pumps.2 (by have := hF.out.2; have := hF.pumps.2; omega)
 have hmo := fun l => @mem_outs n hF.out.1 l
 refine ⟨fun v H' => GJ H0 n hs e36 e33 e34 e2 e3 e4 e5 ey L0 (outsL n.pumps.length n.out.toNat).length H', values1_ok _ hll _ 100 ey (GJ H0 n hs e36 e33 e34 e2 e3 e4 e5 ey L0) ?_ ?_, ?_⟩
 ·have h0 : getF n hs ((outsL n.pumps.length n.out.toNat).take 0) = (⟨2, 0, []⟩, false) := rfl
  unfold GJ
  rw [h0]
  exact ⟨fun j hj => by rw [upd_ne _ _ (by omega), Gl j hj], by rw [upd_ne _ _ (by decide), G36], by rw [upd_ne _ _ (by decide), G33], ⟨_, by rw [upd_ne _ _ (by decide), G34]⟩, by rw [upd_ne _ _ (by decide), G2], by rw [upd_ne _ _ (by decide), G3]; rfl, by rw [upd_ne _ _ (by decide), G4], by rw [upd_ne _ _ (by decide), G5], upd_same _ _ _,
   by rw [upd_ne _ _ (by decide), Gr _ (by decide)], by rw [upd_ne _ _ (by decide), Gr _ (by decide)], by rw [upd_ne _ _ (by decide), Gr _ (by decide)], by rw [upd_ne _ _ (by decide), Gr _ (by decide)]⟩
 ·clear G36 G33 G34 G2 G3 G4 G5 Gr
  rintro k l Hs hk ⟨jl, j36, j33, ⟨ver', j34⟩, j2, j3, j4, j5, j100, jr0, jr1, jr2, jr3⟩
  have hol := (hmo l).1 (List.mem_of_getElem? hk)
  have hkn := @getF_kn n hs k (outsL n.pumps.length n.out.toNat)
  have hsn := @getF_snoc n hs _ _ _ hk
  generalize getF n hs ((outsL n.pumps.length n.out.toNat).take k) = s at *
  obtain ⟨t, g⟩ := s
  simp only at hkn j3 j4
  subst hL
  refine ⟨_, _, _, _, _, j100, rfl, fun t ht => ?_, fun X1 b h10 h1s h1r => ?_⟩
  ·rw [frL_len, hXs0]
   have ht' : t = 11 := by simpa using ht
   subst ht'; decide
  have hXs : X1.sz = 24 := by rw [h1s, frL_len, hXs0]
  show AW _ _ _ _ _ (upd (frOf (frL f0 X.sz)) 11 (.lst 1 (ints l))) Hs
  have k1' : frOf (frL f0 X.sz) 1 = .pim [.ptr 436 e36 10 0 0] := by rw [frOf_frL, hXs0, if_pos (by decide), k1]
  have k3' : frOf (frL f0 X.sz) 3 = .ptr 603 e3 3 0 0 := by rw [frOf_frL, hXs0, if_pos (by decide), k3]
  have k4' : frOf (frL f0 X.sz) 4 = .ptr 604 e4 1 0 0 := by rw [frOf_frL, hXs0, if_pos (by decide), k4]
  have k5' : frOf (frL f0 X.sz) 5 = .ptr 605 e5 4 0 0 := by rw [frOf_frL, hXs0, if_pos (by decide), k5]
  generalize frOf (frL f0 X.sz) = f1 at k1' k3' k4' k5'
  refine AW_lose 606 fun H1 w6 hs1 => ?_
  repeat' (first | (with_reducible refine sk ?_; intro K hK) | ((with_reducible first | refine rg (md := { base := 600, own := [3, 4, 5, 6], imp := [10] }) (h := ?_) | refine rgS [2, 3, 4, 5, 6] (md := { base := 600, own := [3, 4, 5, 6], imp := [10] }) (h := ?_) | refine nx ?_); try simp (disch := omega) only [k1', k3', k4', k5', w6,go_sem, simprocAttr]) | (with_reducible refine bk ?_) | ((with_reducible refine' cE ?hv ?_ ?_); (case hv => first | rfl | (simp only [k1', k3', k4', k5', w6,go_sem, simprocAttr]; rfl)); all_goals (intro hc; (try simp only [go_sem, simprocAttr] at hc); try (exfalso; omega))) | ((with_reducible first | refine grdS_split ?_ ?_ | refine lkG_split ?_ ?_) <;> intro hg <;> (try simp (disch := omega) only [hg, k1', k3', k4', k5', w6,go_sem, simprocAttr]) <;> (try simp only [go_sem, simprocAttr] at hg) <;> (try (exfalso; omega))) | with_reducible intro (ep : Nat → Nat) | with_reducible apply_assumption -exfalso -symm only [*])
  refine ⟨rfl, _, _, _, _, _, by rw [upd_ne _ _ (by decide), upd_ne _ _ (by decide), hs1 _ (by decide), j100], ?_⟩
  generalize hHs : (upd (upd (upd H1 _ _) _ _) 100 _ : Hp) = HB
  generalize hfB : (upd _ _ _ : Fr) = fB
  obtain ⟨e6, b1, b3, b4, b5, b6, B6, B100, Bs⟩ : ∃ e6, fB 1 = .pim [.ptr 436 e36 10 0 0] ∧ fB 3 = .ptr 603 e3 3 0 0 ∧ fB 4 = .ptr 604 e4 1 0 0 ∧ fB 5 = .ptr 605 e5 4 0 0 ∧ fB 6 = .ptr 606 e6 1 0 0 ∧ HB 606 = some (e6, .arr 1 [[.lst 1 (ints l)]]) ∧ HB 100 = _ ∧ ∀ j, ¬ j = 606 → ¬ j = 100 → HB j = Hs j := by
   refine ⟨_, by rw [← hfB]; simp only [k1', go_sem, simprocAttr], by rw [← hfB]; simp only [k3', go_sem, simprocAttr], by rw [← hfB]; simp only [k4', go_sem, simprocAttr], by rw [← hfB]; simp only [k5', go_sem, simprocAttr], by rw [← hfB]; rfl, by rw [← hHs]; rfl, by rw [← hHs, upd_same], fun j h1 h2 => ?_⟩
   rw [← hHs, upd_ne _ _ h2, upd_ne _ _ h1, upd_ne _ _ h1, hs1 _ h1]
  clear hHs hfB hs1 k1' k3' k4' k5' w6
  have B36 := (Bs 436 (by decide) (by decide)).trans j36
  have B34 := (Bs 434 (by decide) (by decide)).trans j34
  have hst : ∀ (ver' : Nat) (H : Hp), (∀ j, ¬ j = 434 → H j = HB j) → H 434 = some (e34, .map ver' (imap .i64 (offM l))) →
    ACall Try.prog 95 [.pim [.ptr 436 e36 10 0 0], .ptr 605 e5 4 0 0, .ptr 603 e3 3 0 0, .ptr 606 e6 1 0 0, .ptr 604 e4 1 0 0] H fun v H' => v = .tup [] ∧ H' 436 = H 436 ∧ (∃ ver2, H' 434 = some (e34, .map ver2 (imap .i64 (offM l)))) ∧
     ((∀ j, ¬ j = 434 → ¬ j = 603 → ¬ j = 604 → ¬ j = 1705 → H' j = HB j) ∧ H' 603 = some (e3, .arr 3 [cTold (getStep n hs (t, g) l).1]) ∧ H' 604 = some (e4, .arr 1 [[.bool (getStep n hs (t, g) l).2]])) := fun ver' H hH h34 => by
   have hc : ∀ j, ¬ j = 434 → ¬ j = 606 → ¬ j = 100 → H j = Hs j := fun j h1 h2 h3 => (hH j h1).trans (Bs j h2 h3)
   refine (gets1_ok n hF hs h5 hsl hnd l hol e36 e33 e34 ver' e3 e4 e5 e6 t hkn g H ((hc _ (by decide) (by decide) (by decide)).trans j36) ((hc _ (by decide) (by decide) (by decide)).trans j33) h34 ((hc _ (by decide) (by decide) (by decide)).trans j3) ((hc _ (by decide) (by decide) (by decide)).trans j4) ((hc _ (by decide) (by decide) (by decide)).trans j5) ((hH _ (by decide)).trans B6)
    ⟨(hc _ (by decide) (by decide) (by decide)).trans jr0, (hc _ (by decide) (by decide) (by decide)).trans jr1, (hc _ (by decide) (by decide) (by decide)).trans jr2, (hc _ (by decide) (by decide) (by decide)).trans jr3⟩).imp ?_
   rintro v H' ⟨hv, hlow, h3, h4⟩
   exact ⟨hv, hlow _ (by decide) (by decide) (by decide), ⟨ver', (hlow _ (by decide) (by decide) (by decide)).trans h34⟩, fun j a1 a2 a3 a4 => (hlow j a2 a3 a4).trans (hH j a1), h3, h4⟩
  have hlo : l.length ≤ 100000 := by
   have h1 := (out_facts hol).2.2
   have h2 := hF.out.2
   have h3 := hF.pumps.2
   omega
  repeat' (first | (with_reducible refine sk ?_; intro K hK) | ((with_reducible first | refine rg (md := { base := 600, own := [], imp := [15] }) (h := ?_) | refine rgS [2, 3, 4, 5, 6] (md := { base := 600, own := [], imp := [15] }) (h := ?_) | refine nx ?_); try simp (disch := omega) only [b1, b3, b4, b5, b6, B36, B6,go_sem, simprocAttr]) | (with_reducible refine bk ?_) | ((with_reducible refine' cE ?hv ?_ ?_); (case hv => first | rfl | (simp only [b1, b3, b4, b5, b6, B36, B6,go_sem, simprocAttr]; rfl)); all_goals (intro hc; (try simp only [go_sem, simprocAttr] at hc); try (exfalso; omega))) | ((with_reducible first | refine grdS_split ?_ ?_ | refine lkG_split ?_ ?_) <;> intro hg <;> (try simp (disch := omega) only [hg, b1, b3, b4, b5, b6, B36, B6,go_sem, simprocAttr]) <;> (try simp only [go_sem, simprocAttr] at hg) <;> (try (exfalso; omega))) | with_reducible intro (ep : Nat → Nat) | with_reducible apply_assumption -exfalso -symm only [*])
  refine iK (without_fro n hs e36 e33 e34 ver' l hlo (out_facts hol).2.1 _ _ HB (by (first | rfl | (simp only [B36, go_sem, simprocAttr]; done) | (simp only [B36, go_sem, simprocAttr]; rfl))) (by (first | rfl | (simp only [B34, go_sem, simprocAttr]; done) | (simp only [B34, go_sem, simprocAttr]; rfl))) _ hst) ?_
  rintro v H3 ⟨rfl, H2, ver2, ⟨hlow, r3, r4⟩, hsame, hm⟩
  have hc : ∀ j, ¬ j = 434 → ¬ j = 603 → ¬ j = 604 → ¬ j = 1705 → H3 j = HB j := fun j h1 h2 h3 h4 => (hsame j h1).trans (hlow j h1 h2 h3 h4)
  have hd : ∀ j, ¬ j = 434 → ¬ j = 603 → ¬ j = 604 → ¬ j = 1705 → ¬ j = 606 → ¬ j = 100 → H3 j = Hs j := fun j h1 h2 h3 h4 h5 h6 => (hc j h1 h2 h3 h4).trans (Bs j h5 h6)
  have C100 := (hc 100 (by decide) (by decide) (by decide) (by decide)).trans B100
  have C3 := (hsame 603 (by decide)).trans r3
  have C4 := (hsame 604 (by decide)).trans r4
  rw [← hsn] at C3 C4
  refine ⟨_, _, _, _, _, _, C100, ?_⟩
  refine ⟨rfl, ?_⟩
  have z : ∀ {o : Option (Nat × AObj)} (j : Nat), ¬ j = 434 → ¬ j = 603 → ¬ j = 604 → ¬ j = 1705 → ¬ j = 606 → ¬ j = 100 → upd H3 100 o j = Hs j := fun j h1 h2 h3 h4 h5 h6 => by rw [upd_ne _ _ h6]; exact hd j h1 h2 h3 h4 h5 h6
  exact ⟨fun j hj => (z j (by omega) (by omega) (by omega) (by omega) (by omega) (by omega)).trans (jl j hj), (z 436 (by decide) (by decide) (by decide) (by decide) (by decide) (by decide)).trans j36, (z 433 (by decide) (by decide) (by decide) (by decide) (by decide) (by decide)).trans j33, ⟨ver2, by rw [upd_ne _ _ (by decide)]; exact hm⟩, (z 602 (by decide) (by decide) (by decide) (by decide) (by decide) (by decide)).trans j2, by rw [upd_ne _ _ (by decide)]; exact C3, by rw [upd_ne _ _ (by decide)]; exact C4,
   (z 605 (by decide) (by decide) (by decide) (by decide) (by decide) (by decide)).trans j5, upd_same _ _ _, (z 1208 (by decide) (by decide) (by decide) (by decide) (by decide) (by decide)).trans jr0, (z 1604 (by decide) (by decide) (by decide) (by decide) (by decide) (by decide)).trans jr1,
   (z 1605 (by decide) (by decide) (by decide) (by decide) (by decide) (by decide)).trans jr2, (z 1607 (by decide) (by decide) (by decide) (by decide) (by decide) (by decide)).trans jr3⟩
 ·clear G36 G33 G34 G2 G3 G4 G5 Gr
  rintro v Hs ⟨jl, j36, j33, ⟨ver', j34⟩, j2, j3, j4, j5, j100, jr0, jr1, jr2, jr3⟩
  rw [List.take_of_length_le (Nat.le_refl _)] at j3 j4
  subst hL
  refine ⟨_, _, _, _, _, _, j100, by simp, ?_⟩
  have hkn := @getF_kn n hs (outsL n.pumps.length n.out.toNat).length (outsL n.pumps.length n.out.toNat)
  rw [List.take_of_length_le (Nat.le_refl _)] at hkn
  obtain ⟨G, hG⟩ : ∃ G, getsS n hs = G := ⟨_, rfl⟩
  have hgs := hG
  unfold getsS at hgs
  generalize getF n hs (outsL n.pumps.length n.out.toNat) = s at *
  obtain ⟨⟨kn, hd, ol⟩, g⟩ := s
  have yl : ∀ j, j < 100 → upd Hs 100 none j = H0 j := fun j hj => by rw [upd_ne _ _ (by omega), jl j hj]
  have y2 : upd Hs 100 none 602 = _ := (upd_ne _ _ (by decide)).trans j2
  have y3 : upd Hs 100 none 603 = _ := (upd_ne _ _ (by decide)).trans j3
  have y4 : upd Hs 100 none 604 = _ := (upd_ne _ _ (by decide)).trans j4
  generalize upd Hs 100 none = H2 at y2 y3 y4 yl
  clear j36 j33 j34 j2 j3 j4 j5 j100 jr0 jr1 jr2 jr3 hmo hll
  simp only at hkn
  rcases hkn with rfl | rfl <;> cases g
  ·simp only [cTold] at y3
   simp only [Bool.false_eq_true, false_and, and_self, if_true, if_false, Int.reduceEq, true_and] at hgs
   repeat' (first | (with_reducible refine sk ?_; intro K hK) | ((with_reducible first | refine rg (md := { base := 600, own := [], imp := [] }) (h := ?_) | refine rgS [2, 3, 4, 5, 6] (md := { base := 600, own := [], imp := [] }) (h := ?_) | refine nx ?_); try simp (disch := omega) only [k1, k2, k3, k4, y2, y3, y4,go_sem, simprocAttr]) | (with_reducible refine bk ?_) | ((with_reducible refine' cE ?hv ?_ ?_); (case hv => first | rfl | (simp only [k1, k2, k3, k4, y2, y3, y4,go_sem, simprocAttr]; rfl)); all_goals (intro hc; (try simp only [go_sem, simprocAttr] at hc); try (exfalso; omega))) | ((with_reducible first | refine grdS_split ?_ ?_ | refine lkG_split ?_ ?_) <;> intro hg <;> (try simp (disch := omega) only [hg, k1, k2, k3, k4, y2, y3, y4,go_sem, simprocAttr]) <;> (try simp only [go_sem, simprocAttr] at hg) <;> (try (exfalso; omega))) | with_reducible intro (ep : Nat → Nat) | with_reducible apply_assumption -exfalso -symm only [*])
   exact FnQ_end (Or.inl rfl) (.refl _) (by simp only [Try.f69, go_sem, simprocAttr, k2]; rfl) ⟨by rw [hG, ← hgs]; simp only [cTold, go_sem, simprocAttr], fun j hj => by (repeat rw [upd_ne _ _ (by omega)]); exact yl j hj⟩
  ·simp only [cTold] at y3
   simp only [Bool.false_eq_true, false_and, and_self, if_true, if_false, Int.reduceEq, true_and] at hgs
   repeat' (first | (with_reducible refine sk ?_; intro K hK) | ((with_reducible first | refine rg (md := { base := 600, own := [], imp := [] }) (h := ?_) | refine rgS [2, 3, 4, 5, 6] (md := { base := 600, own := [], imp := [] }) (h := ?_) | refine nx ?_); try simp (disch := omega) only [k1, k2, k3, k4, y2, y3, y4,go_sem, simprocAttr]) | (with_reducible refine bk ?_) | ((with_reducible refine' cE ?hv ?_ ?_); (case hv => first | rfl | (simp only [k1, k2, k3, k4, y2, y3, y4,go_sem, simprocAttr]; rfl)); all_goals (intro hc; (try simp only [go_sem, simprocAttr] at hc); try (exfalso; omega))) | ((with_reducible first | refine grdS_split ?_ ?_ | refine lkG_split ?_ ?_) <;> intro hg <;> (try simp (disch := omega) only [hg, k1, k2, k3, k4, y2, y3, y4,go_sem, simprocAttr]) <;> (try simp only [go_sem, simprocAttr] at hg) <;> (try (exfalso; omega))) | with_reducible intro (ep : Nat → Nat) | with_reducible apply_assumption -exfalso -symm only [*])
   exact FnQ_end (Or.inl rfl) (.refl _) (by simp only [Try.f69, go_sem, simprocAttr, k2]; rfl) ⟨by rw [hG, ← hgs]; simp only [cTold, go_sem, simprocAttr], fun j hj => by (repeat rw [upd_ne _ _ (by omega)]); exact yl j hj⟩
  ·simp only [cTold] at y3
   simp only [Bool.false_eq_true, false_and, and_self, if_true, if_false, Int.reduceEq, true_and] at hgs
   repeat' (first | (with_reducible refine sk ?_; intro K hK) | ((with_reducible first | refine rg (md := { base := 600, own := [], imp := [] }) (h := ?_) | refine rgS [2, 3, 4, 5, 6] (md := { base := 600, own := [], imp := [] }) (h := ?_) | refine nx ?_); try simp (disch := omega) only [k1, k2, k3, k4, y2, y3, y4,go_sem, simprocAttr]) | (with_reducible refine bk ?_) | ((with_reducible refine' cE ?hv ?_ ?_); (case hv => first | rfl | (simp only [k1, k2, k3, k4, y2, y3, y4,go_sem, simprocAttr]; rfl)); all_goals (intro hc; (try simp only [go_sem, simprocAttr] at hc); try (exfalso; omega))) | ((with_reducible first | refine grdS_split ?_ ?_ | refine lkG_split ?_ ?_) <;> intro hg <;> (try simp (disch := omega) only [hg, k1, k2, k3, k4, y2, y3, y4,go_sem, simprocAttr]) <;> (try simp only [go_sem, simprocAttr] at hg) <;> (try (exfalso; omega))) | with_reducible intro (ep : Nat → Nat) | with_reducible apply_assumption -exfalso -symm only [*])
   exact FnQ_end (Or.inl rfl) (.refl _) (by simp only [Try.f69, go_sem, simprocAttr, k2]; rfl) ⟨by rw [hG, ← hgs]; simp only [cTold, go_sem, simprocAttr], fun j hj => by (repeat rw [upd_ne _ _ (by omega)]); exact yl j hj⟩
  ·simp only [cTold] at y3
   simp only [Bool.false_eq_true, false_and, and_self, if_true, if_false, Int.reduceEq, true_and] at hgs
   repeat' (first | (with_reducible refine sk ?_; intro K hK) | ((with_reducible first | refine rg (md := { base := 600, own := [], imp := [] }) (h := ?_) | refine rgS [2, 3, 4, 5, 6] (md := { base := 600, own := [], imp := [] }) (h := ?_) | refine nx ?_); try simp (disch := omega) only [k1, k2, k3, k4, y2, y3, y4,go_sem, simprocAttr]) | (with_reducible refine bk ?_) | ((with_reducible refine' cE ?hv ?_ ?_); (case hv => first | rfl | (simp only [k1, k2, k3, k4, y2, y3, y4,go_sem, simprocAttr]; rfl)); all_goals (intro hc; (try simp only [go_sem, simprocAttr] at hc); try (exfalso; omega))) | ((with_reducible first | refine grdS_split ?_ ?_ | refine lkG_split ?_ ?_) <;> intro hg <;> (try simp (disch := omega) only [hg, k1, k2, k3, k4, y2, y3, y4,go_sem, simprocAttr]) <;> (try simp only [go_sem, simprocAttr] at hg) <;> (try (exfalso; omega))) | with_reducible intro (ep : Nat → Nat) | with_reducible apply_assumption -exfalso -symm only [*])
   exact FnQ_end (Or.inl rfl) (.refl _) (by simp only [Try.f69, go_sem, simprocAttr, k2]; rfl) ⟨by rw [hG, ← hgs]; simp only [cTold, go_sem, simprocAttr], fun j hj => by (repeat rw [upd_ne _ _ (by omega)]); exact yl j hj⟩
def lackV (t : LackT) : Val := .agg [.int .u8 t.known, .int .i64 t.head, .lst 1 (ints t.out)]
theorem cTold_weak (n : NetT) (h0 : 0 ≤ n.out) (hs : List HeadT) {G : Gh} {w : World} {x : Value} (h : VR G w (.agg (cTold (getsS n hs))) x) : VR G w (lackV (getsS n hs)) x := by
 have hf := gets_facts h0 hs
 unfold cTold at h
 unfold lackV
 split at h
 ·rename_i hk
  rw [(hf.yes hk).2.1]
  exact h.agg3_nils
 ·exact h
theorem getsV_ok (n : NetT) (hF : NetF n) (hs : List HeadT) (h5 : heads500 hs) (hsl : hs.length ≤ 12) (hnd : ∀ h ∈ hs, 1 ≤ h.node ∧ h.node ≤ n.pipes.length) (e36 e33 e34 ver : Nat) (H0 : Hp)
  (g36 : H0 436 = some (e36, .fro 10 [cPlant n hs e33 e34 (n.pipes.length + 1)])) (g33 : H0 433 = some (e33, .arr 1 (ints (flowL n.pipes (n.pipes.length + 1) hs)))) (g34 : H0 434 = some (e34, .map ver []))
  (hroom : ∀ j, 600 ≤ j → H0 j = none) (h100 : H0 100 = none) :
  ACall Try.prog 69 [.ptr 436 e36 10 0 0] H0 fun v H' => v = lackV (getsS n hs) ∧ ∀ j, j < 100 → H' j = H0 j :=
 (gets_ok n hF hs h5 hsl hnd e36 e33 e34 ver H0 g36 g33 g34 hroom h100).weak fun G w x h => cTold_weak n hF.out.1 hs h
end Cp
namespace Cp
open Go Go.Proofs
set_option maxRecDepth 10000
set_option maxHeartbeats 1000000
def lackN : Val := .agg [.int .u8 0, .int .i64 0, .nils]
def lackZ : LackT := ⟨0, 0, []⟩
def getsD (z : Val) (n : NetT) (l : List Int) : Val := if netOK n = true then (if openOK n.heads l = true then .tup [lackV (getsS n (openH n.heads l)), .int .i64 0] else .tup [z, .int .i64 2]) else .tup [z, .int .i64 50]
theorem lackV_noid {t : LackT} : noid (lackV t) = true := by simp only [lackV, noid, noids, noid_ints]; rfl
theorem Gets_ok0 (n : NetT) (hs : NetS n) (l : List Int) (hl : l.length ≤ 100000) : PureC Try.prog 26 [encNet n, .lst 1 (ints l)] (getsD lackN n l) := by
 have hnoid : noid (getsD lackN n l) = true := by unfold getsD; split <;> (try split) <;> (simp only [noid, noids, noidss, lackN, lackV_noid, go_sem, simprocAttr]; rfl)
 have hop := fun H0 => opened_ok n hs l hl H0
 unfold openR at hop
 have hpl := hs.pipes
 simp only [encNet, cNet] at hop
 refine PureC_of (fn := Try.f26) tabOK (by kernel_rfl) rfl (by kernel_rfl) (by simp [Try.f26]) (by simp [noids, noid, noidss, go_sem, encNet, cNet, hnoid]) (by first | rfl | simp [noids, noid, noidss, go_sem, encNet, cNet, hnoid]) ?_
 intro X hX0 hXs
 unfold getsD
 cases hN : netOK n with
 | false =>
  simp only [hN, Bool.false_eq_true, if_false] at hop
  repeat' (first | (with_reducible refine sk ?_; intro K hK) | ((first | (with_reducible first | refine rg (md := { base := 0, own := [4], imp := [11, 19] }) (h := ?_) | refine rgS [4] (md := { base := 0, own := [4], imp := [11, 19] }) (h := ?_) | refine nx ?_) | refine pK (hop _) ?_); try simp (disch := omega) only [encNet, cNet,go_sem, simprocAttr]) | (with_reducible refine bk ?_) | ((with_reducible refine' cE ?hv ?_ ?_); (case hv => first | rfl | (simp only [encNet, cNet,go_sem, simprocAttr]; rfl)); all_goals (intro hc; (try simp only [go_sem, simprocAttr] at hc); try (exfalso; omega))) | (first | refine iK (hop _) ?_) | ((with_reducible refine fe ?_); refine ⟨_, (by simp only [Try.f26, encNet, cNet,go_sem, simprocAttr]; rfl), ?_⟩; first | rfl | (try simp only [encNet, cNet,go_sem, simprocAttr, seval])) | with_reducible intro (ep : Nat → Nat) | with_reducible apply_assumption -exfalso -symm only [*])
  rintro v H3 ⟨hlow, rfl⟩
  have g4 := hlow 4 (by decide)
  simp only [go_sem, simprocAttr] at g4
  simp only [go_sem, simprocAttr]
  repeat' (first | (with_reducible refine sk ?_; intro K hK) | ((with_reducible first | refine rg (md := { base := 0, own := [4], imp := [11, 19] }) (h := ?_) | refine rgS [4] (md := { base := 0, own := [4], imp := [11, 19] }) (h := ?_) | refine nx ?_); try simp (disch := omega) only [g4, lackN,go_sem, simprocAttr]) | (with_reducible refine bk ?_) | ((with_reducible refine' cE ?hv ?_ ?_); (case hv => first | rfl | (simp only [g4, lackN,go_sem, simprocAttr]; rfl)); all_goals (intro hc; (try simp only [go_sem, simprocAttr] at hc); try (exfalso; omega))) | ((with_reducible refine fe ?_); refine ⟨_, (by simp only [Try.f26, g4, lackN,go_sem, simprocAttr]; rfl), ?_⟩; first | rfl | (try simp only [g4, lackN,go_sem, simprocAttr, seval])) | with_reducible intro (ep : Nat → Nat) | with_reducible apply_assumption -exfalso -symm only [*])
 | true =>
  have hF := net_facts hN
  cases hO : openOK n.heads l with
  | false =>
   simp only [hN, hO, Bool.false_eq_true, if_false, if_true] at hop
   repeat' (first | (with_reducible refine sk ?_; intro K hK) | ((first | (with_reducible first | refine rg (md := { base := 0, own := [4], imp := [11, 19] }) (h := ?_) | refine rgS [4] (md := { base := 0, own := [4], imp := [11, 19] }) (h := ?_) | refine nx ?_) | refine pK (hop _) ?_); try simp (disch := omega) only [encNet, cNet,go_sem, simprocAttr]) | (with_reducible refine bk ?_) | ((with_reducible refine' cE ?hv ?_ ?_); (case hv => first | rfl | (simp only [encNet, cNet,go_sem, simprocAttr]; rfl)); all_goals (intro hc; (try simp only [go_sem, simprocAttr] at hc); try (exfalso; omega))) | (first | refine iK (hop _) ?_) | ((with_reducible refine fe ?_); refine ⟨_, (by simp only [Try.f26, encNet, cNet,go_sem, simprocAttr]; rfl), ?_⟩; first | rfl | (try simp only [encNet, cNet,go_sem, simprocAttr, seval])) | with_reducible intro (ep : Nat → Nat) | with_reducible apply_assumption -exfalso -symm only [*])
   rintro v H3 ⟨hlow, rfl⟩
   have g4 := hlow 4 (by decide)
   simp only [go_sem, simprocAttr] at g4
   simp only [go_sem, simprocAttr]
   repeat' (first | (with_reducible refine sk ?_; intro K hK) | ((with_reducible first | refine rg (md := { base := 0, own := [4], imp := [11, 19] }) (h := ?_) | refine rgS [4] (md := { base := 0, own := [4], imp := [11, 19] }) (h := ?_) | refine nx ?_); try simp (disch := omega) only [g4, lackN,go_sem, simprocAttr]) | (with_reducible refine bk ?_) | ((with_reducible refine' cE ?hv ?_ ?_); (case hv => first | rfl | (simp only [g4, lackN,go_sem, simprocAttr]; rfl)); all_goals (intro hc; (try simp only [go_sem, simprocAttr] at hc); try (exfalso; omega))) | ((with_reducible refine fe ?_); refine ⟨_, (by simp only [Try.f26, g4, lackN,go_sem, simprocAttr]; rfl), ?_⟩; first | rfl | (try simp only [g4, lackN,go_sem, simprocAttr, seval])) | with_reducible intro (ep : Nat → Nat) | with_reducible apply_assumption -exfalso -symm only [*])
  | true =>
   simp only [hN, hO, if_true] at hop
   repeat' (first | (with_reducible refine sk ?_; intro K hK) | ((first | (with_reducible first | refine rg (md := { base := 0, own := [4], imp := [11, 19] }) (h := ?_) | refine rgS [4] (md := { base := 0, own := [4], imp := [11, 19] }) (h := ?_) | refine nx ?_) | refine pK (hop _) ?_); try simp (disch := omega) only [encNet, cNet,go_sem, simprocAttr]) | (with_reducible refine bk ?_) | ((with_reducible refine' cE ?hv ?_ ?_); (case hv => first | rfl | (simp only [encNet, cNet,go_sem, simprocAttr]; rfl)); all_goals (intro hc; (try simp only [go_sem, simprocAttr] at hc); try (exfalso; omega))) | (first | refine iK (hop _) ?_) | ((with_reducible refine fe ?_); refine ⟨_, (by simp only [Try.f26, encNet, cNet,go_sem, simprocAttr]; rfl), ?_⟩; first | rfl | (try simp only [encNet, cNet,go_sem, simprocAttr, seval])) | with_reducible intro (ep : Nat → Nat) | with_reducible apply_assumption -exfalso -symm only [*])
   rintro v H3 ⟨hlow, e36, e33, e34, ver, rfl, h36, h33, h34⟩
   have g4 := hlow 4 (by decide)
   simp only [go_sem, simprocAttr] at g4
   simp only [go_sem, simprocAttr]
   repeat' (first | ((fail_if_success (with_reducible refine AW_at (id := 4) ?_)); with_reducible refine sk ?_; intro K hK) | ((with_reducible first | refine rg (md := { base := 0, own := [4], imp := [11, 19] }) (h := ?_) | refine rgS [4] (md := { base := 0, own := [4], imp := [11, 19] }) (h := ?_) | refine nx ?_); try simp (disch := omega) only [h36, h33, h34, g4,go_sem, simprocAttr]) | (with_reducible refine bk ?_) | ((with_reducible refine' cE ?hv ?_ ?_); (case hv => first | rfl | (simp only [h36, h33, h34, g4,go_sem, simprocAttr]; rfl)); all_goals (intro hc; (try simp only [go_sem, simprocAttr] at hc); try (exfalso; omega))) | ((with_reducible refine fe ?_); refine ⟨_, (by simp only [Try.f26, h36, h33, h34, g4,go_sem, simprocAttr]; rfl), ?_⟩; first | rfl | (try simp only [h36, h33, h34, g4,go_sem, simprocAttr, seval])) | with_reducible intro (ep : Nat → Nat) | with_reducible apply_assumption -exfalso -symm only [*])
   refine AW_freeze 436 h36 ?_
   refine AW_keep [4, 433, 434, 436] ?_
   obtain ⟨H4, hH4⟩ : ∃ H4, keep (upd H3 436 (some (e36, .fro 10 [cPlant n (openH n.heads l) e33 e34 (n.pipes.length + 1)]))) [4, 433, 434, 436] = H4 := ⟨_, rfl⟩
   have k36 : H4 436 = some (e36, .fro 10 [cPlant n (openH n.heads l) e33 e34 (n.pipes.length + 1)]) := by rw [← hH4]; rfl
   have k33 : H4 433 = some (e33, .arr 1 (ints (flowL n.pipes (n.pipes.length + 1) (openH n.heads l)))) := by rw [← hH4]; exact h33
   have k34 : H4 434 = some (e34, .map ver []) := by rw [← hH4]; exact h34
   have k4 := (congrFun hH4 4).symm.trans g4
   have kr : ∀ j, 600 ≤ j → H4 j = none := fun j hj => by
    rw [← hH4]; unfold keep; rw [if_neg]; simp; omega
   have k100 : H4 100 = none := by rw [← hH4]; rfl
   rw [hH4]
   clear hH4 h36 h33 h34 g4 hlow hop
   have hgo := getsV_ok n hF _ (openH_500 hF l) (by have := open_le hF.ids hO; have := @openH_len n.heads l; have := hF.heads; omega) (fun h hm => openH_node hF hm) e36 e33 e34 ver H4 k36 k33 k34 kr k100
   repeat' (first | (with_reducible refine sk ?_; intro K hK) | ((first | (with_reducible first | refine rg (md := { base := 0, own := [4], imp := [11, 19] }) (h := ?_) | refine rgS [4] (md := { base := 0, own := [4], imp := [11, 19] }) (h := ?_) | refine nx ?_) | refine pK (hgo) ?_); try simp (disch := omega) only [k36, k4,go_sem, simprocAttr]) | (with_reducible refine bk ?_) | ((with_reducible refine' cE ?hv ?_ ?_); (case hv => first | rfl | (simp only [k36, k4,go_sem, simprocAttr]; rfl)); all_goals (intro hc; (try simp only [go_sem, simprocAttr] at hc); try (exfalso; omega))) | (first | refine iK (hgo) ?_) | with_reducible intro (ep : Nat → Nat) | with_reducible apply_assumption -exfalso -symm only [*])
   rintro v H5 ⟨rfl, hlow⟩
   have g4 := (hlow 4 (by decide)).trans k4
   simp only [go_sem, simprocAttr, lackV, g4]
   repeat' (first | (with_reducible refine sk ?_; intro K hK) | ((with_reducible first | refine rg (md := { base := 0, own := [4], imp := [11, 19] }) (h := ?_) | refine rgS [4] (md := { base := 0, own := [4], imp := [11, 19] }) (h := ?_) | refine nx ?_); try simp (disch := omega) only [g4, lackV,go_sem, simprocAttr]) | (with_reducible refine bk ?_) | ((with_reducible refine' cE ?hv ?_ ?_); (case hv => first | rfl | (simp only [g4, lackV,go_sem, simprocAttr]; rfl)); all_goals (intro hc; (try simp only [go_sem, simprocAttr] at hc); try (exfalso; omega))) | ((with_reducible refine fe ?_); refine ⟨_, (by simp only [Try.f26, g4, lackV,go_sem, simprocAttr]; rfl), ?_⟩; first | rfl | (try simp only [g4, lackV,go_sem, simprocAttr, seval])) | with_reducible intro (ep : Nat → Nat) | with_reducible apply_assumption -exfalso -symm only [*])
end Cp
namespace Cp
open Go Go.Proofs
set_option maxRecDepth 10000
set_option maxHeartbeats 4000000
end Cp
namespace Cp
open Go
end Cp
namespace Cp
open Go Go.Proofs
set_option maxRecDepth 10000
set_option maxHeartbeats 4000000
end Cp
namespace Cp
open Go
structure Bet (n n' : NetT) : Prop where
 np : n'.pipes.length = n.pipes.length
 pipe : ∀ (i : Nat) (p p' : PipeT), n.pipes[i]? = some p → n'.pipes[i]? = some p' → p'.frm = p.frm ∧ p'.foul.lo ≤ p.foul.lo ∧ p'.foul.hi ≤ p.foul.hi
 nq : n'.pumps.length = n.pumps.length
 pump : ∀ (i : Nat) (p p' : PumpT), n.pumps[i]? = some p → n'.pumps[i]? = some p' → p.full.lo ≤ p'.full.lo ∧ p.full.hi ≤ p'.full.hi ∧ p'.slope ≤ p.slope
 heads : n'.heads = n.heads
 tlo : n.tank.lo ≤ n'.tank.lo
 thi : n.tank.hi ≤ n'.tank.hi
 mins : n'.mins = n.mins
theorem Bet.refl (n : NetT) : Bet n n := ⟨rfl, fun i p p' h1 h2 => by rw [h1] at h2; cases h2; simp, rfl, fun i p p' h1 h2 => by rw [h1] at h2; cases h2; simp, rfl, Int.le_refl _, Int.le_refl _, rfl⟩
theorem Bet.frm {n n' : NetT} (h : Bet n n') (k : Nat) : frmOf n'.pipes k = frmOf n.pipes k := by
 unfold frmOf
 have hl := h.np
 cases h1 : n.pipes[k - 1]? with
 | none =>
  have : n'.pipes[k - 1]? = none := by rw [List.getElem?_eq_none_iff] at h1 ⊢; omega
  rw [this]
 | some p =>
  obtain ⟨p', h2⟩ : ∃ x, n'.pipes[k - 1]? = some x := ⟨_, List.getElem?_eq_getElem (by have := (List.getElem?_eq_some_iff.1 h1).1; omega)⟩
  rw [h2]
  simp only [(h.pipe _ p p' h1 h2).1]
theorem Bet.upN {n n' : NetT} (h : Bet n n') : ∀ (f k : Nat), upN n'.pipes f k = upN n.pipes f k
 | 0, k => rfl
 | f + 1, k => by simp only [Cp.upN, h.frm, h.upN f]
theorem Bet.path {n n' : NetT} (h : Bet n n') (k : Nat) : path n'.pipes k = path n.pipes k := h.upN k k
theorem Bet.via {n n' : NetT} (h : Bet n n') (k j : Nat) : via n'.pipes k j = via n.pipes k j := by unfold Cp.via; rw [h.path]
theorem Bet.flow {n n' : NetT} (h : Bet n n') (j : Nat) : ∀ (l : List HeadT), flowAt n'.pipes j l = flowAt n.pipes j l
 | [] => rfl
 | x :: l => by simp only [flowAt, h.via, h.flow j l]
end Cp
namespace Cp
open Go Go.Proofs
set_option maxRecDepth 10000
set_option maxHeartbeats 4000000
end Cp
namespace Cp
open Go
def mayF : List HeadT → List (List Int) → List Int
 | h :: hs, l :: ls => (if 0 < burstS l h.bulb.lo h.slow.lo then [h.id] else []) ++ mayF hs ls
 | _, _ => []
def sureF : List HeadT → List (List Int) → List Int
 | h :: hs, l :: ls => (if 0 < burstS l h.bulb.hi h.slow.hi then [h.id] else []) ++ sureF hs ls
 | _, _ => []
theorem mayF_snoc : ∀ {hs : List HeadT} {ls : List (List Int)} {k : Nat} {h : HeadT} {l : List Int}, hs[k]? = some h → ls[k]? = some l → mayF (hs.take (k + 1)) (ls.take (k + 1)) = mayF (hs.take k) (ls.take k) ++ (if 0 < burstS l h.bulb.lo h.slow.lo then [h.id] else [])
 | [], _, _, _, _, h1, _ => by simp at h1
 | _ :: _, [], _, _, _, _, h2 => by simp at h2
 | a :: hs, b :: ls, 0, h, l, h1, h2 => by
  simp at h1 h2; subst h1 h2
  simp [mayF]
 | a :: hs, b :: ls, k + 1, h, l, h1, h2 => by
  have := mayF_snoc (hs := hs) (ls := ls) (k := k) (by simpa using h1) (by simpa using h2)
  simp only [List.take_succ_cons, mayF, List.append_assoc]
  rw [this]
theorem sureF_snoc : ∀ {hs : List HeadT} {ls : List (List Int)} {k : Nat} {h : HeadT} {l : List Int}, hs[k]? = some h → ls[k]? = some l → sureF (hs.take (k + 1)) (ls.take (k + 1)) = sureF (hs.take k) (ls.take k) ++ (if 0 < burstS l h.bulb.hi h.slow.hi then [h.id] else [])
 | [], _, _, _, _, h1, _ => by simp at h1
 | _ :: _, [], _, _, _, _, h2 => by simp at h2
 | a :: hs, b :: ls, 0, h, l, h1, h2 => by
  simp at h1 h2; subst h1 h2
  simp [sureF]
 | a :: hs, b :: ls, k + 1, h, l, h1, h2 => by
  have := sureF_snoc (hs := hs) (ls := ls) (k := k) (by simpa using h1) (by simpa using h2)
  simp only [List.take_succ_cons, sureF, List.append_assoc]
  rw [this]
theorem mayF_sub : ∀ (hs : List HeadT) (ls : List (List Int)), (mayF hs ls).Sublist (hs.map (·.id))
 | [], _ => by simp [mayF]
 | h :: hs, [] => by simp [mayF]
 | h :: hs, l :: ls => by
  simp only [mayF, List.map_cons]
  have := mayF_sub hs ls
  split
  ·exact this.cons_cons _
  ·exact this.cons _
theorem sureF_sub : ∀ (hs : List HeadT) (ls : List (List Int)), (sureF hs ls).Sublist (hs.map (·.id))
 | [], _ => by simp [sureF]
 | h :: hs, [] => by simp [sureF]
 | h :: hs, l :: ls => by
  simp only [sureF, List.map_cons]
  have := sureF_sub hs ls
  split
  ·exact this.cons_cons _
  ·exact this.cons _
theorem ids_open {n : NetT} (hF : NetF n) {l : List Int} (h : l.Sublist (n.heads.map (·.id))) : openOK n.heads l = true := by
 refine okL_of (fun a ha => ?_) ?_ (fun c hc => by cases hc)
 ·obtain ⟨x, hx, rfl⟩ := List.mem_map.1 (h.subset ha)
  rw [headAt_of hF.ids hx]; rfl
 ·have : (n.heads.map (·.id)).Pairwise (· < ·) := by rw [List.pairwise_map]; exact hF.ids
  exact this.sublist h
def LstG (k : Nat) (L : List Int) (v : Val) (H : Hp) : Prop := (L = [] ∧ v = .nils) ∨ (¬ L = [] ∧ ∃ ea, v = .gr k ea L.length ∧ H k = some (ea, .arr 1 (ints L)))
theorem LstG.same {k : Nat} {L : List Int} {v : Val} {H H' : Hp} (h : LstG k L v H) (e : H' k = H k) : LstG k L v H' := by
 rcases h with h | ⟨h1, ea, h2, h3⟩
 ·exact .inl h
 ·exact .inr ⟨h1, ea, h2, by rw [e]; exact h3⟩
theorem LstG.snoc {k ea : Nat} {L : List Int} {x : Int} {H : Hp} (h : H k = some (ea, .arr 1 (ints L ++ [[.int .i64 x]]))) : LstG k (L ++ [x]) (.gr k ea (L.length + 1)) H :=
 .inr ⟨by simp, ea, by simp, by rw [h]; simp [ints]⟩
theorem LstG.one {k ea : Nat} {x : Int} {H : Hp} (h : H k = some (ea, .arr 1 [[.int .i64 x]])) : LstG k ([] ++ [x]) (.gr k ea 1) H := LstG.snoc (L := []) h
section
variable {P : Program} {ro : Option Nat} {X : Cx} {Q : Exit → Fr → Hp → Prop} {f : Fr} {H : Hp} {c : Code}
theorem AW_nils (t n : Nat) (hv : f t = .nils) (h : AW P ro X c Q (upd f t (.lst n [])) H) : AW P ro X c Q f H := fun G a w s => by
 refine h G a w ⟨s.tr, s.rel, fun t' => ?_, s.size, s.dfr⟩
 by_cases ht : t' = t
 ·subst ht
  rw [upd_same]
  have := s.fr t'
  rw [hv] at this
  exact this.nils_lst n
 ·rw [upd_ne _ _ ht]; exact s.fr t'
theorem AW_lstG {t k : Nat} {L : List Int} (h : LstG k L (f t) H) (hc : ∀ f' H', f' t = .lst 1 (ints L) → (∀ j, ¬ j = t → f' j = f j) → (∀ j, ¬ j = k → H' j = H j) → AW P ro X c Q f' H') : AW P ro X c Q f H := by
 rcases h with ⟨rfl, h⟩ | ⟨_, ea, h, hk⟩
 ·exact AW_nils t 1 h (hc _ _ (upd_same _ _ _) (fun j hj => upd_ne _ _ hj) fun _ _ => rfl)
 ·refine AW_freeze k hk ?_
  refine AW_retell t 6 ?_
  refine hc _ _ ?_ (fun j hj => upd_ne _ _ hj) fun j hj => upd_ne _ _ hj
  rw [upd_same, h]
  exact thawI rfl (upd_same _ _ _)
end
end Cp
namespace Cp
end Cp
namespace Cp
open Go
theorem fit_map {α : Type} {c : α → List Val} : ∀ {xss : List (List Val)}, (∀ es ∈ xss, ∃ x, es = c x) → ∃ l : List α, xss = l.map c
 | [], _ => ⟨[], rfl⟩
 | es :: xss, h => by
  obtain ⟨x, rfl⟩ := h es (by simp)
  obtain ⟨l, rfl⟩ := fit_map fun es he => h es (List.mem_cons_of_mem _ he)
  exact ⟨x :: l, rfl⟩
theorem fit_slice {T : Tab} {n : Nat} {t e sz : Nat} {vs : List Val} {b b2 s1 : Nat} {z z2 : Val} {p p2 : Bool} {k2 : TK} {α : Type} {c : α → List Val} (ht : T t = some { kind := .slice e, sz := s1, bytes := b, zero := z, plain := p })
  (he : T e = some { kind := k2, sz := sz, bytes := b2, zero := z2, plain := p2 }) (h : Fit T (n + 1) t vs) (hc : ∀ es, Fit T n e es → ∃ x, es = c x) : ∃ l : List α, vs = [.lst sz (l.map c)] := by
 simp only [Fit, ht] at h
 obtain ⟨sz', xss, rfl, hs, _, hx⟩ := h
 rw [he] at hs
 cases hs
 obtain ⟨l, rfl⟩ := fit_map (c := c) fun es hes => hc es (hx es hes).2
 exact ⟨l, rfl⟩
theorem fit_struct {T : Tab} {n : Nat} {t sz : Nat} {vs : List Val} {b : Nat} {z : Val} {p : Bool} {fs : List (Nat × Nat)} (ht : T t = some { kind := .struct fs, sz := sz, bytes := b, zero := z, plain := p }) (h : Fit T (n + 1) t vs) :
  vs.length = sz ∧ ∀ q ∈ fs, ∃ fi, T q.2 = some fi ∧ Fit T n q.2 ((vs.drop q.1).take fi.sz) := by
 simp only [Fit, ht] at h
 exact h
theorem fit_int {T : Tab} {n : Nat} {t : Nat} {vs : List Val} {s b : Nat} {z : Val} {p : Bool} {k : IntKind} (ht : T t = some { kind := .int k, sz := s, bytes := b, zero := z, plain := p }) (h : Fit T (n + 1) t vs) : ∃ m, vs = [.int k m] ∧ (Lit.int k m).wf = true := by
 simp only [Fit, ht] at h
 exact h
theorem fit3 {n : Nat} {vs : List Val} (h : Fit tab (n + 1) 3 vs) : ∃ m, vs = [.int .i64 m] := by
 obtain ⟨m, h, _⟩ := fit_int tab_3 h; exact ⟨m, h⟩
theorem fit_ints {n : Nat} {vs : List Val} {t b s1 : Nat} {z : Val} {p : Bool} (ht : tab t = some { kind := .slice 3, sz := s1, bytes := b, zero := z, plain := p }) (h : Fit tab (n + 2) t vs) : ∃ l : List Int, vs = [.lst 1 (ints l)] := by
 obtain ⟨l, rfl⟩ := fit_slice (c := fun m : Int => [Val.int .i64 m]) ht tab_3 h fun es he => fit3 he
 exact ⟨l, rfl⟩
theorem fit_two {n : Nat} {vs : List Val} {t b : Nat} {z : Val} {p : Bool} (ht : tab t = some { kind := .struct [(0, 3), (1, 3)], sz := 2, bytes := b, zero := z, plain := p }) (h : Fit tab (n + 2) t vs) : ∃ x y : Int, vs = [.int .i64 x, .int .i64 y] := by
 obtain ⟨hl, hq⟩ := fit_struct ht h
 match vs, hl with
 | [a, b], _ =>
  obtain ⟨fi, e, h0⟩ := hq (0, 3) (by simp)
  rw [tab_3] at e; cases e
  obtain ⟨fi, e, h1⟩ := hq (1, 3) (by simp)
  rw [tab_3] at e; cases e
  obtain ⟨x, hx⟩ := fit3 h0
  obtain ⟨y, hy⟩ := fit3 h1
  simp at hx hy
  exact ⟨x, y, by rw [hx, hy]⟩
theorem fit_span {n : Nat} {vs : List Val} (h : Fit tab (n + 2) 26 vs) : ∃ s : Span, vs = [.int .i64 s.lo, .int .i64 s.hi] := by
 obtain ⟨x, y, h⟩ := fit_two tab_26 h; exact ⟨⟨x, y⟩, h⟩
theorem fit_pipe {n : Nat} {vs : List Val} (h : Fit tab (n + 3) 89 vs) : ∃ x : PipeT, vs = cPipe x := by
 obtain ⟨hl, hq⟩ := fit_struct tab_89 h
 match vs, hl with
 | [a0, a1, a2, a3], _ =>
  obtain ⟨fi, e0, h0⟩ := hq (0, 3) (by simp)
  rw [tab_3] at e0; cases e0
  obtain ⟨fi, e1, h1⟩ := hq (1, 3) (by simp)
  rw [tab_3] at e1; cases e1
  obtain ⟨fi, e2, h2⟩ := hq (2, 26) (by simp)
  rw [tab_26] at e2; cases e2
  obtain ⟨x0, h0⟩ := fit3 h0
  obtain ⟨x1, h1⟩ := fit3 h1
  obtain ⟨x2, h2⟩ := fit_span h2
  simp at h0 h1 h2
  obtain ⟨h2, h2'⟩ := h2
  exact ⟨⟨x0, x1, x2⟩, by rw [h0, h1, h2, h2']; rfl⟩
theorem fit_head {n : Nat} {vs : List Val} (h : Fit tab (n + 3) 61 vs) : ∃ x : HeadT, vs = cHead x := by
 obtain ⟨hl, hq⟩ := fit_struct tab_61 h
 match vs, hl with
 | [a0, a1, a2, a3, a4, a5, a6, a7], _ =>
  obtain ⟨fi, e0, h0⟩ := hq (0, 3) (by simp)
  rw [tab_3] at e0; cases e0
  obtain ⟨fi, e1, h1⟩ := hq (1, 3) (by simp)
  rw [tab_3] at e1; cases e1
  obtain ⟨fi, e2, h2⟩ := hq (2, 3) (by simp)
  rw [tab_3] at e2; cases e2
  obtain ⟨fi, e3, h3⟩ := hq (3, 3) (by simp)
  rw [tab_3] at e3; cases e3
  obtain ⟨fi, e4, h4⟩ := hq (4, 26) (by simp)
  rw [tab_26] at e4; cases e4
  obtain ⟨fi, e5, h5⟩ := hq (6, 26) (by simp)
  rw [tab_26] at e5; cases e5
  obtain ⟨x0, h0⟩ := fit3 h0
  obtain ⟨x1, h1⟩ := fit3 h1
  obtain ⟨x2, h2⟩ := fit3 h2
  obtain ⟨x3, h3⟩ := fit3 h3
  obtain ⟨x4, h4⟩ := fit_span h4
  obtain ⟨x5, h5⟩ := fit_span h5
  simp at h0 h1 h2 h3 h4 h5
  obtain ⟨h4, h4'⟩ := h4
  obtain ⟨h5, h5'⟩ := h5
  exact ⟨⟨x0, x1, x2, x3, x4, x5⟩, by rw [h0, h1, h2, h3, h4, h4', h5, h5']; rfl⟩
theorem fit_pump {n : Nat} {vs : List Val} (h : Fit tab (n + 3) 94 vs) : ∃ x : PumpT, vs = cPump x := by
 obtain ⟨hl, hq⟩ := fit_struct tab_94 h
 match vs, hl with
 | [a0, a1, a2], _ =>
  obtain ⟨fi, e0, h0⟩ := hq (0, 26) (by simp)
  rw [tab_26] at e0; cases e0
  obtain ⟨fi, e1, h1⟩ := hq (2, 3) (by simp)
  rw [tab_3] at e1; cases e1
  obtain ⟨x0, h0⟩ := fit_span h0
  obtain ⟨x1, h1⟩ := fit3 h1
  simp at h0 h1
  obtain ⟨h0, h0'⟩ := h0
  exact ⟨⟨x0, x1⟩, by rw [h0, h0', h1]; rfl⟩
theorem fit_net {n : Nat} {vs : List Val} (h : Fit tab (n + 5) 28 vs) : ∃ x : NetT, vs = cNet x := by
 obtain ⟨hl, hq⟩ := fit_struct tab_28 h
 match vs, hl with
 | [a0, a1, a2, a3, a4, a5, a6], _ =>
  obtain ⟨fi, e0, h0⟩ := hq (0, 22) (by simp)
  rw [tab_22] at e0; cases e0
  obtain ⟨fi, e1, h1⟩ := hq (1, 23) (by simp)
  rw [tab_23] at e1; cases e1
  obtain ⟨fi, e2, h2⟩ := hq (2, 24) (by simp)
  rw [tab_24] at e2; cases e2
  obtain ⟨fi, e3, h3⟩ := hq (3, 3) (by simp)
  rw [tab_3] at e3; cases e3
  obtain ⟨fi, e4, h4⟩ := hq (4, 26) (by simp)
  rw [tab_26] at e4; cases e4
  obtain ⟨fi, e5, h5⟩ := hq (6, 3) (by simp)
  rw [tab_3] at e5; cases e5
  obtain ⟨x0, h0⟩ := fit_slice tab_22 tab_89 h0 fun es he => fit_pipe he
  obtain ⟨x1, h1⟩ := fit_slice tab_23 tab_61 h1 fun es he => fit_head he
  obtain ⟨x2, h2⟩ := fit_slice tab_24 tab_94 h2 fun es he => fit_pump he
  obtain ⟨x3, h3⟩ := fit3 h3
  obtain ⟨x4, h4⟩ := fit_span h4
  obtain ⟨x5, h5⟩ := fit3 h5
  simp at h0 h1 h2 h3 h4 h5
  obtain ⟨h4, h4'⟩ := h4
  exact ⟨⟨x0, x1, x2, x3, x4, x5⟩, by rw [h0, h1, h2, h3, h4, h4', h5]; rfl⟩
def cInts (l : List Int) : List Val := [.lst 1 (ints l)]
theorem arg_lists {a : Val} (h : FitV tab 8 62 a) : ∃ l : List (List Int), a = .lst 1 (l.map cInts) := by
 obtain ⟨ti, cs, e, h, _, rfl⟩ := h
 obtain ⟨l, rfl⟩ := fit_slice (c := cInts) tab_62 tab_29 h fun es he => fit_ints tab_29 he
 rw [tab_62] at e; cases e; exact ⟨l, rfl⟩
theorem arg_head {a : Val} (h : FitV tab 8 61 a) : ∃ x : HeadT, a = encHead x := by
 obtain ⟨ti, cs, e, h, _, rfl⟩ := h
 obtain ⟨l, rfl⟩ := fit_head h
 rw [tab_61] at e; cases e; exact ⟨l, rfl⟩
theorem arg_net {a : Val} (h : FitV tab 8 28 a) : ∃ x : NetT, a = encNet x := by
 obtain ⟨ti, cs, e, h, _, rfl⟩ := h
 obtain ⟨l, rfl⟩ := fit_net h
 rw [tab_28] at e; cases e; exact ⟨l, rfl⟩
end Cp
namespace Cp
open Go Go.Proofs
set_option maxRecDepth 10000
set_option maxHeartbeats 4000000
def fireD (z1 z : Val) (n : NetT) (ls : List (List Int)) : Val :=
 if netOK n = true then (if ls.length = n.heads.length then (if ls.all heatOK = true then .tup [.lst 1 (ints (sureF n.heads ls)), .lst 1 (ints (mayF n.heads ls)), lackV (getsS n (openH n.heads (mayF n.heads ls))), .int .i64 0] else .tup [z1, z1, z, .int .i64 51]) else .tup [z1, z1, z, .int .i64 2]) else .tup [z1, z1, z, .int .i64 50]
theorem made_net {n : NetT} (hF : NetF n) {h : HeadT} (hm : h ∈ n.heads) : madeOK h 12 = true := by
 have h1 := hF.head h hm
 have h2 := hF.pipes
 simp only [madeOK, bulbOK, Bool.and_eq_true, decide_eq_true_eq]
 exact ⟨by omega, h1.1⟩
theorem Fire_ok0 (n : NetT) (hs : NetS n) (ls : List (List Int)) (hll : ls.length ≤ 100000) (hl : ∀ l ∈ ls, l.length ≤ 100000) : PureC Try.prog 33 [encNet n, .lst 1 (ls.map cInts)] (fireD .nils lackN n ls) := by
 have hnoid : noid (fireD .nils lackN n ls) = true := by unfold fireD; split <;> (try split) <;> (try split) <;> (simp only [noid, noids, noidss, lackN, lackV_noid, go_sem, simprocAttr]; rfl)
 have hll2 : noidss (ls.map cInts) = true := noidss_map fun l => by simp only [cInts, noids, noid, ints_noid, Bool.and_self]
 have hck := check_ok n (by have := hs.pipes; omega) (by have := hs.heads; omega) (by have := hs.pumps; omega)
 unfold checkN at hck
 simp only [encNet, cNet] at hck
 refine PureC_of (fn := Try.f33) tabOK (by kernel_rfl) rfl (by kernel_rfl) (by simp [Try.f33]) (by simp [noids, noid, noidss, go_sem, encNet, cNet, hnoid, hll2]) (by first | rfl | simp [noids, noid, noidss, go_sem, encNet, cNet, hnoid, hll2]) ?_
 intro X hX0 hXs
 unfold fireD
 cases hN : netOK n with
 | false =>
  simp only [hN, Bool.false_eq_true, if_false] at hck
  repeat' (first | (with_reducible refine sk ?_; intro K hK) | ((first | (with_reducible first | refine rg (md := { base := 0, own := [6, 10, 55, 62], fz := [67] }) (h := ?_) | refine rgS [6, 10] (md := { base := 0, own := [6, 10, 55, 62], fz := [67] }) (h := ?_) | refine nx ?_) | refine pK (hck) ?_); try simp (disch := omega) only [encNet, cNet, lackN,go_sem, simprocAttr]) | (with_reducible refine bk ?_) | ((with_reducible refine' cE ?hv ?_ ?_); (case hv => first | rfl | (simp only [encNet, cNet, lackN,go_sem, simprocAttr]; rfl)); all_goals (intro hc; (try simp only [go_sem, simprocAttr] at hc); try (exfalso; omega))) | ((with_reducible refine fe ?_); refine ⟨_, (by simp only [Try.f33, encNet, cNet, lackN,go_sem, simprocAttr]; rfl), ?_⟩; first | rfl | (try simp only [encNet, cNet, lackN,go_sem, simprocAttr, seval])) | with_reducible intro (ep : Nat → Nat) | with_reducible apply_assumption -exfalso -symm only [*])
 | true =>
  simp only [hN, if_true] at hck
  have hF := net_facts hN
  have hhl := hF.heads
  by_cases hlen : ls.length = n.heads.length
  ·simp only [if_true, hlen]
   have hlen' : (ls.length : Int) = n.heads.length := by omega
   have hbu := fun (h : HeadT) (hm : h ∈ n.heads) (l : List Int) (hl : l.length ≤ 100000) => Bursts_ok h l hl
   repeat' (first | ((fail_if_success (with_reducible refine AW_at (id := 6) ?_)); with_reducible refine sk ?_; intro K hK) | ((first | (with_reducible first | refine rg (md := { base := 0, own := [6, 10, 55, 62], fz := [67] }) (h := ?_) | refine rgS [6, 10] (md := { base := 0, own := [6, 10, 55, 62], fz := [67] }) (h := ?_) | refine nx ?_) | refine pK (hck) ?_); try simp (disch := omega) only [encNet, cNet, hlen',go_sem, simprocAttr]) | (with_reducible refine bk ?_) | ((with_reducible refine' cE ?hv ?_ ?_); (case hv => first | rfl | (simp only [encNet, cNet, hlen',go_sem, simprocAttr]; rfl)); all_goals (intro hc; (try simp only [go_sem, simprocAttr] at hc); try (exfalso; omega))) | with_reducible intro (ep : Nat → Nat) | with_reducible apply_assumption -exfalso -symm only [*])
   have hcut : ∀ e6 f H, (f 2 = .pim (cNet n) ∧ f 6 = .ptr 6 e6 3 0 0) ∧ H 6 = some (e6, .arr 3 [[.int .u8 0, .int .i64 0, .nils]]) ∧ LstG 62 (sureF n.heads ls) (f 4) H ∧ LstG 55 (mayF n.heads ls) (f 5) H ∧ ls.all heatOK = true → K f H := by
    rintro e6 f H ⟨⟨h2, h6⟩, g6, g4, g5, hall⟩
    refine hK f H ?_
    clear hK
    rw [hall]
    simp only [if_true]
    have hop := ids_open hF (mayF_sub n.heads ls)
    have hml : (mayF n.heads ls).length ≤ 100000 := by
     have h1 := (mayF_sub n.heads ls).length_le
     simp only [List.length_map] at h1; omega
    have hgt := Gets_ok0 n hs (mayF n.heads ls) hml
    unfold getsD at hgt
    rw [if_pos hN, if_pos hop] at hgt
    generalize getsS n (openH n.heads (mayF n.heads ls)) = T at *
    generalize sureF n.heads ls = SU at *
    generalize mayF n.heads ls = MA at *
    simp only [encNet, cNet, lackV] at hgt
    refine AW_lstG g5 fun f' H' f5 fs Hs => ?_
    refine AW_lstG (t := 4) (k := 62) (L := SU) (by rw [fs _ (by decide)]; exact g4.same (Hs _ (by decide))) fun f2 H2 f4 fs2 Hs2 => ?_
    have w5 := (fs2 5 (by decide)).trans f5
    have w2 := ((fs2 2 (by decide)).trans (fs 2 (by decide))).trans h2
    have w6 := ((fs2 6 (by decide)).trans (fs 6 (by decide))).trans h6
    have q6 := ((Hs2 6 (by decide)).trans (Hs 6 (by decide))).trans g6
    clear fs fs2 Hs Hs2 f5 h2 h6 g6 g4 g5
    repeat' (first | (with_reducible refine sk ?_; intro K hK) | ((first | (with_reducible first | refine rg (md := { base := 0, own := [6, 10, 55, 62], fz := [67] }) (h := ?_) | refine rgS [6, 10] (md := { base := 0, own := [6, 10, 55, 62], fz := [67] }) (h := ?_) | refine nx ?_) | refine pK (hgt) ?_); try simp (disch := omega) only [f4, w5, w2, w6, q6, cNet, lackV,go_sem, simprocAttr]) | (with_reducible refine bk ?_) | ((with_reducible refine' cE ?hv ?_ ?_); (case hv => first | rfl | (simp only [f4, w5, w2, w6, q6, cNet, lackV,go_sem, simprocAttr]; rfl)); all_goals (intro hc; (try simp only [go_sem, simprocAttr] at hc); try (exfalso; omega))) | ((with_reducible refine fe ?_); refine ⟨_, (by simp only [Try.f33, f4, w5, w2, w6, q6, cNet, lackV,go_sem, simprocAttr]; rfl), ?_⟩; first | rfl | (try simp only [f4, w5, w2, w6, q6, cNet, lackV,go_sem, simprocAttr, seval])) | with_reducible intro (ep : Nat → Nat) | with_reducible apply_assumption -exfalso -symm only [*])
   clear hK
   repeat' (first | (with_reducible refine sk ?_; intro K hK) | ((with_reducible first | refine rg (md := { base := 0, own := [6, 10, 55, 62], fz := [67] }) (h := ?_) | refine rgS [6, 10] (md := { base := 0, own := [6, 10, 55, 62], fz := [67] }) (h := ?_) | refine nx ?_); try simp (disch := omega) only [go_sem, simprocAttr]) | (with_reducible refine bk ?_) | ((with_reducible refine' cE ?hv ?_ ?_); (case hv => first | rfl | (simp only [go_sem, simprocAttr]; rfl)); all_goals (intro hc; (try simp only [go_sem, simprocAttr] at hc); try (exfalso; omega))) | with_reducible intro (ep : Nat → Nat) | with_reducible apply_assumption -exfalso -symm only [*])
   refine AW_range tabOK n.heads.length (fun k f H => ∃ e6, (f 1 = .lst 1 (ls.map cInts) ∧ f 2 = .pim (cNet n) ∧ f 6 = .ptr 6 e6 3 0 0 ∧ f 28 = .lst 8 (n.heads.map cHead)) ∧ H 6 = some (e6, .arr 3 [[.int .u8 0, .int .i64 0, .nils]]) ∧ LstG 62 (sureF (n.heads.take k) (ls.take k)) (f 4) H ∧ LstG 55 (mayF (n.heads.take k) (ls.take k)) (f 5) H ∧ (ls.take k).all heatOK = true) (by omega) (by rw [hXs]; decide) (by decide) (by (first | rfl | (simp only [go_sem, simprocAttr]; done) | (simp only [go_sem, simprocAttr]; rfl))) (by (first | rfl | (simp only [go_sem, simprocAttr]; done) | (simp only [go_sem, simprocAttr]; rfl)))
    ⟨_, by (and_intros <;> first | rfl | (simp only [cNet, go_sem, simprocAttr]; done) | (simp only [cNet, go_sem, simprocAttr]; rfl)), by (first | rfl | (simp only [go_sem, simprocAttr]; done) | (simp only [go_sem, simprocAttr]; rfl)), .inl ⟨rfl, rfl⟩, .inl ⟨rfl, rfl⟩, rfl⟩ ?_ ?_
   ·clear hcut
    rintro k f H hk h30 h29 ⟨e6, ⟨h1, h2, h6, h28⟩, g6, g4, g5, hall⟩
    obtain ⟨x, hx⟩ : ∃ x, n.heads[k]? = some x := ⟨_, List.getElem?_eq_getElem hk⟩
    obtain ⟨l, hlk⟩ : ∃ l, ls[k]? = some l := ⟨_, List.getElem?_eq_getElem (by omega)⟩
    have hxm := List.mem_of_getElem? hx
    have hlm := List.mem_of_getElem? hlk
    have hb := hbu x hxm l (hl l hlm)
    have htk := take_snoc' hlk
    have hms := mayF_snoc hx hlk
    have hss := sureF_snoc hx hlk
    have hsl : (sureF (n.heads.take k) (ls.take k)).length ≤ 100000 := by
     have h1 := (sureF_sub (n.heads.take k) (ls.take k)).length_le
     simp only [List.length_map, List.length_take] at h1; omega
    have hml : (mayF (n.heads.take k) (ls.take k)).length ≤ 100000 := by
     have h1 := (mayF_sub (n.heads.take k) (ls.take k)).length_le
     simp only [List.length_map, List.length_take] at h1; omega
    unfold burstsT at hb
    rw [if_pos (made_net hF hxm)] at hb
    generalize sureF (n.heads.take k) (ls.take k) = SU at *
    generalize mayF (n.heads.take k) (ls.take k) = MA at *
    have hc : [Val.lst 1 (ints l)] = cInts l := rfl
    refine AW_keep [6, 55, 62] ?_
    have k6 : keep H [6, 55, 62] 6 = some (e6, .arr 3 [[.int .u8 0, .int .i64 0, .nils]]) := g6
    have k10 : keep H [6, 55, 62] 10 = none := rfl
    have k4 : LstG 62 SU (f 4) (keep H [6, 55, 62]) := g4.same rfl
    have k5 : LstG 55 MA (f 5) (keep H [6, 55, 62]) := g5.same rfl
    generalize keep H [6, 55, 62] = H2 at k6 k10 k4 k5 ⊢
    clear g6 g4 g5
    simp only [encHead, cHead] at hb
    cases hh : heatOK l with
    | false =>
     rw [hh] at hb
     simp only [Bool.false_eq_true, if_false] at hb
     have hfa : ls.all heatOK = false := List.all_eq_false.2 ⟨l, hlm, by rw [hh]; simp⟩
     rw [hfa]
     simp only [Bool.false_eq_true, if_false]
     repeat' (first | (with_reducible refine sk ?_; intro K hK) | ((first | (with_reducible first | refine rg (md := { base := 0, own := [6, 10, 55, 62], fz := [67] }) (h := ?_) | refine rgS [6, 10] (md := { base := 0, own := [6, 10, 55, 62], fz := [67] }) (h := ?_) | refine nx ?_) | refine pK (hb) ?_); try simp (disch := omega) only [h1, h2, h6, h28, h29, h30, k6, k10, hx, hlk, cHead, cInts, lackN,go_sem, simprocAttr]) | (with_reducible refine bk ?_) | ((with_reducible refine' cE ?hv ?_ ?_); (case hv => first | rfl | (simp only [h1, h2, h6, h28, h29, h30, k6, k10, hx, hlk, cHead, cInts, lackN,go_sem, simprocAttr]; rfl)); all_goals (intro hc; (try simp only [go_sem, simprocAttr] at hc); try (exfalso; omega))) | ((with_reducible refine fe ?_); refine ⟨_, (by simp only [Try.f33, h1, h2, h6, h28, h29, h30, k6, k10, hx, hlk, cHead, cInts, lackN,go_sem, simprocAttr]; rfl), ?_⟩; first | rfl | (try simp only [h1, h2, h6, h28, h29, h30, k6, k10, hx, hlk, cHead, cInts, lackN,go_sem, simprocAttr, seval])) | with_reducible intro (ep : Nat → Nat) | with_reducible apply_assumption -exfalso -symm only [*])
    | true =>
     rw [hh] at hb
     simp only [if_true] at hb
     have hta : (ls.take (k + 1)).all heatOK = true := by rw [htk, List.all_append, hall]; simp [hh]
     obtain ⟨b1, hb1⟩ : ∃ b, burstS l x.bulb.lo x.slow.lo = b := ⟨_, rfl⟩
     obtain ⟨b2, hb2⟩ : ∃ b, burstS l x.bulb.hi x.slow.hi = b := ⟨_, rfl⟩
     rw [hb1] at hb hms
     rw [hb2] at hb hss
     have hxc : cHead x = [.int .i64 x.id, .int .i64 x.node, .int .i64 x.need, .int .i64 x.least, .int .i64 x.bulb.lo, .int .i64 x.bulb.hi, .int .i64 x.slow.lo, .int .i64 x.slow.hi] := rfl
     repeat' (first | ((fail_if_success (with_reducible refine AW_at (id := 12) ?_)); with_reducible refine sk ?_; intro K hK) | ((first | (with_reducible first | refine rg (md := { base := 0, own := [6, 10, 55, 62], fz := [67] }) (h := ?_) | refine rgS [6, 10] (md := { base := 0, own := [6, 10, 55, 62], fz := [67] }) (h := ?_) | refine nx ?_) | refine pK (hb) ?_); try simp (disch := omega) only [h1, h2, h6, h28, h29, h30, k6, k10, hx, hlk, cHead, cInts,go_sem, simprocAttr]) | (with_reducible refine bk ?_) | ((with_reducible refine' cE ?hv ?_ ?_); (case hv => first | rfl | (simp only [h1, h2, h6, h28, h29, h30, k6, k10, hx, hlk, cHead, cInts,go_sem, simprocAttr]; rfl)); all_goals (intro hc; (try simp only [go_sem, simprocAttr] at hc); try (exfalso; omega))) | with_reducible intro (ep : Nat → Nat) | with_reducible apply_assumption -exfalso -symm only [*])
     have hcutM : ∀ f H, (∃ e10, (f 1 = .lst 1 (ls.map cInts) ∧ f 2 = .pim (cNet n) ∧ f 6 = .ptr 6 e6 3 0 0 ∧ f 10 = .ptr 10 e10 8 0 0 ∧ f 12 = .int .i64 b2 ∧ f 28 = .lst 8 (n.heads.map cHead) ∧ f 29 = .int .i64 n.heads.length ∧ f 30 = .int .i64 k) ∧ H 6 = some (e6, .arr 3 [[.int .u8 0, .int .i64 0, .nils]]) ∧ H 10 = some (e10, .arr 8 [cHead x]) ∧ LstG 62 SU (f 4) H ∧ LstG 55 (MA ++ (if 0 < b1 then [x.id] else [])) (f 5) H) → K f H := by
      clear h1 h2 h6 h28 h29 h30 k6 k10 k4 k5
      rintro f H ⟨e10, ⟨h1, h2, h6, h10, h12, h28, h29, h30⟩, k6, k10, k4, k5⟩
      refine hK f H ?_
      clear hK
      rw [← hms] at k5
      by_cases hp : 0 < b2
      ·rw [if_pos hp] at hss
       rcases k4 with ⟨rfl, h4⟩ | ⟨hne, ea, h4, k62⟩
       ·refine AW_lose 62 fun H3 g62 hs3 => ?_
        have q6 := (hs3 6 (by decide)).trans k6
        have q10 := (hs3 10 (by decide)).trans k10
        have q5 := k5.same (hs3 55 (by decide))
        clear hs3 k6 k10 k5
        repeat' (first | (with_reducible refine sk ?_; intro K hK) | ((with_reducible first | refine rg (md := { base := 0, own := [6, 10, 55, 62], fz := [67] }) (h := ?_) | refine rgS [6, 10] (md := { base := 0, own := [6, 10, 55, 62], fz := [67] }) (h := ?_) | refine nx ?_); try simp (disch := omega) only [h1, h2, h4, h6, h10, h12, h28, h29, h30, q6, q10, g62, hp, hxc,go_sem, simprocAttr]) | (with_reducible refine bk ?_) | ((with_reducible refine' cE ?hv ?_ ?_); (case hv => first | rfl | (simp only [h1, h2, h4, h6, h10, h12, h28, h29, h30, q6, q10, g62, hp, hxc,go_sem, simprocAttr]; rfl)); all_goals (intro hc; (try simp only [go_sem, simprocAttr] at hc); try (exfalso; omega))) | with_reducible intro (ep : Nat → Nat) | with_reducible apply_assumption -exfalso -symm only [*])
        exact ⟨e6, by (and_intros <;> first | rfl | (simp only [h1, h2, h6, h28, go_sem, simprocAttr]; done) | (simp only [h1, h2, h6, h28, go_sem, simprocAttr]; rfl)), by (first | rfl | (simp only [q6, go_sem, simprocAttr]; done) | (simp only [q6, go_sem, simprocAttr]; rfl)), .inr ⟨by rw [hss]; simp, _, by rw [hss]; rfl, by rw [hss]; (first | rfl | (simp only [go_sem, simprocAttr]; done) | (simp only [go_sem, simprocAttr]; rfl))⟩, by exact q5.same (by (first | rfl | (simp only [go_sem, simprocAttr]; done) | (simp only [go_sem, simprocAttr]; rfl))), hta⟩
       ·have hkb : SU.length ≤ 1073741823 := by omega
        repeat' (first | (with_reducible refine sk ?_; intro K hK) | ((with_reducible first | refine rg (md := { base := 0, own := [6, 10, 55, 62], fz := [67] }) (h := ?_) | refine rgS [6, 10] (md := { base := 0, own := [6, 10, 55, 62], fz := [67] }) (h := ?_) | refine nx ?_); try simp (disch := omega) only [h1, h2, h4, h6, h10, h12, h28, h29, h30, k6, k10, k62, hp, hkb, hxc,go_sem, simprocAttr]) | (with_reducible refine bk ?_) | ((with_reducible refine' cE ?hv ?_ ?_); (case hv => first | rfl | (simp only [h1, h2, h4, h6, h10, h12, h28, h29, h30, k6, k10, k62, hp, hkb, hxc,go_sem, simprocAttr]; rfl)); all_goals (intro hc; (try simp only [go_sem, simprocAttr] at hc); try (exfalso; omega))) | with_reducible intro (ep : Nat → Nat) | with_reducible apply_assumption -exfalso -symm only [*])
        exact ⟨e6, rfl, rfl, by rw [hss]; exact .snoc (upd_same _ _ _), k5.same (upd_ne _ _ (by decide)), hta⟩
      ·rw [if_neg hp, List.append_nil] at hss
       repeat' (first | (with_reducible refine sk ?_; intro K hK) | ((with_reducible first | refine rg (md := { base := 0, own := [6, 10, 55, 62], fz := [67] }) (h := ?_) | refine rgS [6, 10] (md := { base := 0, own := [6, 10, 55, 62], fz := [67] }) (h := ?_) | refine nx ?_); try simp (disch := omega) only [h1, h2, h6, h10, h12, h28, h29, h30, k6, k10, hp,go_sem, simprocAttr]) | (with_reducible refine bk ?_) | ((with_reducible refine' cE ?hv ?_ ?_); (case hv => first | rfl | (simp only [h1, h2, h6, h10, h12, h28, h29, h30, k6, k10, hp,go_sem, simprocAttr]; rfl)); all_goals (intro hc; (try simp only [go_sem, simprocAttr] at hc); try (exfalso; omega))) | with_reducible intro (ep : Nat → Nat) | with_reducible apply_assumption -exfalso -symm only [*])
       exact ⟨e6, by (and_intros <;> first | rfl | (simp only [h1, h2, h6, h28, go_sem, simprocAttr]; done) | (simp only [h1, h2, h6, h28, go_sem, simprocAttr]; rfl)), by (first | rfl | (simp only [k6, go_sem, simprocAttr]; done) | (simp only [k6, go_sem, simprocAttr]; rfl)), by rw [hss]; exact k4, k5, hta⟩
     clear hK
     generalize hfB : (upd _ _ _ : Fr) = fB
     generalize hHB : (upd _ _ _ : Hp) = HB
     obtain ⟨e10, a1, a2, a6, a10, a11, a12, a28, a29, a30, B6, B10, B4, B5⟩ : ∃ e10, fB 1 = .lst 1 (ls.map cInts) ∧ fB 2 = .pim (cNet n) ∧ fB 6 = .ptr 6 e6 3 0 0 ∧ fB 10 = .ptr 10 e10 8 0 0 ∧ fB 11 = .int .i64 b1 ∧ fB 12 = .int .i64 b2 ∧ fB 28 = .lst 8 (n.heads.map cHead) ∧ fB 29 = .int .i64 n.heads.length ∧ fB 30 = .int .i64 k ∧ HB 6 = some (e6, .arr 3 [[.int .u8 0, .int .i64 0, .nils]]) ∧ HB 10 = some (e10, .arr 8 [cHead x]) ∧ LstG 62 SU (fB 4) HB ∧ LstG 55 MA (fB 5) HB := by
      rw [← hfB, ← hHB]
      refine ⟨_, by (first | rfl | (simp only [h1, go_sem, simprocAttr]; done) | (simp only [h1, go_sem, simprocAttr]; rfl)), by (first | rfl | (simp only [h2, go_sem, simprocAttr]; done) | (simp only [h2, go_sem, simprocAttr]; rfl)), by (first | rfl | (simp only [h6, go_sem, simprocAttr]; done) | (simp only [h6, go_sem, simprocAttr]; rfl)), rfl, rfl, rfl, by (first | rfl | (simp only [h28, go_sem, simprocAttr]; done) | (simp only [h28, go_sem, simprocAttr]; rfl)), by (first | rfl | (simp only [h29, go_sem, simprocAttr]; done) | (simp only [h29, go_sem, simprocAttr]; rfl)), by (first | rfl | (simp only [h30, go_sem, simprocAttr]; done) | (simp only [h30, go_sem, simprocAttr]; rfl)), by (first | rfl | (simp only [k6, go_sem, simprocAttr]; done) | (simp only [k6, go_sem, simprocAttr]; rfl)), rfl, by exact k4.same (by (first | rfl | (simp only [go_sem, simprocAttr]; done) | (simp only [go_sem, simprocAttr]; rfl))), by exact k5.same (by (first | rfl | (simp only [go_sem, simprocAttr]; done) | (simp only [go_sem, simprocAttr]; rfl)))⟩
     clear hfB hHB h1 h2 h6 h28 h29 h30 k6 k10 k4 k5
     by_cases hp : 0 < b1
     ·rw [if_pos hp] at hcutM
      rcases B5 with ⟨rfl, h5⟩ | ⟨hne, ea, h5, k55⟩
      ·refine AW_lose 55 fun H3 g55 hs3 => ?_
       have q6 := (hs3 6 (by decide)).trans B6
       have q10 := (hs3 10 (by decide)).trans B10
       have q4 := B4.same (hs3 62 (by decide))
       clear hs3 B6 B10 B4
       repeat' (first | (with_reducible refine sk ?_; intro K hK) | ((with_reducible first | refine rg (md := { base := 0, own := [6, 10, 55, 62], fz := [67] }) (h := ?_) | refine rgS [6, 10] (md := { base := 0, own := [6, 10, 55, 62], fz := [67] }) (h := ?_) | refine nx ?_); try simp (disch := omega) only [a1, a2, h5, a6, a10, a11, a12, a28, a29, a30, q6, q10, g55, hp, hxc,go_sem, simprocAttr]) | (with_reducible refine bk ?_) | ((with_reducible refine' cE ?hv ?_ ?_); (case hv => first | rfl | (simp only [a1, a2, h5, a6, a10, a11, a12, a28, a29, a30, q6, q10, g55, hp, hxc,go_sem, simprocAttr]; rfl)); all_goals (intro hc; (try simp only [go_sem, simprocAttr] at hc); try (exfalso; omega))) | with_reducible intro (ep : Nat → Nat) | with_reducible apply_assumption -exfalso -symm only [*])
       exact ⟨e10, by (and_intros <;> first | rfl | (simp only [a1, a2, a6, a10, a12, a28, a29, a30, go_sem, simprocAttr]; done) | (simp only [a1, a2, a6, a10, a12, a28, a29, a30, go_sem, simprocAttr]; rfl)), by (first | rfl | (simp only [q6, go_sem, simprocAttr]; done) | (simp only [q6, go_sem, simprocAttr]; rfl)), by (first | rfl | (simp only [q10, hxc, go_sem, simprocAttr]; done) | (simp only [q10, hxc, go_sem, simprocAttr]; rfl)), q4.same (by (first | rfl | (simp only [go_sem, simprocAttr]; done) | (simp only [go_sem, simprocAttr]; rfl))), .one (by (first | rfl | (simp only [go_sem, simprocAttr]; done) | (simp only [go_sem, simprocAttr]; rfl)))⟩
      ·have hkb : MA.length ≤ 1073741823 := by omega
       repeat' (first | (with_reducible refine sk ?_; intro K hK) | ((with_reducible first | refine rg (md := { base := 0, own := [6, 10, 55, 62], fz := [67] }) (h := ?_) | refine rgS [6, 10] (md := { base := 0, own := [6, 10, 55, 62], fz := [67] }) (h := ?_) | refine nx ?_); try simp (disch := omega) only [a1, a2, h5, a6, a10, a11, a12, a28, a29, a30, B6, B10, k55, hkb, hp, hxc,go_sem, simprocAttr]) | (with_reducible refine bk ?_) | ((with_reducible refine' cE ?hv ?_ ?_); (case hv => first | rfl | (simp only [a1, a2, h5, a6, a10, a11, a12, a28, a29, a30, B6, B10, k55, hkb, hp, hxc,go_sem, simprocAttr]; rfl)); all_goals (intro hc; (try simp only [go_sem, simprocAttr] at hc); try (exfalso; omega))) | with_reducible intro (ep : Nat → Nat) | with_reducible apply_assumption -exfalso -symm only [*])
       exact ⟨e10, by (and_intros <;> first | rfl | (simp only [a1, a2, a6, a10, a12, a28, a29, a30, go_sem, simprocAttr]; done) | (simp only [a1, a2, a6, a10, a12, a28, a29, a30, go_sem, simprocAttr]; rfl)), by (first | rfl | (simp only [B6, go_sem, simprocAttr]; done) | (simp only [B6, go_sem, simprocAttr]; rfl)), by (first | rfl | (simp only [B10, hxc, go_sem, simprocAttr]; done) | (simp only [B10, hxc, go_sem, simprocAttr]; rfl)), B4.same (by (first | rfl | (simp only [go_sem, simprocAttr]; done) | (simp only [go_sem, simprocAttr]; rfl))), .snoc (by (first | rfl | (simp only [go_sem, simprocAttr]; done) | (simp only [go_sem, simprocAttr]; rfl)))⟩
     ·rw [if_neg hp, List.append_nil] at hcutM
      repeat' (first | (with_reducible refine sk ?_; intro K hK) | ((with_reducible first | refine rg (md := { base := 0, own := [6, 10, 55, 62], fz := [67] }) (h := ?_) | refine rgS [6, 10] (md := { base := 0, own := [6, 10, 55, 62], fz := [67] }) (h := ?_) | refine nx ?_); try simp (disch := omega) only [a1, a2, a6, a10, a11, a12, a28, a29, a30, B6, B10, hp, hxc,go_sem, simprocAttr]) | (with_reducible refine bk ?_) | ((with_reducible refine' cE ?hv ?_ ?_); (case hv => first | rfl | (simp only [a1, a2, a6, a10, a11, a12, a28, a29, a30, B6, B10, hp, hxc,go_sem, simprocAttr]; rfl)); all_goals (intro hc; (try simp only [go_sem, simprocAttr] at hc); try (exfalso; omega))) | with_reducible intro (ep : Nat → Nat) | with_reducible apply_assumption -exfalso -symm only [*])
      exact ⟨e10, by (and_intros <;> first | rfl | (simp only [a1, a2, a6, a10, a12, a28, a29, a30, go_sem, simprocAttr]; done) | (simp only [a1, a2, a6, a10, a12, a28, a29, a30, go_sem, simprocAttr]; rfl)), by (first | rfl | (simp only [B6, go_sem, simprocAttr]; done) | (simp only [B6, go_sem, simprocAttr]; rfl)), by (first | rfl | (simp only [B10, hxc, go_sem, simprocAttr]; done) | (simp only [B10, hxc, go_sem, simprocAttr]; rfl)), B4, B5⟩
   ·rintro f H h30 h29 ⟨e6, ⟨h1, h2, h6, h28⟩, g6, g4, g5, hall⟩
    rw [List.take_of_length_le (Nat.le_refl _), List.take_of_length_le (by omega)] at g4 g5
    rw [List.take_of_length_le (by omega)] at hall
    exact hcut e6 _ _ ⟨by (and_intros <;> first | rfl | (simp only [h2, h6, go_sem, simprocAttr]; done) | (simp only [h2, h6, go_sem, simprocAttr]; rfl)), g6, by (first | rfl | (simp only [g4, go_sem, simprocAttr]; done) | (simp only [g4, go_sem, simprocAttr]; rfl)), by (first | rfl | (simp only [g5, go_sem, simprocAttr]; done) | (simp only [g5, go_sem, simprocAttr]; rfl)), hall⟩
  ·have hlen' : ¬ (ls.length : Int) = n.heads.length := by omega
   simp only [if_true, hlen, if_false]
   repeat' (first | (with_reducible refine sk ?_; intro K hK) | ((first | (with_reducible first | refine rg (md := { base := 0, own := [6, 10, 55, 62], fz := [67] }) (h := ?_) | refine rgS [6, 10] (md := { base := 0, own := [6, 10, 55, 62], fz := [67] }) (h := ?_) | refine nx ?_) | refine pK (hck) ?_); try simp (disch := omega) only [encNet, cNet, lackN, hlen',go_sem, simprocAttr]) | (with_reducible refine bk ?_) | ((with_reducible refine' cE ?hv ?_ ?_); (case hv => first | rfl | (simp only [encNet, cNet, lackN, hlen',go_sem, simprocAttr]; rfl)); all_goals (intro hc; (try simp only [go_sem, simprocAttr] at hc); try (exfalso; omega))) | ((with_reducible refine fe ?_); refine ⟨_, (by simp only [Try.f33, encNet, cNet, lackN, hlen',go_sem, simprocAttr]; rfl), ?_⟩; first | rfl | (try simp only [encNet, cNet, lackN, hlen',go_sem, simprocAttr, seval])) | with_reducible intro (ep : Nat → Nat) | with_reducible apply_assumption -exfalso -symm only [*])
end Cp
namespace Cp
open Go Go.Proofs
set_option maxRecDepth 10000
set_option maxHeartbeats 4000000
theorem Fire_ok (n : NetT) (hs : NetS n) (ls : List (List Int)) (hll : ls.length ≤ 100000) (hl : ∀ l ∈ ls, l.length ≤ 100000) : PureC Try.prog 33 [encNet n, .lst 1 (ls.map cInts)] (fireD (.lst 1 []) (lackV lackZ) n ls) := by
 refine (Fire_ok0 n hs ls hll hl).weak ?_ fun G w x h => ?_
 ·unfold fireD; split <;> (try split) <;> (try split) <;> (simp only [noid, noids, noidss, lackV_noid, go_sem, simprocAttr]; rfl)
 ·have key : ∀ e, VR G w (.tup [.nils, .nils, lackN, .int .i64 e]) x → VR G w (.tup [.lst 1 [], .lst 1 [], lackV lackZ, .int .i64 e]) x := fun e h => by
   refine VR.tup_imp (vs := [.nils, .nils, lackN, .int .i64 e]) rfl (fun i v v' h1 h2 y hy => ?_) h
   match i, h1, h2 with
   | 0, h1, h2 => cases h1; cases h2; exact hy.nils_lst 1
   | 1, h1, h2 => cases h1; cases h2; exact hy.nils_lst 1
   | 2, h1, h2 => cases h1; cases h2; exact hy.agg3_nils
   | 3, h1, h2 => cases h1; cases h2; exact hy
  unfold fireD at h ⊢
  split
  ·rename_i hN
   rw [if_pos hN] at h
   split
   ·rename_i hO
    rw [if_pos hO] at h
    split
    ·rename_i hA
     rw [if_pos hA] at h
     exact h
    ·rename_i hA
     rw [if_neg hA] at h
     exact key _ h
   ·rename_i hO
    rw [if_neg hO] at h
    exact key _ h
  ·rename_i hN
   rw [if_neg hN] at h
   exact key _ h
theorem lack_eq {a b : LackT} : a = b ↔ a.known = b.known ∧ a.head = b.head ∧ a.out = b.out := by cases a; cases b; simp
theorem sameLacks_ok (a b : LackT) (ha : a.out.length ≤ 100000) : PureC Try.prog 30 [lackV a, lackV b] (.bool (decide (a = b))) := by
 have hsi := sameInts_ok a.out b.out (by omega)
 have hd : decide (a = b) = (decide (a.known = b.known) && decide (a.head = b.head) && decide (a.out = b.out)) := by
  rw [dec_congr lack_eq]; simp [Bool.and_assoc]
 rw [hd]
 refine PureC_of (fn := Try.f30) tabOK (by kernel_rfl) rfl (by kernel_rfl) (by simp [Try.f30]) (by simp [noids, noid, noidss, go_sem, lackV]) (by first | rfl | simp [noids, noid, noidss, go_sem, lackV]) ?_
 intro X hX0 hXs
 by_cases h1 : a.known = b.known
 ·by_cases h2 : a.head = b.head
  ·repeat' (first | (with_reducible refine sk ?_; intro K hK) | ((first | (with_reducible first | refine rg (h := ?_) | refine nx ?_) | refine pK (hsi) ?_); try simp (disch := omega) only [lackV, h1, h2, decide_true, Bool.true_and,go_sem, simprocAttr]) | (with_reducible refine bk ?_) | ((with_reducible refine' cE ?hv ?_ ?_); (case hv => first | rfl | (simp only [lackV, h1, h2, decide_true, Bool.true_and,go_sem, simprocAttr]; rfl)); all_goals (intro hc; (try simp only [go_sem, simprocAttr] at hc); try (exfalso; omega))) | ((with_reducible first | refine grdS_split ?_ ?_ | refine lkG_split ?_ ?_) <;> intro hg <;> (try simp (disch := omega) only [hg, lackV, h1, h2, decide_true, Bool.true_and,go_sem, simprocAttr]) <;> (try simp only [go_sem, simprocAttr] at hg) <;> (try (exfalso; omega))) | ((with_reducible refine fe ?_); refine ⟨_, (by simp only [Try.f30, lackV, h1, h2, decide_true, Bool.true_and,go_sem, simprocAttr]; rfl), ?_⟩; first | rfl | (try simp only [lackV, h1, h2, decide_true, Bool.true_and,go_sem, simprocAttr, seval])) | with_reducible intro (ep : Nat → Nat) | with_reducible apply_assumption -exfalso -symm only [*])
  ·repeat' (first | (with_reducible refine sk ?_; intro K hK) | ((first | (with_reducible first | refine rg (h := ?_) | refine nx ?_) | refine pK (hsi) ?_); try simp (disch := omega) only [lackV, h1, h2, decide_true, Bool.true_and, decide_false, Bool.false_and,go_sem, simprocAttr]) | (with_reducible refine bk ?_) | ((with_reducible refine' cE ?hv ?_ ?_); (case hv => first | rfl | (simp only [lackV, h1, h2, decide_true, Bool.true_and, decide_false, Bool.false_and,go_sem, simprocAttr]; rfl)); all_goals (intro hc; (try simp only [go_sem, simprocAttr] at hc); try (exfalso; omega))) | ((with_reducible first | refine grdS_split ?_ ?_ | refine lkG_split ?_ ?_) <;> intro hg <;> (try simp (disch := omega) only [hg, lackV, h1, h2, decide_true, Bool.true_and, decide_false, Bool.false_and,go_sem, simprocAttr]) <;> (try simp only [go_sem, simprocAttr] at hg) <;> (try (exfalso; omega))) | ((with_reducible refine fe ?_); refine ⟨_, (by simp only [Try.f30, lackV, h1, h2, decide_true, Bool.true_and, decide_false, Bool.false_and,go_sem, simprocAttr]; rfl), ?_⟩; first | rfl | (try simp only [lackV, h1, h2, decide_true, Bool.true_and, decide_false, Bool.false_and,go_sem, simprocAttr, seval])) | with_reducible intro (ep : Nat → Nat) | with_reducible apply_assumption -exfalso -symm only [*])
 ·repeat' (first | (with_reducible refine sk ?_; intro K hK) | ((first | (with_reducible first | refine rg (h := ?_) | refine nx ?_) | refine pK (hsi) ?_); try simp (disch := omega) only [lackV, h1, decide_false, Bool.false_and,go_sem, simprocAttr]) | (with_reducible refine bk ?_) | ((with_reducible refine' cE ?hv ?_ ?_); (case hv => first | rfl | (simp only [lackV, h1, decide_false, Bool.false_and,go_sem, simprocAttr]; rfl)); all_goals (intro hc; (try simp only [go_sem, simprocAttr] at hc); try (exfalso; omega))) | ((with_reducible first | refine grdS_split ?_ ?_ | refine lkG_split ?_ ?_) <;> intro hg <;> (try simp (disch := omega) only [hg, lackV, h1, decide_false, Bool.false_and,go_sem, simprocAttr]) <;> (try simp only [go_sem, simprocAttr] at hg) <;> (try (exfalso; omega))) | ((with_reducible refine fe ?_); refine ⟨_, (by simp only [Try.f30, lackV, h1, decide_false, Bool.false_and,go_sem, simprocAttr]; rfl), ?_⟩; first | rfl | (try simp only [lackV, h1, decide_false, Bool.false_and,go_sem, simprocAttr, seval])) | with_reducible intro (ep : Nat → Nat) | with_reducible apply_assumption -exfalso -symm only [*])
end Cp
namespace Cp
open Go
def badM (n : NetT) (o : List Int) : Bool := decide (¬ (getsS n (openH n.heads o)).known = 2)
structure MostF (n : NetT) (s : Int × List Int) : Prop where
 cases : (s.1 = n.heads.length ∧ s.2 = []) ∨ (openOK n.heads s.2 = true ∧ badM n s.2 = true ∧ s.1 = (s.2.length : Int) - 1 ∧ ¬ s.2 = [])
 least : ∀ o, openOK n.heads o = true → badM n o = true → ¬ s.2 = [] ∧ (o = s.2 ∨ befO s.2 o)
end Cp
namespace Cp
open Go Go.Proofs
set_option maxRecDepth 10000
set_option maxHeartbeats 4000000
end Cp
namespace Cp
open Go Go.Proofs
set_option maxRecDepth 10000
set_option maxHeartbeats 4000000
end Cp
namespace Cp
open Go Go.Proofs
set_option maxRecDepth 10000
set_option maxHeartbeats 4000000
end Cp
namespace Cp
open Go Go.Proofs
def routV (np o : Nat) : Val := .lst 1 ((outsL np o).map fun l => [outV l])
section
variable (A B t1 t2 t3 : Val) (p0 p1 p2 p3 : List Val)
abbrev ntArg (A B t1 t2 t3 : Val) (ps : List (List Val)) (o : Int) : Val := .agg [A, B, .lst 3 ps, .int .i64 o, t1, t2, t3]
theorem routs_10 (h : noids [ntArg A B t1 t2 t3 [p0] 0] = true) : PureC Try.prog 97 [ntArg A B t1 t2 t3 [p0] 0] (routV 1 0) := run_all (n := 400) tabOK mix look_ok h (by rfl) (by kernel_rfl)
theorem routs_20 (h : noids [ntArg A B t1 t2 t3 [p0, p1] 0] = true) : PureC Try.prog 97 [ntArg A B t1 t2 t3 [p0, p1] 0] (routV 2 0) := run_all (n := 400) tabOK mix look_ok h (by rfl) (by kernel_rfl)
theorem routs_21 (h : noids [ntArg A B t1 t2 t3 [p0, p1] 1] = true) : PureC Try.prog 97 [ntArg A B t1 t2 t3 [p0, p1] 1] (routV 2 1) := run_all (n := 400) tabOK mix look_ok h (by rfl) (by kernel_rfl)
theorem routs_30 (h : noids [ntArg A B t1 t2 t3 [p0, p1, p2] 0] = true) : PureC Try.prog 97 [ntArg A B t1 t2 t3 [p0, p1, p2] 0] (routV 3 0) := run_all (n := 400) tabOK mix look_ok h (by rfl) (by kernel_rfl)
theorem routs_31 (h : noids [ntArg A B t1 t2 t3 [p0, p1, p2] 1] = true) : PureC Try.prog 97 [ntArg A B t1 t2 t3 [p0, p1, p2] 1] (routV 3 1) := run_all (n := 400) tabOK mix look_ok h (by rfl) (by kernel_rfl)
theorem routs_32 (h : noids [ntArg A B t1 t2 t3 [p0, p1, p2] 2] = true) : PureC Try.prog 97 [ntArg A B t1 t2 t3 [p0, p1, p2] 2] (routV 3 2) := run_all (n := 400) tabOK mix look_ok h (by rfl) (by kernel_rfl)
theorem routs_40 (h : noids [ntArg A B t1 t2 t3 [p0, p1, p2, p3] 0] = true) : PureC Try.prog 97 [ntArg A B t1 t2 t3 [p0, p1, p2, p3] 0] (routV 4 0) := run_all (n := 400) tabOK mix look_ok h (by rfl) (by kernel_rfl)
theorem routs_41 (h : noids [ntArg A B t1 t2 t3 [p0, p1, p2, p3] 1] = true) : PureC Try.prog 97 [ntArg A B t1 t2 t3 [p0, p1, p2, p3] 1] (routV 4 1) := run_all (n := 400) tabOK mix look_ok h (by rfl) (by kernel_rfl)
theorem routs_42 (h : noids [ntArg A B t1 t2 t3 [p0, p1, p2, p3] 2] = true) : PureC Try.prog 97 [ntArg A B t1 t2 t3 [p0, p1, p2, p3] 2] (routV 4 2) := run_all (n := 400) tabOK mix look_ok h (by rfl) (by kernel_rfl)
theorem routs_43 (h : noids [ntArg A B t1 t2 t3 [p0, p1, p2, p3] 3] = true) : PureC Try.prog 97 [ntArg A B t1 t2 t3 [p0, p1, p2, p3] 3] (routV 4 3) := run_all (n := 400) tabOK mix look_ok h (by rfl) (by kernel_rfl)
end
theorem VR.outsL {G : Gh} {w : World} {L : List (List Int)} {x : Value} (h : VR G w (.lst 1 (L.map fun l => [Cp.outV l])) x) : VR G w (.lst 1 (L.map fun l => [.lst 1 (ints l)])) x := by
 have key : ∀ (i : Nat) (es : List Val), (L.map fun l => [Val.lst 1 (ints l)])[i]? = some es → ∃ l, es = [.lst 1 (ints l)] ∧ (L.map fun l => [Cp.outV l])[i]? = some [Cp.outV l] := by
  intro i es hi
  rw [List.getElem?_map, Option.map_eq_some_iff] at hi
  obtain ⟨l, hl, rfl⟩ := hi
  exact ⟨l, rfl, by rw [List.getElem?_map, hl]; rfl⟩
 cases h with
 | lst _ _ a cap ys hcap hsz ha hcc hv =>
  have e : (L.map fun l => [Cp.outV l]).length = (L.map fun l => [Val.lst 1 (ints l)]).length := by simp
  rw [e]
  refine .lst 1 _ a cap ys (by rw [← e]; exact hcap) (fun i es hi => ?_) (fun hne => ?_) (fun i es hi j v hj => ?_) (fun i es hi j v hj => ?_)
  ·obtain ⟨l, rfl, _⟩ := key i es hi; rfl
  ·have hne' : (L.map fun l => [Cp.outV l]) ≠ [] := fun h0 => hne (List.eq_nil_of_length_eq_zero (by rw [← e, h0]; rfl))
   obtain ⟨b, off, h1, h2, h3⟩ := ha hne'
   refine ⟨b, off, h1, h2, fun i es hi j v hj => ?_⟩
   obtain ⟨l, rfl, h4⟩ := key i es hi
   cases j with
   | zero => exact h3 i _ h4 0 _ rfl
   | succ j => simp at hj
  ·obtain ⟨l, rfl, _⟩ := key i es hi
   cases j with
   | zero => cases hj; rfl
   | succ j => simp at hj
  ·obtain ⟨l, rfl, h4⟩ := key i es hi
   cases j with
   | zero => cases hj; exact (hv i _ h4 0 _ rfl).outV
   | succ j => simp at hj
theorem noid_outsL (L : List (List Int)) : noid (.lst 1 (L.map fun l => [.lst 1 (ints l)])) = true := by
 show noidss _ = true
 refine noidss_of fun v hv => ?_
 simp only [List.mem_map] at hv
 obtain ⟨l, _, rfl⟩ := hv
 simp only [noids, noid, noid_ints, Bool.and_true]
theorem routs_ok (n : NetT) (hF : NetF n) : PureC Try.prog 97 [.agg (cNet n)] (.lst 1 ((outsL n.pumps.length n.out.toNat).map fun l => [.lst 1 (ints l)])) := by
 obtain ⟨hp1, hp2⟩ := hF.pumps
 obtain ⟨ho1, ho2⟩ := hF.out
 have hn : noids [.agg (cNet n)] = true := by simp only [noids, noid, noid_cNet, Bool.and_true]
 refine PureC.weak (v := routV n.pumps.length n.out.toNat) ?_ (noid_outsL _) (fun G w x h => h.outsL)
 obtain ⟨pipes, heads, pumps, out, tank, mins⟩ := n
 simp only [cNet] at *
 match pumps, hp1, hp2, ho2 with
 | [a], _, _, ho2 =>
  obtain rfl : out = 0 := by simp at ho2; omega
  exact routs_10 _ _ _ _ _ _ hn
 | [a, b], _, _, ho2 =>
  have : out = 0 ∨ out = 1 := by simp at ho2; omega
  rcases this with rfl | rfl
  ·exact routs_20 _ _ _ _ _ _ _ hn
  ·exact routs_21 _ _ _ _ _ _ _ hn
 | [a, b, c], _, _, ho2 =>
  have : out = 0 ∨ out = 1 ∨ out = 2 := by simp at ho2; omega
  rcases this with rfl | rfl | rfl
  ·exact routs_30 _ _ _ _ _ _ _ _ hn
  ·exact routs_31 _ _ _ _ _ _ _ _ hn
  ·exact routs_32 _ _ _ _ _ _ _ _ hn
 | [a, b, c, d], _, _, ho2 =>
  have : out = 0 ∨ out = 1 ∨ out = 2 ∨ out = 3 := by simp at ho2; omega
  rcases this with rfl | rfl | rfl | rfl
  ·exact routs_40 _ _ _ _ _ _ _ _ _ hn
  ·exact routs_41 _ _ _ _ _ _ _ _ _ hn
  ·exact routs_42 _ _ _ _ _ _ _ _ _ hn
  ·exact routs_43 _ _ _ _ _ _ _ _ _ hn
 | _ :: _ :: _ :: _ :: _ :: _, _, h, _ => simp at h
end Cp
