/- Rules, facts and contracts that the statement's proof leans on. Conditions: none. -/
import Derived.Test.YtfpbidbjgigljaaP9
set_option linter.unusedVariables false
set_option linter.unusedSimpArgs false
set_option linter.unusedSectionVars false
namespace Cp
open Go Go.Proofs
set_option maxRecDepth 10000
set_option maxHeartbeats 1000000
def GJ (Hz : Hp) (n : NetT) (hs : List HeadT) (e36 e33 e34 e2 e3 e4 e5 ey : Nat) (L0 : AObj) (k : Nat) (H : Hp) : Prop :=
 (∀ j, j < 100 → H j = Hz j) ∧ H 436 = some (e36, .fro 10 [cPlant n hs e33 e34 (n.pipes.length + 1)]) ∧ H 433 = some (e33, .arr 1 (ints (flowL n.pipes (n.pipes.length + 1) hs))) ∧ (∃ ver, H 434 = some (e34, .map ver [])) ∧
 H 602 = some (e2, .arr 3 [[.int .u8 0, .int .i64 0, .nils]]) ∧ H 603 = some (e3, .arr 3 [cTold (getF n hs ((outsL n.pumps.length n.out.toNat).take k)).1]) ∧ H 604 = some (e4, .arr 1 [[.bool (getF n hs ((outsL n.pumps.length n.out.toNat).take k)).2]]) ∧
 H 605 = some (e5, .arr 4 [[.fn (sgF false) [], .fn (sgF true) [], .fn (sgF true) [], .fn (sgF false) []]]) ∧ H 100 = some (ey, L0) ∧ (H 1208 = none ∧ H 1604 = none ∧ H 1605 = none ∧ H 1607 = none)
theorem outsL_len {np o : Nat} (hn : np ≤ 4) (ho : o ≤ 3) : (outsL np o).length ≤ 100000 := by
 have h : ∀ np, np < 5 → ∀ o, o < 4 → (outsL np o).length ≤ 100000 := by decide +kernel
 exact h np (by omega) o (by omega)
theorem gets_ok (n : NetT) (hF : NetF n) (hs : List HeadT) (h5 : heads500 hs) (hsl : hs.length ≤ 12) (hnd : ∀ h ∈ hs, 1 ≤ h.node ∧ h.node ≤ n.pipes.length) (e36 e33 e34 ver : Nat) (H0 : Hp)
  (g36 : H0 436 = some (e36, .fro 10 [cPlant n hs e33 e34 (n.pipes.length + 1)])) (g33 : H0 433 = some (e33, .arr 1 (ints (flowL n.pipes (n.pipes.length + 1) hs)))) (g34 : H0 434 = some (e34, .map ver []))
  (hroom : ∀ j, 600 ≤ j → H0 j = none) (h100 : H0 100 = none) :
  ACall Try.prog 69 [.ptr 436 e36 10 0 0] H0 fun v H' => v = .agg (cTold (getsS n hs)) ∧ ∀ j, j < 100 → H' j = H0 j := by
 refine ACall_ofR (fn := Try.f69) tabOK (by kernel_rfl) rfl (by kernel_rfl) (by simp [Try.f69]) ?_
 intro X hX0 hXs hXr
 have q1 := hroom 601 (by decide)
 have q2 := hroom 602 (by decide)
 have q3 := hroom 603 (by decide)
 have q4 := hroom 604 (by decide)
 have q5 := hroom 605 (by decide)
 have oc := fun H h => outs_call n hF (hs := hs) (e36 := e36) (e33 := e33) (e34 := e34) (k := n.pipes.length + 1) (H := H) h
 repeat' (first | (with_reducible refine sk ?_; intro K hK) | ((first | (with_reducible first | refine rg (md := { base := 600, own := [3, 4, 5, 6], imp := [10] }) (h := ?_) | refine rgS [2, 3, 4, 5, 6] (md := { base := 600, own := [3, 4, 5, 6], imp := [10] }) (h := ?_) | refine nx ?_) | refine pK (ends_ok) ?_); try simp (disch := omega) only [g36, q1, q2, q3, q4, q5,go_sem, simprocAttr]) | (with_reducible refine bk ?_) | ((with_reducible refine' cE ?hv ?_ ?_); (case hv => first | rfl | (simp only [g36, q1, q2, q3, q4, q5,go_sem, simprocAttr]; rfl)); all_goals (intro hc; (try simp only [go_sem, simprocAttr] at hc); try (exfalso; omega))) | ((with_reducible first | refine grdS_split ?_ ?_ | refine lkG_split ?_ ?_) <;> intro hg <;> (try simp (disch := omega) only [hg, g36, q1, q2, q3, q4, q5,go_sem, simprocAttr]) <;> (try simp only [go_sem, simprocAttr] at hg) <;> (try (exfalso; omega))) | (first | refine iK (ends_ok) ?_) | with_reducible intro (ep : Nat → Nat) | with_reducible apply_assumption -exfalso -symm only [*])
 refine iK (oc _ (by (first | rfl | (simp only [g36, go_sem, simprocAttr]; done) | (simp only [g36, go_sem, simprocAttr]; rfl)))) ?_
 rintro v H3 ⟨rfl, rfl⟩
 simp only [go_sem, simprocAttr]
 repeat' (first | (with_reducible refine sk ?_; intro K hK) | ((with_reducible first | refine rg (md := { base := 600, own := [3, 4, 5, 6], imp := [10] }) (h := ?_) | refine rgS [2, 3, 4, 5, 6] (md := { base := 600, own := [3, 4, 5, 6], imp := [10] }) (h := ?_) | refine nx ?_); try simp (disch := omega) only [go_sem, simprocAttr]) | (with_reducible refine bk ?_) | ((with_reducible refine' cE ?hv ?_ ?_); (case hv => first | rfl | (simp only [go_sem, simprocAttr]; rfl)); all_goals (intro hc; (try simp only [go_sem, simprocAttr] at hc); try (exfalso; omega))) | ((with_reducible first | refine grdS_split ?_ ?_ | refine lkG_split ?_ ?_) <;> intro hg <;> (try simp (disch := omega) only [hg, go_sem, simprocAttr]) <;> (try simp only [go_sem, simprocAttr] at hg) <;> (try (exfalso; omega))) | with_reducible intro (ep : Nat → Nat) | with_reducible apply_assumption -exfalso -symm only [*])
 refine AW_block ?_
 refine AW_rangeFunc 100 (by simp only [go_sem, simprocAttr, outsF]; rfl) hXr fun ey => ?_
 generalize hf0 : (upd _ _ _ : Fr) = f0
 generalize hH : (upd (upd (upd (upd (upd (upd (upd H0 _ _) _ _) _ _) _ _) _ _) _ _) _ _ : Hp) = HH
 obtain ⟨e2, e3, e4, e5, k1, k2, k3, k4, k5, G2, G3, G4, G5, Gs⟩ : ∃ e2 e3 e4 e5, f0 1 = .pim [.ptr 436 e36 10 0 0] ∧ f0 2 = .ptr 602 e2 3 0 0 ∧ f0 3 = .ptr 603 e3 3 0 0 ∧ f0 4 = .ptr 604 e4 1 0 0 ∧ f0 5 = .ptr 605 e5 4 0 0 ∧
   HH 602 = some (e2, .arr 3 [[.int .u8 0, .int .i64 0, .nils]]) ∧ HH 603 = some (e3, .arr 3 [[.int .u8 2, .int .i64 0, .nils]]) ∧ HH 604 = some (e4, .arr 1 [[.bool false]]) ∧ HH 605 = some (e5, .arr 4 [[.fn (sgF false) [], .fn (sgF true) [], .fn (sgF true) [], .fn (sgF false) []]]) ∧ ∀ j, ¬ j = 602 → ¬ j = 603 → ¬ j = 604 → ¬ j = 605 → HH j = H0 j := by
  refine ⟨_, _, _, _, by rw [← hf0]; rfl, by rw [← hf0]; rfl, by rw [← hf0]; rfl, by rw [← hf0]; rfl, by rw [← hf0]; rfl, by rw [← hH]; rfl, by rw [← hH]; rfl, by rw [← hH]; rfl, by rw [← hH]; rfl, fun j h1 h2 h3 h4 => ?_⟩
  rw [← hH, upd_ne _ _ h4, upd_ne _ _ h4, upd_ne _ _ h3, upd_ne _ _ h3, upd_ne _ _ h2, upd_ne _ _ h2, upd_ne _ _ h1]
 have G36 := (Gs 436 (by decide) (by decide) (by decide) (by decide)).trans g36
 have G33 := (Gs 433 (by decide) (by decide) (by decide) (by decide)).trans g33
 have G34 := (Gs 434 (by decide) (by decide) (by decide) (by decide)).trans g34
 have Gr : ∀ j, 606 ≤ j → HH j = none := fun j hj => (Gs j (by omega) (by omega) (by omega) (by omega)).trans (hroom j (by omega))
 have Gl : ∀ j, j < 100 → HH j = H0 j := fun j hj => Gs j (by omega) (by omega) (by omega) (by omega)
 have hXs0 : X.sz = 24 := hXs
 clear hf0 hH hXs Gs g36 g33 g34 hroom q1 q2 q3 q4 q5 oc h100
 generalize hL : AObj.loop _ _ _ _ _ _ = L0
 have hll := @outsL_len n.pumps.length n.out.toNat hF.pumps.2 (by have := hF.out.2; have := hF.pumps.2; omega)
 have hmo := fun l => @mem_outs n hF.out.1 l
 refine ⟨fun v H' => GJ H0 n hs e36 e33 e34 e2 e3 e4 e5 ey L0 (outsL n.pumps.length n.out.toNat).length H', values1_ok _ hll _ 100 ey (GJ H0 n hs e36 e33 e34 e2 e3 e4 e5 ey L0) ?_ ?_, ?_⟩
 ·have h0 : getF n hs ((outsL n.pumps.length n.out.toNat).take 0) = (⟨2, 0, []⟩, false) := rfl
  unfold GJ
  rw [h0]
  exact ⟨fun j hj => by rw [upd_ne _ _ (by omega), Gl j hj], by rw [upd_ne _ _ (by decide), G36], by rw [upd_ne _ _ (by decide), G33], ⟨_, by rw [upd_ne _ _ (by decide), G34]⟩, by rw [upd_ne _ _ (by decide), G2], by rw [upd_ne _ _ (by decide), G3]; rfl, by rw [upd_ne _ _ (by decide), G4], by rw [upd_ne _ _ (by decide), G5], upd_same _ _ _,
   by rw [upd_ne _ _ (by decide), Gr _ (by decide)], by rw [upd_ne _ _ (by decide), Gr _ (by decide)], by rw [upd_ne _ _ (by decide), Gr _ (by decide)], by rw [upd_ne _ _ (by decide), Gr _ (by decide)]⟩
 ·clear G36 G33 G34 G2 G3 G4 G5 Gr
  rintro k l Hs hk ⟨jl, j36, j33, ⟨ver', j34⟩, j2, j3, j4, j5, j100, jr0, jr1, jr2, jr3⟩
  have hol := (hmo l).1 (List.mem_of_getElem? hk)
  have hkn := @getF_kn n hs k (outsL n.pumps.length n.out.toNat)
  have hsn := @getF_snoc n hs _ _ _ hk
  generalize getF n hs ((outsL n.pumps.length n.out.toNat).take k) = s at *
  obtain ⟨t, g⟩ := s
  simp only at hkn j3 j4
  subst hL
  refine ⟨_, _, _, _, _, j100, rfl, fun t ht => ?_, fun X1 b h10 h1s h1r => ?_⟩
  ·rw [frL_len, hXs0]
   have ht' : t = 11 := by simpa using ht
   subst ht'; decide
  have hXs : X1.sz = 24 := by rw [h1s, frL_len, hXs0]
  show AW _ _ _ _ _ (upd (frOf (frL f0 X.sz)) 11 (.lst 1 (ints l))) Hs
  have k1' : frOf (frL f0 X.sz) 1 = .pim [.ptr 436 e36 10 0 0] := by rw [frOf_frL, hXs0, if_pos (by decide), k1]
  have k3' : frOf (frL f0 X.sz) 3 = .ptr 603 e3 3 0 0 := by rw [frOf_frL, hXs0, if_pos (by decide), k3]
  have k4' : frOf (frL f0 X.sz) 4 = .ptr 604 e4 1 0 0 := by rw [frOf_frL, hXs0, if_pos (by decide), k4]
  have k5' : frOf (frL f0 X.sz) 5 = .ptr 605 e5 4 0 0 := by rw [frOf_frL, hXs0, if_pos (by decide), k5]
  generalize frOf (frL f0 X.sz) = f1 at k1' k3' k4' k5'
  refine AW_lose 606 fun H1 w6 hs1 => ?_
  repeat' (first | (with_reducible refine sk ?_; intro K hK) | ((with_reducible first | refine rg (md := { base := 600, own := [3, 4, 5, 6], imp := [10] }) (h := ?_) | refine rgS [2, 3, 4, 5, 6] (md := { base := 600, own := [3, 4, 5, 6], imp := [10] }) (h := ?_) | refine nx ?_); try simp (disch := omega) only [k1', k3', k4', k5', w6,go_sem, simprocAttr]) | (with_reducible refine bk ?_) | ((with_reducible refine' cE ?hv ?_ ?_); (case hv => first | rfl | (simp only [k1', k3', k4', k5', w6,go_sem, simprocAttr]; rfl)); all_goals (intro hc; (try simp only [go_sem, simprocAttr] at hc); try (exfalso; omega))) | ((with_reducible first | refine grdS_split ?_ ?_ | refine lkG_split ?_ ?_) <;> intro hg <;> (try simp (disch := omega) only [hg, k1', k3', k4', k5', w6,go_sem, simprocAttr]) <;> (try simp only [go_sem, simprocAttr] at hg) <;> (try (exfalso; omega))) | with_reducible intro (ep : Nat → Nat) | with_reducible apply_assumption -exfalso -symm only [*])
  refine ⟨rfl, _, _, _, _, _, by rw [upd_ne _ _ (by decide), upd_ne _ _ (by decide), hs1 _ (by decide), j100], ?_⟩
  generalize hHs : (upd (upd (upd H1 _ _) _ _) 100 _ : Hp) = HB
  generalize hfB : (upd _ _ _ : Fr) = fB
  obtain ⟨e6, b1, b3, b4, b5, b6, B6, B100, Bs⟩ : ∃ e6, fB 1 = .pim [.ptr 436 e36 10 0 0] ∧ fB 3 = .ptr 603 e3 3 0 0 ∧ fB 4 = .ptr 604 e4 1 0 0 ∧ fB 5 = .ptr 605 e5 4 0 0 ∧ fB 6 = .ptr 606 e6 1 0 0 ∧ HB 606 = some (e6, .arr 1 [[.lst 1 (ints l)]]) ∧ HB 100 = _ ∧ ∀ j, ¬ j = 606 → ¬ j = 100 → HB j = Hs j := by
   refine ⟨_, by rw [← hfB]; simp only [k1', go_sem, simprocAttr], by rw [← hfB]; simp only [k3', go_sem, simprocAttr], by rw [← hfB]; simp only [k4', go_sem, simprocAttr], by rw [← hfB]; simp only [k5', go_sem, simprocAttr], by rw [← hfB]; rfl, by rw [← hHs]; rfl, by rw [← hHs, upd_same], fun j h1 h2 => ?_⟩
   rw [← hHs, upd_ne _ _ h2, upd_ne _ _ h1, upd_ne _ _ h1, hs1 _ h1]
  clear hHs hfB hs1 k1' k3' k4' k5' w6
  have B36 := (Bs 436 (by decide) (by decide)).trans j36
  have B34 := (Bs 434 (by decide) (by decide)).trans j34
  have hst : ∀ (ver' : Nat) (H : Hp), (∀ j, ¬ j = 434 → H j = HB j) → H 434 = some (e34, .map ver' (imap .i64 (offM l))) →
    ACall Try.prog 95 [.pim [.ptr 436 e36 10 0 0], .ptr 605 e5 4 0 0, .ptr 603 e3 3 0 0, .ptr 606 e6 1 0 0, .ptr 604 e4 1 0 0] H fun v H' => v = .tup [] ∧ H' 436 = H 436 ∧ (∃ ver2, H' 434 = some (e34, .map ver2 (imap .i64 (offM l)))) ∧
     ((∀ j, ¬ j = 434 → ¬ j = 603 → ¬ j = 604 → ¬ j = 1705 → H' j = HB j) ∧ H' 603 = some (e3, .arr 3 [cTold (getStep n hs (t, g) l).1]) ∧ H' 604 = some (e4, .arr 1 [[.bool (getStep n hs (t, g) l).2]])) := fun ver' H hH h34 => by
   have hc : ∀ j, ¬ j = 434 → ¬ j = 606 → ¬ j = 100 → H j = Hs j := fun j h1 h2 h3 => (hH j h1).trans (Bs j h2 h3)
   refine (gets1_ok n hF hs h5 hsl hnd l hol e36 e33 e34 ver' e3 e4 e5 e6 t hkn g H ((hc _ (by decide) (by decide) (by decide)).trans j36) ((hc _ (by decide) (by decide) (by decide)).trans j33) h34 ((hc _ (by decide) (by decide) (by decide)).trans j3) ((hc _ (by decide) (by decide) (by decide)).trans j4) ((hc _ (by decide) (by decide) (by decide)).trans j5) ((hH _ (by decide)).trans B6)
    ⟨(hc _ (by decide) (by decide) (by decide)).trans jr0, (hc _ (by decide) (by decide) (by decide)).trans jr1, (hc _ (by decide) (by decide) (by decide)).trans jr2, (hc _ (by decide) (by decide) (by decide)).trans jr3⟩).imp ?_
   rintro v H' ⟨hv, hlow, h3, h4⟩
   exact ⟨hv, hlow _ (by decide) (by decide) (by decide), ⟨ver', (hlow _ (by decide) (by decide) (by decide)).trans h34⟩, fun j a1 a2 a3 a4 => (hlow j a2 a3 a4).trans (hH j a1), h3, h4⟩
  have hlo : l.length ≤ 100000 := by
   have h1 := (out_facts hol).2.2
   have h2 := hF.out.2
   have h3 := hF.pumps.2
   omega
  repeat' (first | (with_reducible refine sk ?_; intro K hK) | ((with_reducible first | refine rg (md := { base := 600, own := [], imp := [15] }) (h := ?_) | refine rgS [2, 3, 4, 5, 6] (md := { base := 600, own := [], imp := [15] }) (h := ?_) | refine nx ?_); try simp (disch := omega) only [b1, b3, b4, b5, b6, B36, B6,go_sem, simprocAttr]) | (with_reducible refine bk ?_) | ((with_reducible refine' cE ?hv ?_ ?_); (case hv => first | rfl | (simp only [b1, b3, b4, b5, b6, B36, B6,go_sem, simprocAttr]; rfl)); all_goals (intro hc; (try simp only [go_sem, simprocAttr] at hc); try (exfalso; omega))) | ((with_reducible first | refine grdS_split ?_ ?_ | refine lkG_split ?_ ?_) <;> intro hg <;> (try simp (disch := omega) only [hg, b1, b3, b4, b5, b6, B36, B6,go_sem, simprocAttr]) <;> (try simp only [go_sem, simprocAttr] at hg) <;> (try (exfalso; omega))) | with_reducible intro (ep : Nat → Nat) | with_reducible apply_assumption -exfalso -symm only [*])
  refine iK (without_fro n hs e36 e33 e34 ver' l hlo (out_facts hol).2.1 _ _ HB (by (first | rfl | (simp only [B36, go_sem, simprocAttr]; done) | (simp only [B36, go_sem, simprocAttr]; rfl))) (by (first | rfl | (simp only [B34, go_sem, simprocAttr]; done) | (simp only [B34, go_sem, simprocAttr]; rfl))) _ hst) ?_
  rintro v H3 ⟨rfl, H2, ver2, ⟨hlow, r3, r4⟩, hsame, hm⟩
  have hc : ∀ j, ¬ j = 434 → ¬ j = 603 → ¬ j = 604 → ¬ j = 1705 → H3 j = HB j := fun j h1 h2 h3 h4 => (hsame j h1).trans (hlow j h1 h2 h3 h4)
  have hd : ∀ j, ¬ j = 434 → ¬ j = 603 → ¬ j = 604 → ¬ j = 1705 → ¬ j = 606 → ¬ j = 100 → H3 j = Hs j := fun j h1 h2 h3 h4 h5 h6 => (hc j h1 h2 h3 h4).trans (Bs j h5 h6)
  have C100 := (hc 100 (by decide) (by decide) (by decide) (by decide)).trans B100
  have C3 := (hsame 603 (by decide)).trans r3
  have C4 := (hsame 604 (by decide)).trans r4
  rw [← hsn] at C3 C4
  refine ⟨_, _, _, _, _, _, C100, ?_⟩
  refine ⟨rfl, ?_⟩
  have z : ∀ {o : Option (Nat × AObj)} (j : Nat), ¬ j = 434 → ¬ j = 603 → ¬ j = 604 → ¬ j = 1705 → ¬ j = 606 → ¬ j = 100 → upd H3 100 o j = Hs j := fun j h1 h2 h3 h4 h5 h6 => by rw [upd_ne _ _ h6]; exact hd j h1 h2 h3 h4 h5 h6
  exact ⟨fun j hj => (z j (by omega) (by omega) (by omega) (by omega) (by omega) (by omega)).trans (jl j hj), (z 436 (by decide) (by decide) (by decide) (by decide) (by decide) (by decide)).trans j36, (z 433 (by decide) (by decide) (by decide) (by decide) (by decide) (by decide)).trans j33, ⟨ver2, by rw [upd_ne _ _ (by decide)]; exact hm⟩, (z 602 (by decide) (by decide) (by decide) (by decide) (by decide) (by decide)).trans j2, by rw [upd_ne _ _ (by decide)]; exact C3, by rw [upd_ne _ _ (by decide)]; exact C4,
   (z 605 (by decide) (by decide) (by decide) (by decide) (by decide) (by decide)).trans j5, upd_same _ _ _, (z 1208 (by decide) (by decide) (by decide) (by decide) (by decide) (by decide)).trans jr0, (z 1604 (by decide) (by decide) (by decide) (by decide) (by decide) (by decide)).trans jr1,
   (z 1605 (by decide) (by decide) (by decide) (by decide) (by decide) (by decide)).trans jr2, (z 1607 (by decide) (by decide) (by decide) (by decide) (by decide) (by decide)).trans jr3⟩
 ·clear G36 G33 G34 G2 G3 G4 G5 Gr
  rintro v Hs ⟨jl, j36, j33, ⟨ver', j34⟩, j2, j3, j4, j5, j100, jr0, jr1, jr2, jr3⟩
  rw [List.take_of_length_le (Nat.le_refl _)] at j3 j4
  subst hL
  refine ⟨_, _, _, _, _, _, j100, by simp, ?_⟩
  have hkn := @getF_kn n hs (outsL n.pumps.length n.out.toNat).length (outsL n.pumps.length n.out.toNat)
  rw [List.take_of_length_le (Nat.le_refl _)] at hkn
  obtain ⟨G, hG⟩ : ∃ G, getsS n hs = G := ⟨_, rfl⟩
  have hgs := hG
  unfold getsS at hgs
  generalize getF n hs (outsL n.pumps.length n.out.toNat) = s at *
  obtain ⟨⟨kn, hd, ol⟩, g⟩ := s
  have yl : ∀ j, j < 100 → upd Hs 100 none j = H0 j := fun j hj => by rw [upd_ne _ _ (by omega), jl j hj]
  have y2 : upd Hs 100 none 602 = _ := (upd_ne _ _ (by decide)).trans j2
  have y3 : upd Hs 100 none 603 = _ := (upd_ne _ _ (by decide)).trans j3
  have y4 : upd Hs 100 none 604 = _ := (upd_ne _ _ (by decide)).trans j4
  generalize upd Hs 100 none = H2 at y2 y3 y4 yl
  clear j36 j33 j34 j2 j3 j4 j5 j100 jr0 jr1 jr2 jr3 hmo hll
  simp only at hkn
  rcases hkn with rfl | rfl <;> cases g
  ·simp only [cTold] at y3
   simp only [Bool.false_eq_true, false_and, and_self, if_true, if_false, Int.reduceEq, true_and] at hgs
   repeat' (first | (with_reducible refine sk ?_; intro K hK) | ((with_reducible first | refine rg (md := { base := 600, own := [], imp := [] }) (h := ?_) | refine rgS [2, 3, 4, 5, 6] (md := { base := 600, own := [], imp := [] }) (h := ?_) | refine nx ?_); try simp (disch := omega) only [k1, k2, k3, k4, y2, y3, y4,go_sem, simprocAttr]) | (with_reducible refine bk ?_) | ((with_reducible refine' cE ?hv ?_ ?_); (case hv => first | rfl | (simp only [k1, k2, k3, k4, y2, y3, y4,go_sem, simprocAttr]; rfl)); all_goals (intro hc; (try simp only [go_sem, simprocAttr] at hc); try (exfalso; omega))) | ((with_reducible first | refine grdS_split ?_ ?_ | refine lkG_split ?_ ?_) <;> intro hg <;> (try simp (disch := omega) only [hg, k1, k2, k3, k4, y2, y3, y4,go_sem, simprocAttr]) <;> (try simp only [go_sem, simprocAttr] at hg) <;> (try (exfalso; omega))) | with_reducible intro (ep : Nat → Nat) | with_reducible apply_assumption -exfalso -symm only [*])
   exact FnQ_end (Or.inl rfl) (.refl _) (by simp only [Try.f69, go_sem, simprocAttr, k2]; rfl) ⟨by rw [hG, ← hgs]; simp only [cTold, go_sem, simprocAttr], fun j hj => by (repeat rw [upd_ne _ _ (by omega)]); exact yl j hj⟩
  ·simp only [cTold] at y3
   simp only [Bool.false_eq_true, false_and, and_self, if_true, if_false, Int.reduceEq, true_and] at hgs
   repeat' (first | (with_reducible refine sk ?_; intro K hK) | ((with_reducible first | refine rg (md := { base := 600, own := [], imp := [] }) (h := ?_) | refine rgS [2, 3, 4, 5, 6] (md := { base := 600, own := [], imp := [] }) (h := ?_) | refine nx ?_); try simp (disch := omega) only [k1, k2, k3, k4, y2, y3, y4,go_sem, simprocAttr]) | (with_reducible refine bk ?_) | ((with_reducible refine' cE ?hv ?_ ?_); (case hv => first | rfl | (simp only [k1, k2, k3, k4, y2, y3, y4,go_sem, simprocAttr]; rfl)); all_goals (intro hc; (try simp only [go_sem, simprocAttr] at hc); try (exfalso; omega))) | ((with_reducible first | refine grdS_split ?_ ?_ | refine lkG_split ?_ ?_) <;> intro hg <;> (try simp (disch := omega) only [hg, k1, k2, k3, k4, y2, y3, y4,go_sem, simprocAttr]) <;> (try simp only [go_sem, simprocAttr] at hg) <;> (try (exfalso; omega))) | with_reducible intro (ep : Nat → Nat) | with_reducible apply_assumption -exfalso -symm only [*])
   exact FnQ_end (Or.inl rfl) (.refl _) (by simp only [Try.f69, go_sem, simprocAttr, k2]; rfl) ⟨by rw [hG, ← hgs]; simp only [cTold, go_sem, simprocAttr], fun j hj => by (repeat rw [upd_ne _ _ (by omega)]); exact yl j hj⟩
  ·simp only [cTold] at y3
   simp only [Bool.false_eq_true, false_and, and_self, if_true, if_false, Int.reduceEq, true_and] at hgs
   repeat' (first | (with_reducible refine sk ?_; intro K hK) | ((with_reducible first | refine rg (md := { base := 600, own := [], imp := [] }) (h := ?_) | refine rgS [2, 3, 4, 5, 6] (md := { base := 600, own := [], imp := [] }) (h := ?_) | refine nx ?_); try simp (disch := omega) only [k1, k2, k3, k4, y2, y3, y4,go_sem, simprocAttr]) | (with_reducible refine bk ?_) | ((with_reducible refine' cE ?hv ?_ ?_); (case hv => first | rfl | (simp only [k1, k2, k3, k4, y2, y3, y4,go_sem, simprocAttr]; rfl)); all_goals (intro hc; (try simp only [go_sem, simprocAttr] at hc); try (exfalso; omega))) | ((with_reducible first | refine grdS_split ?_ ?_ | refine lkG_split ?_ ?_) <;> intro hg <;> (try simp (disch := omega) only [hg, k1, k2, k3, k4, y2, y3, y4,go_sem, simprocAttr]) <;> (try simp only [go_sem, simprocAttr] at hg) <;> (try (exfalso; omega))) | with_reducible intro (ep : Nat → Nat) | with_reducible apply_assumption -exfalso -symm only [*])
   exact FnQ_end (Or.inl rfl) (.refl _) (by simp only [Try.f69, go_sem, simprocAttr, k2]; rfl) ⟨by rw [hG, ← hgs]; simp only [cTold, go_sem, simprocAttr], fun j hj => by (repeat rw [upd_ne _ _ (by omega)]); exact yl j hj⟩
  ·simp only [cTold] at y3
   simp only [Bool.false_eq_true, false_and, and_self, if_true, if_false, Int.reduceEq, true_and] at hgs
   repeat' (first | (with_reducible refine sk ?_; intro K hK) | ((with_reducible first | refine rg (md := { base := 600, own := [], imp := [] }) (h := ?_) | refine rgS [2, 3, 4, 5, 6] (md := { base := 600, own := [], imp := [] }) (h := ?_) | refine nx ?_); try simp (disch := omega) only [k1, k2, k3, k4, y2, y3, y4,go_sem, simprocAttr]) | (with_reducible refine bk ?_) | ((with_reducible refine' cE ?hv ?_ ?_); (case hv => first | rfl | (simp only [k1, k2, k3, k4, y2, y3, y4,go_sem, simprocAttr]; rfl)); all_goals (intro hc; (try simp only [go_sem, simprocAttr] at hc); try (exfalso; omega))) | ((with_reducible first | refine grdS_split ?_ ?_ | refine lkG_split ?_ ?_) <;> intro hg <;> (try simp (disch := omega) only [hg, k1, k2, k3, k4, y2, y3, y4,go_sem, simprocAttr]) <;> (try simp only [go_sem, simprocAttr] at hg) <;> (try (exfalso; omega))) | with_reducible intro (ep : Nat → Nat) | with_reducible apply_assumption -exfalso -symm only [*])
   exact FnQ_end (Or.inl rfl) (.refl _) (by simp only [Try.f69, go_sem, simprocAttr, k2]; rfl) ⟨by rw [hG, ← hgs]; simp only [cTold, go_sem, simprocAttr], fun j hj => by (repeat rw [upd_ne _ _ (by omega)]); exact yl j hj⟩
def lackV (t : LackT) : Val := .agg [.int .u8 t.known, .int .i64 t.head, .lst 1 (ints t.out)]
theorem cTold_weak (n : NetT) (h0 : 0 ≤ n.out) (hs : List HeadT) {G : Gh} {w : World} {x : Value} (h : VR G w (.agg (cTold (getsS n hs))) x) : VR G w (lackV (getsS n hs)) x := by
 have hf := gets_facts h0 hs
 unfold cTold at h
 unfold lackV
 split at h
 ·rename_i hk
  rw [(hf.yes hk).2.1]
  exact h.agg3_nils
 ·exact h
theorem getsV_ok (n : NetT) (hF : NetF n) (hs : List HeadT) (h5 : heads500 hs) (hsl : hs.length ≤ 12) (hnd : ∀ h ∈ hs, 1 ≤ h.node ∧ h.node ≤ n.pipes.length) (e36 e33 e34 ver : Nat) (H0 : Hp)
  (g36 : H0 436 = some (e36, .fro 10 [cPlant n hs e33 e34 (n.pipes.length + 1)])) (g33 : H0 433 = some (e33, .arr 1 (ints (flowL n.pipes (n.pipes.length + 1) hs)))) (g34 : H0 434 = some (e34, .map ver []))
  (hroom : ∀ j, 600 ≤ j → H0 j = none) (h100 : H0 100 = none) :
  ACall Try.prog 69 [.ptr 436 e36 10 0 0] H0 fun v H' => v = lackV (getsS n hs) ∧ ∀ j, j < 100 → H' j = H0 j :=
 (gets_ok n hF hs h5 hsl hnd e36 e33 e34 ver H0 g36 g33 g34 hroom h100).weak fun G w x h => cTold_weak n hF.out.1 hs h
end Cp
namespace Cp
open Go Go.Proofs
set_option maxRecDepth 10000
set_option maxHeartbeats 1000000
def lackN : Val := .agg [.int .u8 0, .int .i64 0, .nils]
def lackZ : LackT := ⟨0, 0, []⟩
def getsD (z : Val) (n : NetT) (l : List Int) : Val := if netOK n = true then (if openOK n.heads l = true then .tup [lackV (getsS n (openH n.heads l)), .int .i64 0] else .tup [z, .int .i64 2]) else .tup [z, .int .i64 50]
theorem lackV_noid {t : LackT} : noid (lackV t) = true := by simp only [lackV, noid, noids, noid_ints]; rfl
theorem Gets_ok0 (n : NetT) (hs : NetS n) (l : List Int) (hl : l.length ≤ 100000) : PureC Try.prog 26 [encNet n, .lst 1 (ints l)] (getsD lackN n l) := by
 have hnoid : noid (getsD lackN n l) = true := by unfold getsD; split <;> (try split) <;> (simp only [noid, noids, noidss, lackN, lackV_noid, go_sem, simprocAttr]; rfl)
 have hop := fun H0 => opened_ok n hs l hl H0
 unfold openR at hop
 have hpl := hs.pipes
 simp only [encNet, cNet] at hop
 refine PureC_of (fn := Try.f26) tabOK (by kernel_rfl) rfl (by kernel_rfl) (by simp [Try.f26]) (by simp [noids, noid, noidss, go_sem, encNet, cNet, hnoid]) (by first | rfl | simp [noids, noid, noidss, go_sem, encNet, cNet, hnoid]) ?_
 intro X hX0 hXs
 unfold getsD
 cases hN : netOK n with
 | false =>
  simp only [hN, Bool.false_eq_true, if_false] at hop
  repeat' (first | (with_reducible refine sk ?_; intro K hK) | ((first | (with_reducible first | refine rg (md := { base := 0, own := [4], imp := [11, 19] }) (h := ?_) | refine rgS [4] (md := { base := 0, own := [4], imp := [11, 19] }) (h := ?_) | refine nx ?_) | refine pK (hop _) ?_); try simp (disch := omega) only [encNet, cNet,go_sem, simprocAttr]) | (with_reducible refine bk ?_) | ((with_reducible refine' cE ?hv ?_ ?_); (case hv => first | rfl | (simp only [encNet, cNet,go_sem, simprocAttr]; rfl)); all_goals (intro hc; (try simp only [go_sem, simprocAttr] at hc); try (exfalso; omega))) | (first | refine iK (hop _) ?_) | ((with_reducible refine fe ?_); refine ⟨_, (by simp only [Try.f26, encNet, cNet,go_sem, simprocAttr]; rfl), ?_⟩; first | rfl | (try simp only [encNet, cNet,go_sem, simprocAttr, seval])) | with_reducible intro (ep : Nat → Nat) | with_reducible apply_assumption -exfalso -symm only [*])
  rintro v H3 ⟨hlow, rfl⟩
  have g4 := hlow 4 (by decide)
  simp only [go_sem, simprocAttr] at g4
  simp only [go_sem, simprocAttr]
  repeat' (first | (with_reducible refine sk ?_; intro K hK) | ((with_reducible first | refine rg (md := { base := 0, own := [4], imp := [11, 19] }) (h := ?_) | refine rgS [4] (md := { base := 0, own := [4], imp := [11, 19] }) (h := ?_) | refine nx ?_); try simp (disch := omega) only [g4, lackN,go_sem, simprocAttr]) | (with_reducible refine bk ?_) | ((with_reducible refine' cE ?hv ?_ ?_); (case hv => first | rfl | (simp only [g4, lackN,go_sem, simprocAttr]; rfl)); all_goals (intro hc; (try simp only [go_sem, simprocAttr] at hc); try (exfalso; omega))) | ((with_reducible refine fe ?_); refine ⟨_, (by simp only [Try.f26, g4, lackN,go_sem, simprocAttr]; rfl), ?_⟩; first | rfl | (try simp only [g4, lackN,go_sem, simprocAttr, seval])) | with_reducible intro (ep : Nat → Nat) | with_reducible apply_assumption -exfalso -symm only [*])
 | true =>
  have hF := net_facts hN
  cases hO : openOK n.heads l with
  | false =>
   simp only [hN, hO, Bool.false_eq_true, if_false, if_true] at hop
   repeat' (first | (with_reducible refine sk ?_; intro K hK) | ((first | (with_reducible first | refine rg (md := { base := 0, own := [4], imp := [11, 19] }) (h := ?_) | refine rgS [4] (md := { base := 0, own := [4], imp := [11, 19] }) (h := ?_) | refine nx ?_) | refine pK (hop _) ?_); try simp (disch := omega) only [encNet, cNet,go_sem, simprocAttr]) | (with_reducible refine bk ?_) | ((with_reducible refine' cE ?hv ?_ ?_); (case hv => first | rfl | (simp only [encNet, cNet,go_sem, simprocAttr]; rfl)); all_goals (intro hc; (try simp only [go_sem, simprocAttr] at hc); try (exfalso; omega))) | (first | refine iK (hop _) ?_) | ((with_reducible refine fe ?_); refine ⟨_, (by simp only [Try.f26, encNet, cNet,go_sem, simprocAttr]; rfl), ?_⟩; first | rfl | (try simp only [encNet, cNet,go_sem, simprocAttr, seval])) | with_reducible intro (ep : Nat → Nat) | with_reducible apply_assumption -exfalso -symm only [*])
   rintro v H3 ⟨hlow, rfl⟩
   have g4 := hlow 4 (by decide)
   simp only [go_sem, simprocAttr] at g4
   simp only [go_sem, simprocAttr]
   repeat' (first | (with_reducible refine sk ?_; intro K hK) | ((with_reducible first | refine rg (md := { base := 0, own := [4], imp := [11, 19] }) (h := ?_) | refine rgS [4] (md := { base := 0, own := [4], imp := [11, 19] }) (h := ?_) | refine nx ?_); try simp (disch := omega) only [g4, lackN,go_sem, simprocAttr]) | (with_reducible refine bk ?_) | ((with_reducible refine' cE ?hv ?_ ?_); (case hv => first | rfl | (simp only [g4, lackN,go_sem, simprocAttr]; rfl)); all_goals (intro hc; (try simp only [go_sem, simprocAttr] at hc); try (exfalso; omega))) | ((with_reducible refine fe ?_); refine ⟨_, (by simp only [Try.f26, g4, lackN,go_sem, simprocAttr]; rfl), ?_⟩; first | rfl | (try simp only [g4, lackN,go_sem, simprocAttr, seval])) | with_reducible intro (ep : Nat → Nat) | with_reducible apply_assumption -exfalso -symm only [*])
  | true =>
   simp only [hN, hO, if_true] at hop
   repeat' (first | (with_reducible refine sk ?_; intro K hK) | ((first | (with_reducible first | refine rg (md := { base := 0, own := [4], imp := [11, 19] }) (h := ?_) | refine rgS [4] (md := { base := 0, own := [4], imp := [11, 19] }) (h := ?_) | refine nx ?_) | refine pK (hop _) ?_); try simp (disch := omega) only [encNet, cNet,go_sem, simprocAttr]) | (with_reducible refine bk ?_) | ((with_reducible refine' cE ?hv ?_ ?_); (case hv => first | rfl | (simp only [encNet, cNet,go_sem, simprocAttr]; rfl)); all_goals (intro hc; (try simp only [go_sem, simprocAttr] at hc); try (exfalso; omega))) | (first | refine iK (hop _) ?_) | ((with_reducible refine fe ?_); refine ⟨_, (by simp only [Try.f26, encNet, cNet,go_sem, simprocAttr]; rfl), ?_⟩; first | rfl | (try simp only [encNet, cNet,go_sem, simprocAttr, seval])) | with_reducible intro (ep : Nat → Nat) | with_reducible apply_assumption -exfalso -symm only [*])
   rintro v H3 ⟨hlow, e36, e33, e34, ver, rfl, h36, h33, h34⟩
   have g4 := hlow 4 (by decide)
   simp only [go_sem, simprocAttr] at g4
   simp only [go_sem, simprocAttr]
   repeat' (first | ((fail_if_success (with_reducible refine AW_at (id := 4) ?_)); with_reducible refine sk ?_; intro K hK) | ((with_reducible first | refine rg (md := { base := 0, own := [4], imp := [11, 19] }) (h := ?_) | refine rgS [4] (md := { base := 0, own := [4], imp := [11, 19] }) (h := ?_) | refine nx ?_); try simp (disch := omega) only [h36, h33, h34, g4,go_sem, simprocAttr]) | (with_reducible refine bk ?_) | ((with_reducible refine' cE ?hv ?_ ?_); (case hv => first | rfl | (simp only [h36, h33, h34, g4,go_sem, simprocAttr]; rfl)); all_goals (intro hc; (try simp only [go_sem, simprocAttr] at hc); try (exfalso; omega))) | ((with_reducible refine fe ?_); refine ⟨_, (by simp only [Try.f26, h36, h33, h34, g4,go_sem, simprocAttr]; rfl), ?_⟩; first | rfl | (try simp only [h36, h33, h34, g4,go_sem, simprocAttr, seval])) | with_reducible intro (ep : Nat → Nat) | with_reducible apply_assumption -exfalso -symm only [*])
   refine AW_freeze 436 h36 ?_
   refine AW_keep [4, 433, 434, 436] ?_
   obtain ⟨H4, hH4⟩ : ∃ H4, keep (upd H3 436 (some (e36, .fro 10 [cPlant n (openH n.heads l) e33 e34 (n.pipes.length + 1)]))) [4, 433, 434, 436] = H4 := ⟨_, rfl⟩
   have k36 : H4 436 = some (e36, .fro 10 [cPlant n (openH n.heads l) e33 e34 (n.pipes.length + 1)]) := by rw [← hH4]; rfl
   have k33 : H4 433 = some (e33, .arr 1 (ints (flowL n.pipes (n.pipes.length + 1) (openH n.heads l)))) := by rw [← hH4]; exact h33
   have k34 : H4 434 = some (e34, .map ver []) := by rw [← hH4]; exact h34
   have k4 := (congrFun hH4 4).symm.trans g4
   have kr : ∀ j, 600 ≤ j → H4 j = none := fun j hj => by
    rw [← hH4]; unfold keep; rw [if_neg]; simp; omega
   have k100 : H4 100 = none := by rw [← hH4]; rfl
   rw [hH4]
   clear hH4 h36 h33 h34 g4 hlow hop
   have hgo := getsV_ok n hF _ (openH_500 hF l) (by have := open_le hF.ids hO; have := @openH_len n.heads l; have := hF.heads; omega) (fun h hm => openH_node hF hm) e36 e33 e34 ver H4 k36 k33 k34 kr k100
   repeat' (first | (with_reducible refine sk ?_; intro K hK) | ((first | (with_reducible first | refine rg (md := { base := 0, own := [4], imp := [11, 19] }) (h := ?_) | refine rgS [4] (md := { base := 0, own := [4], imp := [11, 19] }) (h := ?_) | refine nx ?_) | refine pK (hgo) ?_); try simp (disch := omega) only [k36, k4,go_sem, simprocAttr]) | (with_reducible refine bk ?_) | ((with_reducible refine' cE ?hv ?_ ?_); (case hv => first | rfl | (simp only [k36, k4,go_sem, simprocAttr]; rfl)); all_goals (intro hc; (try simp only [go_sem, simprocAttr] at hc); try (exfalso; omega))) | (first | refine iK (hgo) ?_) | with_reducible intro (ep : Nat → Nat) | with_reducible apply_assumption -exfalso -symm only [*])
   rintro v H5 ⟨rfl, hlow⟩
   have g4 := (hlow 4 (by decide)).trans k4
   simp only [go_sem, simprocAttr, lackV, g4]
   repeat' (first | (with_reducible refine sk ?_; intro K hK) | ((with_reducible first | refine rg (md := { base := 0, own := [4], imp := [11, 19] }) (h := ?_) | refine rgS [4] (md := { base := 0, own := [4], imp := [11, 19] }) (h := ?_) | refine nx ?_); try simp (disch := omega) only [g4, lackV,go_sem, simprocAttr]) | (with_reducible refine bk ?_) | ((with_reducible refine' cE ?hv ?_ ?_); (case hv => first | rfl | (simp only [g4, lackV,go_sem, simprocAttr]; rfl)); all_goals (intro hc; (try simp only [go_sem, simprocAttr] at hc); try (exfalso; omega))) | ((with_reducible refine fe ?_); refine ⟨_, (by simp only [Try.f26, g4, lackV,go_sem, simprocAttr]; rfl), ?_⟩; first | rfl | (try simp only [g4, lackV,go_sem, simprocAttr, seval])) | with_reducible intro (ep : Nat → Nat) | with_reducible apply_assumption -exfalso -symm only [*])
theorem Gets_ok (n : NetT) (hs : NetS n) (l : List Int) (hl : l.length ≤ 100000) : PureC Try.prog 26 [encNet n, .lst 1 (ints l)] (getsD (lackV lackZ) n l) := by
 refine (Gets_ok0 n hs l hl).weak ?_ fun G w x h => ?_
 ·unfold getsD; split <;> (try split) <;> (simp only [noid, noids, noidss, lackV_noid, go_sem, simprocAttr]; rfl)
 ·have key : ∀ e, VR G w (.tup [lackN, .int .i64 e]) x → VR G w (.tup [lackV lackZ, .int .i64 e]) x := fun e h => by
   refine VR.tup_imp (vs := [lackN, .int .i64 e]) rfl (fun i v v' h1 h2 y hy => ?_) h
   match i, h1, h2 with
   | 0, h1, h2 => cases h1; cases h2; exact hy.agg3_nils
   | 1, h1, h2 => cases h1; cases h2; exact hy
  unfold getsD at h ⊢
  split
  ·rename_i hN
   rw [if_pos hN] at h
   split
   ·rename_i hO
    rw [if_pos hO] at h
    exact h
   ·rename_i hO
    rw [if_neg hO] at h
    exact key _ h
  ·rename_i hN
   rw [if_neg hN] at h
   exact key _ h
end Cp
namespace Cp
open Go Go.Proofs
set_option maxRecDepth 10000
set_option maxHeartbeats 4000000
end Cp
namespace Cp
open Go
end Cp
namespace Cp
open Go Go.Proofs
set_option maxRecDepth 10000
set_option maxHeartbeats 4000000
end Cp
namespace Cp
open Go
structure Bet (n n' : NetT) : Prop where
 np : n'.pipes.length = n.pipes.length
 pipe : ∀ (i : Nat) (p p' : PipeT), n.pipes[i]? = some p → n'.pipes[i]? = some p' → p'.frm = p.frm ∧ p'.foul.lo ≤ p.foul.lo ∧ p'.foul.hi ≤ p.foul.hi
 nq : n'.pumps.length = n.pumps.length
 pump : ∀ (i : Nat) (p p' : PumpT), n.pumps[i]? = some p → n'.pumps[i]? = some p' → p.full.lo ≤ p'.full.lo ∧ p.full.hi ≤ p'.full.hi ∧ p'.slope ≤ p.slope
 heads : n'.heads = n.heads
 tlo : n.tank.lo ≤ n'.tank.lo
 thi : n.tank.hi ≤ n'.tank.hi
 mins : n'.mins = n.mins
theorem Bet.refl (n : NetT) : Bet n n := ⟨rfl, fun i p p' h1 h2 => by rw [h1] at h2; cases h2; simp, rfl, fun i p p' h1 h2 => by rw [h1] at h2; cases h2; simp, rfl, Int.le_refl _, Int.le_refl _, rfl⟩
theorem Bet.frm {n n' : NetT} (h : Bet n n') (k : Nat) : frmOf n'.pipes k = frmOf n.pipes k := by
 unfold frmOf
 have hl := h.np
 cases h1 : n.pipes[k - 1]? with
 | none =>
  have : n'.pipes[k - 1]? = none := by rw [List.getElem?_eq_none_iff] at h1 ⊢; omega
  rw [this]
 | some p =>
  obtain ⟨p', h2⟩ : ∃ x, n'.pipes[k - 1]? = some x := ⟨_, List.getElem?_eq_getElem (by have := (List.getElem?_eq_some_iff.1 h1).1; omega)⟩
  rw [h2]
  simp only [(h.pipe _ p p' h1 h2).1]
theorem Bet.upN {n n' : NetT} (h : Bet n n') : ∀ (f k : Nat), upN n'.pipes f k = upN n.pipes f k
 | 0, k => rfl
 | f + 1, k => by simp only [Cp.upN, h.frm, h.upN f]
theorem Bet.path {n n' : NetT} (h : Bet n n') (k : Nat) : path n'.pipes k = path n.pipes k := h.upN k k
theorem Bet.via {n n' : NetT} (h : Bet n n') (k j : Nat) : via n'.pipes k j = via n.pipes k j := by unfold Cp.via; rw [h.path]
theorem Bet.flow {n n' : NetT} (h : Bet n n') (j : Nat) : ∀ (l : List HeadT), flowAt n'.pipes j l = flowAt n.pipes j l
 | [] => rfl
 | x :: l => by simp only [flowAt, h.via, h.flow j l]
theorem flow_sub {ps : List PipeT} {j : Nat} : ∀ {M L : List HeadT}, M.Sublist L → heads500 L → flowAt ps j M ≤ flowAt ps j L
 | _, _, .slnil, _ => Int.le_refl _
 | _, _, .cons (l₂ := L) x h, h5 => by
  have h1 := flow_sub (ps := ps) (j := j) h fun y hy => h5 y (by simp [hy])
  have h2 := h5 x (by simp)
  simp only [flowAt]; split <;> omega
 | _, _, .cons_cons x h, h5 => by
  have h1 := flow_sub (ps := ps) (j := j) h fun y hy => h5 y (by simp [hy])
  simp only [flowAt]; omega
theorem needs_sub : ∀ {M L : List HeadT}, M.Sublist L → heads500 L → needs M ≤ needs L
 | _, _, .slnil, _ => Int.le_refl _
 | _, _, .cons (l₂ := L) x h, h5 => by
  have h1 := needs_sub h fun y hy => h5 y (by simp [hy])
  have h2 := h5 x (by simp)
  simp only [needs]; omega
 | _, _, .cons_cons x h, h5 => by
  have h1 := needs_sub h fun y hy => h5 y (by simp [hy])
  simp only [needs]; omega
theorem sub500 {M L : List HeadT} (h : M.Sublist L) (h5 : heads500 L) : heads500 M := fun x hx => h5 x (h.subset hx)
theorem pumpsF_mono {best : Bool} {s s' : Int} (h0 : 0 ≤ s') (hs : s' ≤ s) {out : List Int} : ∀ {l l' : List PumpT} {i : Nat} {a a' : Int}, l'.length = l.length →
  (∀ (j : Nat) (p p' : PumpT), l[j]? = some p → l'[j]? = some p' → p.full.lo ≤ p'.full.lo ∧ p.full.hi ≤ p'.full.hi ∧ p'.slope ≤ p.slope ∧ 0 ≤ p'.slope) → a ≤ a' → pumpsF best s out l i a ≤ pumpsF best s' out l' i a'
 | [], [], _, _, _, _, _, ha => ha
 | p :: l, p' :: l', i, a, a', hl, hp, ha => by
  obtain ⟨h1, h2, h3, h4⟩ := hp 0 p p' rfl rfl
  have e1 : p'.slope * s' ≤ p.slope * s := Int.mul_le_mul h3 hs h0 (by omega)
  have e2 : fullE best p ≤ fullE best p' := by unfold fullE; split <;> assumption
  simp only [pumpsF]
  refine pumpsF_mono h0 hs (by simpa using hl) (fun j q q' hq hq' => hp (j + 1) q q' (by simpa using hq) (by simpa using hq')) ?_
  split <;> omega
theorem loss_mono {n n' : NetT} (h : Bet n n') (hF' : NetF n') {M L : List HeadT} (hs : M.Sublist L) (h5 : heads500 L) (best : Bool) (k : Nat) : lossAt n'.pipes M best k ≤ lossAt n.pipes L best k := by
 unfold lossAt
 have hl := h.np
 rw [h.flow]
 cases h1 : n.pipes[k - 1]? with
 | none =>
  have : n'.pipes[k - 1]? = none := by rw [List.getElem?_eq_none_iff] at h1 ⊢; omega
  rw [this]; exact Int.le_refl _
 | some p =>
  obtain ⟨p', h2⟩ : ∃ x, n'.pipes[k - 1]? = some x := ⟨_, List.getElem?_eq_getElem (by have := (List.getElem?_eq_some_iff.1 h1).1; omega)⟩
  rw [h2]
  obtain ⟨_, h3, h4⟩ := h.pipe _ p p' h1 h2
  have hb := foulE_bnd (hF'.pipe _ p' h2).2.2 best
  have e2 : foulE best p' ≤ foulE best p := by unfold foulE; split <;> assumption
  have f0 := (flowAt_bnd (ps := n.pipes) (j := k) (sub500 hs h5)).1
  have f1 := flow_sub (ps := n.pipes) (j := k) hs h5
  simp only
  refine upD_mono ?_ (by omega)
  refine Int.mul_le_mul (Int.mul_le_mul e2 f1 f0 (by omega)) f1 f0 ?_
  exact Int.mul_nonneg (by omega) (by omega)
theorem lossL_mono {n n' : NetT} (h : Bet n n') (hF' : NetF n') {M L : List HeadT} (hs : M.Sublist L) (h5 : heads500 L) (best : Bool) : ∀ (l : List Nat), lossL n'.pipes M best l ≤ lossL n.pipes L best l
 | [] => Int.le_refl _
 | k :: l => by
  have h1 := loss_mono h hF' hs h5 best k
  have h2 := lossL_mono h hF' hs h5 best l
  simp only [lossL]; omega
theorem press_mono {n n' : NetT} (h : Bet n n') (hF : NetF n) (hF' : NetF n') {M L : List HeadT} (hs : M.Sublist L) (h5 : heads500 L) {out : List Int} (ho : outOK n out = true) (best : Bool) (x : HeadT) : pressS n L out best x ≤ pressS n' M out best x := by
 have hoF := out_facts ho
 have hlo := hF.out
 have n0 := (needs_bnd (sub500 hs h5)).1
 have hn0 : 0 ≤ needs M := by omega
 have hsh : shareS n' (needs M) out ≤ shareS n (needs L) out := by
  unfold shareS
  rw [h.nq]
  exact upD_mono (needs_sub hs h5) (by omega)
 have hs0 : 0 ≤ shareS n' (needs M) out := (upD_bnd hn0 (by rw [h.nq]; omega)).1
 have e1 : pumpsS n L out best ≤ pumpsS n' M out best := by
  unfold pumpsS
  refine pumpsF_mono hs0 hsh h.nq (fun j p p' h1 h2 => ?_) (Int.le_refl _)
  obtain ⟨a, b, c⟩ := h.pump j p p' h1 h2
  exact ⟨a, b, c, (hF'.pump p' (List.mem_of_getElem? h2)).2.1⟩
 have e2 := lossL_mono h hF' hs h5 best (path n.pipes x.node.toNat)
 unfold pressS
 rw [h.path]
 omega
theorem lack_mono {n n' : NetT} (h : Bet n n') (hF : NetF n) (hF' : NetF n') {M L : List HeadT} (hs : M.Sublist L) (h5 : heads500 L) {out : List Int} (ho : outOK n out = true) (best : Bool) (hl : (lackS n L out best).2 = false) : (lackS n' M out best).2 = false := by
 obtain ⟨h1, h2⟩ := lackS_false.1 hl
 refine lackS_false.2 ⟨fun x hx => Int.le_trans (h1 x (hs.subset hx)) (press_mono h hF hF' hs h5 ho best x), ?_⟩
 have e1 : tankH n best ≤ tankH n' best := by unfold tankH; split; exact h.thi; exact h.tlo
 have e2 : needs M * n'.mins ≤ needs L * n.mins := by
  rw [h.mins]
  exact Int.mul_le_mul_of_nonneg_right (needs_sub hs h5) hF.mins.1
 omega
theorem sure_mono {n n' : NetT} (h : Bet n n') (hF : NetF n) (hF' : NetF n') (ho : ∀ o, outOK n' o = true → outOK n o = true) {M L : List HeadT} (hs : M.Sublist L) (h5 : heads500 L) (hk : (getsS n L).known = 2) : (getsS n' M).known = 2 := by
 have g1 := gets_facts hF.out.1 L
 have g2 := gets_facts hF'.out.1 M
 refine Decidable.byContradiction fun hne => ?_
 obtain ⟨q1, q2, _⟩ := g2.bad hne
 have h1 : (lackS n L (getsS n' M).out false).2 = false := (g1.yes hk).2.2 _ (ho _ q1)
 have h2 : (lackS n' M (getsS n' M).out false).2 = true := q2
 rw [lack_mono h hF hF' hs h5 (ho _ q1) false h1] at h2
 cases h2
theorem known_mono {n n' : NetT} (h : Bet n n') (hF : NetF n) (hF' : NetF n') (ho : ∀ o, outOK n' o = outOK n o) {M L : List HeadT} (hs : M.Sublist L) (h5 : heads500 L) : (getsS n L).known ≤ (getsS n' M).known := by
 have g1 := gets_facts hF.out.1 L
 have g2 := gets_facts hF'.out.1 M
 rcases g1.kn with hk | hk | hk
 ·have := g2.kn; omega
 ·obtain ⟨o, q1, q2⟩ := g1.op hk
  have h3 : (lackS n L o true).2 = false := by unfold goodO at q2; simpa using q2
  have h4 := lack_mono h hF hF' hs h5 q1 true h3
  have : ¬ (getsS n' M).known = 0 := fun h0 => by
   have := g2.no h0 o (by rw [ho]; exact q1)
   unfold goodO at this
   rw [h4] at this
   cases this
  have := g2.kn; omega
 ·have := sure_mono h hF hF' (fun o h => by rw [← ho]; exact h) hs h5 hk
  omega
end Cp
namespace Cp
open Go Go.Proofs
set_option maxRecDepth 10000
set_option maxHeartbeats 4000000
end Cp
namespace Cp
open Go
def mayF : List HeadT → List (List Int) → List Int
 | h :: hs, l :: ls => (if 0 < burstS l h.bulb.lo h.slow.lo then [h.id] else []) ++ mayF hs ls
 | _, _ => []
def sureF : List HeadT → List (List Int) → List Int
 | h :: hs, l :: ls => (if 0 < burstS l h.bulb.hi h.slow.hi then [h.id] else []) ++ sureF hs ls
 | _, _ => []
theorem mayF_snoc : ∀ {hs : List HeadT} {ls : List (List Int)} {k : Nat} {h : HeadT} {l : List Int}, hs[k]? = some h → ls[k]? = some l → mayF (hs.take (k + 1)) (ls.take (k + 1)) = mayF (hs.take k) (ls.take k) ++ (if 0 < burstS l h.bulb.lo h.slow.lo then [h.id] else [])
 | [], _, _, _, _, h1, _ => by simp at h1
 | _ :: _, [], _, _, _, _, h2 => by simp at h2
 | a :: hs, b :: ls, 0, h, l, h1, h2 => by
  simp at h1 h2; subst h1 h2
  simp [mayF]
 | a :: hs, b :: ls, k + 1, h, l, h1, h2 => by
  have := mayF_snoc (hs := hs) (ls := ls) (k := k) (by simpa using h1) (by simpa using h2)
  simp only [List.take_succ_cons, mayF, List.append_assoc]
  rw [this]
theorem sureF_snoc : ∀ {hs : List HeadT} {ls : List (List Int)} {k : Nat} {h : HeadT} {l : List Int}, hs[k]? = some h → ls[k]? = some l → sureF (hs.take (k + 1)) (ls.take (k + 1)) = sureF (hs.take k) (ls.take k) ++ (if 0 < burstS l h.bulb.hi h.slow.hi then [h.id] else [])
 | [], _, _, _, _, h1, _ => by simp at h1
 | _ :: _, [], _, _, _, _, h2 => by simp at h2
 | a :: hs, b :: ls, 0, h, l, h1, h2 => by
  simp at h1 h2; subst h1 h2
  simp [sureF]
 | a :: hs, b :: ls, k + 1, h, l, h1, h2 => by
  have := sureF_snoc (hs := hs) (ls := ls) (k := k) (by simpa using h1) (by simpa using h2)
  simp only [List.take_succ_cons, sureF, List.append_assoc]
  rw [this]
theorem mayF_sub : ∀ (hs : List HeadT) (ls : List (List Int)), (mayF hs ls).Sublist (hs.map (·.id))
 | [], _ => by simp [mayF]
 | h :: hs, [] => by simp [mayF]
 | h :: hs, l :: ls => by
  simp only [mayF, List.map_cons]
  have := mayF_sub hs ls
  split
  ·exact this.cons_cons _
  ·exact this.cons _
theorem sureF_sub : ∀ (hs : List HeadT) (ls : List (List Int)), (sureF hs ls).Sublist (hs.map (·.id))
 | [], _ => by simp [sureF]
 | h :: hs, [] => by simp [sureF]
 | h :: hs, l :: ls => by
  simp only [sureF, List.map_cons]
  have := sureF_sub hs ls
  split
  ·exact this.cons_cons _
  ·exact this.cons _
theorem ids_open {n : NetT} (hF : NetF n) {l : List Int} (h : l.Sublist (n.heads.map (·.id))) : openOK n.heads l = true := by
 refine okL_of (fun a ha => ?_) ?_ (fun c hc => by cases hc)
 ·obtain ⟨x, hx, rfl⟩ := List.mem_map.1 (h.subset ha)
  rw [headAt_of hF.ids hx]; rfl
 ·have : (n.heads.map (·.id)).Pairwise (· < ·) := by rw [List.pairwise_map]; exact hF.ids
  exact this.sublist h
def LstG (k : Nat) (L : List Int) (v : Val) (H : Hp) : Prop := (L = [] ∧ v = .nils) ∨ (¬ L = [] ∧ ∃ ea, v = .gr k ea L.length ∧ H k = some (ea, .arr 1 (ints L)))
theorem LstG.same {k : Nat} {L : List Int} {v : Val} {H H' : Hp} (h : LstG k L v H) (e : H' k = H k) : LstG k L v H' := by
 rcases h with h | ⟨h1, ea, h2, h3⟩
 ·exact .inl h
 ·exact .inr ⟨h1, ea, h2, by rw [e]; exact h3⟩
theorem LstG.snoc {k ea : Nat} {L : List Int} {x : Int} {H : Hp} (h : H k = some (ea, .arr 1 (ints L ++ [[.int .i64 x]]))) : LstG k (L ++ [x]) (.gr k ea (L.length + 1)) H :=
 .inr ⟨by simp, ea, by simp, by rw [h]; simp [ints]⟩
theorem LstG.one {k ea : Nat} {x : Int} {H : Hp} (h : H k = some (ea, .arr 1 [[.int .i64 x]])) : LstG k ([] ++ [x]) (.gr k ea 1) H := LstG.snoc (L := []) h
section
variable {P : Program} {ro : Option Nat} {X : Cx} {Q : Exit → Fr → Hp → Prop} {f : Fr} {H : Hp} {c : Code}
theorem AW_nils (t n : Nat) (hv : f t = .nils) (h : AW P ro X c Q (upd f t (.lst n [])) H) : AW P ro X c Q f H := fun G a w s => by
 refine h G a w ⟨s.tr, s.rel, fun t' => ?_, s.size, s.dfr⟩
 by_cases ht : t' = t
 ·subst ht
  rw [upd_same]
  have := s.fr t'
  rw [hv] at this
  exact this.nils_lst n
 ·rw [upd_ne _ _ ht]; exact s.fr t'
theorem AW_lstG {t k : Nat} {L : List Int} (h : LstG k L (f t) H) (hc : ∀ f' H', f' t = .lst 1 (ints L) → (∀ j, ¬ j = t → f' j = f j) → (∀ j, ¬ j = k → H' j = H j) → AW P ro X c Q f' H') : AW P ro X c Q f H := by
 rcases h with ⟨rfl, h⟩ | ⟨_, ea, h, hk⟩
 ·exact AW_nils t 1 h (hc _ _ (upd_same _ _ _) (fun j hj => upd_ne _ _ hj) fun _ _ => rfl)
 ·refine AW_freeze k hk ?_
  refine AW_retell t 6 ?_
  refine hc _ _ ?_ (fun j hj => upd_ne _ _ hj) fun j hj => upd_ne _ _ hj
  rw [upd_same, h]
  exact thawI rfl (upd_same _ _ _)
end
end Cp
namespace Cp
def openF (b : Int) : List HeadT → List (List Int) → Nat → List Int
 | h :: hs, l :: ls, i => (if 0 < burstS l h.bulb.lo h.slow.lo ∧ (0 < burstS l h.bulb.hi h.slow.hi ∨ bitI b (i % 8) = true) then [h.id] else []) ++ openF b hs ls (i + 1)
 | _, _, _ => []
theorem openF_snoc {b : Int} : ∀ {hs : List HeadT} {ls : List (List Int)} {k i : Nat} {h : HeadT} {l : List Int}, hs[k]? = some h → ls[k]? = some l →
  openF b (hs.take (k + 1)) (ls.take (k + 1)) i = openF b (hs.take k) (ls.take k) i ++ (if 0 < burstS l h.bulb.lo h.slow.lo ∧ (0 < burstS l h.bulb.hi h.slow.hi ∨ bitI b ((i + k) % 8) = true) then [h.id] else [])
 | [], _, _, _, _, _, h1, _ => by simp at h1
 | _ :: _, [], _, _, _, _, _, h2 => by simp at h2
 | a :: hs, c :: ls, 0, i, h, l, h1, h2 => by
  simp at h1 h2; subst h1 h2
  simp [openF]
 | a :: hs, c :: ls, k + 1, i, h, l, h1, h2 => by
  have := openF_snoc (b := b) (hs := hs) (ls := ls) (k := k) (i := i + 1) (by simpa using h1) (by simpa using h2)
  simp only [List.take_succ_cons, openF, List.append_assoc]
  rw [this, show i + 1 + k = i + (k + 1) by omega]
theorem openF_sub {b : Int} : ∀ (hs : List HeadT) (ls : List (List Int)) (i : Nat), (openF b hs ls i).Sublist (mayF hs ls)
 | [], _, _ => by simp [openF]
 | h :: hs, [], _ => by simp [openF]
 | h :: hs, l :: ls, i => by
  have := openF_sub (b := b) hs ls (i + 1)
  simp only [openF, mayF]
  refine List.Sublist.append ?_ this
  split
  ·rename_i h1; rw [if_pos h1.1]; exact List.Sublist.refl _
  ·exact List.nil_sublist _
theorem mayF_split : ∀ (k : Nat) (hs : List HeadT) (ls : List (List Int)), mayF hs ls = mayF (hs.take k) (ls.take k) ++ mayF (hs.drop k) (ls.drop k)
 | 0, hs, ls => by simp [mayF]
 | k + 1, [], ls => by simp [mayF]
 | k + 1, h :: hs, [] => by simp [mayF]
 | k + 1, h :: hs, l :: ls => by
  simp only [List.take_succ_cons, List.drop_succ_cons, mayF, List.append_assoc]
  rw [← mayF_split k hs ls]
theorem sureF_split : ∀ (k : Nat) (hs : List HeadT) (ls : List (List Int)), sureF hs ls = sureF (hs.take k) (ls.take k) ++ sureF (hs.drop k) (ls.drop k)
 | 0, hs, ls => by simp [sureF]
 | k + 1, [], ls => by simp [sureF]
 | k + 1, h :: hs, [] => by simp [sureF]
 | k + 1, h :: hs, l :: ls => by
  simp only [List.take_succ_cons, List.drop_succ_cons, sureF, List.append_assoc]
  rw [← sureF_split k hs ls]
theorem mayF_at {hs : List HeadT} {ls : List (List Int)} {k : Nat} {h : HeadT} {l : List Int} (h1 : hs[k]? = some h) (h2 : ls[k]? = some l) (hp : 0 < burstS l h.bulb.lo h.slow.lo) : (mayF hs ls)[(mayF (hs.take k) (ls.take k)).length]? = some h.id := by
 rw [mayF_split (k + 1) hs ls, mayF_snoc h1 h2, if_pos hp, List.append_assoc, List.getElem?_append_right (Nat.le_refl _)]
 simp
theorem sureF_at {hs : List HeadT} {ls : List (List Int)} {k : Nat} {h : HeadT} {l : List Int} (h1 : hs[k]? = some h) (h2 : ls[k]? = some l) (hp : 0 < burstS l h.bulb.hi h.slow.hi) : (sureF hs ls)[(sureF (hs.take k) (ls.take k)).length]? = some h.id := by
 rw [sureF_split (k + 1) hs ls, sureF_snoc h1 h2, if_pos hp, List.append_assoc, List.getElem?_append_right (Nat.le_refl _)]
 simp
end Cp
namespace Cp
open Go
theorem fit_map {α : Type} {c : α → List Val} : ∀ {xss : List (List Val)}, (∀ es ∈ xss, ∃ x, es = c x) → ∃ l : List α, xss = l.map c
 | [], _ => ⟨[], rfl⟩
 | es :: xss, h => by
  obtain ⟨x, rfl⟩ := h es (by simp)
  obtain ⟨l, rfl⟩ := fit_map fun es he => h es (List.mem_cons_of_mem _ he)
  exact ⟨x :: l, rfl⟩
theorem fit_slice {T : Tab} {n : Nat} {t e sz : Nat} {vs : List Val} {b b2 s1 : Nat} {z z2 : Val} {p p2 : Bool} {k2 : TK} {α : Type} {c : α → List Val} (ht : T t = some { kind := .slice e, sz := s1, bytes := b, zero := z, plain := p })
  (he : T e = some { kind := k2, sz := sz, bytes := b2, zero := z2, plain := p2 }) (h : Fit T (n + 1) t vs) (hc : ∀ es, Fit T n e es → ∃ x, es = c x) : ∃ l : List α, vs = [.lst sz (l.map c)] := by
 simp only [Fit, ht] at h
 obtain ⟨sz', xss, rfl, hs, _, hx⟩ := h
 rw [he] at hs
 cases hs
 obtain ⟨l, rfl⟩ := fit_map (c := c) fun es hes => hc es (hx es hes).2
 exact ⟨l, rfl⟩
theorem fit_struct {T : Tab} {n : Nat} {t sz : Nat} {vs : List Val} {b : Nat} {z : Val} {p : Bool} {fs : List (Nat × Nat)} (ht : T t = some { kind := .struct fs, sz := sz, bytes := b, zero := z, plain := p }) (h : Fit T (n + 1) t vs) :
  vs.length = sz ∧ ∀ q ∈ fs, ∃ fi, T q.2 = some fi ∧ Fit T n q.2 ((vs.drop q.1).take fi.sz) := by
 simp only [Fit, ht] at h
 exact h
theorem fit_int {T : Tab} {n : Nat} {t : Nat} {vs : List Val} {s b : Nat} {z : Val} {p : Bool} {k : IntKind} (ht : T t = some { kind := .int k, sz := s, bytes := b, zero := z, plain := p }) (h : Fit T (n + 1) t vs) : ∃ m, vs = [.int k m] ∧ (Lit.int k m).wf = true := by
 simp only [Fit, ht] at h
 exact h
theorem fit3 {n : Nat} {vs : List Val} (h : Fit tab (n + 1) 3 vs) : ∃ m, vs = [.int .i64 m] := by
 obtain ⟨m, h, _⟩ := fit_int tab_3 h; exact ⟨m, h⟩
theorem fit_ints {n : Nat} {vs : List Val} {t b s1 : Nat} {z : Val} {p : Bool} (ht : tab t = some { kind := .slice 3, sz := s1, bytes := b, zero := z, plain := p }) (h : Fit tab (n + 2) t vs) : ∃ l : List Int, vs = [.lst 1 (ints l)] := by
 obtain ⟨l, rfl⟩ := fit_slice (c := fun m : Int => [Val.int .i64 m]) ht tab_3 h fun es he => fit3 he
 exact ⟨l, rfl⟩
theorem fit_two {n : Nat} {vs : List Val} {t b : Nat} {z : Val} {p : Bool} (ht : tab t = some { kind := .struct [(0, 3), (1, 3)], sz := 2, bytes := b, zero := z, plain := p }) (h : Fit tab (n + 2) t vs) : ∃ x y : Int, vs = [.int .i64 x, .int .i64 y] := by
 obtain ⟨hl, hq⟩ := fit_struct ht h
 match vs, hl with
 | [a, b], _ =>
  obtain ⟨fi, e, h0⟩ := hq (0, 3) (by simp)
  rw [tab_3] at e; cases e
  obtain ⟨fi, e, h1⟩ := hq (1, 3) (by simp)
  rw [tab_3] at e; cases e
  obtain ⟨x, hx⟩ := fit3 h0
  obtain ⟨y, hy⟩ := fit3 h1
  simp at hx hy
  exact ⟨x, y, by rw [hx, hy]⟩
theorem fit_span {n : Nat} {vs : List Val} (h : Fit tab (n + 2) 26 vs) : ∃ s : Span, vs = [.int .i64 s.lo, .int .i64 s.hi] := by
 obtain ⟨x, y, h⟩ := fit_two tab_26 h; exact ⟨⟨x, y⟩, h⟩
theorem fit_pipe {n : Nat} {vs : List Val} (h : Fit tab (n + 3) 89 vs) : ∃ x : PipeT, vs = cPipe x := by
 obtain ⟨hl, hq⟩ := fit_struct tab_89 h
 match vs, hl with
 | [a0, a1, a2, a3], _ =>
  obtain ⟨fi, e0, h0⟩ := hq (0, 3) (by simp)
  rw [tab_3] at e0; cases e0
  obtain ⟨fi, e1, h1⟩ := hq (1, 3) (by simp)
  rw [tab_3] at e1; cases e1
  obtain ⟨fi, e2, h2⟩ := hq (2, 26) (by simp)
  rw [tab_26] at e2; cases e2
  obtain ⟨x0, h0⟩ := fit3 h0
  obtain ⟨x1, h1⟩ := fit3 h1
  obtain ⟨x2, h2⟩ := fit_span h2
  simp at h0 h1 h2
  obtain ⟨h2, h2'⟩ := h2
  exact ⟨⟨x0, x1, x2⟩, by rw [h0, h1, h2, h2']; rfl⟩
theorem fit_head {n : Nat} {vs : List Val} (h : Fit tab (n + 3) 61 vs) : ∃ x : HeadT, vs = cHead x := by
 obtain ⟨hl, hq⟩ := fit_struct tab_61 h
 match vs, hl with
 | [a0, a1, a2, a3, a4, a5, a6, a7], _ =>
  obtain ⟨fi, e0, h0⟩ := hq (0, 3) (by simp)
  rw [tab_3] at e0; cases e0
  obtain ⟨fi, e1, h1⟩ := hq (1, 3) (by simp)
  rw [tab_3] at e1; cases e1
  obtain ⟨fi, e2, h2⟩ := hq (2, 3) (by simp)
  rw [tab_3] at e2; cases e2
  obtain ⟨fi, e3, h3⟩ := hq (3, 3) (by simp)
  rw [tab_3] at e3; cases e3
  obtain ⟨fi, e4, h4⟩ := hq (4, 26) (by simp)
  rw [tab_26] at e4; cases e4
  obtain ⟨fi, e5, h5⟩ := hq (6, 26) (by simp)
  rw [tab_26] at e5; cases e5
  obtain ⟨x0, h0⟩ := fit3 h0
  obtain ⟨x1, h1⟩ := fit3 h1
  obtain ⟨x2, h2⟩ := fit3 h2
  obtain ⟨x3, h3⟩ := fit3 h3
  obtain ⟨x4, h4⟩ := fit_span h4
  obtain ⟨x5, h5⟩ := fit_span h5
  simp at h0 h1 h2 h3 h4 h5
  obtain ⟨h4, h4'⟩ := h4
  obtain ⟨h5, h5'⟩ := h5
  exact ⟨⟨x0, x1, x2, x3, x4, x5⟩, by rw [h0, h1, h2, h3, h4, h4', h5, h5']; rfl⟩
theorem fit_pump {n : Nat} {vs : List Val} (h : Fit tab (n + 3) 94 vs) : ∃ x : PumpT, vs = cPump x := by
 obtain ⟨hl, hq⟩ := fit_struct tab_94 h
 match vs, hl with
 | [a0, a1, a2], _ =>
  obtain ⟨fi, e0, h0⟩ := hq (0, 26) (by simp)
  rw [tab_26] at e0; cases e0
  obtain ⟨fi, e1, h1⟩ := hq (2, 3) (by simp)
  rw [tab_3] at e1; cases e1
  obtain ⟨x0, h0⟩ := fit_span h0
  obtain ⟨x1, h1⟩ := fit3 h1
  simp at h0 h1
  obtain ⟨h0, h0'⟩ := h0
  exact ⟨⟨x0, x1⟩, by rw [h0, h0', h1]; rfl⟩
theorem fit_net {n : Nat} {vs : List Val} (h : Fit tab (n + 5) 28 vs) : ∃ x : NetT, vs = cNet x := by
 obtain ⟨hl, hq⟩ := fit_struct tab_28 h
 match vs, hl with
 | [a0, a1, a2, a3, a4, a5, a6], _ =>
  obtain ⟨fi, e0, h0⟩ := hq (0, 22) (by simp)
  rw [tab_22] at e0; cases e0
  obtain ⟨fi, e1, h1⟩ := hq (1, 23) (by simp)
  rw [tab_23] at e1; cases e1
  obtain ⟨fi, e2, h2⟩ := hq (2, 24) (by simp)
  rw [tab_24] at e2; cases e2
  obtain ⟨fi, e3, h3⟩ := hq (3, 3) (by simp)
  rw [tab_3] at e3; cases e3
  obtain ⟨fi, e4, h4⟩ := hq (4, 26) (by simp)
  rw [tab_26] at e4; cases e4
  obtain ⟨fi, e5, h5⟩ := hq (6, 3) (by simp)
  rw [tab_3] at e5; cases e5
  obtain ⟨x0, h0⟩ := fit_slice tab_22 tab_89 h0 fun es he => fit_pipe he
  obtain ⟨x1, h1⟩ := fit_slice tab_23 tab_61 h1 fun es he => fit_head he
  obtain ⟨x2, h2⟩ := fit_slice tab_24 tab_94 h2 fun es he => fit_pump he
  obtain ⟨x3, h3⟩ := fit3 h3
  obtain ⟨x4, h4⟩ := fit_span h4
  obtain ⟨x5, h5⟩ := fit3 h5
  simp at h0 h1 h2 h3 h4 h5
  obtain ⟨h4, h4'⟩ := h4
  exact ⟨⟨x0, x1, x2, x3, x4, x5⟩, by rw [h0, h1, h2, h3, h4, h4', h5]; rfl⟩
theorem arg_byte {a : Val} (h : FitV tab 8 5 a) : ∃ m, a = .int .u8 m ∧ 0 ≤ m ∧ m ≤ 255 := by
 obtain ⟨ti, cs, e, h, _, rfl⟩ := h
 obtain ⟨m, rfl, hw⟩ := fit_int tab_5 h
 rw [tab_5] at e; cases e
 simp [Lit.wf, IntKind.min, IntKind.max, IntKind.signed, IntKind.bits] at hw
 exact ⟨m, rfl, by omega, by omega⟩
def cInts (l : List Int) : List Val := [.lst 1 (ints l)]
theorem arg_lists {a : Val} (h : FitV tab 8 62 a) : ∃ l : List (List Int), a = .lst 1 (l.map cInts) := by
 obtain ⟨ti, cs, e, h, _, rfl⟩ := h
 obtain ⟨l, rfl⟩ := fit_slice (c := cInts) tab_62 tab_29 h fun es he => fit_ints tab_29 he
 rw [tab_62] at e; cases e; exact ⟨l, rfl⟩
theorem arg_net {a : Val} (h : FitV tab 8 28 a) : ∃ x : NetT, a = encNet x := by
 obtain ⟨ti, cs, e, h, _, rfl⟩ := h
 obtain ⟨l, rfl⟩ := fit_net h
 rw [tab_28] at e; cases e; exact ⟨l, rfl⟩
end Cp
namespace Cp
open Go Go.Proofs
set_option maxRecDepth 10000
set_option maxHeartbeats 4000000
def fireD (z1 z : Val) (n : NetT) (ls : List (List Int)) : Val :=
 if netOK n = true then (if ls.length = n.heads.length then (if ls.all heatOK = true then .tup [.lst 1 (ints (sureF n.heads ls)), .lst 1 (ints (mayF n.heads ls)), lackV (getsS n (openH n.heads (mayF n.heads ls))), .int .i64 0] else .tup [z1, z1, z, .int .i64 51]) else .tup [z1, z1, z, .int .i64 2]) else .tup [z1, z1, z, .int .i64 50]
theorem made_net {n : NetT} (hF : NetF n) {h : HeadT} (hm : h ∈ n.heads) : madeOK h 12 = true := by
 have h1 := hF.head h hm
 have h2 := hF.pipes
 simp only [madeOK, bulbOK, Bool.and_eq_true, decide_eq_true_eq]
 exact ⟨by omega, h1.1⟩
theorem Fire_ok0 (n : NetT) (hs : NetS n) (ls : List (List Int)) (hll : ls.length ≤ 100000) (hl : ∀ l ∈ ls, l.length ≤ 100000) : PureC Try.prog 33 [encNet n, .lst 1 (ls.map cInts)] (fireD .nils lackN n ls) := by
 have hnoid : noid (fireD .nils lackN n ls) = true := by unfold fireD; split <;> (try split) <;> (try split) <;> (simp only [noid, noids, noidss, lackN, lackV_noid, go_sem, simprocAttr]; rfl)
 have hll2 : noidss (ls.map cInts) = true := noidss_map fun l => by simp only [cInts, noids, noid, ints_noid, Bool.and_self]
 have hck := check_ok n (by have := hs.pipes; omega) (by have := hs.heads; omega) (by have := hs.pumps; omega)
 unfold checkN at hck
 simp only [encNet, cNet] at hck
 refine PureC_of (fn := Try.f33) tabOK (by kernel_rfl) rfl (by kernel_rfl) (by simp [Try.f33]) (by simp [noids, noid, noidss, go_sem, encNet, cNet, hnoid, hll2]) (by first | rfl | simp [noids, noid, noidss, go_sem, encNet, cNet, hnoid, hll2]) ?_
 intro X hX0 hXs
 unfold fireD
 cases hN : netOK n with
 | false =>
  simp only [hN, Bool.false_eq_true, if_false] at hck
  repeat' (first | (with_reducible refine sk ?_; intro K hK) | ((first | (with_reducible first | refine rg (md := { base := 0, own := [6, 10, 55, 62], fz := [67] }) (h := ?_) | refine rgS [6, 10] (md := { base := 0, own := [6, 10, 55, 62], fz := [67] }) (h := ?_) | refine nx ?_) | refine pK (hck) ?_); try simp (disch := omega) only [encNet, cNet, lackN,go_sem, simprocAttr]) | (with_reducible refine bk ?_) | ((with_reducible refine' cE ?hv ?_ ?_); (case hv => first | rfl | (simp only [encNet, cNet, lackN,go_sem, simprocAttr]; rfl)); all_goals (intro hc; (try simp only [go_sem, simprocAttr] at hc); try (exfalso; omega))) | ((with_reducible refine fe ?_); refine ⟨_, (by simp only [Try.f33, encNet, cNet, lackN,go_sem, simprocAttr]; rfl), ?_⟩; first | rfl | (try simp only [encNet, cNet, lackN,go_sem, simprocAttr, seval])) | with_reducible intro (ep : Nat → Nat) | with_reducible apply_assumption -exfalso -symm only [*])
 | true =>
  simp only [hN, if_true] at hck
  have hF := net_facts hN
  have hhl := hF.heads
  by_cases hlen : ls.length = n.heads.length
  ·simp only [if_true, hlen]
   have hlen' : (ls.length : Int) = n.heads.length := by omega
   have hbu := fun (h : HeadT) (hm : h ∈ n.heads) (l : List Int) (hl : l.length ≤ 100000) => Bursts_ok h l hl
   repeat' (first | ((fail_if_success (with_reducible refine AW_at (id := 6) ?_)); with_reducible refine sk ?_; intro K hK) | ((first | (with_reducible first | refine rg (md := { base := 0, own := [6, 10, 55, 62], fz := [67] }) (h := ?_) | refine rgS [6, 10] (md := { base := 0, own := [6, 10, 55, 62], fz := [67] }) (h := ?_) | refine nx ?_) | refine pK (hck) ?_); try simp (disch := omega) only [encNet, cNet, hlen',go_sem, simprocAttr]) | (with_reducible refine bk ?_) | ((with_reducible refine' cE ?hv ?_ ?_); (case hv => first | rfl | (simp only [encNet, cNet, hlen',go_sem, simprocAttr]; rfl)); all_goals (intro hc; (try simp only [go_sem, simprocAttr] at hc); try (exfalso; omega))) | with_reducible intro (ep : Nat → Nat) | with_reducible apply_assumption -exfalso -symm only [*])
   have hcut : ∀ e6 f H, (f 2 = .pim (cNet n) ∧ f 6 = .ptr 6 e6 3 0 0) ∧ H 6 = some (e6, .arr 3 [[.int .u8 0, .int .i64 0, .nils]]) ∧ LstG 62 (sureF n.heads ls) (f 4) H ∧ LstG 55 (mayF n.heads ls) (f 5) H ∧ ls.all heatOK = true → K f H := by
    rintro e6 f H ⟨⟨h2, h6⟩, g6, g4, g5, hall⟩
    refine hK f H ?_
    clear hK
    rw [hall]
    simp only [if_true]
    have hop := ids_open hF (mayF_sub n.heads ls)
    have hml : (mayF n.heads ls).length ≤ 100000 := by
     have h1 := (mayF_sub n.heads ls).length_le
     simp only [List.length_map] at h1; omega
    have hgt := Gets_ok0 n hs (mayF n.heads ls) hml
    unfold getsD at hgt
    rw [if_pos hN, if_pos hop] at hgt
    generalize getsS n (openH n.heads (mayF n.heads ls)) = T at *
    generalize sureF n.heads ls = SU at *
    generalize mayF n.heads ls = MA at *
    simp only [encNet, cNet, lackV] at hgt
    refine AW_lstG g5 fun f' H' f5 fs Hs => ?_
    refine AW_lstG (t := 4) (k := 62) (L := SU) (by rw [fs _ (by decide)]; exact g4.same (Hs _ (by decide))) fun f2 H2 f4 fs2 Hs2 => ?_
    have w5 := (fs2 5 (by decide)).trans f5
    have w2 := ((fs2 2 (by decide)).trans (fs 2 (by decide))).trans h2
    have w6 := ((fs2 6 (by decide)).trans (fs 6 (by decide))).trans h6
    have q6 := ((Hs2 6 (by decide)).trans (Hs 6 (by decide))).trans g6
    clear fs fs2 Hs Hs2 f5 h2 h6 g6 g4 g5
    repeat' (first | (with_reducible refine sk ?_; intro K hK) | ((first | (with_reducible first | refine rg (md := { base := 0, own := [6, 10, 55, 62], fz := [67] }) (h := ?_) | refine rgS [6, 10] (md := { base := 0, own := [6, 10, 55, 62], fz := [67] }) (h := ?_) | refine nx ?_) | refine pK (hgt) ?_); try simp (disch := omega) only [f4, w5, w2, w6, q6, cNet, lackV,go_sem, simprocAttr]) | (with_reducible refine bk ?_) | ((with_reducible refine' cE ?hv ?_ ?_); (case hv => first | rfl | (simp only [f4, w5, w2, w6, q6, cNet, lackV,go_sem, simprocAttr]; rfl)); all_goals (intro hc; (try simp only [go_sem, simprocAttr] at hc); try (exfalso; omega))) | ((with_reducible refine fe ?_); refine ⟨_, (by simp only [Try.f33, f4, w5, w2, w6, q6, cNet, lackV,go_sem, simprocAttr]; rfl), ?_⟩; first | rfl | (try simp only [f4, w5, w2, w6, q6, cNet, lackV,go_sem, simprocAttr, seval])) | with_reducible intro (ep : Nat → Nat) | with_reducible apply_assumption -exfalso -symm only [*])
   clear hK
   repeat' (first | (with_reducible refine sk ?_; intro K hK) | ((with_reducible first | refine rg (md := { base := 0, own := [6, 10, 55, 62], fz := [67] }) (h := ?_) | refine rgS [6, 10] (md := { base := 0, own := [6, 10, 55, 62], fz := [67] }) (h := ?_) | refine nx ?_); try simp (disch := omega) only [go_sem, simprocAttr]) | (with_reducible refine bk ?_) | ((with_reducible refine' cE ?hv ?_ ?_); (case hv => first | rfl | (simp only [go_sem, simprocAttr]; rfl)); all_goals (intro hc; (try simp only [go_sem, simprocAttr] at hc); try (exfalso; omega))) | with_reducible intro (ep : Nat → Nat) | with_reducible apply_assumption -exfalso -symm only [*])
   refine AW_range tabOK n.heads.length (fun k f H => ∃ e6, (f 1 = .lst 1 (ls.map cInts) ∧ f 2 = .pim (cNet n) ∧ f 6 = .ptr 6 e6 3 0 0 ∧ f 28 = .lst 8 (n.heads.map cHead)) ∧ H 6 = some (e6, .arr 3 [[.int .u8 0, .int .i64 0, .nils]]) ∧ LstG 62 (sureF (n.heads.take k) (ls.take k)) (f 4) H ∧ LstG 55 (mayF (n.heads.take k) (ls.take k)) (f 5) H ∧ (ls.take k).all heatOK = true) (by omega) (by rw [hXs]; decide) (by decide) (by (first | rfl | (simp only [go_sem, simprocAttr]; done) | (simp only [go_sem, simprocAttr]; rfl))) (by (first | rfl | (simp only [go_sem, simprocAttr]; done) | (simp only [go_sem, simprocAttr]; rfl)))
    ⟨_, by (and_intros <;> first | rfl | (simp only [cNet, go_sem, simprocAttr]; done) | (simp only [cNet, go_sem, simprocAttr]; rfl)), by (first | rfl | (simp only [go_sem, simprocAttr]; done) | (simp only [go_sem, simprocAttr]; rfl)), .inl ⟨rfl, rfl⟩, .inl ⟨rfl, rfl⟩, rfl⟩ ?_ ?_
   ·clear hcut
    rintro k f H hk h30 h29 ⟨e6, ⟨h1, h2, h6, h28⟩, g6, g4, g5, hall⟩
    obtain ⟨x, hx⟩ : ∃ x, n.heads[k]? = some x := ⟨_, List.getElem?_eq_getElem hk⟩
    obtain ⟨l, hlk⟩ : ∃ l, ls[k]? = some l := ⟨_, List.getElem?_eq_getElem (by omega)⟩
    have hxm := List.mem_of_getElem? hx
    have hlm := List.mem_of_getElem? hlk
    have hb := hbu x hxm l (hl l hlm)
    have htk := take_snoc' hlk
    have hms := mayF_snoc hx hlk
    have hss := sureF_snoc hx hlk
    have hsl : (sureF (n.heads.take k) (ls.take k)).length ≤ 100000 := by
     have h1 := (sureF_sub (n.heads.take k) (ls.take k)).length_le
     simp only [List.length_map, List.length_take] at h1; omega
    have hml : (mayF (n.heads.take k) (ls.take k)).length ≤ 100000 := by
     have h1 := (mayF_sub (n.heads.take k) (ls.take k)).length_le
     simp only [List.length_map, List.length_take] at h1; omega
    unfold burstsT at hb
    rw [if_pos (made_net hF hxm)] at hb
    generalize sureF (n.heads.take k) (ls.take k) = SU at *
    generalize mayF (n.heads.take k) (ls.take k) = MA at *
    have hc : [Val.lst 1 (ints l)] = cInts l := rfl
    refine AW_keep [6, 55, 62] ?_
    have k6 : keep H [6, 55, 62] 6 = some (e6, .arr 3 [[.int .u8 0, .int .i64 0, .nils]]) := g6
    have k10 : keep H [6, 55, 62] 10 = none := rfl
    have k4 : LstG 62 SU (f 4) (keep H [6, 55, 62]) := g4.same rfl
    have k5 : LstG 55 MA (f 5) (keep H [6, 55, 62]) := g5.same rfl
    generalize keep H [6, 55, 62] = H2 at k6 k10 k4 k5 ⊢
    clear g6 g4 g5
    simp only [encHead, cHead] at hb
    cases hh : heatOK l with
    | false =>
     rw [hh] at hb
     simp only [Bool.false_eq_true, if_false] at hb
     have hfa : ls.all heatOK = false := List.all_eq_false.2 ⟨l, hlm, by rw [hh]; simp⟩
     rw [hfa]
     simp only [Bool.false_eq_true, if_false]
     repeat' (first | (with_reducible refine sk ?_; intro K hK) | ((first | (with_reducible first | refine rg (md := { base := 0, own := [6, 10, 55, 62], fz := [67] }) (h := ?_) | refine rgS [6, 10] (md := { base := 0, own := [6, 10, 55, 62], fz := [67] }) (h := ?_) | refine nx ?_) | refine pK (hb) ?_); try simp (disch := omega) only [h1, h2, h6, h28, h29, h30, k6, k10, hx, hlk, cHead, cInts, lackN,go_sem, simprocAttr]) | (with_reducible refine bk ?_) | ((with_reducible refine' cE ?hv ?_ ?_); (case hv => first | rfl | (simp only [h1, h2, h6, h28, h29, h30, k6, k10, hx, hlk, cHead, cInts, lackN,go_sem, simprocAttr]; rfl)); all_goals (intro hc; (try simp only [go_sem, simprocAttr] at hc); try (exfalso; omega))) | ((with_reducible refine fe ?_); refine ⟨_, (by simp only [Try.f33, h1, h2, h6, h28, h29, h30, k6, k10, hx, hlk, cHead, cInts, lackN,go_sem, simprocAttr]; rfl), ?_⟩; first | rfl | (try simp only [h1, h2, h6, h28, h29, h30, k6, k10, hx, hlk, cHead, cInts, lackN,go_sem, simprocAttr, seval])) | with_reducible intro (ep : Nat → Nat) | with_reducible apply_assumption -exfalso -symm only [*])
    | true =>
     rw [hh] at hb
     simp only [if_true] at hb
     have hta : (ls.take (k + 1)).all heatOK = true := by rw [htk, List.all_append, hall]; simp [hh]
     obtain ⟨b1, hb1⟩ : ∃ b, burstS l x.bulb.lo x.slow.lo = b := ⟨_, rfl⟩
     obtain ⟨b2, hb2⟩ : ∃ b, burstS l x.bulb.hi x.slow.hi = b := ⟨_, rfl⟩
     rw [hb1] at hb hms
     rw [hb2] at hb hss
     have hxc : cHead x = [.int .i64 x.id, .int .i64 x.node, .int .i64 x.need, .int .i64 x.least, .int .i64 x.bulb.lo, .int .i64 x.bulb.hi, .int .i64 x.slow.lo, .int .i64 x.slow.hi] := rfl
     repeat' (first | ((fail_if_success (with_reducible refine AW_at (id := 12) ?_)); with_reducible refine sk ?_; intro K hK) | ((first | (with_reducible first | refine rg (md := { base := 0, own := [6, 10, 55, 62], fz := [67] }) (h := ?_) | refine rgS [6, 10] (md := { base := 0, own := [6, 10, 55, 62], fz := [67] }) (h := ?_) | refine nx ?_) | refine pK (hb) ?_); try simp (disch := omega) only [h1, h2, h6, h28, h29, h30, k6, k10, hx, hlk, cHead, cInts,go_sem, simprocAttr]) | (with_reducible refine bk ?_) | ((with_reducible refine' cE ?hv ?_ ?_); (case hv => first | rfl | (simp only [h1, h2, h6, h28, h29, h30, k6, k10, hx, hlk, cHead, cInts,go_sem, simprocAttr]; rfl)); all_goals (intro hc; (try simp only [go_sem, simprocAttr] at hc); try (exfalso; omega))) | with_reducible intro (ep : Nat → Nat) | with_reducible apply_assumption -exfalso -symm only [*])
     have hcutM : ∀ f H, (∃ e10, (f 1 = .lst 1 (ls.map cInts) ∧ f 2 = .pim (cNet n) ∧ f 6 = .ptr 6 e6 3 0 0 ∧ f 10 = .ptr 10 e10 8 0 0 ∧ f 12 = .int .i64 b2 ∧ f 28 = .lst 8 (n.heads.map cHead) ∧ f 29 = .int .i64 n.heads.length ∧ f 30 = .int .i64 k) ∧ H 6 = some (e6, .arr 3 [[.int .u8 0, .int .i64 0, .nils]]) ∧ H 10 = some (e10, .arr 8 [cHead x]) ∧ LstG 62 SU (f 4) H ∧ LstG 55 (MA ++ (if 0 < b1 then [x.id] else [])) (f 5) H) → K f H := by
      clear h1 h2 h6 h28 h29 h30 k6 k10 k4 k5
      rintro f H ⟨e10, ⟨h1, h2, h6, h10, h12, h28, h29, h30⟩, k6, k10, k4, k5⟩
      refine hK f H ?_
      clear hK
      rw [← hms] at k5
      by_cases hp : 0 < b2
      ·rw [if_pos hp] at hss
       rcases k4 with ⟨rfl, h4⟩ | ⟨hne, ea, h4, k62⟩
       ·refine AW_lose 62 fun H3 g62 hs3 => ?_
        have q6 := (hs3 6 (by decide)).trans k6
        have q10 := (hs3 10 (by decide)).trans k10
        have q5 := k5.same (hs3 55 (by decide))
        clear hs3 k6 k10 k5
        repeat' (first | (with_reducible refine sk ?_; intro K hK) | ((with_reducible first | refine rg (md := { base := 0, own := [6, 10, 55, 62], fz := [67] }) (h := ?_) | refine rgS [6, 10] (md := { base := 0, own := [6, 10, 55, 62], fz := [67] }) (h := ?_) | refine nx ?_); try simp (disch := omega) only [h1, h2, h4, h6, h10, h12, h28, h29, h30, q6, q10, g62, hp, hxc,go_sem, simprocAttr]) | (with_reducible refine bk ?_) | ((with_reducible refine' cE ?hv ?_ ?_); (case hv => first | rfl | (simp only [h1, h2, h4, h6, h10, h12, h28, h29, h30, q6, q10, g62, hp, hxc,go_sem, simprocAttr]; rfl)); all_goals (intro hc; (try simp only [go_sem, simprocAttr] at hc); try (exfalso; omega))) | with_reducible intro (ep : Nat → Nat) | with_reducible apply_assumption -exfalso -symm only [*])
        exact ⟨e6, by (and_intros <;> first | rfl | (simp only [h1, h2, h6, h28, go_sem, simprocAttr]; done) | (simp only [h1, h2, h6, h28, go_sem, simprocAttr]; rfl)), by (first | rfl | (simp only [q6, go_sem, simprocAttr]; done) | (simp only [q6, go_sem, simprocAttr]; rfl)), .inr ⟨by rw [hss]; simp, _, by rw [hss]; rfl, by rw [hss]; (first | rfl | (simp only [go_sem, simprocAttr]; done) | (simp only [go_sem, simprocAttr]; rfl))⟩, by exact q5.same (by (first | rfl | (simp only [go_sem, simprocAttr]; done) | (simp only [go_sem, simprocAttr]; rfl))), hta⟩
       ·have hkb : SU.length ≤ 1073741823 := by omega
        repeat' (first | (with_reducible refine sk ?_; intro K hK) | ((with_reducible first | refine rg (md := { base := 0, own := [6, 10, 55, 62], fz := [67] }) (h := ?_) | refine rgS [6, 10] (md := { base := 0, own := [6, 10, 55, 62], fz := [67] }) (h := ?_) | refine nx ?_); try simp (disch := omega) only [h1, h2, h4, h6, h10, h12, h28, h29, h30, k6, k10, k62, hp, hkb, hxc,go_sem, simprocAttr]) | (with_reducible refine bk ?_) | ((with_reducible refine' cE ?hv ?_ ?_); (case hv => first | rfl | (simp only [h1, h2, h4, h6, h10, h12, h28, h29, h30, k6, k10, k62, hp, hkb, hxc,go_sem, simprocAttr]; rfl)); all_goals (intro hc; (try simp only [go_sem, simprocAttr] at hc); try (exfalso; omega))) | with_reducible intro (ep : Nat → Nat) | with_reducible apply_assumption -exfalso -symm only [*])
        exact ⟨e6, rfl, rfl, by rw [hss]; exact .snoc (upd_same _ _ _), k5.same (upd_ne _ _ (by decide)), hta⟩
      ·rw [if_neg hp, List.append_nil] at hss
       repeat' (first | (with_reducible refine sk ?_; intro K hK) | ((with_reducible first | refine rg (md := { base := 0, own := [6, 10, 55, 62], fz := [67] }) (h := ?_) | refine rgS [6, 10] (md := { base := 0, own := [6, 10, 55, 62], fz := [67] }) (h := ?_) | refine nx ?_); try simp (disch := omega) only [h1, h2, h6, h10, h12, h28, h29, h30, k6, k10, hp,go_sem, simprocAttr]) | (with_reducible refine bk ?_) | ((with_reducible refine' cE ?hv ?_ ?_); (case hv => first | rfl | (simp only [h1, h2, h6, h10, h12, h28, h29, h30, k6, k10, hp,go_sem, simprocAttr]; rfl)); all_goals (intro hc; (try simp only [go_sem, simprocAttr] at hc); try (exfalso; omega))) | with_reducible intro (ep : Nat → Nat) | with_reducible apply_assumption -exfalso -symm only [*])
       exact ⟨e6, by (and_intros <;> first | rfl | (simp only [h1, h2, h6, h28, go_sem, simprocAttr]; done) | (simp only [h1, h2, h6, h28, go_sem, simprocAttr]; rfl)), by (first | rfl | (simp only [k6, go_sem, simprocAttr]; done) | (simp only [k6, go_sem, simprocAttr]; rfl)), by rw [hss]; exact k4, k5, hta⟩
     clear hK
     generalize hfB : (upd _ _ _ : Fr) = fB
     generalize hHB : (upd _ _ _ : Hp) = HB
     obtain ⟨e10, a1, a2, a6, a10, a11, a12, a28, a29, a30, B6, B10, B4, B5⟩ : ∃ e10, fB 1 = .lst 1 (ls.map cInts) ∧ fB 2 = .pim (cNet n) ∧ fB 6 = .ptr 6 e6 3 0 0 ∧ fB 10 = .ptr 10 e10 8 0 0 ∧ fB 11 = .int .i64 b1 ∧ fB 12 = .int .i64 b2 ∧ fB 28 = .lst 8 (n.heads.map cHead) ∧ fB 29 = .int .i64 n.heads.length ∧ fB 30 = .int .i64 k ∧ HB 6 = some (e6, .arr 3 [[.int .u8 0, .int .i64 0, .nils]]) ∧ HB 10 = some (e10, .arr 8 [cHead x]) ∧ LstG 62 SU (fB 4) HB ∧ LstG 55 MA (fB 5) HB := by
      rw [← hfB, ← hHB]
      refine ⟨_, by (first | rfl | (simp only [h1, go_sem, simprocAttr]; done) | (simp only [h1, go_sem, simprocAttr]; rfl)), by (first | rfl | (simp only [h2, go_sem, simprocAttr]; done) | (simp only [h2, go_sem, simprocAttr]; rfl)), by (first | rfl | (simp only [h6, go_sem, simprocAttr]; done) | (simp only [h6, go_sem, simprocAttr]; rfl)), rfl, rfl, rfl, by (first | rfl | (simp only [h28, go_sem, simprocAttr]; done) | (simp only [h28, go_sem, simprocAttr]; rfl)), by (first | rfl | (simp only [h29, go_sem, simprocAttr]; done) | (simp only [h29, go_sem, simprocAttr]; rfl)), by (first | rfl | (simp only [h30, go_sem, simprocAttr]; done) | (simp only [h30, go_sem, simprocAttr]; rfl)), by (first | rfl | (simp only [k6, go_sem, simprocAttr]; done) | (simp only [k6, go_sem, simprocAttr]; rfl)), rfl, by exact k4.same (by (first | rfl | (simp only [go_sem, simprocAttr]; done) | (simp only [go_sem, simprocAttr]; rfl))), by exact k5.same (by (first | rfl | (simp only [go_sem, simprocAttr]; done) | (simp only [go_sem, simprocAttr]; rfl)))⟩
     clear hfB hHB h1 h2 h6 h28 h29 h30 k6 k10 k4 k5
     by_cases hp : 0 < b1
     ·rw [if_pos hp] at hcutM
      rcases B5 with ⟨rfl, h5⟩ | ⟨hne, ea, h5, k55⟩
      ·refine AW_lose 55 fun H3 g55 hs3 => ?_
       have q6 := (hs3 6 (by decide)).trans B6
       have q10 := (hs3 10 (by decide)).trans B10
       have q4 := B4.same (hs3 62 (by decide))
       clear hs3 B6 B10 B4
       repeat' (first | (with_reducible refine sk ?_; intro K hK) | ((with_reducible first | refine rg (md := { base := 0, own := [6, 10, 55, 62], fz := [67] }) (h := ?_) | refine rgS [6, 10] (md := { base := 0, own := [6, 10, 55, 62], fz := [67] }) (h := ?_) | refine nx ?_); try simp (disch := omega) only [a1, a2, h5, a6, a10, a11, a12, a28, a29, a30, q6, q10, g55, hp, hxc,go_sem, simprocAttr]) | (with_reducible refine bk ?_) | ((with_reducible refine' cE ?hv ?_ ?_); (case hv => first | rfl | (simp only [a1, a2, h5, a6, a10, a11, a12, a28, a29, a30, q6, q10, g55, hp, hxc,go_sem, simprocAttr]; rfl)); all_goals (intro hc; (try simp only [go_sem, simprocAttr] at hc); try (exfalso; omega))) | with_reducible intro (ep : Nat → Nat) | with_reducible apply_assumption -exfalso -symm only [*])
       exact ⟨e10, by (and_intros <;> first | rfl | (simp only [a1, a2, a6, a10, a12, a28, a29, a30, go_sem, simprocAttr]; done) | (simp only [a1, a2, a6, a10, a12, a28, a29, a30, go_sem, simprocAttr]; rfl)), by (first | rfl | (simp only [q6, go_sem, simprocAttr]; done) | (simp only [q6, go_sem, simprocAttr]; rfl)), by (first | rfl | (simp only [q10, hxc, go_sem, simprocAttr]; done) | (simp only [q10, hxc, go_sem, simprocAttr]; rfl)), q4.same (by (first | rfl | (simp only [go_sem, simprocAttr]; done) | (simp only [go_sem, simprocAttr]; rfl))), .one (by (first | rfl | (simp only [go_sem, simprocAttr]; done) | (simp only [go_sem, simprocAttr]; rfl)))⟩
      ·have hkb : MA.length ≤ 1073741823 := by omega
       repeat' (first | (with_reducible refine sk ?_; intro K hK) | ((with_reducible first | refine rg (md := { base := 0, own := [6, 10, 55, 62], fz := [67] }) (h := ?_) | refine rgS [6, 10] (md := { base := 0, own := [6, 10, 55, 62], fz := [67] }) (h := ?_) | refine nx ?_); try simp (disch := omega) only [a1, a2, h5, a6, a10, a11, a12, a28, a29, a30, B6, B10, k55, hkb, hp, hxc,go_sem, simprocAttr]) | (with_reducible refine bk ?_) | ((with_reducible refine' cE ?hv ?_ ?_); (case hv => first | rfl | (simp only [a1, a2, h5, a6, a10, a11, a12, a28, a29, a30, B6, B10, k55, hkb, hp, hxc,go_sem, simprocAttr]; rfl)); all_goals (intro hc; (try simp only [go_sem, simprocAttr] at hc); try (exfalso; omega))) | with_reducible intro (ep : Nat → Nat) | with_reducible apply_assumption -exfalso -symm only [*])
       exact ⟨e10, by (and_intros <;> first | rfl | (simp only [a1, a2, a6, a10, a12, a28, a29, a30, go_sem, simprocAttr]; done) | (simp only [a1, a2, a6, a10, a12, a28, a29, a30, go_sem, simprocAttr]; rfl)), by (first | rfl | (simp only [B6, go_sem, simprocAttr]; done) | (simp only [B6, go_sem, simprocAttr]; rfl)), by (first | rfl | (simp only [B10, hxc, go_sem, simprocAttr]; done) | (simp only [B10, hxc, go_sem, simprocAttr]; rfl)), B4.same (by (first | rfl | (simp only [go_sem, simprocAttr]; done) | (simp only [go_sem, simprocAttr]; rfl))), .snoc (by (first | rfl | (simp only [go_sem, simprocAttr]; done) | (simp only [go_sem, simprocAttr]; rfl)))⟩
     ·rw [if_neg hp, List.append_nil] at hcutM
      repeat' (first | (with_reducible refine sk ?_; intro K hK) | ((with_reducible first | refine rg (md := { base := 0, own := [6, 10, 55, 62], fz := [67] }) (h := ?_) | refine rgS [6, 10] (md := { base := 0, own := [6, 10, 55, 62], fz := [67] }) (h := ?_) | refine nx ?_); try simp (disch := omega) only [a1, a2, a6, a10, a11, a12, a28, a29, a30, B6, B10, hp, hxc,go_sem, simprocAttr]) | (with_reducible refine bk ?_) | ((with_reducible refine' cE ?hv ?_ ?_); (case hv => first | rfl | (simp only [a1, a2, a6, a10, a11, a12, a28, a29, a30, B6, B10, hp, hxc,go_sem, simprocAttr]; rfl)); all_goals (intro hc; (try simp only [go_sem, simprocAttr] at hc); try (exfalso; omega))) | with_reducible intro (ep : Nat → Nat) | with_reducible apply_assumption -exfalso -symm only [*])
      exact ⟨e10, by (and_intros <;> first | rfl | (simp only [a1, a2, a6, a10, a12, a28, a29, a30, go_sem, simprocAttr]; done) | (simp only [a1, a2, a6, a10, a12, a28, a29, a30, go_sem, simprocAttr]; rfl)), by (first | rfl | (simp only [B6, go_sem, simprocAttr]; done) | (simp only [B6, go_sem, simprocAttr]; rfl)), by (first | rfl | (simp only [B10, hxc, go_sem, simprocAttr]; done) | (simp only [B10, hxc, go_sem, simprocAttr]; rfl)), B4, B5⟩
   ·rintro f H h30 h29 ⟨e6, ⟨h1, h2, h6, h28⟩, g6, g4, g5, hall⟩
    rw [List.take_of_length_le (Nat.le_refl _), List.take_of_length_le (by omega)] at g4 g5
    rw [List.take_of_length_le (by omega)] at hall
    exact hcut e6 _ _ ⟨by (and_intros <;> first | rfl | (simp only [h2, h6, go_sem, simprocAttr]; done) | (simp only [h2, h6, go_sem, simprocAttr]; rfl)), g6, by (first | rfl | (simp only [g4, go_sem, simprocAttr]; done) | (simp only [g4, go_sem, simprocAttr]; rfl)), by (first | rfl | (simp only [g5, go_sem, simprocAttr]; done) | (simp only [g5, go_sem, simprocAttr]; rfl)), hall⟩
  ·have hlen' : ¬ (ls.length : Int) = n.heads.length := by omega
   simp only [if_true, hlen, if_false]
   repeat' (first | (with_reducible refine sk ?_; intro K hK) | ((first | (with_reducible first | refine rg (md := { base := 0, own := [6, 10, 55, 62], fz := [67] }) (h := ?_) | refine rgS [6, 10] (md := { base := 0, own := [6, 10, 55, 62], fz := [67] }) (h := ?_) | refine nx ?_) | refine pK (hck) ?_); try simp (disch := omega) only [encNet, cNet, lackN, hlen',go_sem, simprocAttr]) | (with_reducible refine bk ?_) | ((with_reducible refine' cE ?hv ?_ ?_); (case hv => first | rfl | (simp only [encNet, cNet, lackN, hlen',go_sem, simprocAttr]; rfl)); all_goals (intro hc; (try simp only [go_sem, simprocAttr] at hc); try (exfalso; omega))) | ((with_reducible refine fe ?_); refine ⟨_, (by simp only [Try.f33, encNet, cNet, lackN, hlen',go_sem, simprocAttr]; rfl), ?_⟩; first | rfl | (try simp only [encNet, cNet, lackN, hlen',go_sem, simprocAttr, seval])) | with_reducible intro (ep : Nat → Nat) | with_reducible apply_assumption -exfalso -symm only [*])
end Cp
namespace Cp
open Go Go.Proofs
set_option maxRecDepth 10000
set_option maxHeartbeats 4000000
theorem Fire_ok (n : NetT) (hs : NetS n) (ls : List (List Int)) (hll : ls.length ≤ 100000) (hl : ∀ l ∈ ls, l.length ≤ 100000) : PureC Try.prog 33 [encNet n, .lst 1 (ls.map cInts)] (fireD (.lst 1 []) (lackV lackZ) n ls) := by
 refine (Fire_ok0 n hs ls hll hl).weak ?_ fun G w x h => ?_
 ·unfold fireD; split <;> (try split) <;> (try split) <;> (simp only [noid, noids, noidss, lackV_noid, go_sem, simprocAttr]; rfl)
 ·have key : ∀ e, VR G w (.tup [.nils, .nils, lackN, .int .i64 e]) x → VR G w (.tup [.lst 1 [], .lst 1 [], lackV lackZ, .int .i64 e]) x := fun e h => by
   refine VR.tup_imp (vs := [.nils, .nils, lackN, .int .i64 e]) rfl (fun i v v' h1 h2 y hy => ?_) h
   match i, h1, h2 with
   | 0, h1, h2 => cases h1; cases h2; exact hy.nils_lst 1
   | 1, h1, h2 => cases h1; cases h2; exact hy.nils_lst 1
   | 2, h1, h2 => cases h1; cases h2; exact hy.agg3_nils
   | 3, h1, h2 => cases h1; cases h2; exact hy
  unfold fireD at h ⊢
  split
  ·rename_i hN
   rw [if_pos hN] at h
   split
   ·rename_i hO
    rw [if_pos hO] at h
    split
    ·rename_i hA
     rw [if_pos hA] at h
     exact h
    ·rename_i hA
     rw [if_neg hA] at h
     exact key _ h
   ·rename_i hO
    rw [if_neg hO] at h
    exact key _ h
  ·rename_i hN
   rw [if_neg hN] at h
   exact key _ h
theorem lack_eq {a b : LackT} : a = b ↔ a.known = b.known ∧ a.head = b.head ∧ a.out = b.out := by cases a; cases b; simp
theorem sameLacks_ok (a b : LackT) (ha : a.out.length ≤ 100000) : PureC Try.prog 30 [lackV a, lackV b] (.bool (decide (a = b))) := by
 have hsi := sameInts_ok a.out b.out (by omega)
 have hd : decide (a = b) = (decide (a.known = b.known) && decide (a.head = b.head) && decide (a.out = b.out)) := by
  rw [dec_congr lack_eq]; simp [Bool.and_assoc]
 rw [hd]
 refine PureC_of (fn := Try.f30) tabOK (by kernel_rfl) rfl (by kernel_rfl) (by simp [Try.f30]) (by simp [noids, noid, noidss, go_sem, lackV]) (by first | rfl | simp [noids, noid, noidss, go_sem, lackV]) ?_
 intro X hX0 hXs
 by_cases h1 : a.known = b.known
 ·by_cases h2 : a.head = b.head
  ·repeat' (first | (with_reducible refine sk ?_; intro K hK) | ((first | (with_reducible first | refine rg (h := ?_) | refine nx ?_) | refine pK (hsi) ?_); try simp (disch := omega) only [lackV, h1, h2, decide_true, Bool.true_and,go_sem, simprocAttr]) | (with_reducible refine bk ?_) | ((with_reducible refine' cE ?hv ?_ ?_); (case hv => first | rfl | (simp only [lackV, h1, h2, decide_true, Bool.true_and,go_sem, simprocAttr]; rfl)); all_goals (intro hc; (try simp only [go_sem, simprocAttr] at hc); try (exfalso; omega))) | ((with_reducible first | refine grdS_split ?_ ?_ | refine lkG_split ?_ ?_) <;> intro hg <;> (try simp (disch := omega) only [hg, lackV, h1, h2, decide_true, Bool.true_and,go_sem, simprocAttr]) <;> (try simp only [go_sem, simprocAttr] at hg) <;> (try (exfalso; omega))) | ((with_reducible refine fe ?_); refine ⟨_, (by simp only [Try.f30, lackV, h1, h2, decide_true, Bool.true_and,go_sem, simprocAttr]; rfl), ?_⟩; first | rfl | (try simp only [lackV, h1, h2, decide_true, Bool.true_and,go_sem, simprocAttr, seval])) | with_reducible intro (ep : Nat → Nat) | with_reducible apply_assumption -exfalso -symm only [*])
  ·repeat' (first | (with_reducible refine sk ?_; intro K hK) | ((first | (with_reducible first | refine rg (h := ?_) | refine nx ?_) | refine pK (hsi) ?_); try simp (disch := omega) only [lackV, h1, h2, decide_true, Bool.true_and, decide_false, Bool.false_and,go_sem, simprocAttr]) | (with_reducible refine bk ?_) | ((with_reducible refine' cE ?hv ?_ ?_); (case hv => first | rfl | (simp only [lackV, h1, h2, decide_true, Bool.true_and, decide_false, Bool.false_and,go_sem, simprocAttr]; rfl)); all_goals (intro hc; (try simp only [go_sem, simprocAttr] at hc); try (exfalso; omega))) | ((with_reducible first | refine grdS_split ?_ ?_ | refine lkG_split ?_ ?_) <;> intro hg <;> (try simp (disch := omega) only [hg, lackV, h1, h2, decide_true, Bool.true_and, decide_false, Bool.false_and,go_sem, simprocAttr]) <;> (try simp only [go_sem, simprocAttr] at hg) <;> (try (exfalso; omega))) | ((with_reducible refine fe ?_); refine ⟨_, (by simp only [Try.f30, lackV, h1, h2, decide_true, Bool.true_and, decide_false, Bool.false_and,go_sem, simprocAttr]; rfl), ?_⟩; first | rfl | (try simp only [lackV, h1, h2, decide_true, Bool.true_and, decide_false, Bool.false_and,go_sem, simprocAttr, seval])) | with_reducible intro (ep : Nat → Nat) | with_reducible apply_assumption -exfalso -symm only [*])
 ·repeat' (first | (with_reducible refine sk ?_; intro K hK) | ((first | (with_reducible first | refine rg (h := ?_) | refine nx ?_) | refine pK (hsi) ?_); try simp (disch := omega) only [lackV, h1, decide_false, Bool.false_and,go_sem, simprocAttr]) | (with_reducible refine bk ?_) | ((with_reducible refine' cE ?hv ?_ ?_); (case hv => first | rfl | (simp only [lackV, h1, decide_false, Bool.false_and,go_sem, simprocAttr]; rfl)); all_goals (intro hc; (try simp only [go_sem, simprocAttr] at hc); try (exfalso; omega))) | ((with_reducible first | refine grdS_split ?_ ?_ | refine lkG_split ?_ ?_) <;> intro hg <;> (try simp (disch := omega) only [hg, lackV, h1, decide_false, Bool.false_and,go_sem, simprocAttr]) <;> (try simp only [go_sem, simprocAttr] at hg) <;> (try (exfalso; omega))) | ((with_reducible refine fe ?_); refine ⟨_, (by simp only [Try.f30, lackV, h1, decide_false, Bool.false_and,go_sem, simprocAttr]; rfl), ?_⟩; first | rfl | (try simp only [lackV, h1, decide_false, Bool.false_and,go_sem, simprocAttr, seval])) | with_reducible intro (ep : Nat → Nat) | with_reducible apply_assumption -exfalso -symm only [*])
end Cp
namespace Cp
open Go Go.Proofs
set_option maxRecDepth 10000
set_option maxHeartbeats 4000000
theorem fire_law (n : NetT) (ls : List (List Int)) (b : Int) (b0 : 0 ≤ b) (b1 : b ≤ 255) : PureC Try.prog 14 [encNet n, .lst 1 (ls.map cInts), .int .u8 b] (.bool true) := by
  have hll2 : noidss (ls.map cInts) = true := noidss_map fun l => by simp only [cInts, noids, noid, ints_noid, Bool.and_self]
  have hrd := ready_ok n
  simp only [encNet, cNet] at hrd
  by_cases hr : (!greatN n && netOK n) = true
  · have hr2 : greatN n = false ∧ netOK n = true := by simpa using hr
    have hs := great_small hr2.1
    have hF := net_facts hr2.2
    have hpq := hF.pumps
    have hhl := hF.heads
    rw [hr] at hrd
    by_cases hlen : ls.length = n.heads.length
    · have hlen' : (ls.length : Int) = n.heads.length := by omega
      refine PureC_of (fn := Try.f14) tabOK (by kernel_rfl) rfl (by kernel_rfl) (by simp [Try.f14]) (by simp [noids, noid, noidss, go_sem, encNet, cNet, hll2]) (by first | rfl | simp [noids, noid, noidss, go_sem, encNet, cNet, hll2]) ?_
      intro X hX0 hXs
      repeat' (first | ((fail_if_success (with_reducible refine AW_at (id := 6) ?_)); with_reducible refine sk ?_; intro K hK) | ((first | (with_reducible first | refine rg (md := { base := 0, own := [12, 18, 22, 24, 118] }) (h := ?_) | refine rgS [12, 18, 22, 24] (md := { base := 0, own := [12, 18, 22, 24, 118] }) (h := ?_) | refine nx ?_) | refine pK (alive_run) ?_ | refine pK (hrd) ?_); try simp (disch := omega) only [encNet, cNet, hlen',go_sem, simprocAttr]) | (with_reducible refine bk ?_) | ((with_reducible refine' cE ?hv ?_ ?_); (case hv => first | rfl | (simp only [encNet, cNet, hlen',go_sem, simprocAttr]; rfl)); all_goals (intro hc; (try simp only [go_sem, simprocAttr] at hc); try (exfalso; omega))) | ((with_reducible first | refine grdS_split ?_ ?_ | refine lkG_split ?_ ?_) <;> intro hg <;> (try simp (disch := omega) only [hg, encNet, cNet, hlen',go_sem, simprocAttr]) <;> (try simp only [go_sem, simprocAttr] at hg) <;> (try (exfalso; omega))) | ((with_reducible refine fe ?_); refine ⟨_, (by simp only [Try.f14, encNet, cNet, hlen',go_sem, simprocAttr]; rfl), ?_⟩; first | rfl | (try simp only [encNet, cNet, hlen',go_sem, simprocAttr, seval])) | with_reducible intro (ep : Nat → Nat) | with_reducible apply_assumption -exfalso -symm only [*])
      have hcut : ∀ f H, (f 1 = .lst 1 (ls.map cInts) ∧ f 2 = .int .u8 b ∧ f 3 = .pim (cNet n) ∧ f 7 = .bool true) → (∀ l ∈ ls, (l.length : Int) ≤ 60 ∧ heatOK l = true) → K f H := by
        rintro f H ⟨h1, h2, h3, h7⟩ hall
        refine hK f H ?_
        clear hK
        refine AW_keep [] ?_
        have hls : ∀ l ∈ ls, l.length ≤ 100000 := fun l hl => by have := (hall l hl).1; omega
        have hah : ls.all heatOK = true := List.all_eq_true.2 fun l hl => (hall l hl).2
        have hfi := Fire_ok n hs ls (by omega) hls
        unfold fireD at hfi
        rw [if_pos hr2.2, if_pos hlen, if_pos hah] at hfi
        have hml : (mayF n.heads ls).length ≤ 100000 := by
          have h1 := (mayF_sub n.heads ls).length_le
          simp only [List.length_map] at h1; omega
        have hsl : (sureF n.heads ls).length ≤ 100000 := by
          have h1 := (sureF_sub n.heads ls).length_le
          simp only [List.length_map] at h1; omega
        have hOs := openF_sub (b := b) n.heads ls 0
        have hol : (openF b n.heads ls 0).length ≤ 100000 := by have := hOs.length_le; omega
        have hopm := ids_open hF (mayF_sub n.heads ls)
        have hopo := ids_open hF (hOs.trans (mayF_sub n.heads ls))
        have hg1 := Gets_ok n hs (mayF n.heads ls) hml
        have hg2 := Gets_ok n hs (openF b n.heads ls 0) hol
        unfold getsD at hg1 hg2
        rw [if_pos hr2.2, if_pos hopm] at hg1
        rw [if_pos hr2.2, if_pos hopo] at hg2
        have hsH : (openH n.heads (openF b n.heads ls 0)).Sublist (openH n.heads (mayF n.heads ls)) := hOs.filterMap _
        have hkm := known_mono (Bet.refl n) hF hF (fun o => rfl) hsH (openH_500 hF _)
        have hgf := gets_facts hF.out.1 (openH n.heads (mayF n.heads ls))
        have hsa := sameLacks_ok (getsS n (openH n.heads (mayF n.heads ls))) (getsS n (openH n.heads (mayF n.heads ls))) (by
          by_cases h2 : (getsS n (openH n.heads (mayF n.heads ls))).known = 2
          · rw [(hgf.yes h2).2.1]; simp
          · have := (out_facts (hgf.bad h2).1).2.2; have := hF.out; omega)
        simp only [decide_true] at hsa
        have hk1 := hgf.kn
        have hk2 := (gets_facts hF.out.1 (openH n.heads (openF b n.heads ls 0))).kn
        have hbu := fun (h : HeadT) (hm : h ∈ n.heads) (l : List Int) (hl : l.length ≤ 100000) => Bursts_ok h l hl
        obtain ⟨⟨kn, hd, ou⟩, hG⟩ : ∃ G, getsS n (openH n.heads (mayF n.heads ls)) = G := ⟨_, rfl⟩
        obtain ⟨⟨km, hd2, ov⟩, hG2⟩ : ∃ G, getsS n (openH n.heads (openF b n.heads ls 0)) = G := ⟨_, rfl⟩
        rw [hG] at hfi hg1 hkm hsa hk1
        rw [hG2] at hg2 hkm hk2
        simp only at hkm hk1 hk2
        simp only [encNet, cNet, lackV] at hfi hg1 hg2 hsa
        clear hgf hsH hG hG2 hopm hopo
        repeat' (first | ((fail_if_success (with_reducible refine AW_at (id := 17) ?_)); with_reducible refine sk ?_; intro K hK) | ((first | (with_reducible first | refine rg (md := { base := 0, own := [12, 18, 22, 24, 118] }) (h := ?_) | refine rgS [12, 18, 22, 24] (md := { base := 0, own := [12, 18, 22, 24, 118] }) (h := ?_) | refine nx ?_) | refine pK (hfi) ?_); try simp (disch := omega) only [h1, h2, h3, h7, cNet,go_sem, simprocAttr]) | (with_reducible refine bk ?_) | ((with_reducible refine' cE ?hv ?_ ?_); (case hv => first | rfl | (simp only [h1, h2, h3, h7, cNet,go_sem, simprocAttr]; rfl)); all_goals (intro hc; (try simp only [go_sem, simprocAttr] at hc); try (exfalso; omega))) | ((with_reducible first | refine grdS_split ?_ ?_ | refine lkG_split ?_ ?_) <;> intro hg <;> (try simp (disch := omega) only [hg, h1, h2, h3, h7, cNet,go_sem, simprocAttr]) <;> (try simp only [go_sem, simprocAttr] at hg) <;> (try (exfalso; omega))) | ((with_reducible refine fe ?_); refine ⟨_, (by simp only [Try.f14, h1, h2, h3, h7, cNet,go_sem, simprocAttr]; rfl), ?_⟩; first | rfl | (try simp only [h1, h2, h3, h7, cNet,go_sem, simprocAttr, seval])) | with_reducible intro (ep : Nat → Nat) | with_reducible apply_assumption -exfalso -symm only [*])
        have hcut2 : ∀ f H, (∃ e12, (f 3 = .pim (cNet n) ∧ f 7 = .bool true ∧ f 10 = .lst 1 (ints (sureF n.heads ls)) ∧ f 11 = .lst 1 (ints (mayF n.heads ls)) ∧ f 12 = .ptr 12 e12 3 0 0 ∧ f 15 = .int .i64 (mayF n.heads ls).length ∧ f 16 = .int .i64 (sureF n.heads ls).length) ∧ H 12 = some (e12, .arr 3 [[.int .u8 kn, .int .i64 hd, .lst 1 (ints ou)]]) ∧ LstG 118 (openF b n.heads ls 0) (f 14) H) → K f H := by
          clear h1 h2 h3 h7
          rintro f H ⟨e12, ⟨h3, h7, h10, h11, h12, h15, h16⟩, g12, g14⟩
          refine hK f H ?_
          clear hK
          refine AW_lstG g14 fun f2 H2 f14 fs Hs => ?_
          have w3 := (fs 3 (by decide)).trans h3
          have w7 := (fs 7 (by decide)).trans h7
          have w10 := (fs 10 (by decide)).trans h10
          have w11 := (fs 11 (by decide)).trans h11
          have w12 := (fs 12 (by decide)).trans h12
          have w15 := (fs 15 (by decide)).trans h15
          have w16 := (fs 16 (by decide)).trans h16
          have q12 := (Hs 12 (by decide)).trans g12
          clear fs Hs h3 h7 h10 h11 h12 h15 h16 g12 g14
          refine AW_keep [12] ?_
          have hk3 : kn ≤ km := hkm
          generalize mayF n.heads ls = MA at *
          generalize sureF n.heads ls = SU at *
          generalize openF b n.heads ls 0 = OP at *
          repeat' (first | (with_reducible refine sk ?_; intro K hK) | ((first | (with_reducible first | refine rg (md := { base := 0, own := [12, 18, 22, 24, 118] }) (h := ?_) | refine rgS [12, 18, 22, 24] (md := { base := 0, own := [12, 18, 22, 24, 118] }) (h := ?_) | refine nx ?_) | refine pK (hg1) ?_ | refine pK (hg2) ?_ | refine pK (hsa) ?_); try simp (disch := omega) only [w3, w7, w10, w11, w12, w15, w16, q12, f14, hk3, cNet,go_sem, simprocAttr]) | (with_reducible refine bk ?_) | ((with_reducible refine' cE ?hv ?_ ?_); (case hv => first | rfl | (simp only [w3, w7, w10, w11, w12, w15, w16, q12, f14, hk3, cNet,go_sem, simprocAttr]; rfl)); all_goals (intro hc; (try simp only [go_sem, simprocAttr] at hc); try (exfalso; omega))) | ((with_reducible first | refine grdS_split ?_ ?_ | refine lkG_split ?_ ?_) <;> intro hg <;> (try simp (disch := omega) only [hg, w3, w7, w10, w11, w12, w15, w16, q12, f14, hk3, cNet,go_sem, simprocAttr]) <;> (try simp only [go_sem, simprocAttr] at hg) <;> (try (exfalso; omega))) | ((with_reducible refine fe ?_); refine ⟨_, (by simp only [Try.f14, w3, w7, w10, w11, w12, w15, w16, q12, f14, hk3, cNet,go_sem, simprocAttr]; rfl), ?_⟩; first | rfl | (try simp only [w3, w7, w10, w11, w12, w15, w16, q12, f14, hk3, cNet,go_sem, simprocAttr, seval])) | with_reducible intro (ep : Nat → Nat) | with_reducible apply_assumption -exfalso -symm only [*])
        clear hK hg1 hg2 hsa hkm
        repeat' (first | (with_reducible refine sk ?_; intro K hK) | ((with_reducible first | refine rg (md := { base := 0, own := [12, 18, 22, 24, 118] }) (h := ?_) | refine rgS [12, 18, 22, 24] (md := { base := 0, own := [12, 18, 22, 24, 118] }) (h := ?_) | refine nx ?_); try simp (disch := omega) only [h1, h2, h3, h7, cNet,go_sem, simprocAttr]) | (with_reducible refine bk ?_) | ((with_reducible refine' cE ?hv ?_ ?_); (case hv => first | rfl | (simp only [h1, h2, h3, h7, cNet,go_sem, simprocAttr]; rfl)); all_goals (intro hc; (try simp only [go_sem, simprocAttr] at hc); try (exfalso; omega))) | ((with_reducible first | refine grdS_split ?_ ?_ | refine lkG_split ?_ ?_) <;> intro hg <;> (try simp (disch := omega) only [hg, h1, h2, h3, h7, cNet,go_sem, simprocAttr]) <;> (try simp only [go_sem, simprocAttr] at hg) <;> (try (exfalso; omega))) | with_reducible intro (ep : Nat → Nat) | with_reducible apply_assumption -exfalso -symm only [*])
        refine AW_range tabOK n.heads.length (fun k f H => ∃ e12, (f 1 = .lst 1 (ls.map cInts) ∧ f 2 = .int .u8 b ∧ f 3 = .pim (cNet n) ∧ f 7 = .bool true ∧ f 10 = .lst 1 (ints (sureF n.heads ls)) ∧ f 11 = .lst 1 (ints (mayF n.heads ls)) ∧ f 12 = .ptr 12 e12 3 0 0 ∧ f 68 = .lst 8 (n.heads.map cHead) ∧ f 15 = .int .i64 (mayF (n.heads.take k) (ls.take k)).length ∧ f 16 = .int .i64 (sureF (n.heads.take k) (ls.take k)).length) ∧ H 12 = some (e12, .arr 3 [[.int .u8 kn, .int .i64 hd, .lst 1 (ints ou)]]) ∧ LstG 118 (openF b (n.heads.take k) (ls.take k) 0) (f 14) H) (by omega) (by rw [hXs]; decide) (by decide) (by (first | rfl | (simp only [go_sem, simprocAttr]; done) | (simp only [go_sem, simprocAttr]; rfl))) (by (first | rfl | (simp only [go_sem, simprocAttr]; done) | (simp only [go_sem, simprocAttr]; rfl)))
          ⟨_, by (and_intros <;> first | rfl | (simp only [h1, h2, h3, h7, cNet, mayF, sureF, go_sem, simprocAttr]; done) | (simp only [h1, h2, h3, h7, cNet, mayF, sureF, go_sem, simprocAttr]; rfl)), by (first | rfl | (simp only [go_sem, simprocAttr]; done) | (simp only [go_sem, simprocAttr]; rfl)), .inl ⟨rfl, rfl⟩⟩ ?_ ?_
        · clear hcut2 h1 h2 h3 h7 hfi
          rintro k f H hk h70 h69 ⟨e12, ⟨h1, h2, h3, h7, h10, h11, h12, h68, h15, h16⟩, g12, g14⟩
          obtain ⟨x, hx⟩ : ∃ x, n.heads[k]? = some x := ⟨_, List.getElem?_eq_getElem hk⟩
          obtain ⟨l, hlk⟩ : ∃ l, ls[k]? = some l := ⟨_, List.getElem?_eq_getElem (by omega)⟩
          have hxm := List.mem_of_getElem? hx
          have hlm := List.mem_of_getElem? hlk
          have hb := hbu x hxm l (hls l hlm)
          unfold burstsT at hb
          rw [if_pos (made_net hF hxm), if_pos (hall l hlm).2] at hb
          have hms := mayF_snoc hx hlk
          have hss := sureF_snoc hx hlk
          have hos := openF_snoc (b := b) (i := 0) hx hlk
          have hma := mayF_at hx hlk
          have hsa := sureF_at hx hlk
          rw [Nat.zero_add] at hos
          have hkm : (k : Int).tmod 8 = ((k % 8 : Nat) : Int) := by rw [Int.tmod_eq_emod_of_nonneg (by omega)]; omega
          have hfd : 0 ≤ b.fdiv (2 ^ (k % 8)) ∧ b.fdiv (2 ^ (k % 8)) ≤ 255 := by
            have hp : (1 : Int) ≤ 2 ^ (k % 8) := by have := Int.pow_pos (n := 2) (m := k % 8) (by omega); omega
            rw [Int.fdiv_eq_ediv_of_nonneg _ (by omega)]
            exact ⟨Int.ediv_nonneg b0 (by omega), Int.le_trans (Int.ediv_le_self _ b0) b1⟩
          have hand := and_one hfd
          have hmin : min (k % 8) 8 = k % 8 := by omega
          have hnn : ¬ ((k % 8 : Nat) : Int) < 0 := by omega
          obtain ⟨c1, hc1⟩ : ∃ b, burstS l x.bulb.lo x.slow.lo = b := ⟨_, rfl⟩
          obtain ⟨c2, hc2⟩ : ∃ b, burstS l x.bulb.hi x.slow.hi = b := ⟨_, rfl⟩
          rw [hc1] at hb hms hos hma
          rw [hc2] at hb hss hos hsa
          have hol : (openF b (n.heads.take k) (ls.take k) 0).length ≤ 100000 := by
            have h1 := ((openF_sub (b := b) (n.heads.take k) (ls.take k) 0).trans (mayF_sub _ _)).length_le
            simp only [List.length_map, List.length_take] at h1; omega
          obtain ⟨MA, hMA⟩ : ∃ M, mayF n.heads ls = M := ⟨_, rfl⟩
          obtain ⟨SU, hSU⟩ : ∃ M, sureF n.heads ls = M := ⟨_, rfl⟩
          rw [hMA] at hma hml h11
          rw [hSU] at hsa hsl h10
          rw [hMA, hSU]
          obtain ⟨mk, hmk⟩ : ∃ M, mayF (n.heads.take k) (ls.take k) = M := ⟨_, rfl⟩
          obtain ⟨sj, hsj⟩ : ∃ M, sureF (n.heads.take k) (ls.take k) = M := ⟨_, rfl⟩
          obtain ⟨ok, hok⟩ : ∃ M, openF b (n.heads.take k) (ls.take k) 0 = M := ⟨_, rfl⟩
          rw [hmk] at hms hma h15
          rw [hsj] at hss hsa h16
          rw [hok] at hos hol g14
          have hc : [Val.lst 1 (ints l)] = cInts l := rfl
          have hxc : cHead x = [.int .i64 x.id, .int .i64 x.node, .int .i64 x.need, .int .i64 x.least, .int .i64 x.bulb.lo, .int .i64 x.bulb.hi, .int .i64 x.slow.lo, .int .i64 x.slow.hi] := rfl
          refine AW_keep [12, 118] ?_
          have k12 : keep H [12, 118] 12 = some (e12, .arr 3 [[.int .u8 kn, .int .i64 hd, .lst 1 (ints ou)]]) := g12
          have k18 : keep H [12, 118] 18 = none := rfl
          have k14 : LstG 118 ok (f 14) (keep H [12, 118]) := g14.same rfl
          generalize keep H [12, 118] = H2 at k12 k18 k14 ⊢
          clear g12 g14 hmk hsj hok hMA hSU
          simp only [encHead, cHead] at hb
          repeat' (first | ((fail_if_success (with_reducible refine AW_at (id := 23) ?_)); with_reducible refine sk ?_; intro K hK) | ((first | (with_reducible first | refine rg (md := { base := 0, own := [12, 18, 22, 24, 118] }) (h := ?_) | refine rgS [12, 18, 22, 24] (md := { base := 0, own := [12, 18, 22, 24, 118] }) (h := ?_) | refine nx ?_) | refine pK (hb) ?_); try simp (disch := omega) only [h1, h2, h3, h7, h68, h69, h70, k12, k18, hx, hlk, cHead, cInts,go_sem, simprocAttr]) | (with_reducible refine bk ?_) | ((with_reducible refine' cE ?hv ?_ ?_); (case hv => first | rfl | (simp only [h1, h2, h3, h7, h68, h69, h70, k12, k18, hx, hlk, cHead, cInts,go_sem, simprocAttr]; rfl)); all_goals (intro hc; (try simp only [go_sem, simprocAttr] at hc); try (exfalso; omega))) | ((with_reducible first | refine grdS_split ?_ ?_ | refine lkG_split ?_ ?_) <;> intro hg <;> (try simp (disch := omega) only [hg, h1, h2, h3, h7, h68, h69, h70, k12, k18, hx, hlk, cHead, cInts,go_sem, simprocAttr]) <;> (try simp only [go_sem, simprocAttr] at hg) <;> (try (exfalso; omega))) | with_reducible intro (ep : Nat → Nat) | with_reducible apply_assumption -exfalso -symm only [*])
          have hcutB : ∀ f H, (∃ e18, (f 1 = .lst 1 (ls.map cInts) ∧ f 2 = .int .u8 b ∧ f 3 = .pim (cNet n) ∧ f 7 = .bool true ∧ f 10 = .lst 1 (ints SU) ∧ f 11 = .lst 1 (ints MA) ∧ f 12 = .ptr 12 e12 3 0 0 ∧ f 18 = .ptr 18 e18 8 0 0 ∧ f 20 = .int .i64 c2 ∧ f 68 = .lst 8 (n.heads.map cHead) ∧ f 69 = .int .i64 n.heads.length ∧ f 70 = .int .i64 k ∧ f 15 = .int .i64 (mayF (n.heads.take (k + 1)) (ls.take (k + 1))).length ∧ f 16 = .int .i64 sj.length) ∧ H 12 = some (e12, .arr 3 [[.int .u8 kn, .int .i64 hd, .lst 1 (ints ou)]]) ∧ H 18 = some (e18, .arr 8 [cHead x]) ∧ LstG 118 (openF b (n.heads.take (k + 1)) (ls.take (k + 1)) 0) (f 14) H) → K f H := by
            clear h1 h2 h3 h7 h10 h11 h12 h68 h15 h16 h69 h70 k12 k18 k14 hos
            rintro f H ⟨e18, ⟨h1, h2, h3, h7, h10, h11, h12, h18, h20, h68, h69, h70, h15, h16⟩, k12, k18, k14⟩
            refine hK f H ?_
            clear hK
            by_cases hp : 0 < c2
            · rw [if_pos hp] at hss
              have hsa' := hsa hp
              have hsg : ¬ (SU.length : Int) ≤ (sj.length : Int) := by have := (List.getElem?_eq_some_iff.1 hsa').1; omega
              repeat' (first | (with_reducible refine sk ?_; intro K hK) | ((with_reducible first | refine rg (md := { base := 0, own := [12, 18, 22, 24, 118] }) (h := ?_) | refine rgS [12, 18, 22, 24] (md := { base := 0, own := [12, 18, 22, 24, 118] }) (h := ?_) | refine nx ?_); try simp (disch := omega) only [h1, h2, h3, h7, h10, h11, h12, h18, h20, h68, h69, h70, h15, h16, k12, k18, hp, hsa', hsg, hxc,go_sem, simprocAttr]) | (with_reducible refine bk ?_) | ((with_reducible refine' cE ?hv ?_ ?_); (case hv => first | rfl | (simp only [h1, h2, h3, h7, h10, h11, h12, h18, h20, h68, h69, h70, h15, h16, k12, k18, hp, hsa', hsg, hxc,go_sem, simprocAttr]; rfl)); all_goals (intro hc; (try simp only [go_sem, simprocAttr] at hc); try (exfalso; omega))) | ((with_reducible first | refine grdS_split ?_ ?_ | refine lkG_split ?_ ?_) <;> intro hg <;> (try simp (disch := omega) only [hg, h1, h2, h3, h7, h10, h11, h12, h18, h20, h68, h69, h70, h15, h16, k12, k18, hp, hsa', hsg, hxc,go_sem, simprocAttr]) <;> (try simp only [go_sem, simprocAttr] at hg) <;> (try (exfalso; omega))) | with_reducible intro (ep : Nat → Nat) | with_reducible apply_assumption -exfalso -symm only [*])
              exact ⟨e12, by (and_intros <;> first | rfl | (simp only [h1, h2, h3, h7, h10, h11, h12, h68, h15, hss, List.length_append, List.length_cons, List.length_nil, go_sem, simprocAttr]; done) | (simp only [h1, h2, h3, h7, h10, h11, h12, h68, h15, hss, List.length_append, List.length_cons, List.length_nil, go_sem, simprocAttr]; rfl)), by (first | rfl | (simp only [k12, go_sem, simprocAttr]; done) | (simp only [k12, go_sem, simprocAttr]; rfl)), k14⟩
            · rw [if_neg hp, List.append_nil] at hss
              repeat' (first | (with_reducible refine sk ?_; intro K hK) | ((with_reducible first | refine rg (md := { base := 0, own := [12, 18, 22, 24, 118] }) (h := ?_) | refine rgS [12, 18, 22, 24] (md := { base := 0, own := [12, 18, 22, 24, 118] }) (h := ?_) | refine nx ?_); try simp (disch := omega) only [h1, h2, h3, h7, h10, h11, h12, h18, h20, h68, h69, h70, h15, h16, k12, k18, hp, hxc,go_sem, simprocAttr]) | (with_reducible refine bk ?_) | ((with_reducible refine' cE ?hv ?_ ?_); (case hv => first | rfl | (simp only [h1, h2, h3, h7, h10, h11, h12, h18, h20, h68, h69, h70, h15, h16, k12, k18, hp, hxc,go_sem, simprocAttr]; rfl)); all_goals (intro hc; (try simp only [go_sem, simprocAttr] at hc); try (exfalso; omega))) | ((with_reducible first | refine grdS_split ?_ ?_ | refine lkG_split ?_ ?_) <;> intro hg <;> (try simp (disch := omega) only [hg, h1, h2, h3, h7, h10, h11, h12, h18, h20, h68, h69, h70, h15, h16, k12, k18, hp, hxc,go_sem, simprocAttr]) <;> (try simp only [go_sem, simprocAttr] at hg) <;> (try (exfalso; omega))) | with_reducible intro (ep : Nat → Nat) | with_reducible apply_assumption -exfalso -symm only [*])
              exact ⟨e12, by (and_intros <;> first | rfl | (simp only [h1, h2, h3, h7, h10, h11, h12, h68, h15, h16, hss, go_sem, simprocAttr]; done) | (simp only [h1, h2, h3, h7, h10, h11, h12, h68, h15, h16, hss, go_sem, simprocAttr]; rfl)), by (first | rfl | (simp only [k12, go_sem, simprocAttr]; done) | (simp only [k12, go_sem, simprocAttr]; rfl)), k14⟩
          clear hK
          generalize hfB : (upd _ _ _ : Fr) = fB
          generalize hHB : (upd _ _ _ : Hp) = HB
          obtain ⟨e18, a1, a2, a3, a7, a10, a11, a12, a17, a18, a19, a20, a68, a69, a70, a15, a16, B12, B18, B14⟩ : ∃ e18, fB 1 = .lst 1 (ls.map cInts) ∧ fB 2 = .int .u8 b ∧ fB 3 = .pim (cNet n) ∧ fB 7 = .bool true ∧ fB 10 = .lst 1 (ints SU) ∧ fB 11 = .lst 1 (ints MA) ∧ fB 12 = .ptr 12 e12 3 0 0 ∧ fB 17 = .int .i64 k ∧ fB 18 = .ptr 18 e18 8 0 0 ∧ fB 19 = .int .i64 c1 ∧ fB 20 = .int .i64 c2 ∧ fB 68 = .lst 8 (n.heads.map cHead) ∧ fB 69 = .int .i64 n.heads.length ∧ fB 70 = .int .i64 k ∧ fB 15 = .int .i64 mk.length ∧ fB 16 = .int .i64 sj.length ∧ HB 12 = some (e12, .arr 3 [[.int .u8 kn, .int .i64 hd, .lst 1 (ints ou)]]) ∧ HB 18 = some (e18, .arr 8 [cHead x]) ∧ LstG 118 ok (fB 14) HB := by
            rw [← hfB, ← hHB]
            refine ⟨_, by (first | rfl | (simp only [h1, go_sem, simprocAttr]; done) | (simp only [h1, go_sem, simprocAttr]; rfl)), by (first | rfl | (simp only [h2, go_sem, simprocAttr]; done) | (simp only [h2, go_sem, simprocAttr]; rfl)), by (first | rfl | (simp only [h3, go_sem, simprocAttr]; done) | (simp only [h3, go_sem, simprocAttr]; rfl)), by (first | rfl | (simp only [h7, go_sem, simprocAttr]; done) | (simp only [h7, go_sem, simprocAttr]; rfl)), by (first | rfl | (simp only [h10, go_sem, simprocAttr]; done) | (simp only [h10, go_sem, simprocAttr]; rfl)), by (first | rfl | (simp only [h11, go_sem, simprocAttr]; done) | (simp only [h11, go_sem, simprocAttr]; rfl)), by (first | rfl | (simp only [h12, go_sem, simprocAttr]; done) | (simp only [h12, go_sem, simprocAttr]; rfl)), by (first | rfl | (simp only [go_sem, simprocAttr]; done) | (simp only [go_sem, simprocAttr]; rfl)), by (first | rfl | (simp only [go_sem, simprocAttr]; done) | (simp only [go_sem, simprocAttr]; rfl)), by (first | rfl | (simp only [go_sem, simprocAttr]; done) | (simp only [go_sem, simprocAttr]; rfl)), by (first | rfl | (simp only [go_sem, simprocAttr]; done) | (simp only [go_sem, simprocAttr]; rfl)), by (first | rfl | (simp only [h68, go_sem, simprocAttr]; done) | (simp only [h68, go_sem, simprocAttr]; rfl)), by (first | rfl | (simp only [h69, go_sem, simprocAttr]; done) | (simp only [h69, go_sem, simprocAttr]; rfl)), by (first | rfl | (simp only [h70, go_sem, simprocAttr]; done) | (simp only [h70, go_sem, simprocAttr]; rfl)), by (first | rfl | (simp only [h15, go_sem, simprocAttr]; done) | (simp only [h15, go_sem, simprocAttr]; rfl)), by (first | rfl | (simp only [h16, go_sem, simprocAttr]; done) | (simp only [h16, go_sem, simprocAttr]; rfl)), by (first | rfl | (simp only [k12, go_sem, simprocAttr]; done) | (simp only [k12, go_sem, simprocAttr]; rfl)), by (first | rfl | (simp only [go_sem, simprocAttr]; done) | (simp only [go_sem, simprocAttr]; rfl)), by exact k14.same (by (first | rfl | (simp only [go_sem, simprocAttr]; done) | (simp only [go_sem, simprocAttr]; rfl)))⟩
          clear hfB hHB h1 h2 h3 h7 h10 h11 h12 h68 h15 h16 h69 h70 k12 k18 k14
          by_cases hp : 0 < c1
          · rw [if_pos hp] at hms
            have hma' := hma hp
            have hmg : ¬ (MA.length : Int) ≤ (mk.length : Int) := by have := (List.getElem?_eq_some_iff.1 hma').1; omega
            by_cases hq : 0 < c2
            · rw [if_pos ⟨hp, .inl hq⟩] at hos
              rcases B14 with ⟨rfl, h14⟩ | ⟨hne, ea, h14, k118⟩
              · refine AW_lose 118 fun H3 g118 hs3 => ?_
                have q12 := (hs3 12 (by decide)).trans B12
                have q18 := (hs3 18 (by decide)).trans B18
                clear hs3 B12 B18
                repeat' (first | (with_reducible refine sk ?_; intro K hK) | ((with_reducible first | refine rg (md := { base := 0, own := [12, 18, 22, 24, 118] }) (h := ?_) | refine rgS [12, 18, 22, 24] (md := { base := 0, own := [12, 18, 22, 24, 118] }) (h := ?_) | refine nx ?_); try simp (disch := omega) only [a1, a2, a3, a7, a10, a11, a12, a17, a18, a19, a20, a68, a69, a70, a15, a16, h14, q12, q18, g118, hma', hmg, hp, hq, hxc,go_sem, simprocAttr]) | (with_reducible refine bk ?_) | ((with_reducible refine' cE ?hv ?_ ?_); (case hv => first | rfl | (simp only [a1, a2, a3, a7, a10, a11, a12, a17, a18, a19, a20, a68, a69, a70, a15, a16, h14, q12, q18, g118, hma', hmg, hp, hq, hxc,go_sem, simprocAttr]; rfl)); all_goals (intro hc; (try simp only [go_sem, simprocAttr] at hc); try (exfalso; omega))) | ((with_reducible first | refine grdS_split ?_ ?_ | refine lkG_split ?_ ?_) <;> intro hg <;> (try simp (disch := omega) only [hg, a1, a2, a3, a7, a10, a11, a12, a17, a18, a19, a20, a68, a69, a70, a15, a16, h14, q12, q18, g118, hma', hmg, hp, hq, hxc,go_sem, simprocAttr]) <;> (try simp only [go_sem, simprocAttr] at hg) <;> (try (exfalso; omega))) | with_reducible intro (ep : Nat → Nat) | with_reducible apply_assumption -exfalso -symm only [*])
                exact ⟨e18, by (and_intros <;> first | rfl | (simp only [a1, a2, a3, a7, a10, a11, a12, a18, a20, a68, a69, a70, a15, a16, hms, List.length_append, List.length_cons, List.length_nil, go_sem, simprocAttr]; done) | (simp only [a1, a2, a3, a7, a10, a11, a12, a18, a20, a68, a69, a70, a15, a16, hms, List.length_append, List.length_cons, List.length_nil, go_sem, simprocAttr]; rfl)), by (first | rfl | (simp only [q12, go_sem, simprocAttr]; done) | (simp only [q12, go_sem, simprocAttr]; rfl)), by (first | rfl | (simp only [q18, hxc, go_sem, simprocAttr]; done) | (simp only [q18, hxc, go_sem, simprocAttr]; rfl)), by rw [hos]; exact .one (by (first | rfl | (simp only [go_sem, simprocAttr]; done) | (simp only [go_sem, simprocAttr]; rfl)))⟩
              · have hkb : ok.length ≤ 1073741823 := by omega
                repeat' (first | (with_reducible refine sk ?_; intro K hK) | ((with_reducible first | refine rg (md := { base := 0, own := [12, 18, 22, 24, 118] }) (h := ?_) | refine rgS [12, 18, 22, 24] (md := { base := 0, own := [12, 18, 22, 24, 118] }) (h := ?_) | refine nx ?_); try simp (disch := omega) only [a1, a2, a3, a7, a10, a11, a12, a17, a18, a19, a20, a68, a69, a70, a15, a16, h14, B12, B18, k118, hma', hmg, hp, hq, hkb, hxc,go_sem, simprocAttr]) | (with_reducible refine bk ?_) | ((with_reducible refine' cE ?hv ?_ ?_); (case hv => first | rfl | (simp only [a1, a2, a3, a7, a10, a11, a12, a17, a18, a19, a20, a68, a69, a70, a15, a16, h14, B12, B18, k118, hma', hmg, hp, hq, hkb, hxc,go_sem, simprocAttr]; rfl)); all_goals (intro hc; (try simp only [go_sem, simprocAttr] at hc); try (exfalso; omega))) | ((with_reducible first | refine grdS_split ?_ ?_ | refine lkG_split ?_ ?_) <;> intro hg <;> (try simp (disch := omega) only [hg, a1, a2, a3, a7, a10, a11, a12, a17, a18, a19, a20, a68, a69, a70, a15, a16, h14, B12, B18, k118, hma', hmg, hp, hq, hkb, hxc,go_sem, simprocAttr]) <;> (try simp only [go_sem, simprocAttr] at hg) <;> (try (exfalso; omega))) | with_reducible intro (ep : Nat → Nat) | with_reducible apply_assumption -exfalso -symm only [*])
                exact ⟨e18, by (and_intros <;> first | rfl | (simp only [a1, a2, a3, a7, a10, a11, a12, a18, a20, a68, a69, a70, a15, a16, hms, List.length_append, List.length_cons, List.length_nil, go_sem, simprocAttr]; done) | (simp only [a1, a2, a3, a7, a10, a11, a12, a18, a20, a68, a69, a70, a15, a16, hms, List.length_append, List.length_cons, List.length_nil, go_sem, simprocAttr]; rfl)), by (first | rfl | (simp only [B12, go_sem, simprocAttr]; done) | (simp only [B12, go_sem, simprocAttr]; rfl)), by (first | rfl | (simp only [B18, hxc, go_sem, simprocAttr]; done) | (simp only [B18, hxc, go_sem, simprocAttr]; rfl)), by rw [hos]; exact .snoc (by (first | rfl | (simp only [go_sem, simprocAttr]; done) | (simp only [go_sem, simprocAttr]; rfl)))⟩
            · cases hbt : bitI b (k % 8) with
              | true =>
                have hb1 : b.fdiv (2 ^ (k % 8)) % 2 = 1 := by simpa [bitI] using hbt
                rw [hb1] at hand
                rw [if_pos ⟨hp, .inr hbt⟩] at hos
                rcases B14 with ⟨rfl, h14⟩ | ⟨hne, ea, h14, k118⟩
                · refine AW_lose 118 fun H3 g118 hs3 => ?_
                  have q12 := (hs3 12 (by decide)).trans B12
                  have q18 := (hs3 18 (by decide)).trans B18
                  clear hs3 B12 B18
                  repeat' (first | (with_reducible refine sk ?_; intro K hK) | ((with_reducible first | refine rg (md := { base := 0, own := [12, 18, 22, 24, 118] }) (h := ?_) | refine rgS [12, 18, 22, 24] (md := { base := 0, own := [12, 18, 22, 24, 118] }) (h := ?_) | refine nx ?_); try simp (disch := omega) only [a1, a2, a3, a7, a10, a11, a12, a17, a18, a19, a20, a68, a69, a70, a15, a16, h14, q12, q18, g118, hma', hmg, hp, hq, hkm, hmin, hnn, hand, hxc,go_sem, simprocAttr]) | (with_reducible refine bk ?_) | ((with_reducible refine' cE ?hv ?_ ?_); (case hv => first | rfl | (simp only [a1, a2, a3, a7, a10, a11, a12, a17, a18, a19, a20, a68, a69, a70, a15, a16, h14, q12, q18, g118, hma', hmg, hp, hq, hkm, hmin, hnn, hand, hxc,go_sem, simprocAttr]; rfl)); all_goals (intro hc; (try simp only [go_sem, simprocAttr] at hc); try (exfalso; omega))) | ((with_reducible first | refine grdS_split ?_ ?_ | refine lkG_split ?_ ?_) <;> intro hg <;> (try simp (disch := omega) only [hg, a1, a2, a3, a7, a10, a11, a12, a17, a18, a19, a20, a68, a69, a70, a15, a16, h14, q12, q18, g118, hma', hmg, hp, hq, hkm, hmin, hnn, hand, hxc,go_sem, simprocAttr]) <;> (try simp only [go_sem, simprocAttr] at hg) <;> (try (exfalso; omega))) | with_reducible intro (ep : Nat → Nat) | with_reducible apply_assumption -exfalso -symm only [*])
                  exact ⟨e18, by (and_intros <;> first | rfl | (simp only [a1, a2, a3, a7, a10, a11, a12, a18, a20, a68, a69, a70, a15, a16, hms, List.length_append, List.length_cons, List.length_nil, go_sem, simprocAttr]; done) | (simp only [a1, a2, a3, a7, a10, a11, a12, a18, a20, a68, a69, a70, a15, a16, hms, List.length_append, List.length_cons, List.length_nil, go_sem, simprocAttr]; rfl)), by (first | rfl | (simp only [q12, go_sem, simprocAttr]; done) | (simp only [q12, go_sem, simprocAttr]; rfl)), by (first | rfl | (simp only [q18, hxc, go_sem, simprocAttr]; done) | (simp only [q18, hxc, go_sem, simprocAttr]; rfl)), by rw [hos]; exact .one (by (first | rfl | (simp only [go_sem, simprocAttr]; done) | (simp only [go_sem, simprocAttr]; rfl)))⟩
                · have hkb : ok.length ≤ 1073741823 := by omega
                  repeat' (first | (with_reducible refine sk ?_; intro K hK) | ((with_reducible first | refine rg (md := { base := 0, own := [12, 18, 22, 24, 118] }) (h := ?_) | refine rgS [12, 18, 22, 24] (md := { base := 0, own := [12, 18, 22, 24, 118] }) (h := ?_) | refine nx ?_); try simp (disch := omega) only [a1, a2, a3, a7, a10, a11, a12, a17, a18, a19, a20, a68, a69, a70, a15, a16, h14, B12, B18, k118, hma', hmg, hp, hq, hkm, hmin, hnn, hand, hkb, hxc,go_sem, simprocAttr]) | (with_reducible refine bk ?_) | ((with_reducible refine' cE ?hv ?_ ?_); (case hv => first | rfl | (simp only [a1, a2, a3, a7, a10, a11, a12, a17, a18, a19, a20, a68, a69, a70, a15, a16, h14, B12, B18, k118, hma', hmg, hp, hq, hkm, hmin, hnn, hand, hkb, hxc,go_sem, simprocAttr]; rfl)); all_goals (intro hc; (try simp only [go_sem, simprocAttr] at hc); try (exfalso; omega))) | ((with_reducible first | refine grdS_split ?_ ?_ | refine lkG_split ?_ ?_) <;> intro hg <;> (try simp (disch := omega) only [hg, a1, a2, a3, a7, a10, a11, a12, a17, a18, a19, a20, a68, a69, a70, a15, a16, h14, B12, B18, k118, hma', hmg, hp, hq, hkm, hmin, hnn, hand, hkb, hxc,go_sem, simprocAttr]) <;> (try simp only [go_sem, simprocAttr] at hg) <;> (try (exfalso; omega))) | with_reducible intro (ep : Nat → Nat) | with_reducible apply_assumption -exfalso -symm only [*])
                  exact ⟨e18, by (and_intros <;> first | rfl | (simp only [a1, a2, a3, a7, a10, a11, a12, a18, a20, a68, a69, a70, a15, a16, hms, List.length_append, List.length_cons, List.length_nil, go_sem, simprocAttr]; done) | (simp only [a1, a2, a3, a7, a10, a11, a12, a18, a20, a68, a69, a70, a15, a16, hms, List.length_append, List.length_cons, List.length_nil, go_sem, simprocAttr]; rfl)), by (first | rfl | (simp only [B12, go_sem, simprocAttr]; done) | (simp only [B12, go_sem, simprocAttr]; rfl)), by (first | rfl | (simp only [B18, hxc, go_sem, simprocAttr]; done) | (simp only [B18, hxc, go_sem, simprocAttr]; rfl)), by rw [hos]; exact .snoc (by (first | rfl | (simp only [go_sem, simprocAttr]; done) | (simp only [go_sem, simprocAttr]; rfl)))⟩
              | false =>
                have hb1 : b.fdiv (2 ^ (k % 8)) % 2 = 0 := by have : ¬ b.fdiv (2 ^ (k % 8)) % 2 = 1 := by simpa [bitI] using hbt
                                                              omega
                rw [hb1] at hand
                rw [if_neg (fun h => by rcases h.2 with h | h; exact hq h; rw [hbt] at h; cases h), List.append_nil] at hos
                repeat' (first | (with_reducible refine sk ?_; intro K hK) | ((with_reducible first | refine rg (md := { base := 0, own := [12, 18, 22, 24, 118] }) (h := ?_) | refine rgS [12, 18, 22, 24] (md := { base := 0, own := [12, 18, 22, 24, 118] }) (h := ?_) | refine nx ?_); try simp (disch := omega) only [a1, a2, a3, a7, a10, a11, a12, a17, a18, a19, a20, a68, a69, a70, a15, a16, B12, B18, hma', hmg, hp, hq, hkm, hmin, hnn, hand, hxc,go_sem, simprocAttr]) | (with_reducible refine bk ?_) | ((with_reducible refine' cE ?hv ?_ ?_); (case hv => first | rfl | (simp only [a1, a2, a3, a7, a10, a11, a12, a17, a18, a19, a20, a68, a69, a70, a15, a16, B12, B18, hma', hmg, hp, hq, hkm, hmin, hnn, hand, hxc,go_sem, simprocAttr]; rfl)); all_goals (intro hc; (try simp only [go_sem, simprocAttr] at hc); try (exfalso; omega))) | ((with_reducible first | refine grdS_split ?_ ?_ | refine lkG_split ?_ ?_) <;> intro hg <;> (try simp (disch := omega) only [hg, a1, a2, a3, a7, a10, a11, a12, a17, a18, a19, a20, a68, a69, a70, a15, a16, B12, B18, hma', hmg, hp, hq, hkm, hmin, hnn, hand, hxc,go_sem, simprocAttr]) <;> (try simp only [go_sem, simprocAttr] at hg) <;> (try (exfalso; omega))) | with_reducible intro (ep : Nat → Nat) | with_reducible apply_assumption -exfalso -symm only [*])
                exact ⟨e18, by (and_intros <;> first | rfl | (simp only [a1, a2, a3, a7, a10, a11, a12, a18, a20, a68, a69, a70, a15, a16, hms, List.length_append, List.length_cons, List.length_nil, go_sem, simprocAttr]; done) | (simp only [a1, a2, a3, a7, a10, a11, a12, a18, a20, a68, a69, a70, a15, a16, hms, List.length_append, List.length_cons, List.length_nil, go_sem, simprocAttr]; rfl)), by (first | rfl | (simp only [B12, go_sem, simprocAttr]; done) | (simp only [B12, go_sem, simprocAttr]; rfl)), by (first | rfl | (simp only [B18, hxc, go_sem, simprocAttr]; done) | (simp only [B18, hxc, go_sem, simprocAttr]; rfl)), by rw [hos]; exact B14⟩
          · rw [if_neg hp, List.append_nil] at hms
            rw [if_neg (fun h => hp h.1), List.append_nil] at hos
            repeat' (first | (with_reducible refine sk ?_; intro K hK) | ((with_reducible first | refine rg (md := { base := 0, own := [12, 18, 22, 24, 118] }) (h := ?_) | refine rgS [12, 18, 22, 24] (md := { base := 0, own := [12, 18, 22, 24, 118] }) (h := ?_) | refine nx ?_); try simp (disch := omega) only [a1, a2, a3, a7, a10, a11, a12, a17, a18, a19, a20, a68, a69, a70, a15, a16, B12, B18, hp, hxc,go_sem, simprocAttr]) | (with_reducible refine bk ?_) | ((with_reducible refine' cE ?hv ?_ ?_); (case hv => first | rfl | (simp only [a1, a2, a3, a7, a10, a11, a12, a17, a18, a19, a20, a68, a69, a70, a15, a16, B12, B18, hp, hxc,go_sem, simprocAttr]; rfl)); all_goals (intro hc; (try simp only [go_sem, simprocAttr] at hc); try (exfalso; omega))) | ((with_reducible first | refine grdS_split ?_ ?_ | refine lkG_split ?_ ?_) <;> intro hg <;> (try simp (disch := omega) only [hg, a1, a2, a3, a7, a10, a11, a12, a17, a18, a19, a20, a68, a69, a70, a15, a16, B12, B18, hp, hxc,go_sem, simprocAttr]) <;> (try simp only [go_sem, simprocAttr] at hg) <;> (try (exfalso; omega))) | with_reducible intro (ep : Nat → Nat) | with_reducible apply_assumption -exfalso -symm only [*])
            exact ⟨e18, by (and_intros <;> first | rfl | (simp only [a1, a2, a3, a7, a10, a11, a12, a18, a20, a68, a69, a70, a15, a16, hms, go_sem, simprocAttr]; done) | (simp only [a1, a2, a3, a7, a10, a11, a12, a18, a20, a68, a69, a70, a15, a16, hms, go_sem, simprocAttr]; rfl)), by (first | rfl | (simp only [B12, go_sem, simprocAttr]; done) | (simp only [B12, go_sem, simprocAttr]; rfl)), by (first | rfl | (simp only [B18, hxc, go_sem, simprocAttr]; done) | (simp only [B18, hxc, go_sem, simprocAttr]; rfl)), by rw [hos]; exact B14⟩
        · rintro f H h70 h69 ⟨e12, ⟨h1, h2, h3, h7, h10, h11, h12, h68, h15, h16⟩, g12, g14⟩
          rw [List.take_of_length_le (Nat.le_refl _), List.take_of_length_le (by omega)] at h15 h16 g14
          exact hcut2 _ _ ⟨e12, by (and_intros <;> first | rfl | (simp only [h3, h7, h10, h11, h12, h15, h16, go_sem, simprocAttr]; done) | (simp only [h3, h7, h10, h11, h12, h15, h16, go_sem, simprocAttr]; rfl)), by (first | rfl | (simp only [g12, go_sem, simprocAttr]; done) | (simp only [g12, go_sem, simprocAttr]; rfl)), by (first | rfl | (simp only [g14, go_sem, simprocAttr]; done) | (simp only [g14, go_sem, simprocAttr]; rfl))⟩
      clear hK
      repeat' (first | (with_reducible refine sk ?_; intro K hK) | ((with_reducible first | refine rg (md := { base := 0, own := [12, 18, 22, 24, 118] }) (h := ?_) | refine rgS [12, 18, 22, 24] (md := { base := 0, own := [12, 18, 22, 24, 118] }) (h := ?_) | refine nx ?_); try simp (disch := omega) only [go_sem, simprocAttr]) | (with_reducible refine bk ?_) | ((with_reducible refine' cE ?hv ?_ ?_); (case hv => first | rfl | (simp only [go_sem, simprocAttr]; rfl)); all_goals (intro hc; (try simp only [go_sem, simprocAttr] at hc); try (exfalso; omega))) | ((with_reducible first | refine grdS_split ?_ ?_ | refine lkG_split ?_ ?_) <;> intro hg <;> (try simp (disch := omega) only [hg, go_sem, simprocAttr]) <;> (try simp only [go_sem, simprocAttr] at hg) <;> (try (exfalso; omega))) | with_reducible intro (ep : Nat → Nat) | with_reducible apply_assumption -exfalso -symm only [*])
      refine AW_range tabOK ls.length (fun k f H => (f 1 = .lst 1 (ls.map cInts) ∧ f 2 = .int .u8 b ∧ f 3 = .pim (cNet n) ∧ f 7 = .bool true ∧ f 41 = .lst 1 (ls.map cInts)) ∧ ∀ j l, j < k → ls[j]? = some l → (l.length : Int) ≤ 60 ∧ heatOK l = true) (by omega) (by rw [hXs]; decide) (by decide) (by (first | rfl | (simp only [go_sem, simprocAttr]; done) | (simp only [go_sem, simprocAttr]; rfl))) (by (first | rfl | (simp only [hlen', go_sem, simprocAttr]; done) | (simp only [hlen', go_sem, simprocAttr]; rfl)))
        ⟨by (and_intros <;> first | rfl | (simp only [cNet, go_sem, simprocAttr]; done) | (simp only [cNet, go_sem, simprocAttr]; rfl)), fun j l hj => by omega⟩ ?_ ?_
      · clear hcut
        rintro k f H hk h43 h42 ⟨⟨h1, h2, h3, h7, h41⟩, hall⟩
        obtain ⟨l, hlk⟩ : ∃ l, ls[k]? = some l := ⟨_, List.getElem?_eq_getElem hk⟩
        have hc : cInts l = [Val.lst 1 (ints l)] := rfl
        by_cases hl60 : (60 : Int) < l.length
        · repeat' (first | (with_reducible refine sk ?_; intro K hK) | ((with_reducible first | refine rg (md := { base := 0, own := [12, 18, 22, 24, 118] }) (h := ?_) | refine rgS [12, 18, 22, 24] (md := { base := 0, own := [12, 18, 22, 24, 118] }) (h := ?_) | refine nx ?_); try simp (disch := omega) only [h1, h2, h3, h7, h41, h42, h43, hlk, hl60, hc,go_sem, simprocAttr]) | (with_reducible refine bk ?_) | ((with_reducible refine' cE ?hv ?_ ?_); (case hv => first | rfl | (simp only [h1, h2, h3, h7, h41, h42, h43, hlk, hl60, hc,go_sem, simprocAttr]; rfl)); all_goals (intro hc; (try simp only [go_sem, simprocAttr] at hc); try (exfalso; omega))) | ((with_reducible first | refine grdS_split ?_ ?_ | refine lkG_split ?_ ?_) <;> intro hg <;> (try simp (disch := omega) only [hg, h1, h2, h3, h7, h41, h42, h43, hlk, hl60, hc,go_sem, simprocAttr]) <;> (try simp only [go_sem, simprocAttr] at hg) <;> (try (exfalso; omega))) | ((with_reducible refine fe ?_); refine ⟨_, (by simp only [Try.f14, h1, h2, h3, h7, h41, h42, h43, hlk, hl60, hc,go_sem, simprocAttr]; rfl), ?_⟩; first | rfl | (try simp only [h1, h2, h3, h7, h41, h42, h43, hlk, hl60, hc,go_sem, simprocAttr, seval])) | with_reducible intro (ep : Nat → Nat) | with_reducible apply_assumption -exfalso -symm only [*])
        · have hrh := rHeat_ok l (by omega)
          cases hh : heatOK l with
          | false =>
            rw [hh] at hrh
            repeat' (first | (with_reducible refine sk ?_; intro K hK) | ((first | (with_reducible first | refine rg (md := { base := 0, own := [12, 18, 22, 24, 118] }) (h := ?_) | refine rgS [12, 18, 22, 24] (md := { base := 0, own := [12, 18, 22, 24, 118] }) (h := ?_) | refine nx ?_) | refine pK (hrh) ?_); try simp (disch := omega) only [h1, h2, h3, h7, h41, h42, h43, hlk, hl60, hc,go_sem, simprocAttr]) | (with_reducible refine bk ?_) | ((with_reducible refine' cE ?hv ?_ ?_); (case hv => first | rfl | (simp only [h1, h2, h3, h7, h41, h42, h43, hlk, hl60, hc,go_sem, simprocAttr]; rfl)); all_goals (intro hc; (try simp only [go_sem, simprocAttr] at hc); try (exfalso; omega))) | ((with_reducible first | refine grdS_split ?_ ?_ | refine lkG_split ?_ ?_) <;> intro hg <;> (try simp (disch := omega) only [hg, h1, h2, h3, h7, h41, h42, h43, hlk, hl60, hc,go_sem, simprocAttr]) <;> (try simp only [go_sem, simprocAttr] at hg) <;> (try (exfalso; omega))) | ((with_reducible refine fe ?_); refine ⟨_, (by simp only [Try.f14, h1, h2, h3, h7, h41, h42, h43, hlk, hl60, hc,go_sem, simprocAttr]; rfl), ?_⟩; first | rfl | (try simp only [h1, h2, h3, h7, h41, h42, h43, hlk, hl60, hc,go_sem, simprocAttr, seval])) | with_reducible intro (ep : Nat → Nat) | with_reducible apply_assumption -exfalso -symm only [*])
          | true =>
            rw [hh] at hrh
            repeat' (first | (with_reducible refine sk ?_; intro K hK) | ((first | (with_reducible first | refine rg (md := { base := 0, own := [12, 18, 22, 24, 118] }) (h := ?_) | refine rgS [12, 18, 22, 24] (md := { base := 0, own := [12, 18, 22, 24, 118] }) (h := ?_) | refine nx ?_) | refine pK (hrh) ?_); try simp (disch := omega) only [h1, h2, h3, h7, h41, h42, h43, hlk, hl60, hc,go_sem, simprocAttr]) | (with_reducible refine bk ?_) | ((with_reducible refine' cE ?hv ?_ ?_); (case hv => first | rfl | (simp only [h1, h2, h3, h7, h41, h42, h43, hlk, hl60, hc,go_sem, simprocAttr]; rfl)); all_goals (intro hc; (try simp only [go_sem, simprocAttr] at hc); try (exfalso; omega))) | ((with_reducible first | refine grdS_split ?_ ?_ | refine lkG_split ?_ ?_) <;> intro hg <;> (try simp (disch := omega) only [hg, h1, h2, h3, h7, h41, h42, h43, hlk, hl60, hc,go_sem, simprocAttr]) <;> (try simp only [go_sem, simprocAttr] at hg) <;> (try (exfalso; omega))) | with_reducible intro (ep : Nat → Nat) | with_reducible apply_assumption -exfalso -symm only [*])
            intro j l' hj hl'
            by_cases hjk : j = k
            · subst hjk; rw [hlk] at hl'; cases hl'; exact ⟨by omega, hh⟩
            · exact hall j l' (by omega) hl'
      · rintro f H h43 h42 ⟨⟨h1, h2, h3, h7, h41⟩, hall⟩
        refine hcut _ _ ⟨by (first | rfl | (simp only [h1, go_sem, simprocAttr]; done) | (simp only [h1, go_sem, simprocAttr]; rfl)), by (first | rfl | (simp only [h2, go_sem, simprocAttr]; done) | (simp only [h2, go_sem, simprocAttr]; rfl)), by (first | rfl | (simp only [h3, go_sem, simprocAttr]; done) | (simp only [h3, go_sem, simprocAttr]; rfl)), by (first | rfl | (simp only [h7, go_sem, simprocAttr]; done) | (simp only [h7, go_sem, simprocAttr]; rfl))⟩ fun l hl => ?_
        obtain ⟨j, hj⟩ := List.mem_iff_getElem?.1 hl
        exact hall j l (List.getElem?_eq_some_iff.1 hj).1 hj
    · have hlen' : ¬ (ls.length : Int) = n.heads.length := by omega
      refine PureC_of (fn := Try.f14) tabOK (by kernel_rfl) rfl (by kernel_rfl) (by simp [Try.f14]) (by simp [noids, noid, noidss, go_sem, encNet, cNet, hll2]) (by first | rfl | simp [noids, noid, noidss, go_sem, encNet, cNet, hll2]) ?_
      intro X hX0 hXs
      repeat' (first | (with_reducible refine sk ?_; intro K hK) | ((first | (with_reducible first | refine rg (md := { base := 0, own := [12, 18, 22, 24, 118] }) (h := ?_) | refine rgS [12, 18, 22, 24] (md := { base := 0, own := [12, 18, 22, 24, 118] }) (h := ?_) | refine nx ?_) | refine pK (alive_run) ?_ | refine pK (hrd) ?_); try simp (disch := omega) only [encNet, cNet, hlen',go_sem, simprocAttr]) | (with_reducible refine bk ?_) | ((with_reducible refine' cE ?hv ?_ ?_); (case hv => first | rfl | (simp only [encNet, cNet, hlen',go_sem, simprocAttr]; rfl)); all_goals (intro hc; (try simp only [go_sem, simprocAttr] at hc); try (exfalso; omega))) | ((with_reducible first | refine grdS_split ?_ ?_ | refine lkG_split ?_ ?_) <;> intro hg <;> (try simp (disch := omega) only [hg, encNet, cNet, hlen',go_sem, simprocAttr]) <;> (try simp only [go_sem, simprocAttr] at hg) <;> (try (exfalso; omega))) | ((with_reducible refine fe ?_); refine ⟨_, (by simp only [Try.f14, encNet, cNet, hlen',go_sem, simprocAttr]; rfl), ?_⟩; first | rfl | (try simp only [encNet, cNet, hlen',go_sem, simprocAttr, seval])) | with_reducible intro (ep : Nat → Nat) | with_reducible apply_assumption -exfalso -symm only [*])
  · simp only [Bool.not_eq_true] at hr
    rw [hr] at hrd
    refine PureC_of (fn := Try.f14) tabOK (by kernel_rfl) rfl (by kernel_rfl) (by simp [Try.f14]) (by simp [noids, noid, noidss, go_sem, encNet, cNet, hll2]) (by first | rfl | simp [noids, noid, noidss, go_sem, encNet, cNet, hll2]) ?_
    intro X hX0 hXs
    repeat' (first | (with_reducible refine sk ?_; intro K hK) | ((first | (with_reducible first | refine rg (md := { base := 0, own := [12, 18, 22, 24, 118] }) (h := ?_) | refine rgS [12, 18, 22, 24] (md := { base := 0, own := [12, 18, 22, 24, 118] }) (h := ?_) | refine nx ?_) | refine pK (alive_run) ?_ | refine pK (hrd) ?_); try simp (disch := omega) only [encNet, cNet,go_sem, simprocAttr]) | (with_reducible refine bk ?_) | ((with_reducible refine' cE ?hv ?_ ?_); (case hv => first | rfl | (simp only [encNet, cNet,go_sem, simprocAttr]; rfl)); all_goals (intro hc; (try simp only [go_sem, simprocAttr] at hc); try (exfalso; omega))) | ((with_reducible first | refine grdS_split ?_ ?_ | refine lkG_split ?_ ?_) <;> intro hg <;> (try simp (disch := omega) only [hg, encNet, cNet,go_sem, simprocAttr]) <;> (try simp only [go_sem, simprocAttr] at hg) <;> (try (exfalso; omega))) | ((with_reducible refine fe ?_); refine ⟨_, (by simp only [Try.f14, encNet, cNet,go_sem, simprocAttr]; rfl), ?_⟩; first | rfl | (try simp only [encNet, cNet,go_sem, simprocAttr, seval])) | with_reducible intro (ep : Nat → Nat) | with_reducible apply_assumption -exfalso -symm only [*])
end Cp
