/- Rules, facts and contracts that the statement's proof leans on. Conditions: none. -/
import Derived.Test.YtfpbidbjgigljaaP9
set_option linter.unusedVariables false
set_option linter.unusedSimpArgs false
set_option linter.unusedSectionVars false
namespace Cp
open Go Go.Proofs
set_option maxRecDepth 10000
set_option maxHeartbeats 1000000
def GJ (Hz : Hp) (n : NetT) (hs : List HeadT) (e36 e33 e34 e2 e3 e4 e5 ey : Nat) (L0 : AObj) (k : Nat) (H : Hp) : Prop :=
 (∀ j, j < 100 → H j = Hz j) ∧ H 436 = some (e36, .fro 10 [cPlant n hs e33 e34 (n.pipes.length + 1)]) ∧ H 433 = some (e33, .arr 1 (ints (flowL n.pipes (n.pipes.length + 1) hs))) ∧ (∃ ver, H 434 = some (e34, .map ver [])) ∧
 H 602 = some (e2, .arr 3 [[.int .u8 0, .int .i64 0, .nils]]) ∧ H 603 = some (e3, .arr 3 [cTold (getF n hs ((outsL n.pumps.length n.out.toNat).take k)).1]) ∧ H 604 = some (e4, .arr 1 [[.bool (getF n hs ((outsL n.pumps.length n.out.toNat).take k)).2]]) ∧
 H 605 = some (e5, .arr 4 [[.fn (sgF false) [], .fn (sgF true) [], .fn (sgF true) [], .fn (sgF false) []]]) ∧ H 100 = some (ey, L0) ∧ (H 1208 = none ∧ H 1604 = none ∧ H 1605 = none ∧ H 1607 = none)
theorem outsL_len {np o : Nat} (hn : np ≤ 4) (ho : o ≤ 3) : (outsL np o).length ≤ 100000 := by
 have h : ∀ np, np < 5 → ∀ o, o < 4 → (outsL np o).length ≤ 100000 := by decide +kernel
 exact h np (by omega) o (by omega)
theorem gets_ok (n : NetT) (hF : NetF n) (hs : List HeadT) (h5 : heads500 hs) (hsl : hs.length ≤ 12) (hnd : ∀ h ∈ hs, 1 ≤ h.node ∧ h.node ≤ n.pipes.length) (e36 e33 e34 ver : Nat) (H0 : Hp)
  (g36 : H0 436 = some (e36, .fro 10 [cPlant n hs e33 e34 (n.pipes.length + 1)])) (g33 : H0 433 = some (e33, .arr 1 (ints (flowL n.pipes (n.pipes.length + 1) hs)))) (g34 : H0 434 = some (e34, .map ver []))
  (hroom : ∀ j, 600 ≤ j → H0 j = none) (h100 : H0 100 = none) :
  ACall Try.prog 69 [.ptr 436 e36 10 0 0] H0 fun v H' => v = .agg (cTold (getsS n hs)) ∧ ∀ j, j < 100 → H' j = H0 j := by
 refine ACall_ofR (fn := Try.f69) tabOK (by kernel_rfl) rfl (by kernel_rfl) (by simp [Try.f69]) ?_
 intro X hX0 hXs hXr
 have q1 := hroom 601 (by decide)
 have q2 := hroom 602 (by decide)
 have q3 := hroom 603 (by decide)
 have q4 := hroom 604 (by decide)
 have q5 := hroom 605 (by decide)
 have oc := fun H h => outs_call n hF (hs := hs) (e36 := e36) (e33 := e33) (e34 := e34) (k := n.pipes.length + 1) (H := H) h
 repeat' (first | (with_reducible refine sk ?_; intro K hK) | ((first | (with_reducible first | refine rg (md := { base := 600, own := [3, 4, 5, 6], imp := [10] }) (h := ?_) | refine rgS [2, 3, 4, 5, 6] (md := { base := 600, own := [3, 4, 5, 6], imp := [10] }) (h := ?_) | refine nx ?_) | refine pK (ends_ok) ?_); try simp (disch := omega) only [g36, q1, q2, q3, q4, q5,go_sem, simprocAttr]) | (with_reducible refine bk ?_) | ((with_reducible refine' cE ?hv ?_ ?_); (case hv => first | rfl | (simp only [g36, q1, q2, q3, q4, q5,go_sem, simprocAttr]; rfl)); all_goals (intro hc; (try simp only [go_sem, simprocAttr] at hc); try (exfalso; omega))) | ((with_reducible first | refine grdS_split ?_ ?_ | refine lkG_split ?_ ?_) <;> intro hg <;> (try simp (disch := omega) only [hg, g36, q1, q2, q3, q4, q5,go_sem, simprocAttr]) <;> (try simp only [go_sem, simprocAttr] at hg) <;> (try (exfalso; omega))) | (first | refine iK (ends_ok) ?_) | with_reducible intro (ep : Nat → Nat) | with_reducible apply_assumption -exfalso -symm only [*])
 refine iK (oc _ (by (first | rfl | (simp only [g36, go_sem, simprocAttr]; done) | (simp only [g36, go_sem, simprocAttr]; rfl)))) ?_
 rintro v H3 ⟨rfl, rfl⟩
 simp only [go_sem, simprocAttr]
 repeat' (first | (with_reducible refine sk ?_; intro K hK) | ((with_reducible first | refine rg (md := { base := 600, own := [3, 4, 5, 6], imp := [10] }) (h := ?_) | refine rgS [2, 3, 4, 5, 6] (md := { base := 600, own := [3, 4, 5, 6], imp := [10] }) (h := ?_) | refine nx ?_); try simp (disch := omega) only [go_sem, simprocAttr]) | (with_reducible refine bk ?_) | ((with_reducible refine' cE ?hv ?_ ?_); (case hv => first | rfl | (simp only [go_sem, simprocAttr]; rfl)); all_goals (intro hc; (try simp only [go_sem, simprocAttr] at hc); try (exfalso; omega))) | ((with_reducible first | refine grdS_split ?_ ?_ | refine lkG_split ?_ ?_) <;> intro hg <;> (try simp (disch := omega) only [hg, go_sem, simprocAttr]) <;> (try simp only [go_sem, simprocAttr] at hg) <;> (try (exfalso; omega))) | with_reducible intro (ep : Nat → Nat) | with_reducible apply_assumption -exfalso -symm only [*])
 refine AW_block ?_
 refine AW_rangeFunc 100 (by simp only [go_sem, simprocAttr, outsF]; rfl) hXr fun ey => ?_
 generalize hf0 : (upd _ _ _ : Fr) = f0
 generalize hH : (upd (upd (upd (upd (upd (upd (upd H0 _ _) _ _) _ _) _ _) _ _) _ _) _ _ : Hp) = HH
 obtain ⟨e2, e3, e4, e5, k1, k2, k3, k4, k5, G2, G3, G4, G5, Gs⟩ : ∃ e2 e3 e4 e5, f0 1 = .pim [.ptr 436 e36 10 0 0] ∧ f0 2 = .ptr 602 e2 3 0 0 ∧ f0 3 = .ptr 603 e3 3 0 0 ∧ f0 4 = .ptr 604 e4 1 0 0 ∧ f0 5 = .ptr 605 e5 4 0 0 ∧
   HH 602 = some (e2, .arr 3 [[.int .u8 0, .int .i64 0, .nils]]) ∧ HH 603 = some (e3, .arr 3 [[.int .u8 2, .int .i64 0, .nils]]) ∧ HH 604 = some (e4, .arr 1 [[.bool false]]) ∧ HH 605 = some (e5, .arr 4 [[.fn (sgF false) [], .fn (sgF true) [], .fn (sgF true) [], .fn (sgF false) []]]) ∧ ∀ j, ¬ j = 602 → ¬ j = 603 → ¬ j = 604 → ¬ j = 605 → HH j = H0 j := by
  refine ⟨_, _, _, _, by rw [← hf0]; rfl, by rw [← hf0]; rfl, by rw [← hf0]; rfl, by rw [← hf0]; rfl, by rw [← hf0]; rfl, by rw [← hH]; rfl, by rw [← hH]; rfl, by rw [← hH]; rfl, by rw [← hH]; rfl, fun j h1 h2 h3 h4 => ?_⟩
  rw [← hH, upd_ne _ _ h4, upd_ne _ _ h4, upd_ne _ _ h3, upd_ne _ _ h3, upd_ne _ _ h2, upd_ne _ _ h2, upd_ne _ _ h1]
 have G36 := (Gs 436 (by decide) (by decide) (by decide) (by decide)).trans g36
 have G33 := (Gs 433 (by decide) (by decide) (by decide) (by decide)).trans g33
 have G34 := (Gs 434 (by decide) (by decide) (by decide) (by decide)).trans g34
 have Gr : ∀ j, 606 ≤ j → HH j = none := fun j hj => (Gs j (by omega) (by omega) (by omega) (by omega)).trans (hroom j (by omega))
 have Gl : ∀ j, j < 100 → HH j = H0 j := fun j hj => Gs j (by omega) (by omega) (by omega) (by omega)
 have hXs0 : X.sz = 24 := hXs
 clear hf0 hH hXs Gs g36 g33 g34 hroom q1 q2 q3 q4 q5 oc h100
 generalize hL : AObj.loop _ _ _ _ _ _ = L0
 have hll := @outsL_len n.pumps.length n.out.toNat hF.pumps.2 (by have := hF.out.2; have := hF.pumps.2; omega)
 have hmo := fun l => @mem_outs n hF.out.1 l
 refine ⟨fun v H' => GJ H0 n hs e36 e33 e34 e2 e3 e4 e5 ey L0 (outsL n.pumps.length n.out.toNat).length H', values1_ok _ hll _ 100 ey (GJ H0 n hs e36 e33 e34 e2 e3 e4 e5 ey L0) ?_ ?_, ?_⟩
 ·have h0 : getF n hs ((outsL n.pumps.length n.out.toNat).take 0) = (⟨2, 0, []⟩, false) := rfl
  unfold GJ
  rw [h0]
  exact ⟨fun j hj => by rw [upd_ne _ _ (by omega), Gl j hj], by rw [upd_ne _ _ (by decide), G36], by rw [upd_ne _ _ (by decide), G33], ⟨_, by rw [upd_ne _ _ (by decide), G34]⟩, by rw [upd_ne _ _ (by decide), G2], by rw [upd_ne _ _ (by decide), G3]; rfl, by rw [upd_ne _ _ (by decide), G4], by rw [upd_ne _ _ (by decide), G5], upd_same _ _ _,
   by rw [upd_ne _ _ (by decide), Gr _ (by decide)], by rw [upd_ne _ _ (by decide), Gr _ (by decide)], by rw [upd_ne _ _ (by decide), Gr _ (by decide)], by rw [upd_ne _ _ (by decide), Gr _ (by decide)]⟩
 ·clear G36 G33 G34 G2 G3 G4 G5 Gr
  rintro k l Hs hk ⟨jl, j36, j33, ⟨ver', j34⟩, j2, j3, j4, j5, j100, jr0, jr1, jr2, jr3⟩
  have hol := (hmo l).1 (List.mem_of_getElem? hk)
  have hkn := @getF_kn n hs k (outsL n.pumps.length n.out.toNat)
  have hsn := @getF_snoc n hs _ _ _ hk
  generalize getF n hs ((outsL n.pumps.length n.out.toNat).take k) = s at *
  obtain ⟨t, g⟩ := s
  simp only at hkn j3 j4
  subst hL
  refine ⟨_, _, _, _, _, j100, rfl, fun t ht => ?_, fun X1 b h10 h1s h1r => ?_⟩
  ·rw [frL_len, hXs0]
   have ht' : t = 11 := by simpa using ht
   subst ht'; decide
  have hXs : X1.sz = 24 := by rw [h1s, frL_len, hXs0]
  show AW _ _ _ _ _ (upd (frOf (frL f0 X.sz)) 11 (.lst 1 (ints l))) Hs
  have k1' : frOf (frL f0 X.sz) 1 = .pim [.ptr 436 e36 10 0 0] := by rw [frOf_frL, hXs0, if_pos (by decide), k1]
  have k3' : frOf (frL f0 X.sz) 3 = .ptr 603 e3 3 0 0 := by rw [frOf_frL, hXs0, if_pos (by decide), k3]
  have k4' : frOf (frL f0 X.sz) 4 = .ptr 604 e4 1 0 0 := by rw [frOf_frL, hXs0, if_pos (by decide), k4]
  have k5' : frOf (frL f0 X.sz) 5 = .ptr 605 e5 4 0 0 := by rw [frOf_frL, hXs0, if_pos (by decide), k5]
  generalize frOf (frL f0 X.sz) = f1 at k1' k3' k4' k5'
  refine AW_lose 606 fun H1 w6 hs1 => ?_
  repeat' (first | (with_reducible refine sk ?_; intro K hK) | ((with_reducible first | refine rg (md := { base := 600, own := [3, 4, 5, 6], imp := [10] }) (h := ?_) | refine rgS [2, 3, 4, 5, 6] (md := { base := 600, own := [3, 4, 5, 6], imp := [10] }) (h := ?_) | refine nx ?_); try simp (disch := omega) only [k1', k3', k4', k5', w6,go_sem, simprocAttr]) | (with_reducible refine bk ?_) | ((with_reducible refine' cE ?hv ?_ ?_); (case hv => first | rfl | (simp only [k1', k3', k4', k5', w6,go_sem, simprocAttr]; rfl)); all_goals (intro hc; (try simp only [go_sem, simprocAttr] at hc); try (exfalso; omega))) | ((with_reducible first | refine grdS_split ?_ ?_ | refine lkG_split ?_ ?_) <;> intro hg <;> (try simp (disch := omega) only [hg, k1', k3', k4', k5', w6,go_sem, simprocAttr]) <;> (try simp only [go_sem, simprocAttr] at hg) <;> (try (exfalso; omega))) | with_reducible intro (ep : Nat → Nat) | with_reducible apply_assumption -exfalso -symm only [*])
  refine ⟨rfl, _, _, _, _, _, by rw [upd_ne _ _ (by decide), upd_ne _ _ (by decide), hs1 _ (by decide), j100], ?_⟩
  generalize hHs : (upd (upd (upd H1 _ _) _ _) 100 _ : Hp) = HB
  generalize hfB : (upd _ _ _ : Fr) = fB
  obtain ⟨e6, b1, b3, b4, b5, b6, B6, B100, Bs⟩ : ∃ e6, fB 1 = .pim [.ptr 436 e36 10 0 0] ∧ fB 3 = .ptr 603 e3 3 0 0 ∧ fB 4 = .ptr 604 e4 1 0 0 ∧ fB 5 = .ptr 605 e5 4 0 0 ∧ fB 6 = .ptr 606 e6 1 0 0 ∧ HB 606 = some (e6, .arr 1 [[.lst 1 (ints l)]]) ∧ HB 100 = _ ∧ ∀ j, ¬ j = 606 → ¬ j = 100 → HB j = Hs j := by
   refine ⟨_, by rw [← hfB]; simp only [k1', go_sem, simprocAttr], by rw [← hfB]; simp only [k3', go_sem, simprocAttr], by rw [← hfB]; simp only [k4', go_sem, simprocAttr], by rw [← hfB]; simp only [k5', go_sem, simprocAttr], by rw [← hfB]; rfl, by rw [← hHs]; rfl, by rw [← hHs, upd_same], fun j h1 h2 => ?_⟩
   rw [← hHs, upd_ne _ _ h2, upd_ne _ _ h1, upd_ne _ _ h1, hs1 _ h1]
  clear hHs hfB hs1 k1' k3' k4' k5' w6
  have B36 := (Bs 436 (by decide) (by decide)).trans j36
  have B34 := (Bs 434 (by decide) (by decide)).trans j34
  have hst : ∀ (ver' : Nat) (H : Hp), (∀ j, ¬ j = 434 → H j = HB j) → H 434 = some (e34, .map ver' (imap .i64 (offM l))) →
    ACall Try.prog 95 [.pim [.ptr 436 e36 10 0 0], .ptr 605 e5 4 0 0, .ptr 603 e3 3 0 0, .ptr 606 e6 1 0 0, .ptr 604 e4 1 0 0] H fun v H' => v = .tup [] ∧ H' 436 = H 436 ∧ (∃ ver2, H' 434 = some (e34, .map ver2 (imap .i64 (offM l)))) ∧
     ((∀ j, ¬ j = 434 → ¬ j = 603 → ¬ j = 604 → ¬ j = 1705 → H' j = HB j) ∧ H' 603 = some (e3, .arr 3 [cTold (getStep n hs (t, g) l).1]) ∧ H' 604 = some (e4, .arr 1 [[.bool (getStep n hs (t, g) l).2]])) := fun ver' H hH h34 => by
   have hc : ∀ j, ¬ j = 434 → ¬ j = 606 → ¬ j = 100 → H j = Hs j := fun j h1 h2 h3 => (hH j h1).trans (Bs j h2 h3)
   refine (gets1_ok n hF hs h5 hsl hnd l hol e36 e33 e34 ver' e3 e4 e5 e6 t hkn g H ((hc _ (by decide) (by decide) (by decide)).trans j36) ((hc _ (by decide) (by decide) (by decide)).trans j33) h34 ((hc _ (by decide) (by decide) (by decide)).trans j3) ((hc _ (by decide) (by decide) (by decide)).trans j4) ((hc _ (by decide) (by decide) (by decide)).trans j5) ((hH _ (by decide)).trans B6)
    ⟨(hc _ (by decide) (by decide) (by decide)).trans jr0, (hc _ (by decide) (by decide) (by decide)).trans jr1, (hc _ (by decide) (by decide) (by decide)).trans jr2, (hc _ (by decide) (by decide) (by decide)).trans jr3⟩).imp ?_
   rintro v H' ⟨hv, hlow, h3, h4⟩
   exact ⟨hv, hlow _ (by decide) (by decide) (by decide), ⟨ver', (hlow _ (by decide) (by decide) (by decide)).trans h34⟩, fun j a1 a2 a3 a4 => (hlow j a2 a3 a4).trans (hH j a1), h3, h4⟩
  have hlo : l.length ≤ 100000 := by
   have h1 := (out_facts hol).2.2
   have h2 := hF.out.2
   have h3 := hF.pumps.2
   omega
  repeat' (first | (with_reducible refine sk ?_; intro K hK) | ((with_reducible first | refine rg (md := { base := 600, own := [], imp := [15] }) (h := ?_) | refine rgS [2, 3, 4, 5, 6] (md := { base := 600, own := [], imp := [15] }) (h := ?_) | refine nx ?_); try simp (disch := omega) only [b1, b3, b4, b5, b6, B36, B6,go_sem, simprocAttr]) | (with_reducible refine bk ?_) | ((with_reducible refine' cE ?hv ?_ ?_); (case hv => first | rfl | (simp only [b1, b3, b4, b5, b6, B36, B6,go_sem, simprocAttr]; rfl)); all_goals (intro hc; (try simp only [go_sem, simprocAttr] at hc); try (exfalso; omega))) | ((with_reducible first | refine grdS_split ?_ ?_ | refine lkG_split ?_ ?_) <;> intro hg <;> (try simp (disch := omega) only [hg, b1, b3, b4, b5, b6, B36, B6,go_sem, simprocAttr]) <;> (try simp only [go_sem, simprocAttr] at hg) <;> (try (exfalso; omega))) | with_reducible intro (ep : Nat → Nat) | with_reducible apply_assumption -exfalso -symm only [*])
  refine iK (without_fro n hs e36 e33 e34 ver' l hlo (out_facts hol).2.1 _ _ HB (by (first | rfl | (simp only [B36, go_sem, simprocAttr]; done) | (simp only [B36, go_sem, simprocAttr]; rfl))) (by (first | rfl | (simp only [B34, go_sem, simprocAttr]; done) | (simp only [B34, go_sem, simprocAttr]; rfl))) _ hst) ?_
  rintro v H3 ⟨rfl, H2, ver2, ⟨hlow, r3, r4⟩, hsame, hm⟩
  have hc : ∀ j, ¬ j = 434 → ¬ j = 603 → ¬ j = 604 → ¬ j = 1705 → H3 j = HB j := fun j h1 h2 h3 h4 => (hsame j h1).trans (hlow j h1 h2 h3 h4)
  have hd : ∀ j, ¬ j = 434 → ¬ j = 603 → ¬ j = 604 → ¬ j = 1705 → ¬ j = 606 → ¬ j = 100 → H3 j = Hs j := fun j h1 h2 h3 h4 h5 h6 => (hc j h1 h2 h3 h4).trans (Bs j h5 h6)
  have C100 := (hc 100 (by decide) (by decide) (by decide) (by decide)).trans B100
  have C3 := (hsame 603 (by decide)).trans r3
  have C4 := (hsame 604 (by decide)).trans r4
  rw [← hsn] at C3 C4
  refine ⟨_, _, _, _, _, _, C100, ?_⟩
  refine ⟨rfl, ?_⟩
  have z : ∀ {o : Option (Nat × AObj)} (j : Nat), ¬ j = 434 → ¬ j = 603 → ¬ j = 604 → ¬ j = 1705 → ¬ j = 606 → ¬ j = 100 → upd H3 100 o j = Hs j := fun j h1 h2 h3 h4 h5 h6 => by rw [upd_ne _ _ h6]; exact hd j h1 h2 h3 h4 h5 h6
  exact ⟨fun j hj => (z j (by omega) (by omega) (by omega) (by omega) (by omega) (by omega)).trans (jl j hj), (z 436 (by decide) (by decide) (by decide) (by decide) (by decide) (by decide)).trans j36, (z 433 (by decide) (by decide) (by decide) (by decide) (by decide) (by decide)).trans j33, ⟨ver2, by rw [upd_ne _ _ (by decide)]; exact hm⟩, (z 602 (by decide) (by decide) (by decide) (by decide) (by decide) (by decide)).trans j2, by rw [upd_ne _ _ (by decide)]; exact C3, by rw [upd_ne _ _ (by decide)]; exact C4,
   (z 605 (by decide) (by decide) (by decide) (by decide) (by decide) (by decide)).trans j5, upd_same _ _ _, (z 1208 (by decide) (by decide) (by decide) (by decide) (by decide) (by decide)).trans jr0, (z 1604 (by decide) (by decide) (by decide) (by decide) (by decide) (by decide)).trans jr1,
   (z 1605 (by decide) (by decide) (by decide) (by decide) (by decide) (by decide)).trans jr2, (z 1607 (by decide) (by decide) (by decide) (by decide) (by decide) (by decide)).trans jr3⟩
 ·clear G36 G33 G34 G2 G3 G4 G5 Gr
  rintro v Hs ⟨jl, j36, j33, ⟨ver', j34⟩, j2, j3, j4, j5, j100, jr0, jr1, jr2, jr3⟩
  rw [List.take_of_length_le (Nat.le_refl _)] at j3 j4
  subst hL
  refine ⟨_, _, _, _, _, _, j100, by simp, ?_⟩
  have hkn := @getF_kn n hs (outsL n.pumps.length n.out.toNat).length (outsL n.pumps.length n.out.toNat)
  rw [List.take_of_length_le (Nat.le_refl _)] at hkn
  obtain ⟨G, hG⟩ : ∃ G, getsS n hs = G := ⟨_, rfl⟩
  have hgs := hG
  unfold getsS at hgs
  generalize getF n hs (outsL n.pumps.length n.out.toNat) = s at *
  obtain ⟨⟨kn, hd, ol⟩, g⟩ := s
  have yl : ∀ j, j < 100 → upd Hs 100 none j = H0 j := fun j hj => by rw [upd_ne _ _ (by omega), jl j hj]
  have y2 : upd Hs 100 none 602 = _ := (upd_ne _ _ (by decide)).trans j2
  have y3 : upd Hs 100 none 603 = _ := (upd_ne _ _ (by decide)).trans j3
  have y4 : upd Hs 100 none 604 = _ := (upd_ne _ _ (by decide)).trans j4
  generalize upd Hs 100 none = H2 at y2 y3 y4 yl
  clear j36 j33 j34 j2 j3 j4 j5 j100 jr0 jr1 jr2 jr3 hmo hll
  simp only at hkn
  rcases hkn with rfl | rfl <;> cases g
  ·simp only [cTold] at y3
   simp only [Bool.false_eq_true, false_and, and_self, if_true, if_false, Int.reduceEq, true_and] at hgs
   repeat' (first | (with_reducible refine sk ?_; intro K hK) | ((with_reducible first | refine rg (md := { base := 600, own := [], imp := [] }) (h := ?_) | refine rgS [2, 3, 4, 5, 6] (md := { base := 600, own := [], imp := [] }) (h := ?_) | refine nx ?_); try simp (disch := omega) only [k1, k2, k3, k4, y2, y3, y4,go_sem, simprocAttr]) | (with_reducible refine bk ?_) | ((with_reducible refine' cE ?hv ?_ ?_); (case hv => first | rfl | (simp only [k1, k2, k3, k4, y2, y3, y4,go_sem, simprocAttr]; rfl)); all_goals (intro hc; (try simp only [go_sem, simprocAttr] at hc); try (exfalso; omega))) | ((with_reducible first | refine grdS_split ?_ ?_ | refine lkG_split ?_ ?_) <;> intro hg <;> (try simp (disch := omega) only [hg, k1, k2, k3, k4, y2, y3, y4,go_sem, simprocAttr]) <;> (try simp only [go_sem, simprocAttr] at hg) <;> (try (exfalso; omega))) | with_reducible intro (ep : Nat → Nat) | with_reducible apply_assumption -exfalso -symm only [*])
   exact FnQ_end (Or.inl rfl) (.refl _) (by simp only [Try.f69, go_sem, simprocAttr, k2]; rfl) ⟨by rw [hG, ← hgs]; simp only [cTold, go_sem, simprocAttr], fun j hj => by (repeat rw [upd_ne _ _ (by omega)]); exact yl j hj⟩
  ·simp only [cTold] at y3
   simp only [Bool.false_eq_true, false_and, and_self, if_true, if_false, Int.reduceEq, true_and] at hgs
   repeat' (first | (with_reducible refine sk ?_; intro K hK) | ((with_reducible first | refine rg (md := { base := 600, own := [], imp := [] }) (h := ?_) | refine rgS [2, 3, 4, 5, 6] (md := { base := 600, own := [], imp := [] }) (h := ?_) | refine nx ?_); try simp (disch := omega) only [k1, k2, k3, k4, y2, y3, y4,go_sem, simprocAttr]) | (with_reducible refine bk ?_) | ((with_reducible refine' cE ?hv ?_ ?_); (case hv => first | rfl | (simp only [k1, k2, k3, k4, y2, y3, y4,go_sem, simprocAttr]; rfl)); all_goals (intro hc; (try simp only [go_sem, simprocAttr] at hc); try (exfalso; omega))) | ((with_reducible first | refine grdS_split ?_ ?_ | refine lkG_split ?_ ?_) <;> intro hg <;> (try simp (disch := omega) only [hg, k1, k2, k3, k4, y2, y3, y4,go_sem, simprocAttr]) <;> (try simp only [go_sem, simprocAttr] at hg) <;> (try (exfalso; omega))) | with_reducible intro (ep : Nat → Nat) | with_reducible apply_assumption -exfalso -symm only [*])
   exact FnQ_end (Or.inl rfl) (.refl _) (by simp only [Try.f69, go_sem, simprocAttr, k2]; rfl) ⟨by rw [hG, ← hgs]; simp only [cTold, go_sem, simprocAttr], fun j hj => by (repeat rw [upd_ne _ _ (by omega)]); exact yl j hj⟩
  ·simp only [cTold] at y3
   simp only [Bool.false_eq_true, false_and, and_self, if_true, if_false, Int.reduceEq, true_and] at hgs
   repeat' (first | (with_reducible refine sk ?_; intro K hK) | ((with_reducible first | refine rg (md := { base := 600, own := [], imp := [] }) (h := ?_) | refine rgS [2, 3, 4, 5, 6] (md := { base := 600, own := [], imp := [] }) (h := ?_) | refine nx ?_); try simp (disch := omega) only [k1, k2, k3, k4, y2, y3, y4,go_sem, simprocAttr]) | (with_reducible refine bk ?_) | ((with_reducible refine' cE ?hv ?_ ?_); (case hv => first | rfl | (simp only [k1, k2, k3, k4, y2, y3, y4,go_sem, simprocAttr]; rfl)); all_goals (intro hc; (try simp only [go_sem, simprocAttr] at hc); try (exfalso; omega))) | ((with_reducible first | refine grdS_split ?_ ?_ | refine lkG_split ?_ ?_) <;> intro hg <;> (try simp (disch := omega) only [hg, k1, k2, k3, k4, y2, y3, y4,go_sem, simprocAttr]) <;> (try simp only [go_sem, simprocAttr] at hg) <;> (try (exfalso; omega))) | with_reducible intro (ep : Nat → Nat) | with_reducible apply_assumption -exfalso -symm only [*])
   exact FnQ_end (Or.inl rfl) (.refl _) (by simp only [Try.f69, go_sem, simprocAttr, k2]; rfl) ⟨by rw [hG, ← hgs]; simp only [cTold, go_sem, simprocAttr], fun j hj => by (repeat rw [upd_ne _ _ (by omega)]); exact yl j hj⟩
  ·simp only [cTold] at y3
   simp only [Bool.false_eq_true, false_and, and_self, if_true, if_false, Int.reduceEq, true_and] at hgs
   repeat' (first | (with_reducible refine sk ?_; intro K hK) | ((with_reducible first | refine rg (md := { base := 600, own := [], imp := [] }) (h := ?_) | refine rgS [2, 3, 4, 5, 6] (md := { base := 600, own := [], imp := [] }) (h := ?_) | refine nx ?_); try simp (disch := omega) only [k1, k2, k3, k4, y2, y3, y4,go_sem, simprocAttr]) | (with_reducible refine bk ?_) | ((with_reducible refine' cE ?hv ?_ ?_); (case hv => first | rfl | (simp only [k1, k2, k3, k4, y2, y3, y4,go_sem, simprocAttr]; rfl)); all_goals (intro hc; (try simp only [go_sem, simprocAttr] at hc); try (exfalso; omega))) | ((with_reducible first | refine grdS_split ?_ ?_ | refine lkG_split ?_ ?_) <;> intro hg <;> (try simp (disch := omega) only [hg, k1, k2, k3, k4, y2, y3, y4,go_sem, simprocAttr]) <;> (try simp only [go_sem, simprocAttr] at hg) <;> (try (exfalso; omega))) | with_reducible intro (ep : Nat → Nat) | with_reducible apply_assumption -exfalso -symm only [*])
   exact FnQ_end (Or.inl rfl) (.refl _) (by simp only [Try.f69, go_sem, simprocAttr, k2]; rfl) ⟨by rw [hG, ← hgs]; simp only [cTold, go_sem, simprocAttr], fun j hj => by (repeat rw [upd_ne _ _ (by omega)]); exact yl j hj⟩
def lackV (t : LackT) : Val := .agg [.int .u8 t.known, .int .i64 t.head, .lst 1 (ints t.out)]
theorem cTold_weak (n : NetT) (h0 : 0 ≤ n.out) (hs : List HeadT) {G : Gh} {w : World} {x : Value} (h : VR G w (.agg (cTold (getsS n hs))) x) : VR G w (lackV (getsS n hs)) x := by
 have hf := gets_facts h0 hs
 unfold cTold at h
 unfold lackV
 split at h
 ·rename_i hk
  rw [(hf.yes hk).2.1]
  exact h.agg3_nils
 ·exact h
theorem getsV_ok (n : NetT) (hF : NetF n) (hs : List HeadT) (h5 : heads500 hs) (hsl : hs.length ≤ 12) (hnd : ∀ h ∈ hs, 1 ≤ h.node ∧ h.node ≤ n.pipes.length) (e36 e33 e34 ver : Nat) (H0 : Hp)
  (g36 : H0 436 = some (e36, .fro 10 [cPlant n hs e33 e34 (n.pipes.length + 1)])) (g33 : H0 433 = some (e33, .arr 1 (ints (flowL n.pipes (n.pipes.length + 1) hs)))) (g34 : H0 434 = some (e34, .map ver []))
  (hroom : ∀ j, 600 ≤ j → H0 j = none) (h100 : H0 100 = none) :
  ACall Try.prog 69 [.ptr 436 e36 10 0 0] H0 fun v H' => v = lackV (getsS n hs) ∧ ∀ j, j < 100 → H' j = H0 j :=
 (gets_ok n hF hs h5 hsl hnd e36 e33 e34 ver H0 g36 g33 g34 hroom h100).weak fun G w x h => cTold_weak n hF.out.1 hs h
end Cp
namespace Cp
open Go Go.Proofs
set_option maxRecDepth 10000
set_option maxHeartbeats 1000000
def lackN : Val := .agg [.int .u8 0, .int .i64 0, .nils]
def lackZ : LackT := ⟨0, 0, []⟩
def getsD (z : Val) (n : NetT) (l : List Int) : Val := if netOK n = true then (if openOK n.heads l = true then .tup [lackV (getsS n (openH n.heads l)), .int .i64 0] else .tup [z, .int .i64 2]) else .tup [z, .int .i64 50]
theorem lackV_noid {t : LackT} : noid (lackV t) = true := by simp only [lackV, noid, noids, noid_ints]; rfl
theorem Gets_ok0 (n : NetT) (hs : NetS n) (l : List Int) (hl : l.length ≤ 100000) : PureC Try.prog 26 [encNet n, .lst 1 (ints l)] (getsD lackN n l) := by
 have hnoid : noid (getsD lackN n l) = true := by unfold getsD; split <;> (try split) <;> (simp only [noid, noids, noidss, lackN, lackV_noid, go_sem, simprocAttr]; rfl)
 have hop := fun H0 => opened_ok n hs l hl H0
 unfold openR at hop
 have hpl := hs.pipes
 simp only [encNet, cNet] at hop
 refine PureC_of (fn := Try.f26) tabOK (by kernel_rfl) rfl (by kernel_rfl) (by simp [Try.f26]) (by simp [noids, noid, noidss, go_sem, encNet, cNet, hnoid]) (by first | rfl | simp [noids, noid, noidss, go_sem, encNet, cNet, hnoid]) ?_
 intro X hX0 hXs
 unfold getsD
 cases hN : netOK n with
 | false =>
  simp only [hN, Bool.false_eq_true, if_false] at hop
  repeat' (first | (with_reducible refine sk ?_; intro K hK) | ((first | (with_reducible first | refine rg (md := { base := 0, own := [4], imp := [11, 19] }) (h := ?_) | refine rgS [4] (md := { base := 0, own := [4], imp := [11, 19] }) (h := ?_) | refine nx ?_) | refine pK (hop _) ?_); try simp (disch := omega) only [encNet, cNet,go_sem, simprocAttr]) | (with_reducible refine bk ?_) | ((with_reducible refine' cE ?hv ?_ ?_); (case hv => first | rfl | (simp only [encNet, cNet,go_sem, simprocAttr]; rfl)); all_goals (intro hc; (try simp only [go_sem, simprocAttr] at hc); try (exfalso; omega))) | (first | refine iK (hop _) ?_) | ((with_reducible refine fe ?_); refine ⟨_, (by simp only [Try.f26, encNet, cNet,go_sem, simprocAttr]; rfl), ?_⟩; first | rfl | (try simp only [encNet, cNet,go_sem, simprocAttr, seval])) | with_reducible intro (ep : Nat → Nat) | with_reducible apply_assumption -exfalso -symm only [*])
  rintro v H3 ⟨hlow, rfl⟩
  have g4 := hlow 4 (by decide)
  simp only [go_sem, simprocAttr] at g4
  simp only [go_sem, simprocAttr]
  repeat' (first | (with_reducible refine sk ?_; intro K hK) | ((with_reducible first | refine rg (md := { base := 0, own := [4], imp := [11, 19] }) (h := ?_) | refine rgS [4] (md := { base := 0, own := [4], imp := [11, 19] }) (h := ?_) | refine nx ?_); try simp (disch := omega) only [g4, lackN,go_sem, simprocAttr]) | (with_reducible refine bk ?_) | ((with_reducible refine' cE ?hv ?_ ?_); (case hv => first | rfl | (simp only [g4, lackN,go_sem, simprocAttr]; rfl)); all_goals (intro hc; (try simp only [go_sem, simprocAttr] at hc); try (exfalso; omega))) | ((with_reducible refine fe ?_); refine ⟨_, (by simp only [Try.f26, g4, lackN,go_sem, simprocAttr]; rfl), ?_⟩; first | rfl | (try simp only [g4, lackN,go_sem, simprocAttr, seval])) | with_reducible intro (ep : Nat → Nat) | with_reducible apply_assumption -exfalso -symm only [*])
 | true =>
  have hF := net_facts hN
  cases hO : openOK n.heads l with
  | false =>
   simp only [hN, hO, Bool.false_eq_true, if_false, if_true] at hop
   repeat' (first | (with_reducible refine sk ?_; intro K hK) | ((first | (with_reducible first | refine rg (md := { base := 0, own := [4], imp := [11, 19] }) (h := ?_) | refine rgS [4] (md := { base := 0, own := [4], imp := [11, 19] }) (h := ?_) | refine nx ?_) | refine pK (hop _) ?_); try simp (disch := omega) only [encNet, cNet,go_sem, simprocAttr]) | (with_reducible refine bk ?_) | ((with_reducible refine' cE ?hv ?_ ?_); (case hv => first | rfl | (simp only [encNet, cNet,go_sem, simprocAttr]; rfl)); all_goals (intro hc; (try simp only [go_sem, simprocAttr] at hc); try (exfalso; omega))) | (first | refine iK (hop _) ?_) | ((with_reducible refine fe ?_); refine ⟨_, (by simp only [Try.f26, encNet, cNet,go_sem, simprocAttr]; rfl), ?_⟩; first | rfl | (try simp only [encNet, cNet,go_sem, simprocAttr, seval])) | with_reducible intro (ep : Nat → Nat) | with_reducible apply_assumption -exfalso -symm only [*])
   rintro v H3 ⟨hlow, rfl⟩
   have g4 := hlow 4 (by decide)
   simp only [go_sem, simprocAttr] at g4
   simp only [go_sem, simprocAttr]
   repeat' (first | (with_reducible refine sk ?_; intro K hK) | ((with_reducible first | refine rg (md := { base := 0, own := [4], imp := [11, 19] }) (h := ?_) | refine rgS [4] (md := { base := 0, own := [4], imp := [11, 19] }) (h := ?_) | refine nx ?_); try simp (disch := omega) only [g4, lackN,go_sem, simprocAttr]) | (with_reducible refine bk ?_) | ((with_reducible refine' cE ?hv ?_ ?_); (case hv => first | rfl | (simp only [g4, lackN,go_sem, simprocAttr]; rfl)); all_goals (intro hc; (try simp only [go_sem, simprocAttr] at hc); try (exfalso; omega))) | ((with_reducible refine fe ?_); refine ⟨_, (by simp only [Try.f26, g4, lackN,go_sem, simprocAttr]; rfl), ?_⟩; first | rfl | (try simp only [g4, lackN,go_sem, simprocAttr, seval])) | with_reducible intro (ep : Nat → Nat) | with_reducible apply_assumption -exfalso -symm only [*])
  | true =>
   simp only [hN, hO, if_true] at hop
   repeat' (first | (with_reducible refine sk ?_; intro K hK) | ((first | (with_reducible first | refine rg (md := { base := 0, own := [4], imp := [11, 19] }) (h := ?_) | refine rgS [4] (md := { base := 0, own := [4], imp := [11, 19] }) (h := ?_) | refine nx ?_) | refine pK (hop _) ?_); try simp (disch := omega) only [encNet, cNet,go_sem, simprocAttr]) | (with_reducible refine bk ?_) | ((with_reducible refine' cE ?hv ?_ ?_); (case hv => first | rfl | (simp only [encNet, cNet,go_sem, simprocAttr]; rfl)); all_goals (intro hc; (try simp only [go_sem, simprocAttr] at hc); try (exfalso; omega))) | (first | refine iK (hop _) ?_) | ((with_reducible refine fe ?_); refine ⟨_, (by simp only [Try.f26, encNet, cNet,go_sem, simprocAttr]; rfl), ?_⟩; first | rfl | (try simp only [encNet, cNet,go_sem, simprocAttr, seval])) | with_reducible intro (ep : Nat → Nat) | with_reducible apply_assumption -exfalso -symm only [*])
   rintro v H3 ⟨hlow, e36, e33, e34, ver, rfl, h36, h33, h34⟩
   have g4 := hlow 4 (by decide)
   simp only [go_sem, simprocAttr] at g4
   simp only [go_sem, simprocAttr]
   repeat' (first | ((fail_if_success (with_reducible refine AW_at (id := 4) ?_)); with_reducible refine sk ?_; intro K hK) | ((with_reducible first | refine rg (md := { base := 0, own := [4], imp := [11, 19] }) (h := ?_) | refine rgS [4] (md := { base := 0, own := [4], imp := [11, 19] }) (h := ?_) | refine nx ?_); try simp (disch := omega) only [h36, h33, h34, g4,go_sem, simprocAttr]) | (with_reducible refine bk ?_) | ((with_reducible refine' cE ?hv ?_ ?_); (case hv => first | rfl | (simp only [h36, h33, h34, g4,go_sem, simprocAttr]; rfl)); all_goals (intro hc; (try simp only [go_sem, simprocAttr] at hc); try (exfalso; omega))) | ((with_reducible refine fe ?_); refine ⟨_, (by simp only [Try.f26, h36, h33, h34, g4,go_sem, simprocAttr]; rfl), ?_⟩; first | rfl | (try simp only [h36, h33, h34, g4,go_sem, simprocAttr, seval])) | with_reducible intro (ep : Nat → Nat) | with_reducible apply_assumption -exfalso -symm only [*])
   refine AW_freeze 436 h36 ?_
   refine AW_keep [4, 433, 434, 436] ?_
   obtain ⟨H4, hH4⟩ : ∃ H4, keep (upd H3 436 (some (e36, .fro 10 [cPlant n (openH n.heads l) e33 e34 (n.pipes.length + 1)]))) [4, 433, 434, 436] = H4 := ⟨_, rfl⟩
   have k36 : H4 436 = some (e36, .fro 10 [cPlant n (openH n.heads l) e33 e34 (n.pipes.length + 1)]) := by rw [← hH4]; rfl
   have k33 : H4 433 = some (e33, .arr 1 (ints (flowL n.pipes (n.pipes.length + 1) (openH n.heads l)))) := by rw [← hH4]; exact h33
   have k34 : H4 434 = some (e34, .map ver []) := by rw [← hH4]; exact h34
   have k4 := (congrFun hH4 4).symm.trans g4
   have kr : ∀ j, 600 ≤ j → H4 j = none := fun j hj => by
    rw [← hH4]; unfold keep; rw [if_neg]; simp; omega
   have k100 : H4 100 = none := by rw [← hH4]; rfl
   rw [hH4]
   clear hH4 h36 h33 h34 g4 hlow hop
   have hgo := getsV_ok n hF _ (openH_500 hF l) (by have := open_le hF.ids hO; have := @openH_len n.heads l; have := hF.heads; omega) (fun h hm => openH_node hF hm) e36 e33 e34 ver H4 k36 k33 k34 kr k100
   repeat' (first | (with_reducible refine sk ?_; intro K hK) | ((first | (with_reducible first | refine rg (md := { base := 0, own := [4], imp := [11, 19] }) (h := ?_) | refine rgS [4] (md := { base := 0, own := [4], imp := [11, 19] }) (h := ?_) | refine nx ?_) | refine pK (hgo) ?_); try simp (disch := omega) only [k36, k4,go_sem, simprocAttr]) | (with_reducible refine bk ?_) | ((with_reducible refine' cE ?hv ?_ ?_); (case hv => first | rfl | (simp only [k36, k4,go_sem, simprocAttr]; rfl)); all_goals (intro hc; (try simp only [go_sem, simprocAttr] at hc); try (exfalso; omega))) | (first | refine iK (hgo) ?_) | with_reducible intro (ep : Nat → Nat) | with_reducible apply_assumption -exfalso -symm only [*])
   rintro v H5 ⟨rfl, hlow⟩
   have g4 := (hlow 4 (by decide)).trans k4
   simp only [go_sem, simprocAttr, lackV, g4]
   repeat' (first | (with_reducible refine sk ?_; intro K hK) | ((with_reducible first | refine rg (md := { base := 0, own := [4], imp := [11, 19] }) (h := ?_) | refine rgS [4] (md := { base := 0, own := [4], imp := [11, 19] }) (h := ?_) | refine nx ?_); try simp (disch := omega) only [g4, lackV,go_sem, simprocAttr]) | (with_reducible refine bk ?_) | ((with_reducible refine' cE ?hv ?_ ?_); (case hv => first | rfl | (simp only [g4, lackV,go_sem, simprocAttr]; rfl)); all_goals (intro hc; (try simp only [go_sem, simprocAttr] at hc); try (exfalso; omega))) | ((with_reducible refine fe ?_); refine ⟨_, (by simp only [Try.f26, g4, lackV,go_sem, simprocAttr]; rfl), ?_⟩; first | rfl | (try simp only [g4, lackV,go_sem, simprocAttr, seval])) | with_reducible intro (ep : Nat → Nat) | with_reducible apply_assumption -exfalso -symm only [*])
theorem Gets_ok (n : NetT) (hs : NetS n) (l : List Int) (hl : l.length ≤ 100000) : PureC Try.prog 26 [encNet n, .lst 1 (ints l)] (getsD (lackV lackZ) n l) := by
 refine (Gets_ok0 n hs l hl).weak ?_ fun G w x h => ?_
 ·unfold getsD; split <;> (try split) <;> (simp only [noid, noids, noidss, lackV_noid, go_sem, simprocAttr]; rfl)
 ·have key : ∀ e, VR G w (.tup [lackN, .int .i64 e]) x → VR G w (.tup [lackV lackZ, .int .i64 e]) x := fun e h => by
   refine VR.tup_imp (vs := [lackN, .int .i64 e]) rfl (fun i v v' h1 h2 y hy => ?_) h
   match i, h1, h2 with
   | 0, h1, h2 => cases h1; cases h2; exact hy.agg3_nils
   | 1, h1, h2 => cases h1; cases h2; exact hy
  unfold getsD at h ⊢
  split
  ·rename_i hN
   rw [if_pos hN] at h
   split
   ·rename_i hO
    rw [if_pos hO] at h
    exact h
   ·rename_i hO
    rw [if_neg hO] at h
    exact key _ h
  ·rename_i hN
   rw [if_neg hN] at h
   exact key _ h
end Cp
namespace Cp
open Go Go.Proofs
set_option maxRecDepth 10000
set_option maxHeartbeats 4000000
end Cp
namespace Cp
open Go
theorem lex_at : ∀ {k : Nat} {a b : List Int} {x y : Int}, lexB a b → (∀ j, j < k → a[j]? = b[j]?) → a[k]? = some x → b[k]? = some y → ¬ x = y → x < y
 | _, [], b, x, y, h, _, _, _, _ => by unfold lexB at h; exact h.elim
 | _, _ :: _, [], x, y, h, _, _, _, _ => by unfold lexB at h; exact h.elim
 | 0, a :: l, b :: m, x, y, h, _, hx, hy, hne => by
  simp at hx hy
  subst hx hy
  rcases h with h | ⟨h, _⟩
  ·exact h
  ·exact (hne h).elim
 | k + 1, a :: l, b :: m, x, y, h, hp, hx, hy, hne => by
  have h0 : a = b := by simpa using hp 0 (by omega)
  rcases h with h | ⟨_, h⟩
  ·omega
  ·exact lex_at (k := k) h (fun j hj => by simpa using hp (j + 1) (by omega)) (by simpa using hx) (by simpa using hy) hne
theorem bef_at {I ou : List Int} (h : I = ou ∨ befO ou I) (hl : I.length = ou.length) {k : Nat} {x y : Int} (hp : ∀ j, j < k → I[j]? = ou[j]?) (hx : I[k]? = some x) (hy : ou[k]? = some y) (hne : ¬ x = y) : y < x := by
 rcases h with rfl | h
 ·rw [hx] at hy; cases hy; exact (hne rfl).elim
 ·rcases h with h | ⟨_, h⟩
  ·clear hp hx hy; omega
  ·exact lex_at h (fun j hj => (hp j hj).symm) hy hx fun e => hne e.symm
end Cp
namespace Cp
open Go Go.Proofs
set_option maxRecDepth 10000
set_option maxHeartbeats 4000000
end Cp
namespace Cp
open Go
structure Bet (n n' : NetT) : Prop where
 np : n'.pipes.length = n.pipes.length
 pipe : ∀ (i : Nat) (p p' : PipeT), n.pipes[i]? = some p → n'.pipes[i]? = some p' → p'.frm = p.frm ∧ p'.foul.lo ≤ p.foul.lo ∧ p'.foul.hi ≤ p.foul.hi
 nq : n'.pumps.length = n.pumps.length
 pump : ∀ (i : Nat) (p p' : PumpT), n.pumps[i]? = some p → n'.pumps[i]? = some p' → p.full.lo ≤ p'.full.lo ∧ p.full.hi ≤ p'.full.hi ∧ p'.slope ≤ p.slope
 heads : n'.heads = n.heads
 tlo : n.tank.lo ≤ n'.tank.lo
 thi : n.tank.hi ≤ n'.tank.hi
 mins : n'.mins = n.mins
theorem Bet.refl (n : NetT) : Bet n n := ⟨rfl, fun i p p' h1 h2 => by rw [h1] at h2; cases h2; simp, rfl, fun i p p' h1 h2 => by rw [h1] at h2; cases h2; simp, rfl, Int.le_refl _, Int.le_refl _, rfl⟩
theorem Bet.frm {n n' : NetT} (h : Bet n n') (k : Nat) : frmOf n'.pipes k = frmOf n.pipes k := by
 unfold frmOf
 have hl := h.np
 cases h1 : n.pipes[k - 1]? with
 | none =>
  have : n'.pipes[k - 1]? = none := by rw [List.getElem?_eq_none_iff] at h1 ⊢; omega
  rw [this]
 | some p =>
  obtain ⟨p', h2⟩ : ∃ x, n'.pipes[k - 1]? = some x := ⟨_, List.getElem?_eq_getElem (by have := (List.getElem?_eq_some_iff.1 h1).1; omega)⟩
  rw [h2]
  simp only [(h.pipe _ p p' h1 h2).1]
theorem Bet.upN {n n' : NetT} (h : Bet n n') : ∀ (f k : Nat), upN n'.pipes f k = upN n.pipes f k
 | 0, k => rfl
 | f + 1, k => by simp only [Cp.upN, h.frm, h.upN f]
theorem Bet.path {n n' : NetT} (h : Bet n n') (k : Nat) : path n'.pipes k = path n.pipes k := h.upN k k
theorem Bet.via {n n' : NetT} (h : Bet n n') (k j : Nat) : via n'.pipes k j = via n.pipes k j := by unfold Cp.via; rw [h.path]
theorem Bet.flow {n n' : NetT} (h : Bet n n') (j : Nat) : ∀ (l : List HeadT), flowAt n'.pipes j l = flowAt n.pipes j l
 | [] => rfl
 | x :: l => by simp only [flowAt, h.via, h.flow j l]
end Cp
namespace Cp
open Go Go.Proofs
set_option maxRecDepth 10000
set_option maxHeartbeats 4000000
theorem bitI_nat (x i : Nat) : bitI (x : Int) i = x.testBit i := by
 unfold bitI
 rw [Nat.testBit_eq_decide_div_mod_eq]
 have e : (x : Int).fdiv (2 ^ i) = ((x / 2 ^ i : Nat) : Int) := by
  have h2 : (2 : Int) ^ i = ((2 ^ i : Nat) : Int) := by simp
  rw [h2, Int.fdiv_eq_ediv_of_nonneg _ (Int.natCast_nonneg _)]; rfl
 rw [e]
 refine dec_congr ?_
 omega
end Cp
namespace Cp
open Go
theorem ids_open {n : NetT} (hF : NetF n) {l : List Int} (h : l.Sublist (n.heads.map (·.id))) : openOK n.heads l = true := by
 refine okL_of (fun a ha => ?_) ?_ (fun c hc => by cases hc)
 ·obtain ⟨x, hx, rfl⟩ := List.mem_map.1 (h.subset ha)
  rw [headAt_of hF.ids hx]; rfl
 ·have : (n.heads.map (·.id)).Pairwise (· < ·) := by rw [List.pairwise_map]; exact hF.ids
  exact this.sublist h
def LstG (k : Nat) (L : List Int) (v : Val) (H : Hp) : Prop := (L = [] ∧ v = .nils) ∨ (¬ L = [] ∧ ∃ ea, v = .gr k ea L.length ∧ H k = some (ea, .arr 1 (ints L)))
theorem LstG.same {k : Nat} {L : List Int} {v : Val} {H H' : Hp} (h : LstG k L v H) (e : H' k = H k) : LstG k L v H' := by
 rcases h with h | ⟨h1, ea, h2, h3⟩
 ·exact .inl h
 ·exact .inr ⟨h1, ea, h2, by rw [e]; exact h3⟩
theorem LstG.snoc {k ea : Nat} {L : List Int} {x : Int} {H : Hp} (h : H k = some (ea, .arr 1 (ints L ++ [[.int .i64 x]]))) : LstG k (L ++ [x]) (.gr k ea (L.length + 1)) H :=
 .inr ⟨by simp, ea, by simp, by rw [h]; simp [ints]⟩
theorem LstG.one {k ea : Nat} {x : Int} {H : Hp} (h : H k = some (ea, .arr 1 [[.int .i64 x]])) : LstG k ([] ++ [x]) (.gr k ea 1) H := LstG.snoc (L := []) h
section
variable {P : Program} {ro : Option Nat} {X : Cx} {Q : Exit → Fr → Hp → Prop} {f : Fr} {H : Hp} {c : Code}
theorem AW_nils (t n : Nat) (hv : f t = .nils) (h : AW P ro X c Q (upd f t (.lst n [])) H) : AW P ro X c Q f H := fun G a w s => by
 refine h G a w ⟨s.tr, s.rel, fun t' => ?_, s.size, s.dfr⟩
 by_cases ht : t' = t
 ·subst ht
  rw [upd_same]
  have := s.fr t'
  rw [hv] at this
  exact this.nils_lst n
 ·rw [upd_ne _ _ ht]; exact s.fr t'
theorem AW_lstG {t k : Nat} {L : List Int} (h : LstG k L (f t) H) (hc : ∀ f' H', f' t = .lst 1 (ints L) → (∀ j, ¬ j = t → f' j = f j) → (∀ j, ¬ j = k → H' j = H j) → AW P ro X c Q f' H') : AW P ro X c Q f H := by
 rcases h with ⟨rfl, h⟩ | ⟨_, ea, h, hk⟩
 ·exact AW_nils t 1 h (hc _ _ (upd_same _ _ _) (fun j hj => upd_ne _ _ hj) fun _ _ => rfl)
 ·refine AW_freeze k hk ?_
  refine AW_retell t 6 ?_
  refine hc _ _ ?_ (fun j hj => upd_ne _ _ hj) fun j hj => upd_ne _ _ hj
  rw [upd_same, h]
  exact thawI rfl (upd_same _ _ _)
end
end Cp
namespace Cp
end Cp
namespace Cp
open Go
theorem fit_map {α : Type} {c : α → List Val} : ∀ {xss : List (List Val)}, (∀ es ∈ xss, ∃ x, es = c x) → ∃ l : List α, xss = l.map c
 | [], _ => ⟨[], rfl⟩
 | es :: xss, h => by
  obtain ⟨x, rfl⟩ := h es (by simp)
  obtain ⟨l, rfl⟩ := fit_map fun es he => h es (List.mem_cons_of_mem _ he)
  exact ⟨x :: l, rfl⟩
theorem fit_slice {T : Tab} {n : Nat} {t e sz : Nat} {vs : List Val} {b b2 s1 : Nat} {z z2 : Val} {p p2 : Bool} {k2 : TK} {α : Type} {c : α → List Val} (ht : T t = some { kind := .slice e, sz := s1, bytes := b, zero := z, plain := p })
  (he : T e = some { kind := k2, sz := sz, bytes := b2, zero := z2, plain := p2 }) (h : Fit T (n + 1) t vs) (hc : ∀ es, Fit T n e es → ∃ x, es = c x) : ∃ l : List α, vs = [.lst sz (l.map c)] := by
 simp only [Fit, ht] at h
 obtain ⟨sz', xss, rfl, hs, _, hx⟩ := h
 rw [he] at hs
 cases hs
 obtain ⟨l, rfl⟩ := fit_map (c := c) fun es hes => hc es (hx es hes).2
 exact ⟨l, rfl⟩
theorem fit_struct {T : Tab} {n : Nat} {t sz : Nat} {vs : List Val} {b : Nat} {z : Val} {p : Bool} {fs : List (Nat × Nat)} (ht : T t = some { kind := .struct fs, sz := sz, bytes := b, zero := z, plain := p }) (h : Fit T (n + 1) t vs) :
  vs.length = sz ∧ ∀ q ∈ fs, ∃ fi, T q.2 = some fi ∧ Fit T n q.2 ((vs.drop q.1).take fi.sz) := by
 simp only [Fit, ht] at h
 exact h
theorem fit_int {T : Tab} {n : Nat} {t : Nat} {vs : List Val} {s b : Nat} {z : Val} {p : Bool} {k : IntKind} (ht : T t = some { kind := .int k, sz := s, bytes := b, zero := z, plain := p }) (h : Fit T (n + 1) t vs) : ∃ m, vs = [.int k m] ∧ (Lit.int k m).wf = true := by
 simp only [Fit, ht] at h
 exact h
theorem fit3 {n : Nat} {vs : List Val} (h : Fit tab (n + 1) 3 vs) : ∃ m, vs = [.int .i64 m] := by
 obtain ⟨m, h, _⟩ := fit_int tab_3 h; exact ⟨m, h⟩
theorem fit_two {n : Nat} {vs : List Val} {t b : Nat} {z : Val} {p : Bool} (ht : tab t = some { kind := .struct [(0, 3), (1, 3)], sz := 2, bytes := b, zero := z, plain := p }) (h : Fit tab (n + 2) t vs) : ∃ x y : Int, vs = [.int .i64 x, .int .i64 y] := by
 obtain ⟨hl, hq⟩ := fit_struct ht h
 match vs, hl with
 | [a, b], _ =>
  obtain ⟨fi, e, h0⟩ := hq (0, 3) (by simp)
  rw [tab_3] at e; cases e
  obtain ⟨fi, e, h1⟩ := hq (1, 3) (by simp)
  rw [tab_3] at e; cases e
  obtain ⟨x, hx⟩ := fit3 h0
  obtain ⟨y, hy⟩ := fit3 h1
  simp at hx hy
  exact ⟨x, y, by rw [hx, hy]⟩
theorem fit_span {n : Nat} {vs : List Val} (h : Fit tab (n + 2) 26 vs) : ∃ s : Span, vs = [.int .i64 s.lo, .int .i64 s.hi] := by
 obtain ⟨x, y, h⟩ := fit_two tab_26 h; exact ⟨⟨x, y⟩, h⟩
theorem fit_pipe {n : Nat} {vs : List Val} (h : Fit tab (n + 3) 89 vs) : ∃ x : PipeT, vs = cPipe x := by
 obtain ⟨hl, hq⟩ := fit_struct tab_89 h
 match vs, hl with
 | [a0, a1, a2, a3], _ =>
  obtain ⟨fi, e0, h0⟩ := hq (0, 3) (by simp)
  rw [tab_3] at e0; cases e0
  obtain ⟨fi, e1, h1⟩ := hq (1, 3) (by simp)
  rw [tab_3] at e1; cases e1
  obtain ⟨fi, e2, h2⟩ := hq (2, 26) (by simp)
  rw [tab_26] at e2; cases e2
  obtain ⟨x0, h0⟩ := fit3 h0
  obtain ⟨x1, h1⟩ := fit3 h1
  obtain ⟨x2, h2⟩ := fit_span h2
  simp at h0 h1 h2
  obtain ⟨h2, h2'⟩ := h2
  exact ⟨⟨x0, x1, x2⟩, by rw [h0, h1, h2, h2']; rfl⟩
theorem fit_head {n : Nat} {vs : List Val} (h : Fit tab (n + 3) 61 vs) : ∃ x : HeadT, vs = cHead x := by
 obtain ⟨hl, hq⟩ := fit_struct tab_61 h
 match vs, hl with
 | [a0, a1, a2, a3, a4, a5, a6, a7], _ =>
  obtain ⟨fi, e0, h0⟩ := hq (0, 3) (by simp)
  rw [tab_3] at e0; cases e0
  obtain ⟨fi, e1, h1⟩ := hq (1, 3) (by simp)
  rw [tab_3] at e1; cases e1
  obtain ⟨fi, e2, h2⟩ := hq (2, 3) (by simp)
  rw [tab_3] at e2; cases e2
  obtain ⟨fi, e3, h3⟩ := hq (3, 3) (by simp)
  rw [tab_3] at e3; cases e3
  obtain ⟨fi, e4, h4⟩ := hq (4, 26) (by simp)
  rw [tab_26] at e4; cases e4
  obtain ⟨fi, e5, h5⟩ := hq (6, 26) (by simp)
  rw [tab_26] at e5; cases e5
  obtain ⟨x0, h0⟩ := fit3 h0
  obtain ⟨x1, h1⟩ := fit3 h1
  obtain ⟨x2, h2⟩ := fit3 h2
  obtain ⟨x3, h3⟩ := fit3 h3
  obtain ⟨x4, h4⟩ := fit_span h4
  obtain ⟨x5, h5⟩ := fit_span h5
  simp at h0 h1 h2 h3 h4 h5
  obtain ⟨h4, h4'⟩ := h4
  obtain ⟨h5, h5'⟩ := h5
  exact ⟨⟨x0, x1, x2, x3, x4, x5⟩, by rw [h0, h1, h2, h3, h4, h4', h5, h5']; rfl⟩
theorem fit_pump {n : Nat} {vs : List Val} (h : Fit tab (n + 3) 94 vs) : ∃ x : PumpT, vs = cPump x := by
 obtain ⟨hl, hq⟩ := fit_struct tab_94 h
 match vs, hl with
 | [a0, a1, a2], _ =>
  obtain ⟨fi, e0, h0⟩ := hq (0, 26) (by simp)
  rw [tab_26] at e0; cases e0
  obtain ⟨fi, e1, h1⟩ := hq (2, 3) (by simp)
  rw [tab_3] at e1; cases e1
  obtain ⟨x0, h0⟩ := fit_span h0
  obtain ⟨x1, h1⟩ := fit3 h1
  simp at h0 h1
  obtain ⟨h0, h0'⟩ := h0
  exact ⟨⟨x0, x1⟩, by rw [h0, h0', h1]; rfl⟩
theorem fit_net {n : Nat} {vs : List Val} (h : Fit tab (n + 5) 28 vs) : ∃ x : NetT, vs = cNet x := by
 obtain ⟨hl, hq⟩ := fit_struct tab_28 h
 match vs, hl with
 | [a0, a1, a2, a3, a4, a5, a6], _ =>
  obtain ⟨fi, e0, h0⟩ := hq (0, 22) (by simp)
  rw [tab_22] at e0; cases e0
  obtain ⟨fi, e1, h1⟩ := hq (1, 23) (by simp)
  rw [tab_23] at e1; cases e1
  obtain ⟨fi, e2, h2⟩ := hq (2, 24) (by simp)
  rw [tab_24] at e2; cases e2
  obtain ⟨fi, e3, h3⟩ := hq (3, 3) (by simp)
  rw [tab_3] at e3; cases e3
  obtain ⟨fi, e4, h4⟩ := hq (4, 26) (by simp)
  rw [tab_26] at e4; cases e4
  obtain ⟨fi, e5, h5⟩ := hq (6, 3) (by simp)
  rw [tab_3] at e5; cases e5
  obtain ⟨x0, h0⟩ := fit_slice tab_22 tab_89 h0 fun es he => fit_pipe he
  obtain ⟨x1, h1⟩ := fit_slice tab_23 tab_61 h1 fun es he => fit_head he
  obtain ⟨x2, h2⟩ := fit_slice tab_24 tab_94 h2 fun es he => fit_pump he
  obtain ⟨x3, h3⟩ := fit3 h3
  obtain ⟨x4, h4⟩ := fit_span h4
  obtain ⟨x5, h5⟩ := fit3 h5
  simp at h0 h1 h2 h3 h4 h5
  obtain ⟨h4, h4'⟩ := h4
  exact ⟨⟨x0, x1, x2, x3, x4, x5⟩, by rw [h0, h1, h2, h3, h4, h4', h5]; rfl⟩
theorem arg_byte {a : Val} (h : FitV tab 8 5 a) : ∃ m, a = .int .u8 m ∧ 0 ≤ m ∧ m ≤ 255 := by
 obtain ⟨ti, cs, e, h, _, rfl⟩ := h
 obtain ⟨m, rfl, hw⟩ := fit_int tab_5 h
 rw [tab_5] at e; cases e
 simp [Lit.wf, IntKind.min, IntKind.max, IntKind.signed, IntKind.bits] at hw
 exact ⟨m, rfl, by omega, by omega⟩
theorem arg_net {a : Val} (h : FitV tab 8 28 a) : ∃ x : NetT, a = encNet x := by
 obtain ⟨ti, cs, e, h, _, rfl⟩ := h
 obtain ⟨l, rfl⟩ := fit_net h
 rw [tab_28] at e; cases e; exact ⟨l, rfl⟩
end Cp
namespace Cp
open Go Go.Proofs
set_option maxRecDepth 10000
set_option maxHeartbeats 4000000
end Cp
namespace Cp
open Go Go.Proofs
set_option maxRecDepth 10000
set_option maxHeartbeats 4000000
end Cp
namespace Cp
open Go
def cmpL : List Int → List Int → Int
 | [], [] => 0
 | [], _ :: _ => -1
 | _ :: _, [] => 1
 | a :: l, b :: m => if a < b then -1 else if b < a then 1 else cmpL l m
theorem cmpL_lex : ∀ {a b : List Int}, a.length = b.length → (cmpL a b < 0 ↔ lexB a b)
 | [], [], _ => by simp [cmpL, lexB]
 | a :: l, b :: m, h => by
  have ih := cmpL_lex (a := l) (b := m) (by simpa using h)
  simp only [cmpL, lexB]
  by_cases h1 : a < b
  ·simp [h1]
  ·by_cases h2 : b < a
   ·have : ¬ a = b := by omega
    simp [h1, h2, this]
   ·have : a = b := by omega
    simp [this, ih]
def setF (s : Nat) : List HeadT → Nat → List Int
 | [], _ => []
 | h :: l, i => (if s.testBit i = true then [h.id] else []) ++ setF s l (i + 1)
def setL (hs : List HeadT) (s : Nat) : List Int := setF s hs 0
theorem setF_snoc {s : Nat} : ∀ {l : List HeadT} {i k : Nat} {x : HeadT}, l[k]? = some x → setF s (l.take (k + 1)) i = setF s (l.take k) i ++ (if s.testBit (i + k) = true then [x.id] else [])
 | [], _, _, _, h => by simp at h
 | a :: l, i, 0, x, h => by simp at h; subst h; simp [setF]
 | a :: l, i, k + 1, x, h => by
  have := setF_snoc (s := s) (l := l) (i := i + 1) (k := k) (by simpa using h)
  simp only [List.take_succ_cons, setF, List.append_assoc]
  rw [this, show i + 1 + k = i + (k + 1) by omega]
theorem setF_sub {s : Nat} : ∀ (l : List HeadT) (i : Nat), (setF s l i).Sublist (l.map (·.id))
 | [], _ => by simp [setF]
 | h :: l, i => by
  have := setF_sub (s := s) l (i + 1)
  simp only [setF, List.map_cons]
  split
  ·exact this.cons_cons _
  ·exact this.cons _
theorem setF_all : ∀ (l : List HeadT) (i : Nat) {o : List Int}, o.Sublist (l.map (·.id)) → ∃ s, s < 2 ^ l.length ∧ setF (s * 2 ^ i) l i = o
 | [], i, o, h => by
  simp at h; subst h
  exact ⟨0, by simp, rfl⟩
 | x :: l, i, o, h => by
  have key : ∀ (t c : Nat), c < 2 → setF ((2 * t + c) * 2 ^ i) l (i + 1) = setF (t * 2 ^ (i + 1)) l (i + 1) := fun t c hc => by
   have gen : ∀ (l : List HeadT) (j : Nat), i + 1 ≤ j → setF ((2 * t + c) * 2 ^ i) l j = setF (t * 2 ^ (i + 1)) l j := by
    intro l
    induction l with
    | nil => intro j _; rfl
    | cons y l ih =>
     intro j hj
     simp only [setF]
     rw [ih (j + 1) (by omega)]
     have e1 : ((2 * t + c) * 2 ^ i).testBit j = t.testBit (j - (i + 1)) := by
      rw [Nat.testBit_mul_two_pow]
      have : i ≤ j := by omega
      simp only [this, decide_true, Bool.true_and]
      have h2 : j - i = (j - (i + 1)) + 1 := by omega
      rw [h2, Nat.testBit_succ]
      congr 1; omega
     have e2 : (t * 2 ^ (i + 1)).testBit j = t.testBit (j - (i + 1)) := by
      rw [Nat.testBit_mul_two_pow]
      simp [hj]
     rw [e1, e2]
   exact gen l (i + 1) (Nat.le_refl _)
  have hb : ∀ (t c : Nat), c < 2 → ((2 * t + c) * 2 ^ i).testBit i = decide (c = 1) := fun t c hc => by
   rw [Nat.testBit_mul_two_pow]
   simp only [Nat.le_refl, decide_true, Bool.true_and, Nat.sub_self, Nat.testBit_zero]
   refine dec_congr ?_; omega
  cases h with
  | cons _ h =>
   obtain ⟨t, h1, h2⟩ := setF_all l (i + 1) h
   refine ⟨2 * t + 0, by simp only [List.length_cons, Nat.pow_succ]; omega, ?_⟩
   simp only [setF]
   rw [hb t 0 (by omega), key t 0 (by omega), h2]; rfl
  | cons_cons _ h =>
   obtain ⟨t, h1, h2⟩ := setF_all l (i + 1) h
   refine ⟨2 * t + 1, by simp only [List.length_cons, Nat.pow_succ]; omega, ?_⟩
   simp only [setF]
   rw [hb t 1 (by omega), key t 1 (by omega), h2]; rfl
theorem setL_all {hs : List HeadT} {o : List Int} (h : o.Sublist (hs.map (·.id))) : ∃ s, s < 2 ^ hs.length ∧ setL hs s = o := by
 obtain ⟨s, h1, h2⟩ := setF_all hs 0 h
 exact ⟨s, h1, by simpa [setL] using h2⟩
theorem open_sub {n : NetT} (hF : NetF n) {l : List Int} (h : openOK n.heads l = true) : l.Sublist (n.heads.map (·.id)) := by
 obtain ⟨h1, h2⟩ := okL_none h
 refine sub_of_pair (by rw [List.pairwise_map]; exact hF.ids) h2 fun a ha => ?_
 obtain ⟨x, hx⟩ := Option.isSome_iff_exists.1 (h1 a ha)
 exact List.mem_map.2 ⟨x, (headAt_mem hx).1, (headAt_mem hx).2⟩
def badM (n : NetT) (o : List Int) : Bool := decide (¬ (getsS n (openH n.heads o)).known = 2)
def mostStep (n : NetT) (s : Int × List Int) (o : List Int) : Int × List Int :=
 if (s.1 < (o.length : Int) - 1) ∨ ((o.length : Int) - 1 = s.1 ∧ 0 ≤ cmpL o s.2) then s else if badM n o = true then ((o.length : Int) - 1, o) else s
def mostF (n : NetT) : Nat → Int × List Int
 | 0 => ((n.heads.length : Int), [])
 | k + 1 => mostStep n (mostF n k) (setL n.heads k)
def mostS (n : NetT) : Int × List Int := mostF n (2 ^ n.heads.length)
structure MostF (n : NetT) (s : Int × List Int) : Prop where
 cases : (s.1 = n.heads.length ∧ s.2 = []) ∨ (openOK n.heads s.2 = true ∧ badM n s.2 = true ∧ s.1 = (s.2.length : Int) - 1 ∧ ¬ s.2 = [])
 least : ∀ o, openOK n.heads o = true → badM n o = true → ¬ s.2 = [] ∧ (o = s.2 ∨ befO s.2 o)
theorem bad_nil {n : NetT} (hF : NetF n) : badM n [] = false := by
 unfold badM
 have hg := gets_facts hF.out.1 (openH n.heads [])
 have h0 : (getsS n (openH n.heads [])).known = 2 := by
  refine Decidable.byContradiction fun hne => ?_
  obtain ⟨_, q, _⟩ := hg.bad hne
  have : (lackS n (openH n.heads []) (getsS n (openH n.heads [])).out false).2 = false := lackS_false.2 ⟨fun h hm => by simp [openH] at hm, by
   have : tankH n false = n.tank.lo := rfl
   have := hF.tank
   simp [openH, needs]; omega⟩
  unfold badO at q
  rw [this] at q; cases q
 simp [h0]
theorem lex_trans : ∀ {a b c : List Int}, lexB a b → lexB b c → lexB a c
 | [], b, c, h1, _ => by cases b <;> exact h1.elim
 | a :: l, [], c, h1, _ => h1.elim
 | a :: l, b :: m, [], _, h2 => h2.elim
 | a :: l, b :: m, c :: k, h1, h2 => by
  rcases h1 with h1 | ⟨rfl, h1⟩ <;> rcases h2 with h2 | ⟨rfl, h2⟩
  ·exact .inl (by omega)
  ·exact .inl h1
  ·exact .inl h2
  ·exact .inr ⟨rfl, lex_trans h1 h2⟩
theorem lex_total : ∀ {a b : List Int}, a.length = b.length → a = b ∨ lexB a b ∨ lexB b a
 | [], [], _ => .inl rfl
 | a :: l, b :: m, h => by
  rcases Int.lt_trichotomy a b with h1 | h1 | h1
  ·exact .inr (.inl (.inl h1))
  ·subst h1
   rcases lex_total (a := l) (b := m) (by simpa using h) with h2 | h2 | h2
   ·exact .inl (by rw [h2])
   ·exact .inr (.inl (.inr ⟨rfl, h2⟩))
   ·exact .inr (.inr (.inr ⟨rfl, h2⟩))
  ·exact .inr (.inr (.inl h1))
theorem bef_trans {a b c : List Int} (h1 : befO a b) (h2 : befO b c) : befO a c := by
 rcases h1 with h1 | ⟨e1, h1⟩ <;> rcases h2 with h2 | ⟨e2, h2⟩
 ·exact .inl (by omega)
 ·exact .inl (by omega)
 ·exact .inl (by omega)
 ·exact .inr ⟨by omega, lex_trans h1 h2⟩
theorem setL_open {n : NetT} (hF : NetF n) (s : Nat) : openOK n.heads (setL n.heads s) = true := ids_open hF (setF_sub n.heads 0)
theorem most_inv {n : NetT} (hF : NetF n) : ∀ k, ((mostF n k).1 = n.heads.length ∧ (mostF n k).2 = [] ∧ ∀ j, j < k → badM n (setL n.heads j) = false) ∨
  ((openOK n.heads (mostF n k).2 = true ∧ badM n (mostF n k).2 = true ∧ (mostF n k).1 = ((mostF n k).2.length : Int) - 1 ∧ ¬ (mostF n k).2 = []) ∧ ∀ j, j < k → badM n (setL n.heads j) = true → setL n.heads j = (mostF n k).2 ∨ befO (mostF n k).2 (setL n.heads j))
 | 0 => .inl ⟨rfl, rfl, fun j hj => by omega⟩
 | k + 1 => by
  have ih := most_inv hF k
  have hle : (setL n.heads k).length ≤ n.heads.length := by have := (setF_sub (s := k) n.heads 0).length_le; simpa [setL] using this
  simp only [mostF]
  obtain ⟨o, ho⟩ : ∃ o, setL n.heads k = o := ⟨_, rfl⟩
  obtain ⟨⟨m, l⟩, hs⟩ : ∃ s, mostF n k = s := ⟨_, rfl⟩
  have hoo := setL_open hF k
  rw [hs] at ih
  rw [ho] at hle hoo ⊢
  rw [hs]
  have hne : ∀ o, badM n o = true → ¬ o = [] := fun o hb e => by subst e; rw [bad_nil hF] at hb; cases hb
  simp only [mostStep] at ih ⊢
  rcases ih with ⟨rfl, rfl, h3⟩ | ⟨⟨h1, h2, rfl, h4⟩, h5⟩
  ·rw [if_neg (by omega)]
   cases hb : badM n o with
   | false =>
    refine .inl ⟨rfl, rfl, fun j hj => ?_⟩
    by_cases e : j = k
    ·subst e; rw [ho]; exact hb
    ·exact h3 j (by omega)
   | true =>
    refine .inr ⟨⟨hoo, hb, rfl, hne o hb⟩, fun j hj hbj => ?_⟩
    by_cases e : j = k
    ·subst e; exact .inl ho
    ·rw [h3 j (by omega)] at hbj; cases hbj
  ·split
   ·rename_i hc
    refine .inr ⟨⟨h1, h2, rfl, h4⟩, fun j hj hbj => ?_⟩
    by_cases e : j = k
    ·subst e
     rw [ho]
     rcases hc with hc | ⟨hc1, hc2⟩
     ·exact .inr (.inl (show l.length < o.length by omega))
     ·have hlen : o.length = l.length := by omega
      rcases lex_total hlen with h6 | h6 | h6
      ·exact .inl h6
      ·have := (cmpL_lex hlen).2 h6; omega
      ·exact .inr (.inr ⟨hlen.symm, h6⟩)
    ·exact h5 j (by omega) hbj
   ·rename_i hc
    cases hb : badM n o with
    | false =>
     simp only [Bool.false_eq_true, if_false]
     refine .inr ⟨⟨h1, h2, by simp, h4⟩, fun j hj hbj => ?_⟩
     by_cases e : j = k
     ·subst e; rw [ho, hb] at hbj; cases hbj
     ·exact h5 j (by omega) hbj
    | true =>
     simp only [if_true]
     have hbef : befO o l := by
      simp only [not_or, not_and] at hc
      by_cases hlt : o.length < l.length
      ·exact .inl hlt
      ·have hlen : o.length = l.length := by omega
       exact .inr ⟨hlen, (cmpL_lex hlen).1 (by have := hc.2 (by omega); omega)⟩
     refine .inr ⟨⟨hoo, hb, by simp, hne o hb⟩, fun j hj hbj => ?_⟩
     by_cases e : j = k
     ·subst e; exact .inl ho
     ·rcases h5 j (by omega) hbj with h6 | h6
      ·rw [h6]; exact .inr hbef
      ·exact .inr (bef_trans hbef h6)
theorem most_facts {n : NetT} (hF : NetF n) : MostF n (mostS n) := by
 have h := most_inv hF (2 ^ n.heads.length)
 unfold mostS
 refine ⟨?_, fun o ho hb => ?_⟩
 ·rcases h with ⟨h1, h2, _⟩ | ⟨h1, _⟩
  ·exact .inl ⟨h1, h2⟩
  ·exact .inr h1
 ·obtain ⟨s, h1, h2⟩ := setL_all (open_sub hF ho)
  rcases h with ⟨_, _, h3⟩ | ⟨⟨_, _, _, h4⟩, h5⟩
  ·have := h3 s h1; rw [h2, hb] at this; cases this
  ·refine ⟨h4, ?_⟩
   have := h5 s h1 (by rw [h2]; exact hb)
   rwa [h2] at this
end Cp
namespace Cp
open Go Go.Proofs
set_option maxRecDepth 10000
set_option maxHeartbeats 4000000
theorem cmpL_nil {b : List Int} : cmpL [] b = if b = [] then 0 else -1 := by cases b <;> simp [cmpL]
theorem cmpL_end {a : Int} {l : List Int} : cmpL (a :: l) [] = 1 := rfl
theorem cmpL_ne {a b : Int} {l m : List Int} (h : ¬ a = b) : cmpL (a :: l) (b :: m) = cmpI a b := by
 simp only [cmpL, cmpI]
 split
 ·rfl
 ·split
  ·rfl
  ·omega
theorem cmpL_same {a : Int} {l m : List Int} : cmpL (a :: l) (a :: m) = cmpL l m := by simp [cmpL]
theorem compareL_ok (a b : List Int) (ha : a.length ≤ 100000) : PureC Try.prog 71 [.lst 1 (ints a), .lst 1 (ints b)] (.int .i64 (cmpL a b)) := by
 refine PureC_of (fn := Try.f71) tabOK (by kernel_rfl) rfl (by kernel_rfl) (by simp [Try.f71]) (by simp [noids, noid, noidss, go_sem]) (by first | rfl | simp [noids, noid, noidss, go_sem]) ?_
 intro X hX0 hXs
 repeat' (first | ((fail_if_success (with_reducible refine AW_at (id := 1) ?_)); with_reducible refine sk ?_; intro K hK) | ((with_reducible first | refine rg (h := ?_) | refine nx ?_); try simp (disch := omega) only [go_sem, simprocAttr]) | (with_reducible refine bk ?_) | ((with_reducible refine' cE ?hv ?_ ?_); (case hv => first | rfl | (simp only [go_sem, simprocAttr]; rfl)); all_goals (intro hc; (try simp only [go_sem, simprocAttr] at hc); try (exfalso; omega))) | ((with_reducible refine fe ?_); refine ⟨_, (by simp only [Try.f71, go_sem, simprocAttr]; rfl), ?_⟩; first | rfl | (try simp only [go_sem, simprocAttr, seval])) | with_reducible intro (ep : Nat → Nat) | with_reducible apply_assumption -exfalso -symm only [*])
 have hcut : ∀ f H, f 0 = .lst 1 (ints a) ∧ f 1 = .lst 1 (ints b) ∧ cmpL a b = cmpL [] (b.drop a.length) → K f H := by
  rintro f H ⟨h0, h1, hr⟩
  refine hK f H ?_
  clear hK
  rw [hr]
  by_cases hl : (a.length : Int) < (b.length : Int)
  ·have : cmpL [] (b.drop a.length) = -1 := by
    rw [cmpL_nil, if_neg]
    intro e
    have := congrArg List.length e
    simp at this; omega
   rw [this]
   repeat' (first | (with_reducible refine sk ?_; intro K hK) | ((with_reducible first | refine rg (h := ?_) | refine nx ?_); try simp (disch := omega) only [h0, h1, hl,go_sem, simprocAttr]) | (with_reducible refine bk ?_) | ((with_reducible refine' cE ?hv ?_ ?_); (case hv => first | rfl | (simp only [h0, h1, hl,go_sem, simprocAttr]; rfl)); all_goals (intro hc; (try simp only [go_sem, simprocAttr] at hc); try (exfalso; omega))) | ((with_reducible refine fe ?_); refine ⟨_, (by simp only [Try.f71, h0, h1, hl,go_sem, simprocAttr]; rfl), ?_⟩; first | rfl | (try simp only [h0, h1, hl,go_sem, simprocAttr, seval])) | with_reducible intro (ep : Nat → Nat) | with_reducible apply_assumption -exfalso -symm only [*])
  ·have : cmpL [] (b.drop a.length) = 0 := by
    rw [cmpL_nil, if_pos]
    exact List.drop_eq_nil_of_le (by omega)
   rw [this]
   repeat' (first | (with_reducible refine sk ?_; intro K hK) | ((with_reducible first | refine rg (h := ?_) | refine nx ?_); try simp (disch := omega) only [h0, h1, hl,go_sem, simprocAttr]) | (with_reducible refine bk ?_) | ((with_reducible refine' cE ?hv ?_ ?_); (case hv => first | rfl | (simp only [h0, h1, hl,go_sem, simprocAttr]; rfl)); all_goals (intro hc; (try simp only [go_sem, simprocAttr] at hc); try (exfalso; omega))) | ((with_reducible refine fe ?_); refine ⟨_, (by simp only [Try.f71, h0, h1, hl,go_sem, simprocAttr]; rfl), ?_⟩; first | rfl | (try simp only [h0, h1, hl,go_sem, simprocAttr, seval])) | with_reducible intro (ep : Nat → Nat) | with_reducible apply_assumption -exfalso -symm only [*])
 clear hK
 repeat' (first | (with_reducible refine sk ?_; intro K hK) | ((with_reducible first | refine rg (h := ?_) | refine nx ?_); try simp (disch := omega) only [go_sem, simprocAttr]) | (with_reducible refine bk ?_) | ((with_reducible refine' cE ?hv ?_ ?_); (case hv => first | rfl | (simp only [go_sem, simprocAttr]; rfl)); all_goals (intro hc; (try simp only [go_sem, simprocAttr] at hc); try (exfalso; omega))) | with_reducible intro (ep : Nat → Nat) | with_reducible apply_assumption -exfalso -symm only [*])
 refine AW_range tabOK a.length (fun k f H => (f 0 = .lst 1 (ints a) ∧ f 1 = .lst 1 (ints b) ∧ f 9 = .lst 1 (ints a)) ∧ cmpL a b = cmpL (a.drop k) (b.drop k)) (by omega) (by rw [hXs]; decide) (by decide) (by (first | rfl | (simp only [go_sem, simprocAttr]; done) | (simp only [go_sem, simprocAttr]; rfl))) (by (first | rfl | (simp only [go_sem, simprocAttr]; done) | (simp only [go_sem, simprocAttr]; rfl)))
  ⟨by (and_intros <;> first | rfl | (simp only [go_sem, simprocAttr]; done) | (simp only [go_sem, simprocAttr]; rfl)), by simp⟩ ?_ ?_
 ·clear hcut
  rintro k f H hk h11 h10 ⟨⟨h0, h1, h9⟩, hr⟩
  obtain ⟨x, hx⟩ : ∃ x, a[k]? = some x := ⟨_, List.getElem?_eq_getElem hk⟩
  rw [drop_cons hx] at hr
  by_cases hb : (b.length : Int) ≤ (k : Int)
  ·rw [drop_none (l := b) (by omega), cmpL_end] at hr
   rw [hr]
   repeat' (first | (with_reducible refine sk ?_; intro K hK) | ((with_reducible first | refine rg (h := ?_) | refine nx ?_); try simp (disch := omega) only [h0, h1, h9, h10, h11, hx, hb,go_sem, simprocAttr]) | (with_reducible refine bk ?_) | ((with_reducible refine' cE ?hv ?_ ?_); (case hv => first | rfl | (simp only [h0, h1, h9, h10, h11, hx, hb,go_sem, simprocAttr]; rfl)); all_goals (intro hc; (try simp only [go_sem, simprocAttr] at hc); try (exfalso; omega))) | ((with_reducible refine fe ?_); refine ⟨_, (by simp only [Try.f71, h0, h1, h9, h10, h11, hx, hb,go_sem, simprocAttr]; rfl), ?_⟩; first | rfl | (try simp only [h0, h1, h9, h10, h11, hx, hb,go_sem, simprocAttr, seval])) | with_reducible intro (ep : Nat → Nat) | with_reducible apply_assumption -exfalso -symm only [*])
  ·obtain ⟨y, hy⟩ : ∃ y, b[k]? = some y := ⟨_, List.getElem?_eq_getElem (by omega)⟩
   rw [drop_cons hy] at hr
   have hcm := compare_ok x y
   by_cases hxy : x = y
   ·subst hxy
    rw [cmpL_same] at hr
    have h0' : cmpI x x = 0 := by simp [cmpI]
    rw [h0'] at hcm
    repeat' (first | (with_reducible refine sk ?_; intro K hK) | ((first | (with_reducible first | refine rg (h := ?_) | refine nx ?_) | refine pK (hcm) ?_); try simp (disch := omega) only [h0, h1, h9, h10, h11, hx, hy, hb,go_sem, simprocAttr]) | (with_reducible refine bk ?_) | ((with_reducible refine' cE ?hv ?_ ?_); (case hv => first | rfl | (simp only [h0, h1, h9, h10, h11, hx, hy, hb,go_sem, simprocAttr]; rfl)); all_goals (intro hc; (try simp only [go_sem, simprocAttr] at hc); try (exfalso; omega))) | with_reducible intro (ep : Nat → Nat) | with_reducible apply_assumption -exfalso -symm only [*])
   ·rw [cmpL_ne hxy] at hr
    have hn0 : ¬ cmpI x y = 0 := by unfold cmpI; split <;> (try split) <;> omega
    rw [hr]
    repeat' (first | (with_reducible refine sk ?_; intro K hK) | ((first | (with_reducible first | refine rg (h := ?_) | refine nx ?_) | refine pK (hcm) ?_); try simp (disch := omega) only [h0, h1, h9, h10, h11, hx, hy, hb, hn0,go_sem, simprocAttr]) | (with_reducible refine bk ?_) | ((with_reducible refine' cE ?hv ?_ ?_); (case hv => first | rfl | (simp only [h0, h1, h9, h10, h11, hx, hy, hb, hn0,go_sem, simprocAttr]; rfl)); all_goals (intro hc; (try simp only [go_sem, simprocAttr] at hc); try (exfalso; omega))) | ((with_reducible refine fe ?_); refine ⟨_, (by simp only [Try.f71, h0, h1, h9, h10, h11, hx, hy, hb, hn0,go_sem, simprocAttr]; rfl), ?_⟩; first | rfl | (try simp only [h0, h1, h9, h10, h11, hx, hy, hb, hn0,go_sem, simprocAttr, seval])) | with_reducible intro (ep : Nat → Nat) | with_reducible apply_assumption -exfalso -symm only [*])
 ·rintro f H h11 h10 ⟨⟨h0, h1, h9⟩, hr⟩
  rw [List.drop_length] at hr
  exact hcut _ _ ⟨by (first | rfl | (simp only [h0, go_sem, simprocAttr]; done) | (simp only [h0, go_sem, simprocAttr]; rfl)), by (first | rfl | (simp only [h1, go_sem, simprocAttr]; done) | (simp only [h1, go_sem, simprocAttr]; rfl)), hr⟩
end Cp
namespace Cp
open Go Go.Proofs
set_option maxRecDepth 10000
set_option maxHeartbeats 4000000
def mostD (z1 : Val) (n : NetT) : Val := if netOK n = true then .tup [.int .i64 (mostS n).1, .lst 1 (ints (mostS n).2), .int .i64 0] else .tup [.int .i64 0, z1, .int .i64 50]
theorem and_one64 {a : Int} (h : 0 ≤ a ∧ a ≤ 255) : andI .i64 a 1 = a % 2 := by
 obtain ⟨n, rfl⟩ : ∃ n : Nat, a = n := ⟨a.toNat, by omega⟩
 have hn : n < 256 := by omega
 have : ∀ m : Fin 256, andI .i64 ((m.1 : Nat) : Int) 1 = ((m.1 : Nat) : Int) % 2 := by decide +kernel
 exact this ⟨n, hn⟩
theorem setL_sub {n : NetT} (s : Nat) : (setL n.heads s).Sublist (n.heads.map (·.id)) := setF_sub n.heads 0
theorem mostF_len {n : NetT} (hF : NetF n) (k : Nat) : (mostF n k).2.length ≤ n.heads.length := by
 rcases most_inv hF k with ⟨_, h, _⟩ | ⟨⟨h, _⟩, _⟩
 ·rw [h]; simp
 ·exact open_le hF.ids h
theorem Most_ok0 (n : NetT) (hs : NetS n) : PureC Try.prog 28 [encNet n] (mostD .nils n) := by
 have hnoid : noid (mostD .nils n) = true := by unfold mostD; split <;> (simp only [noid, noids, noidss, go_sem, simprocAttr]; rfl)
 have hck := check_ok n (by have := hs.pipes; omega) (by have := hs.heads; omega) (by have := hs.pumps; omega)
 unfold checkN at hck
 simp only [encNet, cNet] at hck
 refine PureC_of (fn := Try.f28) tabOK (by kernel_rfl) rfl (by kernel_rfl) (by simp [Try.f28]) (by simp [noids, noid, noidss, go_sem, encNet, cNet, hnoid]) (by first | rfl | simp [noids, noid, noidss, go_sem, encNet, cNet, hnoid]) ?_
 intro X hX0 hXs
 unfold mostD
 cases hN : netOK n with
 | false =>
  simp only [hN, Bool.false_eq_true, if_false] at hck
  repeat' (first | (with_reducible refine sk ?_; intro K hK) | ((first | (with_reducible first | refine rg (md := { base := 0, own := [9, 11, 45] }) (h := ?_) | refine rgS [9, 11] (md := { base := 0, own := [9, 11, 45] }) (h := ?_) | refine nx ?_) | refine pK (hck) ?_); try simp (disch := omega) only [encNet, cNet,go_sem, simprocAttr]) | (with_reducible refine bk ?_) | ((with_reducible refine' cE ?hv ?_ ?_); (case hv => first | rfl | (simp only [encNet, cNet,go_sem, simprocAttr]; rfl)); all_goals (intro hc; (try simp only [go_sem, simprocAttr] at hc); try (exfalso; omega))) | ((with_reducible first | refine grdS_split ?_ ?_ | refine lkG_split ?_ ?_) <;> intro hg <;> (try simp (disch := omega) only [hg, encNet, cNet,go_sem, simprocAttr]) <;> (try simp only [go_sem, simprocAttr] at hg) <;> (try (exfalso; omega))) | ((with_reducible refine fe ?_); refine ⟨_, (by simp only [Try.f28, encNet, cNet,go_sem, simprocAttr]; rfl), ?_⟩; first | rfl | (try simp only [encNet, cNet,go_sem, simprocAttr, seval])) | with_reducible intro (ep : Nat → Nat) | with_reducible apply_assumption -exfalso -symm only [*])
 | true =>
  simp only [hN, if_true] at hck
  have hF := net_facts hN
  have hhl := hF.heads
  have hp : 2 ^ n.heads.length ≤ 256 := by
   have : n.heads.length = 1 ∨ n.heads.length = 2 ∨ n.heads.length = 3 ∨ n.heads.length = 4 ∨ n.heads.length = 5 ∨ n.heads.length = 6 ∨ n.heads.length = 7 ∨ n.heads.length = 8 := by omega
   rcases this with h | h | h | h | h | h | h | h <;> rw [h] <;> decide
  have hmin : min n.heads.length 64 = n.heads.length := by omega
  have hpe : (2 : Int) ^ n.heads.length = ((2 ^ n.heads.length : Nat) : Int) := by simp
  have hmS : mostS n = mostF n (2 ^ n.heads.length) := rfl
  obtain ⟨N, hNn⟩ : ∃ N, 2 ^ n.heads.length = N := ⟨_, rfl⟩
  rw [hNn] at hp hpe hmS
  simp only [if_true]
  repeat' (first | ((fail_if_success (with_reducible refine AW_at (id := 5) ?_)); with_reducible refine sk ?_; intro K hK) | ((first | (with_reducible first | refine rg (md := { base := 0, own := [9, 11, 45] }) (h := ?_) | refine rgS [9, 11] (md := { base := 0, own := [9, 11, 45] }) (h := ?_) | refine nx ?_) | refine pK (hck) ?_); try simp (disch := omega) only [encNet, cNet,go_sem, simprocAttr]) | (with_reducible refine bk ?_) | ((with_reducible refine' cE ?hv ?_ ?_); (case hv => first | rfl | (simp only [encNet, cNet,go_sem, simprocAttr]; rfl)); all_goals (intro hc; (try simp only [go_sem, simprocAttr] at hc); try (exfalso; omega))) | ((with_reducible first | refine grdS_split ?_ ?_ | refine lkG_split ?_ ?_) <;> intro hg <;> (try simp (disch := omega) only [hg, encNet, cNet,go_sem, simprocAttr]) <;> (try simp only [go_sem, simprocAttr] at hg) <;> (try (exfalso; omega))) | with_reducible intro (ep : Nat → Nat) | with_reducible apply_assumption -exfalso -symm only [*])
  have hcut : ∀ f H, (f 2 = .int .i64 (mostS n).1 ∧ f 3 = .lst 1 (ints (mostS n).2)) → K f H := by
   rintro f H ⟨h2, h3⟩
   refine hK f H ?_
   clear hK
   repeat' (first | (with_reducible refine sk ?_; intro K hK) | ((with_reducible first | refine rg (md := { base := 0, own := [9, 11, 45] }) (h := ?_) | refine rgS [9, 11] (md := { base := 0, own := [9, 11, 45] }) (h := ?_) | refine nx ?_); try simp (disch := omega) only [h2, h3,go_sem, simprocAttr]) | (with_reducible refine bk ?_) | ((with_reducible refine' cE ?hv ?_ ?_); (case hv => first | rfl | (simp only [h2, h3,go_sem, simprocAttr]; rfl)); all_goals (intro hc; (try simp only [go_sem, simprocAttr] at hc); try (exfalso; omega))) | ((with_reducible first | refine grdS_split ?_ ?_ | refine lkG_split ?_ ?_) <;> intro hg <;> (try simp (disch := omega) only [hg, h2, h3,go_sem, simprocAttr]) <;> (try simp only [go_sem, simprocAttr] at hg) <;> (try (exfalso; omega))) | ((with_reducible refine fe ?_); refine ⟨_, (by simp only [Try.f28, h2, h3,go_sem, simprocAttr]; rfl), ?_⟩; first | rfl | (try simp only [h2, h3,go_sem, simprocAttr, seval])) | with_reducible intro (ep : Nat → Nat) | with_reducible apply_assumption -exfalso -symm only [*])
  clear hK
  have hln : ¬ (n.heads.length : Int) < 0 := by omega
  repeat' (first | (with_reducible refine sk ?_; intro K hK) | ((with_reducible first | refine rg (md := { base := 0, own := [9, 11, 45] }) (h := ?_) | refine rgS [9, 11] (md := { base := 0, own := [9, 11, 45] }) (h := ?_) | refine nx ?_); try simp (disch := omega) only [hmin, hpe, hp, hln, Int.one_mul,go_sem, simprocAttr]) | (with_reducible refine bk ?_) | ((with_reducible refine' cE ?hv ?_ ?_); (case hv => first | rfl | (simp only [hmin, hpe, hp, hln, Int.one_mul,go_sem, simprocAttr]; rfl)); all_goals (intro hc; (try simp only [go_sem, simprocAttr] at hc); try (exfalso; omega))) | ((with_reducible first | refine grdS_split ?_ ?_ | refine lkG_split ?_ ?_) <;> intro hg <;> (try simp (disch := omega) only [hg, hmin, hpe, hp, hln, Int.one_mul,go_sem, simprocAttr]) <;> (try simp only [go_sem, simprocAttr] at hg) <;> (try (exfalso; omega))) | with_reducible intro (ep : Nat → Nat) | with_reducible apply_assumption -exfalso -symm only [*])
  have hm0 : mostF n 0 = ((n.heads.length : Int), []) := rfl
  refine AW_nils 3 1 (by (first | rfl | (simp only [go_sem, simprocAttr]; done) | (simp only [go_sem, simprocAttr]; rfl))) ?_
  refine AW_range tabOK N (fun s f H => f 1 = .pim (cNet n) ∧ f 2 = .int .i64 (mostF n s).1 ∧ f 3 = .lst 1 (ints (mostF n s).2)) (by omega) (by rw [hXs]; decide) (by decide) (by (first | rfl | (simp only [go_sem, simprocAttr]; done) | (simp only [go_sem, simprocAttr]; rfl))) (by (first | rfl | (simp only [go_sem, simprocAttr]; done) | (simp only [go_sem, simprocAttr]; rfl)))
   ⟨by (first | rfl | (simp only [cNet, go_sem, simprocAttr]; done) | (simp only [cNet, go_sem, simprocAttr]; rfl)), by (first | rfl | (simp only [hm0, go_sem, simprocAttr]; done) | (simp only [hm0, go_sem, simprocAttr]; rfl)), by (first | rfl | (simp only [hm0, go_sem, simprocAttr]; done) | (simp only [hm0, go_sem, simprocAttr]; rfl))⟩ ?_ ?_
  ·clear hcut
   rintro s f H hsk h25 h24 ⟨h1, h2, h3⟩
   have hsn : mostF n (s + 1) = mostStep n (mostF n s) (setL n.heads s) := rfl
   have hml := mostF_len hF s
   obtain ⟨⟨m, l⟩, hms⟩ : ∃ x, mostF n s = x := ⟨_, rfl⟩
   rw [hms] at h2 h3 hml hsn
   simp only at h2 h3 hml
   refine AW_keep [] ?_
   repeat' (first | ((fail_if_success (with_reducible refine AW_at (id := 9) ?_)); with_reducible refine sk ?_; intro K hK) | ((with_reducible first | refine rg (md := { base := 0, own := [9, 11, 45] }) (h := ?_) | refine rgS [9, 11] (md := { base := 0, own := [9, 11, 45] }) (h := ?_) | refine nx ?_); try simp (disch := omega) only [h1, h2, h3, h24, h25,go_sem, simprocAttr]) | (with_reducible refine bk ?_) | ((with_reducible refine' cE ?hv ?_ ?_); (case hv => first | rfl | (simp only [h1, h2, h3, h24, h25,go_sem, simprocAttr]; rfl)); all_goals (intro hc; (try simp only [go_sem, simprocAttr] at hc); try (exfalso; omega))) | ((with_reducible first | refine grdS_split ?_ ?_ | refine lkG_split ?_ ?_) <;> intro hg <;> (try simp (disch := omega) only [hg, h1, h2, h3, h24, h25,go_sem, simprocAttr]) <;> (try simp only [go_sem, simprocAttr] at hg) <;> (try (exfalso; omega))) | ((with_reducible refine fe ?_); refine ⟨_, (by simp only [Try.f28, h1, h2, h3, h24, h25,go_sem, simprocAttr]; rfl), ?_⟩; first | rfl | (try simp only [h1, h2, h3, h24, h25,go_sem, simprocAttr, seval])) | with_reducible intro (ep : Nat → Nat) | with_reducible apply_assumption -exfalso -symm only [*])
   have hsl := setL_sub (n := n) s
   have hsll := hsl.length_le
   rw [List.length_map] at hsll
   have hsop := setL_open hF s
   have hcutB : ∀ f H, (f 1 = .pim (cNet n) ∧ f 2 = .int .i64 m ∧ f 3 = .lst 1 (ints l) ∧ f 6 = .int .i64 s ∧ f 24 = .int .i64 N ∧ f 25 = .int .i64 s) ∧ LstG 45 (setL n.heads s) (f 7) H → K f H := by
    rintro f H ⟨⟨h1, h2, h3, h6, h24, h25⟩, g7⟩
    refine hK f H ?_
    clear hK
    refine AW_lstG g7 fun f2 H2 f7 fs Hs => ?_
    have w1 := (fs 1 (by decide)).trans h1
    have w2 := (fs 2 (by decide)).trans h2
    have w3 := (fs 3 (by decide)).trans h3
    have w24 := (fs 24 (by decide)).trans h24
    have w25 := (fs 25 (by decide)).trans h25
    clear fs Hs h1 h2 h3 h6 h24 h25 g7
    refine AW_keep [] ?_
    have hgt := Gets_ok n hs (setL n.heads s) (by omega)
    unfold getsD at hgt
    rw [if_pos hN, if_pos hsop] at hgt
    have hcm := compareL_ok (setL n.heads s) l (by omega)
    have hbe : badM n (setL n.heads s) = decide (¬ (getsS n (openH n.heads (setL n.heads s))).known = 2) := rfl
    have hkn := (gets_facts hF.out.1 (openH n.heads (setL n.heads s))).kn
    obtain ⟨⟨kn, hd, ou⟩, hG⟩ : ∃ G, getsS n (openH n.heads (setL n.heads s)) = G := ⟨_, rfl⟩
    rw [hG] at hgt hbe hkn
    simp only at hkn hbe
    simp only [encNet, cNet, lackV] at hgt
    generalize setL n.heads s = O at *
    simp only [mostStep] at hsn
    have hnil2 : ∀ m' l', mostF n (s + 1) = (m', l') → (mostF n (s + 1)).1 = m' ∧ (mostF n (s + 1)).2 = l' := fun m' l' e => by rw [e]; exact ⟨rfl, rfl⟩
    by_cases c1 : m < (O.length : Int) - 1
    ·rw [if_pos (.inl c1)] at hsn
     obtain ⟨e1, e2⟩ := hnil2 _ _ hsn
     repeat' (first | (with_reducible refine sk ?_; intro K hK) | ((with_reducible first | refine rg (md := { base := 0, own := [9, 11, 45] }) (h := ?_) | refine rgS [9, 11] (md := { base := 0, own := [9, 11, 45] }) (h := ?_) | refine nx ?_); try simp (disch := omega) only [w1, w2, w3, w24, w25, f7, c1, e1, e2, cNet,go_sem, simprocAttr]) | (with_reducible refine bk ?_) | ((with_reducible refine' cE ?hv ?_ ?_); (case hv => first | rfl | (simp only [w1, w2, w3, w24, w25, f7, c1, e1, e2, cNet,go_sem, simprocAttr]; rfl)); all_goals (intro hc; (try simp only [go_sem, simprocAttr] at hc); try (exfalso; omega))) | ((with_reducible first | refine grdS_split ?_ ?_ | refine lkG_split ?_ ?_) <;> intro hg <;> (try simp (disch := omega) only [hg, w1, w2, w3, w24, w25, f7, c1, e1, e2, cNet,go_sem, simprocAttr]) <;> (try simp only [go_sem, simprocAttr] at hg) <;> (try (exfalso; omega))) | with_reducible intro (ep : Nat → Nat) | with_reducible apply_assumption -exfalso -symm only [*])
    ·by_cases c2 : (O.length : Int) - 1 = m
     ·by_cases c3 : 0 ≤ cmpL O l
      ·rw [if_pos (.inr ⟨c2, c3⟩)] at hsn
       obtain ⟨e1, e2⟩ := hnil2 _ _ hsn
       repeat' (first | (with_reducible refine sk ?_; intro K hK) | ((first | (with_reducible first | refine rg (md := { base := 0, own := [9, 11, 45] }) (h := ?_) | refine rgS [9, 11] (md := { base := 0, own := [9, 11, 45] }) (h := ?_) | refine nx ?_) | refine pK (hcm) ?_); try simp (disch := omega) only [w1, w2, w3, w24, w25, f7, c1, c2, c3, e1, e2, cNet,go_sem, simprocAttr]) | (with_reducible refine bk ?_) | ((with_reducible refine' cE ?hv ?_ ?_); (case hv => first | rfl | (simp only [w1, w2, w3, w24, w25, f7, c1, c2, c3, e1, e2, cNet,go_sem, simprocAttr]; rfl)); all_goals (intro hc; (try simp only [go_sem, simprocAttr] at hc); try (exfalso; omega))) | ((with_reducible first | refine grdS_split ?_ ?_ | refine lkG_split ?_ ?_) <;> intro hg <;> (try simp (disch := omega) only [hg, w1, w2, w3, w24, w25, f7, c1, c2, c3, e1, e2, cNet,go_sem, simprocAttr]) <;> (try simp only [go_sem, simprocAttr] at hg) <;> (try (exfalso; omega))) | with_reducible intro (ep : Nat → Nat) | with_reducible apply_assumption -exfalso -symm only [*])
      ·rw [if_neg (fun h => by rcases h with h | h; exact c1 h; exact c3 h.2)] at hsn
       by_cases c4 : kn = 2
       ·rw [hbe, decide_eq_false (fun h => h c4), if_neg (by simp)] at hsn
        obtain ⟨e1, e2⟩ := hnil2 _ _ hsn
        repeat' (first | (with_reducible refine sk ?_; intro K hK) | ((first | (with_reducible first | refine rg (md := { base := 0, own := [9, 11, 45] }) (h := ?_) | refine rgS [9, 11] (md := { base := 0, own := [9, 11, 45] }) (h := ?_) | refine nx ?_) | refine pK (hcm) ?_ | refine pK (hgt) ?_); try simp (disch := omega) only [w1, w2, w3, w24, w25, f7, c1, c2, c3, c4, e1, e2, cNet,go_sem, simprocAttr]) | (with_reducible refine bk ?_) | ((with_reducible refine' cE ?hv ?_ ?_); (case hv => first | rfl | (simp only [w1, w2, w3, w24, w25, f7, c1, c2, c3, c4, e1, e2, cNet,go_sem, simprocAttr]; rfl)); all_goals (intro hc; (try simp only [go_sem, simprocAttr] at hc); try (exfalso; omega))) | ((with_reducible first | refine grdS_split ?_ ?_ | refine lkG_split ?_ ?_) <;> intro hg <;> (try simp (disch := omega) only [hg, w1, w2, w3, w24, w25, f7, c1, c2, c3, c4, e1, e2, cNet,go_sem, simprocAttr]) <;> (try simp only [go_sem, simprocAttr] at hg) <;> (try (exfalso; omega))) | with_reducible intro (ep : Nat → Nat) | with_reducible apply_assumption -exfalso -symm only [*])
       ·rw [hbe, decide_eq_true c4, if_pos rfl] at hsn
        obtain ⟨e1, e2⟩ := hnil2 _ _ hsn
        repeat' (first | (with_reducible refine sk ?_; intro K hK) | ((first | (with_reducible first | refine rg (md := { base := 0, own := [9, 11, 45] }) (h := ?_) | refine rgS [9, 11] (md := { base := 0, own := [9, 11, 45] }) (h := ?_) | refine nx ?_) | refine pK (hcm) ?_ | refine pK (hgt) ?_); try simp (disch := omega) only [w1, w2, w3, w24, w25, f7, c1, c2, c3, c4, e1, e2, cNet,go_sem, simprocAttr]) | (with_reducible refine bk ?_) | ((with_reducible refine' cE ?hv ?_ ?_); (case hv => first | rfl | (simp only [w1, w2, w3, w24, w25, f7, c1, c2, c3, c4, e1, e2, cNet,go_sem, simprocAttr]; rfl)); all_goals (intro hc; (try simp only [go_sem, simprocAttr] at hc); try (exfalso; omega))) | ((with_reducible first | refine grdS_split ?_ ?_ | refine lkG_split ?_ ?_) <;> intro hg <;> (try simp (disch := omega) only [hg, w1, w2, w3, w24, w25, f7, c1, c2, c3, c4, e1, e2, cNet,go_sem, simprocAttr]) <;> (try simp only [go_sem, simprocAttr] at hg) <;> (try (exfalso; omega))) | with_reducible intro (ep : Nat → Nat) | with_reducible apply_assumption -exfalso -symm only [*])
     ·rw [if_neg (fun h => by rcases h with h | h; exact c1 h; exact c2 h.1)] at hsn
      by_cases c4 : kn = 2
      ·rw [hbe, decide_eq_false (fun h => h c4), if_neg (by simp)] at hsn
       obtain ⟨e1, e2⟩ := hnil2 _ _ hsn
       repeat' (first | (with_reducible refine sk ?_; intro K hK) | ((first | (with_reducible first | refine rg (md := { base := 0, own := [9, 11, 45] }) (h := ?_) | refine rgS [9, 11] (md := { base := 0, own := [9, 11, 45] }) (h := ?_) | refine nx ?_) | refine pK (hcm) ?_ | refine pK (hgt) ?_); try simp (disch := omega) only [w1, w2, w3, w24, w25, f7, c1, c2, c4, e1, e2, cNet,go_sem, simprocAttr]) | (with_reducible refine bk ?_) | ((with_reducible refine' cE ?hv ?_ ?_); (case hv => first | rfl | (simp only [w1, w2, w3, w24, w25, f7, c1, c2, c4, e1, e2, cNet,go_sem, simprocAttr]; rfl)); all_goals (intro hc; (try simp only [go_sem, simprocAttr] at hc); try (exfalso; omega))) | ((with_reducible first | refine grdS_split ?_ ?_ | refine lkG_split ?_ ?_) <;> intro hg <;> (try simp (disch := omega) only [hg, w1, w2, w3, w24, w25, f7, c1, c2, c4, e1, e2, cNet,go_sem, simprocAttr]) <;> (try simp only [go_sem, simprocAttr] at hg) <;> (try (exfalso; omega))) | with_reducible intro (ep : Nat → Nat) | with_reducible apply_assumption -exfalso -symm only [*])
      ·rw [hbe, decide_eq_true c4, if_pos rfl] at hsn
       obtain ⟨e1, e2⟩ := hnil2 _ _ hsn
       repeat' (first | (with_reducible refine sk ?_; intro K hK) | ((first | (with_reducible first | refine rg (md := { base := 0, own := [9, 11, 45] }) (h := ?_) | refine rgS [9, 11] (md := { base := 0, own := [9, 11, 45] }) (h := ?_) | refine nx ?_) | refine pK (hcm) ?_ | refine pK (hgt) ?_); try simp (disch := omega) only [w1, w2, w3, w24, w25, f7, c1, c2, c4, e1, e2, cNet,go_sem, simprocAttr]) | (with_reducible refine bk ?_) | ((with_reducible refine' cE ?hv ?_ ?_); (case hv => first | rfl | (simp only [w1, w2, w3, w24, w25, f7, c1, c2, c4, e1, e2, cNet,go_sem, simprocAttr]; rfl)); all_goals (intro hc; (try simp only [go_sem, simprocAttr] at hc); try (exfalso; omega))) | ((with_reducible first | refine grdS_split ?_ ?_ | refine lkG_split ?_ ?_) <;> intro hg <;> (try simp (disch := omega) only [hg, w1, w2, w3, w24, w25, f7, c1, c2, c4, e1, e2, cNet,go_sem, simprocAttr]) <;> (try simp only [go_sem, simprocAttr] at hg) <;> (try (exfalso; omega))) | with_reducible intro (ep : Nat → Nat) | with_reducible apply_assumption -exfalso -symm only [*])
   clear hK
   repeat' (first | (with_reducible refine sk ?_; intro K hK) | ((with_reducible first | refine rg (md := { base := 0, own := [9, 11, 45] }) (h := ?_) | refine rgS [9, 11] (md := { base := 0, own := [9, 11, 45] }) (h := ?_) | refine nx ?_); try simp (disch := omega) only [h1, h2, h3, h24, h25, cNet,go_sem, simprocAttr]) | (with_reducible refine bk ?_) | ((with_reducible refine' cE ?hv ?_ ?_); (case hv => first | rfl | (simp only [h1, h2, h3, h24, h25, cNet,go_sem, simprocAttr]; rfl)); all_goals (intro hc; (try simp only [go_sem, simprocAttr] at hc); try (exfalso; omega))) | ((with_reducible first | refine grdS_split ?_ ?_ | refine lkG_split ?_ ?_) <;> intro hg <;> (try simp (disch := omega) only [hg, h1, h2, h3, h24, h25, cNet,go_sem, simprocAttr]) <;> (try simp only [go_sem, simprocAttr] at hg) <;> (try (exfalso; omega))) | with_reducible intro (ep : Nat → Nat) | with_reducible apply_assumption -exfalso -symm only [*])
   refine AW_range tabOK n.heads.length (fun k f H => (f 1 = .pim (cNet n) ∧ f 2 = .int .i64 m ∧ f 3 = .lst 1 (ints l) ∧ f 6 = .int .i64 s ∧ f 24 = .int .i64 N ∧ f 25 = .int .i64 s ∧ f 29 = .lst 8 (n.heads.map cHead)) ∧ LstG 45 (setF s (n.heads.take k) 0) (f 7) H) (by omega) (by rw [hXs]; decide) (by decide) (by (first | rfl | (simp only [go_sem, simprocAttr]; done) | (simp only [go_sem, simprocAttr]; rfl))) (by (first | rfl | (simp only [h1, cNet, go_sem, simprocAttr]; done) | (simp only [h1, cNet, go_sem, simprocAttr]; rfl)))
    ⟨by (and_intros <;> first | rfl | (simp only [h1, h2, h3, h24, h25, cNet, go_sem, simprocAttr]; done) | (simp only [h1, h2, h3, h24, h25, cNet, go_sem, simprocAttr]; rfl)), .inl ⟨rfl, rfl⟩⟩ ?_ ?_
   ·clear hcutB h1 h2 h3 h24 h25
    rintro k f H hk h31 h30 ⟨⟨h1, h2, h3, h6, h24, h25, h29⟩, g7⟩
    obtain ⟨x, hx⟩ : ∃ x, n.heads[k]? = some x := ⟨_, List.getElem?_eq_getElem hk⟩
    have hss := setF_snoc (s := s) (i := 0) hx
    rw [Nat.zero_add] at hss
    have hsb := bitI_nat s k
    have hfd : 0 ≤ (s : Int).fdiv (2 ^ k) ∧ (s : Int).fdiv (2 ^ k) ≤ 255 := by
     have hp : (1 : Int) ≤ 2 ^ k := by have := Int.pow_pos (n := 2) (m := k) (by omega); omega
     rw [Int.fdiv_eq_ediv_of_nonneg _ (by omega)]
     exact ⟨Int.ediv_nonneg (by omega) (by omega), Int.le_trans (Int.ediv_le_self _ (by omega)) (by omega)⟩
    have hand := and_one64 hfd
    have hmk : min k 64 = k := by omega
    have hnn : ¬ (k : Int) < 0 := by omega
    have hol : (setF s (n.heads.take k) 0).length ≤ 100000 := by
     have h1 := (setF_sub (s := s) (n.heads.take k) 0).length_le
     simp only [List.length_map, List.length_take] at h1; omega
    generalize setF s (n.heads.take k) 0 = ok at *
    have hxc : cHead x = [.int .i64 x.id, .int .i64 x.node, .int .i64 x.need, .int .i64 x.least, .int .i64 x.bulb.lo, .int .i64 x.bulb.hi, .int .i64 x.slow.lo, .int .i64 x.slow.hi] := rfl
    refine AW_keep [45] ?_
    have k9 : keep H [45] 9 = none := rfl
    have k7 : LstG 45 ok (f 7) (keep H [45]) := g7.same rfl
    generalize keep H [45] = H2 at k9 k7 ⊢
    clear g7
    cases hbt : s.testBit k with
    | true =>
     rw [hbt] at hss hsb
     have hb1 : (s : Int).fdiv (2 ^ k) % 2 = 1 := by simpa [bitI] using hsb
     rw [hb1] at hand
     simp only [if_true] at hss
     rcases k7 with ⟨rfl, h7⟩ | ⟨hne, ea, h7, k45⟩
     ·refine AW_lose 45 fun H3 g45 hs3 => ?_
      have q9 := (hs3 9 (by decide)).trans k9
      clear hs3 k9
      repeat' (first | (with_reducible refine sk ?_; intro K hK) | ((with_reducible first | refine rg (md := { base := 0, own := [9, 11, 45] }) (h := ?_) | refine rgS [9, 11] (md := { base := 0, own := [9, 11, 45] }) (h := ?_) | refine nx ?_); try simp (disch := omega) only [h1, h2, h3, h6, h7, h24, h25, h29, h30, h31, q9, g45, hx, hmk, hnn, hand, hxc,go_sem, simprocAttr]) | (with_reducible refine bk ?_) | ((with_reducible refine' cE ?hv ?_ ?_); (case hv => first | rfl | (simp only [h1, h2, h3, h6, h7, h24, h25, h29, h30, h31, q9, g45, hx, hmk, hnn, hand, hxc,go_sem, simprocAttr]; rfl)); all_goals (intro hc; (try simp only [go_sem, simprocAttr] at hc); try (exfalso; omega))) | ((with_reducible first | refine grdS_split ?_ ?_ | refine lkG_split ?_ ?_) <;> intro hg <;> (try simp (disch := omega) only [hg, h1, h2, h3, h6, h7, h24, h25, h29, h30, h31, q9, g45, hx, hmk, hnn, hand, hxc,go_sem, simprocAttr]) <;> (try simp only [go_sem, simprocAttr] at hg) <;> (try (exfalso; omega))) | with_reducible intro (ep : Nat → Nat) | with_reducible apply_assumption -exfalso -symm only [*])
      rw [hss]; exact .one (by (first | rfl | (simp only [go_sem, simprocAttr]; done) | (simp only [go_sem, simprocAttr]; rfl)))
     ·have hkb : ok.length ≤ 1073741823 := by omega
      repeat' (first | (with_reducible refine sk ?_; intro K hK) | ((with_reducible first | refine rg (md := { base := 0, own := [9, 11, 45] }) (h := ?_) | refine rgS [9, 11] (md := { base := 0, own := [9, 11, 45] }) (h := ?_) | refine nx ?_); try simp (disch := omega) only [h1, h2, h3, h6, h7, h24, h25, h29, h30, h31, k9, k45, hx, hmk, hnn, hand, hkb, hxc,go_sem, simprocAttr]) | (with_reducible refine bk ?_) | ((with_reducible refine' cE ?hv ?_ ?_); (case hv => first | rfl | (simp only [h1, h2, h3, h6, h7, h24, h25, h29, h30, h31, k9, k45, hx, hmk, hnn, hand, hkb, hxc,go_sem, simprocAttr]; rfl)); all_goals (intro hc; (try simp only [go_sem, simprocAttr] at hc); try (exfalso; omega))) | ((with_reducible first | refine grdS_split ?_ ?_ | refine lkG_split ?_ ?_) <;> intro hg <;> (try simp (disch := omega) only [hg, h1, h2, h3, h6, h7, h24, h25, h29, h30, h31, k9, k45, hx, hmk, hnn, hand, hkb, hxc,go_sem, simprocAttr]) <;> (try simp only [go_sem, simprocAttr] at hg) <;> (try (exfalso; omega))) | with_reducible intro (ep : Nat → Nat) | with_reducible apply_assumption -exfalso -symm only [*])
      rw [hss]; exact .snoc (by (first | rfl | (simp only [go_sem, simprocAttr]; done) | (simp only [go_sem, simprocAttr]; rfl)))
    | false =>
     rw [hbt] at hss hsb
     have hb0 : ¬ (s : Int).fdiv (2 ^ k) % 2 = 1 := by simpa [bitI] using hsb
     have hb1 : (s : Int).fdiv (2 ^ k) % 2 = 0 := by omega
     rw [hb1] at hand
     simp only [Bool.false_eq_true, if_false, List.append_nil] at hss
     repeat' (first | (with_reducible refine sk ?_; intro K hK) | ((with_reducible first | refine rg (md := { base := 0, own := [9, 11, 45] }) (h := ?_) | refine rgS [9, 11] (md := { base := 0, own := [9, 11, 45] }) (h := ?_) | refine nx ?_); try simp (disch := omega) only [h1, h2, h3, h6, h24, h25, h29, h30, h31, k9, hx, hmk, hnn, hand, hxc,go_sem, simprocAttr]) | (with_reducible refine bk ?_) | ((with_reducible refine' cE ?hv ?_ ?_); (case hv => first | rfl | (simp only [h1, h2, h3, h6, h24, h25, h29, h30, h31, k9, hx, hmk, hnn, hand, hxc,go_sem, simprocAttr]; rfl)); all_goals (intro hc; (try simp only [go_sem, simprocAttr] at hc); try (exfalso; omega))) | ((with_reducible first | refine grdS_split ?_ ?_ | refine lkG_split ?_ ?_) <;> intro hg <;> (try simp (disch := omega) only [hg, h1, h2, h3, h6, h24, h25, h29, h30, h31, k9, hx, hmk, hnn, hand, hxc,go_sem, simprocAttr]) <;> (try simp only [go_sem, simprocAttr] at hg) <;> (try (exfalso; omega))) | with_reducible intro (ep : Nat → Nat) | with_reducible apply_assumption -exfalso -symm only [*])
     rw [hss]; exact k7.same (by (first | rfl | (simp only [go_sem, simprocAttr]; done) | (simp only [go_sem, simprocAttr]; rfl)))
   ·rintro f H h31 h30 ⟨⟨h1, h2, h3, h6, h24, h25, h29⟩, g7⟩
    rw [List.take_length] at g7
    exact hcutB _ _ ⟨by (and_intros <;> first | rfl | (simp only [h1, h2, h3, h6, h24, h25, go_sem, simprocAttr]; done) | (simp only [h1, h2, h3, h6, h24, h25, go_sem, simprocAttr]; rfl)), by exact g7⟩
  ·rintro f H h25 h24 ⟨h1, h2, h3⟩
   exact hcut _ _ ⟨by rw [hmS]; (first | rfl | (simp only [h2, go_sem, simprocAttr]; done) | (simp only [h2, go_sem, simprocAttr]; rfl)), by rw [hmS]; (first | rfl | (simp only [h3, go_sem, simprocAttr]; done) | (simp only [h3, go_sem, simprocAttr]; rfl))⟩
end Cp
namespace Cp
open Go Go.Proofs
set_option maxRecDepth 10000
set_option maxHeartbeats 4000000
theorem Most_ok (n : NetT) (hs : NetS n) : PureC Try.prog 28 [encNet n] (mostD (.lst 1 []) n) := by
 refine (Most_ok0 n hs).weak ?_ fun G w x h => ?_
 ·unfold mostD; split <;> (simp only [noid, noids, noidss, go_sem, simprocAttr]; rfl)
 ·unfold mostD at h ⊢
  split
  ·rename_i hN
   rw [if_pos hN] at h
   exact h
  ·rename_i hN
   rw [if_neg hN] at h
   refine VR.tup_imp (vs := [.int .i64 0, .nils, .int .i64 50]) rfl (fun i v v' h1 h2 y hy => ?_) h
   match i, h1, h2 with
   | 0, h1, h2 => cases h1; cases h2; exact hy
   | 1, h1, h2 => cases h1; cases h2; exact hy.nils_lst 1
   | 2, h1, h2 => cases h1; cases h2; exact hy
theorem most_law (n : NetT) (b : Int) (b0 : 0 ≤ b) (b1 : b ≤ 255) : PureC Try.prog 13 [encNet n, .int .u8 b] (.bool true) := by
 have hrd := ready_ok n
 simp only [encNet, cNet] at hrd
 by_cases hr : (!greatN n && netOK n) = true
 ·have hr2 : greatN n = false ∧ netOK n = true := by simpa using hr
  have hs := great_small hr2.1
  have hF := net_facts hr2.2
  have hhl := hF.heads
  rw [hr] at hrd
  have hmo := Most_ok n hs
  unfold mostD at hmo
  rw [if_pos hr2.2] at hmo
  have hmf := most_facts hF
  have hso := some_ok n (by omega) b ⟨b0, b1⟩
  have hopen := some_ok' hF b
  obtain ⟨ho1, ho2⟩ := okL_none hopen
  have hol : (someL n.heads b).length ≤ n.heads.length := someF_len
  have hgt := Gets_ok n hs (someL n.heads b) (by omega)
  unfold getsD at hgt
  rw [if_pos hr2.2, if_pos hopen] at hgt
  have hkn := (gets_facts hF.out.1 (openH n.heads (someL n.heads b))).kn
  have hbe : badM n (someL n.heads b) = decide (¬ (getsS n (openH n.heads (someL n.heads b))).known = 2) := rfl
  have hlea := hmf.least _ hopen
  obtain ⟨⟨m, l⟩, hM⟩ : ∃ M, mostS n = M := ⟨_, rfl⟩
  rw [hM] at hmf hlea hmo
  obtain ⟨⟨kn, hd, ou⟩, hG⟩ : ∃ G, getsS n (openH n.heads (someL n.heads b)) = G := ⟨_, rfl⟩
  rw [hG] at hgt hbe hkn
  simp only at hkn hbe hlea
  generalize someL n.heads b = O at *
  simp only [encNet, cNet, lackV] at hso hgt hmo
  rcases hmf.cases with ⟨h1, h2⟩ | ⟨h1, h2, h3, h4⟩
  ·simp only at h1 h2
   subst h1 h2
   have hop := open_ok n (by omega) [] (by simp)
   have e0 : openOK n.heads [] = true := rfl
   rw [e0] at hop
   have hk2 : kn = 2 := by
    refine Decidable.byContradiction fun h => ?_
    exact (hlea (by rw [hbe]; exact decide_eq_true h)).1 rfl
   subst hk2
   have hnn : ¬ (n.heads.length : Int) < 0 := by omega
   simp only [encNet, cNet, ints] at hop
   simp only [ints, List.map_nil] at hop hmo
   refine PureC_of (fn := Try.f13) tabOK (by kernel_rfl) rfl (by kernel_rfl) (by simp [Try.f13]) (by simp [noids, noid, noidss, go_sem, encNet, cNet]) (by first | rfl | simp [noids, noid, noidss, go_sem, encNet, cNet]) ?_
   intro X hX0 hXs
   by_cases hO : (O.length : Int) = 0
   ·repeat' (first | (with_reducible refine sk ?_; intro K hK) | ((first | (with_reducible first | refine rg (md := { base := 0, own := [9, 12] }) (h := ?_) | refine rgS [9, 12] (md := { base := 0, own := [9, 12] }) (h := ?_) | refine nx ?_) | refine pK (alive_run) ?_ | refine pK (hrd) ?_ | refine pK (hmo) ?_ | refine pK (hop) ?_ | refine pK (hso) ?_ | refine pK (hgt) ?_); try simp (disch := omega) only [encNet, cNet, hnn, Int.lt_irrefl, hO,go_sem, simprocAttr]) | (with_reducible refine bk ?_) | ((with_reducible refine' cE ?hv ?_ ?_); (case hv => first | rfl | (simp only [encNet, cNet, hnn, Int.lt_irrefl, hO,go_sem, simprocAttr]; rfl)); all_goals (intro hc; (try simp only [go_sem, simprocAttr] at hc); try (exfalso; omega))) | ((with_reducible first | refine grdS_split ?_ ?_ | refine lkG_split ?_ ?_) <;> intro hg <;> (try simp (disch := omega) only [hg, encNet, cNet, hnn, Int.lt_irrefl, hO,go_sem, simprocAttr]) <;> (try simp only [go_sem, simprocAttr] at hg) <;> (try (exfalso; omega))) | ((with_reducible refine fe ?_); refine ⟨_, (by simp only [Try.f13, encNet, cNet, hnn, Int.lt_irrefl, hO,go_sem, simprocAttr]; rfl), ?_⟩; first | rfl | (try simp only [encNet, cNet, hnn, Int.lt_irrefl, hO,go_sem, simprocAttr, seval])) | with_reducible intro (ep : Nat → Nat) | with_reducible apply_assumption -exfalso -symm only [*])
    all_goals (exfalso; simp at hg)
   ·repeat' (first | (with_reducible refine sk ?_; intro K hK) | ((first | (with_reducible first | refine rg (md := { base := 0, own := [9, 12] }) (h := ?_) | refine rgS [9, 12] (md := { base := 0, own := [9, 12] }) (h := ?_) | refine nx ?_) | refine pK (alive_run) ?_ | refine pK (hrd) ?_ | refine pK (hmo) ?_ | refine pK (hop) ?_ | refine pK (hso) ?_ | refine pK (hgt) ?_); try simp (disch := omega) only [encNet, cNet, hnn, Int.lt_irrefl, hO,go_sem, simprocAttr]) | (with_reducible refine bk ?_) | ((with_reducible refine' cE ?hv ?_ ?_); (case hv => first | rfl | (simp only [encNet, cNet, hnn, Int.lt_irrefl, hO,go_sem, simprocAttr]; rfl)); all_goals (intro hc; (try simp only [go_sem, simprocAttr] at hc); try (exfalso; omega))) | ((with_reducible first | refine grdS_split ?_ ?_ | refine lkG_split ?_ ?_) <;> intro hg <;> (try simp (disch := omega) only [hg, encNet, cNet, hnn, Int.lt_irrefl, hO,go_sem, simprocAttr]) <;> (try simp only [go_sem, simprocAttr] at hg) <;> (try (exfalso; omega))) | ((with_reducible refine fe ?_); refine ⟨_, (by simp only [Try.f13, encNet, cNet, hnn, Int.lt_irrefl, hO,go_sem, simprocAttr]; rfl), ?_⟩; first | rfl | (try simp only [encNet, cNet, hnn, Int.lt_irrefl, hO,go_sem, simprocAttr, seval])) | with_reducible intro (ep : Nat → Nat) | with_reducible apply_assumption -exfalso -symm only [*])
    all_goals (exfalso; simp at hg)
  ·simp only at h1 h2 h3 h4
   subst h3
   have hop := open_ok n (by omega) l (by have := open_le hF.ids h1; omega)
   rw [h1] at hop
   have hll := open_le hF.ids h1
   have hl0 : ¬ (l.length : Int) = 0 := fun e => h4 (List.eq_nil_of_length_eq_zero (by omega))
   have hgl := Gets_ok n hs l (by omega)
   unfold getsD at hgl
   rw [if_pos hr2.2, if_pos h1] at hgl
   have hbl : badM n l = decide (¬ (getsS n (openH n.heads l)).known = 2) := rfl
   rw [h2] at hbl
   obtain ⟨⟨kl, hd2, ov⟩, hG2⟩ : ∃ G, getsS n (openH n.heads l) = G := ⟨_, rfl⟩
   rw [hG2] at hgl hbl
   simp only at hbl
   have hk2 : ¬ kl = 2 := by simpa using hbl.symm
   simp only [encNet, cNet, lackV] at hop hgl
   have hnn : ¬ (l.length : Int) - 1 < 0 := by omega
   have hn1 : ¬ (n.heads.length : Int) < (l.length : Int) - 1 := by omega
   have hn2 : ¬ (l.length : Int) - 1 = (n.heads.length : Int) := by omega
   have hn3 : (0 : Int) < (l.length : Int) := by omega
   have hn4 : (l.length : Int) - 1 + 1 = (l.length : Int) := by omega
   refine PureC_of (fn := Try.f13) tabOK (by kernel_rfl) rfl (by kernel_rfl) (by simp [Try.f13]) (by simp [noids, noid, noidss, go_sem, encNet, cNet]) (by first | rfl | simp [noids, noid, noidss, go_sem, encNet, cNet]) ?_
   intro X hX0 hXs
   by_cases hkk : kn = 2
   ·subst hkk
    repeat' (first | (with_reducible refine sk ?_; intro K hK) | ((first | (with_reducible first | refine rg (md := { base := 0, own := [9, 12] }) (h := ?_) | refine rgS [9, 12] (md := { base := 0, own := [9, 12] }) (h := ?_) | refine nx ?_) | refine pK (alive_run) ?_ | refine pK (hrd) ?_ | refine pK (hmo) ?_ | refine pK (hop) ?_ | refine pK (hgl) ?_ | refine pK (hso) ?_ | refine pK (hgt) ?_); try simp (disch := omega) only [encNet, cNet, hnn, hl0, hn1, hn2, hn3, hn4, hk2,go_sem, simprocAttr]) | (with_reducible refine bk ?_) | ((with_reducible refine' cE ?hv ?_ ?_); (case hv => first | rfl | (simp only [encNet, cNet, hnn, hl0, hn1, hn2, hn3, hn4, hk2,go_sem, simprocAttr]; rfl)); all_goals (intro hc; (try simp only [go_sem, simprocAttr] at hc); try (exfalso; omega))) | ((with_reducible first | refine grdS_split ?_ ?_ | refine lkG_split ?_ ?_) <;> intro hg <;> (try simp (disch := omega) only [hg, encNet, cNet, hnn, hl0, hn1, hn2, hn3, hn4, hk2,go_sem, simprocAttr]) <;> (try simp only [go_sem, simprocAttr] at hg) <;> (try (exfalso; omega))) | ((with_reducible refine fe ?_); refine ⟨_, (by simp only [Try.f13, encNet, cNet, hnn, hl0, hn1, hn2, hn3, hn4, hk2,go_sem, simprocAttr]; rfl), ?_⟩; first | rfl | (try simp only [encNet, cNet, hnn, hl0, hn1, hn2, hn3, hn4, hk2,go_sem, simprocAttr, seval])) | with_reducible intro (ep : Nat → Nat) | with_reducible apply_assumption -exfalso -symm only [*])
    all_goals (exfalso; simp at hg)
   ·obtain ⟨_, hbo⟩ := hlea (by rw [hbe]; exact decide_eq_true hkk)
    have hle : l.length ≤ O.length := by
     rcases hbo with rfl | h | ⟨h, _⟩
     ·omega
     ·omega
     ·omega
    have hn5 : ¬ (O.length : Int) ≤ (l.length : Int) - 1 := by omega
    by_cases hll2 : (O.length : Int) = (l.length : Int)
    ·repeat' (first | ((fail_if_success (with_reducible refine AW_at (id := 19) ?_)); with_reducible refine sk ?_; intro K hK) | ((first | (with_reducible first | refine rg (md := { base := 0, own := [9, 12] }) (h := ?_) | refine rgS [9, 12] (md := { base := 0, own := [9, 12] }) (h := ?_) | refine nx ?_) | refine pK (alive_run) ?_ | refine pK (hrd) ?_ | refine pK (hmo) ?_ | refine pK (hop) ?_ | refine pK (hgl) ?_ | refine pK (hso) ?_ | refine pK (hgt) ?_); try simp (disch := omega) only [encNet, cNet, hnn, hl0, hn1, hn2, hn3, hn4, hk2, hkk, hn5, hll2,go_sem, simprocAttr]) | (with_reducible refine bk ?_) | ((with_reducible refine' cE ?hv ?_ ?_); (case hv => first | rfl | (simp only [encNet, cNet, hnn, hl0, hn1, hn2, hn3, hn4, hk2, hkk, hn5, hll2,go_sem, simprocAttr]; rfl)); all_goals (intro hc; (try simp only [go_sem, simprocAttr] at hc); try (exfalso; omega))) | ((with_reducible first | refine grdS_split ?_ ?_ | refine lkG_split ?_ ?_) <;> intro hg <;> (try simp (disch := omega) only [hg, encNet, cNet, hnn, hl0, hn1, hn2, hn3, hn4, hk2, hkk, hn5, hll2,go_sem, simprocAttr]) <;> (try simp only [go_sem, simprocAttr] at hg) <;> (try (exfalso; omega))) | ((with_reducible refine fe ?_); refine ⟨_, (by simp only [Try.f13, encNet, cNet, hnn, hl0, hn1, hn2, hn3, hn4, hk2, hkk, hn5, hll2,go_sem, simprocAttr]; rfl), ?_⟩; first | rfl | (try simp only [encNet, cNet, hnn, hl0, hn1, hn2, hn3, hn4, hk2, hkk, hn5, hll2,go_sem, simprocAttr, seval])) | with_reducible intro (ep : Nat → Nat) | with_reducible apply_assumption -exfalso -symm only [*])
     all_goals (try (exfalso; simp at hg; done))
     have hcut : ∀ f H, f 5 = .bool true → K f H := by
      intro f H h5
      refine hK f H ?_
      clear hK
      repeat' (first | (with_reducible refine sk ?_; intro K hK) | ((with_reducible first | refine rg (md := { base := 0, own := [9, 12] }) (h := ?_) | refine rgS [9, 12] (md := { base := 0, own := [9, 12] }) (h := ?_) | refine nx ?_); try simp (disch := omega) only [h5,go_sem, simprocAttr]) | (with_reducible refine bk ?_) | ((with_reducible refine' cE ?hv ?_ ?_); (case hv => first | rfl | (simp only [h5,go_sem, simprocAttr]; rfl)); all_goals (intro hc; (try simp only [go_sem, simprocAttr] at hc); try (exfalso; omega))) | ((with_reducible first | refine grdS_split ?_ ?_ | refine lkG_split ?_ ?_) <;> intro hg <;> (try simp (disch := omega) only [hg, h5,go_sem, simprocAttr]) <;> (try simp only [go_sem, simprocAttr] at hg) <;> (try (exfalso; omega))) | ((with_reducible refine fe ?_); refine ⟨_, (by simp only [Try.f13, h5,go_sem, simprocAttr]; rfl), ?_⟩; first | rfl | (try simp only [h5,go_sem, simprocAttr, seval])) | with_reducible intro (ep : Nat → Nat) | with_reducible apply_assumption -exfalso -symm only [*])
     clear hK
     repeat' (first | (with_reducible refine sk ?_; intro K hK) | ((with_reducible first | refine rg (md := { base := 0, own := [9, 12] }) (h := ?_) | refine rgS [9, 12] (md := { base := 0, own := [9, 12] }) (h := ?_) | refine nx ?_); try simp (disch := omega) only [go_sem, simprocAttr]) | (with_reducible refine bk ?_) | ((with_reducible refine' cE ?hv ?_ ?_); (case hv => first | rfl | (simp only [go_sem, simprocAttr]; rfl)); all_goals (intro hc; (try simp only [go_sem, simprocAttr] at hc); try (exfalso; omega))) | ((with_reducible first | refine grdS_split ?_ ?_ | refine lkG_split ?_ ?_) <;> intro hg <;> (try simp (disch := omega) only [hg, go_sem, simprocAttr]) <;> (try simp only [go_sem, simprocAttr] at hg) <;> (try (exfalso; omega))) | with_reducible intro (ep : Nat → Nat) | with_reducible apply_assumption -exfalso -symm only [*])
     refine AW_range tabOK O.length (fun k f H => (f 5 = .bool true ∧ f 7 = .lst 1 (ints l) ∧ f 11 = .lst 1 (ints O)) ∧ ∀ j, j < k → O[j]? = l[j]?) (by omega) (by rw [hXs]; decide) (by decide) (by (first | rfl | (simp only [go_sem, simprocAttr]; done) | (simp only [go_sem, simprocAttr]; rfl))) (by (first | rfl | (simp only [go_sem, simprocAttr]; done) | (simp only [go_sem, simprocAttr]; rfl)))
      ⟨by (and_intros <;> first | rfl | (simp only [go_sem, simprocAttr]; done) | (simp only [go_sem, simprocAttr]; rfl)), fun j hj => by omega⟩ ?_ ?_
     ·clear hcut
      rintro k f H hk h121 h120 ⟨⟨h5, h7, h11⟩, hpre⟩
      obtain ⟨x, hx⟩ : ∃ x, O[k]? = some x := ⟨_, List.getElem?_eq_getElem hk⟩
      obtain ⟨y, hy⟩ : ∃ y, l[k]? = some y := ⟨_, List.getElem?_eq_getElem (by omega)⟩
      by_cases hxy : x = y
      ·subst hxy
       repeat' (first | (with_reducible refine sk ?_; intro K hK) | ((with_reducible first | refine rg (md := { base := 0, own := [9, 12] }) (h := ?_) | refine rgS [9, 12] (md := { base := 0, own := [9, 12] }) (h := ?_) | refine nx ?_); try simp (disch := omega) only [h5, h7, h11, h120, h121, hx, hy,go_sem, simprocAttr]) | (with_reducible refine bk ?_) | ((with_reducible refine' cE ?hv ?_ ?_); (case hv => first | rfl | (simp only [h5, h7, h11, h120, h121, hx, hy,go_sem, simprocAttr]; rfl)); all_goals (intro hc; (try simp only [go_sem, simprocAttr] at hc); try (exfalso; omega))) | ((with_reducible first | refine grdS_split ?_ ?_ | refine lkG_split ?_ ?_) <;> intro hg <;> (try simp (disch := omega) only [hg, h5, h7, h11, h120, h121, hx, hy,go_sem, simprocAttr]) <;> (try simp only [go_sem, simprocAttr] at hg) <;> (try (exfalso; omega))) | with_reducible intro (ep : Nat → Nat) | with_reducible apply_assumption -exfalso -symm only [*])
       intro j hj
       by_cases hjk : j = k
       ·subst hjk; rw [hx, hy]
       ·exact hpre j (by omega)
      ·have hyx := bef_at hbo (by omega) hpre hx hy hxy
       repeat' (first | (with_reducible refine sk ?_; intro K hK) | ((with_reducible first | refine rg (md := { base := 0, own := [9, 12] }) (h := ?_) | refine rgS [9, 12] (md := { base := 0, own := [9, 12] }) (h := ?_) | refine nx ?_); try simp (disch := omega) only [h5, h7, h11, h120, h121, hx, hy, hxy, hyx,go_sem, simprocAttr]) | (with_reducible refine bk ?_) | ((with_reducible refine' cE ?hv ?_ ?_); (case hv => first | rfl | (simp only [h5, h7, h11, h120, h121, hx, hy, hxy, hyx,go_sem, simprocAttr]; rfl)); all_goals (intro hc; (try simp only [go_sem, simprocAttr] at hc); try (exfalso; omega))) | ((with_reducible first | refine grdS_split ?_ ?_ | refine lkG_split ?_ ?_) <;> intro hg <;> (try simp (disch := omega) only [hg, h5, h7, h11, h120, h121, hx, hy, hxy, hyx,go_sem, simprocAttr]) <;> (try simp only [go_sem, simprocAttr] at hg) <;> (try (exfalso; omega))) | ((with_reducible refine fe ?_); refine ⟨_, (by simp only [Try.f13, h5, h7, h11, h120, h121, hx, hy, hxy, hyx,go_sem, simprocAttr]; rfl), ?_⟩; first | rfl | (try simp only [h5, h7, h11, h120, h121, hx, hy, hxy, hyx,go_sem, simprocAttr, seval])) | with_reducible intro (ep : Nat → Nat) | with_reducible apply_assumption -exfalso -symm only [*])
     ·rintro f H h121 h120 ⟨⟨h5, h7, h11⟩, hpre⟩
      exact hcut _ _ (by (first | rfl | (simp only [h5, go_sem, simprocAttr]; done) | (simp only [h5, go_sem, simprocAttr]; rfl)))
    ·repeat' (first | (with_reducible refine sk ?_; intro K hK) | ((first | (with_reducible first | refine rg (md := { base := 0, own := [9, 12] }) (h := ?_) | refine rgS [9, 12] (md := { base := 0, own := [9, 12] }) (h := ?_) | refine nx ?_) | refine pK (alive_run) ?_ | refine pK (hrd) ?_ | refine pK (hmo) ?_ | refine pK (hop) ?_ | refine pK (hgl) ?_ | refine pK (hso) ?_ | refine pK (hgt) ?_); try simp (disch := omega) only [encNet, cNet, hnn, hl0, hn1, hn2, hn3, hn4, hk2, hkk, hn5, hll2,go_sem, simprocAttr]) | (with_reducible refine bk ?_) | ((with_reducible refine' cE ?hv ?_ ?_); (case hv => first | rfl | (simp only [encNet, cNet, hnn, hl0, hn1, hn2, hn3, hn4, hk2, hkk, hn5, hll2,go_sem, simprocAttr]; rfl)); all_goals (intro hc; (try simp only [go_sem, simprocAttr] at hc); try (exfalso; omega))) | ((with_reducible first | refine grdS_split ?_ ?_ | refine lkG_split ?_ ?_) <;> intro hg <;> (try simp (disch := omega) only [hg, encNet, cNet, hnn, hl0, hn1, hn2, hn3, hn4, hk2, hkk, hn5, hll2,go_sem, simprocAttr]) <;> (try simp only [go_sem, simprocAttr] at hg) <;> (try (exfalso; omega))) | ((with_reducible refine fe ?_); refine ⟨_, (by simp only [Try.f13, encNet, cNet, hnn, hl0, hn1, hn2, hn3, hn4, hk2, hkk, hn5, hll2,go_sem, simprocAttr]; rfl), ?_⟩; first | rfl | (try simp only [encNet, cNet, hnn, hl0, hn1, hn2, hn3, hn4, hk2, hkk, hn5, hll2,go_sem, simprocAttr, seval])) | with_reducible intro (ep : Nat → Nat) | with_reducible apply_assumption -exfalso -symm only [*])
     all_goals (exfalso; simp at hg)
 ·simp only [Bool.not_eq_true] at hr
  rw [hr] at hrd
  refine PureC_of (fn := Try.f13) tabOK (by kernel_rfl) rfl (by kernel_rfl) (by simp [Try.f13]) (by simp [noids, noid, noidss, go_sem, encNet, cNet]) (by first | rfl | simp [noids, noid, noidss, go_sem, encNet, cNet]) ?_
  intro X hX0 hXs
  repeat' (first | (with_reducible refine sk ?_; intro K hK) | ((first | (with_reducible first | refine rg (md := { base := 0, own := [9, 12] }) (h := ?_) | refine rgS [9, 12] (md := { base := 0, own := [9, 12] }) (h := ?_) | refine nx ?_) | refine pK (alive_run) ?_ | refine pK (hrd) ?_); try simp (disch := omega) only [encNet, cNet,go_sem, simprocAttr]) | (with_reducible refine bk ?_) | ((with_reducible refine' cE ?hv ?_ ?_); (case hv => first | rfl | (simp only [encNet, cNet,go_sem, simprocAttr]; rfl)); all_goals (intro hc; (try simp only [go_sem, simprocAttr] at hc); try (exfalso; omega))) | ((with_reducible first | refine grdS_split ?_ ?_ | refine lkG_split ?_ ?_) <;> intro hg <;> (try simp (disch := omega) only [hg, encNet, cNet,go_sem, simprocAttr]) <;> (try simp only [go_sem, simprocAttr] at hg) <;> (try (exfalso; omega))) | ((with_reducible refine fe ?_); refine ⟨_, (by simp only [Try.f13, encNet, cNet,go_sem, simprocAttr]; rfl), ?_⟩; first | rfl | (try simp only [encNet, cNet,go_sem, simprocAttr, seval])) | with_reducible intro (ep : Nat → Nat) | with_reducible apply_assumption -exfalso -symm only [*])
end Cp
