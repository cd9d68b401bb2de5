/- Rules, facts and contracts that the statement's proof leans on. Conditions: none. -/
import Derived.Test.YtfpbidbjgigljaaP10
set_option linter.unusedVariables false
set_option linter.unusedSimpArgs false
set_option linter.unusedSectionVars false
namespace Cp
open Go Go.Proofs
set_option maxRecDepth 10000
set_option maxHeartbeats 4000000
theorem named_law (n : NetT) (b : Int) (b0 : 0 ≤ b) (b1 : b ≤ 255) (c : Int) (c0 : 0 ≤ c) (c1 : c ≤ 255) : PureC Try.prog 8 [encNet n, .int .u8 b, .int .u8 c] (.bool true) := by
 have hrd := ready_ok n
 simp only [encNet, cNet] at hrd
 by_cases hr : (!greatN n && netOK n) = true
 ·have hr2 : greatN n = false ∧ netOK n = true := by simpa using hr
  have hs := great_small hr2.1
  have hF := net_facts hr2.2
  have hpq := hF.pumps
  have hhl := hF.heads
  rw [hr] at hrd
  have hso := some_ok n (by omega) b ⟨b0, b1⟩
  have hid := idle_ok n (by omega) c ⟨c0, c1⟩
  have hopen := some_ok' hF b
  have hno := idle_ok' hF c
  obtain ⟨ho1, ho2⟩ := okL_none hopen
  obtain ⟨q1, q2, q3⟩ := out_facts hno
  have hol : (someL n.heads b).length ≤ n.heads.length := someF_len
  have hoo := hF.out
  have hgt := Gets_ok n hs (someL n.heads b) (by omega)
  unfold getsD at hgt
  rw [if_pos hr2.2, if_pos hopen] at hgt
  have hw := worst_ok n hF
  have hT := tru_end hF false
  have hwl := well_ok n hF (someL n.heads b) (by omega) hopen (idleL n c) hno _ _ hT (tankH n false)
  have hlen := openH_len' ho1
  have h5 := openH_500 hF (someL n.heads b)
  have hnd := fun h hm => openH_node hF (l := someL n.heads b) (h := h) hm
  rw [well_worst hF h5 hnd hno false] at hwl
  have hfl := flow_ok n hF (someL n.heads b) (by omega) ho1
  have hat := fun id => at_ok n (by omega) id
  have hgf := gets_facts hF.out.1 (openH n.heads (someL n.heads b))
  have hge := fun k a x ha hx => openH_get (k := k) (a := a) (x := x) ho1 ha hx
  have hps := fun ou hno => presses_end n hF (someL n.heads b) (by omega) hopen ou hno false (tankH n false)
  have hte : tankH n false = n.tank.lo := rfl
  have hnb := needs_bnd h5
  have hmn := hF.mins
  simp only [show fullE false = fun p : PumpT => p.full.lo from rfl, show foulE false = fun p : PipeT => p.foul.hi from rfl, hte] at hps hwl hw
  obtain ⟨O, hO⟩ : ∃ O, someL n.heads b = O := ⟨_, rfl⟩
  obtain ⟨I, hI⟩ : ∃ I, idleL n c = I := ⟨_, rfl⟩
  simp only [hO] at *
  simp only [hI] at *
  obtain ⟨L, hL⟩ : ∃ L, openH n.heads O = L := ⟨_, rfl⟩
  simp only [hL] at *
  obtain ⟨PL, hPL⟩ : ∃ x, (n.pumps.map fun p => p.full.lo) = x := ⟨_, rfl⟩
  obtain ⟨FL, hFL⟩ : ∃ x, (n.pipes.map fun p => p.foul.hi) = x := ⟨_, rfl⟩
  simp only [hPL, hFL] at *
  have hBB : (lackS n L I false).2 = badO n L I := rfl
  rw [hBB] at hwl
  obtain ⟨⟨kn, hd, ou⟩, hG⟩ : ∃ G, getsS n L = G := ⟨_, rfl⟩
  rw [hG] at hgf hgt
  simp only [lackV] at hgt
  simp only [encNet, cNet, truV] at hso hid hgt hwl hw hfl hat
  have hmul : 0 ≤ needs L * n.mins ∧ needs L * n.mins ≤ 4000 * 600 := ⟨Int.mul_nonneg (by omega) hmn.1, Int.mul_le_mul (by omega) hmn.2 hmn.1 (by omega)⟩
  by_cases hk2 : kn = 2
  ·obtain ⟨y1, y2, y3⟩ := hgf.yes hk2
   simp only at y1 y2
   subst hk2 y1 y2
   rw [y3 I hno] at hwl
   refine PureC_of (fn := Try.f8) tabOK (by kernel_rfl) rfl (by kernel_rfl) (by simp [Try.f8]) (by simp [noids, noid, noidss, go_sem, encNet, cNet]) (by first | rfl | simp [noids, noid, noidss, go_sem, encNet, cNet]) ?_
   intro X hX0 hXs
   repeat' (first | (with_reducible refine sk ?_; intro K hK) | ((first | (with_reducible first | refine rg (md := { base := 0, own := [10] }) (h := ?_) | refine rgS [10] (md := { base := 0, own := [10] }) (h := ?_) | refine nx ?_) | refine pK (alive_run) ?_ | refine pK (hrd) ?_ | refine pK (hso) ?_ | refine pK (hid) ?_ | refine pK (hgt) ?_ | refine pK (hw) ?_ | refine pK (hwl) ?_); try simp (disch := omega) only [encNet, cNet,go_sem, simprocAttr]) | (with_reducible refine bk ?_) | ((with_reducible refine' cE ?hv ?_ ?_); (case hv => first | rfl | (simp only [encNet, cNet,go_sem, simprocAttr]; rfl)); all_goals (intro hc; (try simp only [go_sem, simprocAttr] at hc); try (exfalso; omega))) | ((with_reducible first | refine grdS_split ?_ ?_ | refine lkG_split ?_ ?_) <;> intro hg <;> (try simp (disch := omega) only [hg, encNet, cNet,go_sem, simprocAttr]) <;> (try simp only [go_sem, simprocAttr] at hg) <;> (try (exfalso; omega))) | ((with_reducible refine fe ?_); refine ⟨_, (by simp only [Try.f8, encNet, cNet,go_sem, simprocAttr]; rfl), ?_⟩; first | rfl | (try simp only [encNet, cNet,go_sem, simprocAttr, seval])) | with_reducible intro (ep : Nat → Nat) | with_reducible apply_assumption -exfalso -symm only [*])
  ·obtain ⟨z1, z2, z3, z4⟩ := hgf.bad hk2
   simp only at z1 z2 z3 z4
   have hps' := hps ou z1
   obtain ⟨o1, o2, o3⟩ := out_facts z1
   have z4' := z4 I hno
   obtain ⟨B, hB⟩ : ∃ B, badO n L I = B := ⟨_, rfl⟩
   rw [hB] at hwl z4'
   have hk2' : kn = 0 ∨ kn = 1 := by have := hgf.kn; simp only at this; omega
   simp only [encNet, cNet, truV] at hps'
   clear hgf z4 hps
   refine PureC_of (fn := Try.f8) tabOK (by kernel_rfl) rfl (by kernel_rfl) (by simp [Try.f8]) (by simp [noids, noid, noidss, go_sem, encNet, cNet]) (by first | rfl | simp [noids, noid, noidss, go_sem, encNet, cNet]) ?_
   intro X hX0 hXs
   repeat' (first | ((fail_if_success (with_reducible refine AW_at (id := 13) ?_)); with_reducible refine sk ?_; intro K hK) | ((first | (with_reducible first | refine rg (md := { base := 0, own := [10] }) (h := ?_) | refine rgS [10] (md := { base := 0, own := [10] }) (h := ?_) | refine nx ?_) | refine pK (alive_run) ?_ | refine pK (hrd) ?_ | refine pK (hso) ?_ | refine pK (hid) ?_ | refine pK (hgt) ?_ | refine pK (hw) ?_ | refine pK (hwl) ?_); try simp (disch := omega) only [encNet, cNet, hk2,go_sem, simprocAttr]) | (with_reducible refine bk ?_) | ((with_reducible refine' cE ?hv ?_ ?_); (case hv => first | rfl | (simp only [encNet, cNet, hk2,go_sem, simprocAttr]; rfl)); all_goals (intro hc; (try simp only [go_sem, simprocAttr] at hc); try (exfalso; omega))) | ((with_reducible first | refine grdS_split ?_ ?_ | refine lkG_split ?_ ?_) <;> intro hg <;> (try simp (disch := omega) only [hg, encNet, cNet, hk2,go_sem, simprocAttr]) <;> (try simp only [go_sem, simprocAttr] at hg) <;> (try (exfalso; omega))) | ((with_reducible refine fe ?_); refine ⟨_, (by simp only [Try.f8, encNet, cNet, hk2,go_sem, simprocAttr]; rfl), ?_⟩; first | rfl | (try simp only [encNet, cNet, hk2,go_sem, simprocAttr, seval])) | with_reducible intro (ep : Nat → Nat) | with_reducible apply_assumption -exfalso -symm only [*])
   have hoN : (ou.length : Int) ≤ n.out := o3
   have hcut1 : ∀ e f H, (f 3 = .pim (cNet n) ∧ f 7 = .bool true ∧ f 8 = .lst 1 (ints O) ∧ f 9 = .lst 1 (ints I) ∧ f 10 = .ptr 10 e 3 0 0 ∧ f 12 = .bool B) ∧ H 10 = some (e, .arr 3 [[.int .u8 kn, .int .i64 hd, .lst 1 (ints ou)]]) → K f H := by
    rintro e f H ⟨⟨h3, h7, h8, h9, h10, h12⟩, g10⟩
    refine hK f H ?_
    clear hK
    have hoN' : ¬ n.out < (ou.length : Int) := by omega
    repeat' (first | ((fail_if_success (with_reducible refine AW_at (id := 22) ?_)); with_reducible refine sk ?_; intro K hK) | ((with_reducible first | refine rg (md := { base := 0, own := [10] }) (h := ?_) | refine rgS [10] (md := { base := 0, own := [10] }) (h := ?_) | refine nx ?_); try simp (disch := omega) only [h3, h7, h8, h9, h10, h12, g10, hoN', cNet,go_sem, simprocAttr]) | (with_reducible refine bk ?_) | ((with_reducible refine' cE ?hv ?_ ?_); (case hv => first | rfl | (simp only [h3, h7, h8, h9, h10, h12, g10, hoN', cNet,go_sem, simprocAttr]; rfl)); all_goals (intro hc; (try simp only [go_sem, simprocAttr] at hc); try (exfalso; omega))) | ((with_reducible first | refine grdS_split ?_ ?_ | refine lkG_split ?_ ?_) <;> intro hg <;> (try simp (disch := omega) only [hg, h3, h7, h8, h9, h10, h12, g10, hoN', cNet,go_sem, simprocAttr]) <;> (try simp only [go_sem, simprocAttr] at hg) <;> (try (exfalso; omega))) | ((with_reducible refine fe ?_); refine ⟨_, (by simp only [Try.f8, h3, h7, h8, h9, h10, h12, g10, hoN', cNet,go_sem, simprocAttr]; rfl), ?_⟩; first | rfl | (try simp only [h3, h7, h8, h9, h10, h12, g10, hoN', cNet,go_sem, simprocAttr, seval])) | with_reducible intro (ep : Nat → Nat) | with_reducible apply_assumption -exfalso -symm only [*])
    have hcut2 : ∀ e f H, (f 3 = .pim (cNet n) ∧ f 7 = .bool true ∧ f 8 = .lst 1 (ints O) ∧ f 9 = .lst 1 (ints I) ∧ f 10 = .ptr 10 e 3 0 0 ∧ f 12 = .bool B ∧ f 15 = .bool (L.any (lowH n L ou))) ∧ H 10 = some (e, .arr 3 [[.int .u8 kn, .int .i64 hd, .lst 1 (ints ou)]]) → K f H := by
     clear h3 h7 h8 h9 h10 h12 g10
     rintro e f H ⟨⟨h3, h7, h8, h9, h10, h12, h15⟩, g10⟩
     refine hK f H ?_
     clear hK
     cases hfd : L.any (lowH n L ou) with
     | true =>
      rw [hfd] at h15
      cases B with
      | false =>
       repeat' (first | (with_reducible refine sk ?_; intro K hK) | ((first | (with_reducible first | refine rg (md := { base := 0, own := [10] }) (h := ?_) | refine rgS [10] (md := { base := 0, own := [10] }) (h := ?_) | refine nx ?_) | refine pK (hfl) ?_); try simp (disch := omega) only [h3, h7, h8, h9, h10, h12, h15, g10, cNet,go_sem, simprocAttr]) | (with_reducible refine bk ?_) | ((with_reducible refine' cE ?hv ?_ ?_); (case hv => first | rfl | (simp only [h3, h7, h8, h9, h10, h12, h15, g10, cNet,go_sem, simprocAttr]; rfl)); all_goals (intro hc; (try simp only [go_sem, simprocAttr] at hc); try (exfalso; omega))) | ((with_reducible first | refine grdS_split ?_ ?_ | refine lkG_split ?_ ?_) <;> intro hg <;> (try simp (disch := omega) only [hg, h3, h7, h8, h9, h10, h12, h15, g10, cNet,go_sem, simprocAttr]) <;> (try simp only [go_sem, simprocAttr] at hg) <;> (try (exfalso; omega))) | ((with_reducible refine fe ?_); refine ⟨_, (by simp only [Try.f8, h3, h7, h8, h9, h10, h12, h15, g10, cNet,go_sem, simprocAttr]; rfl), ?_⟩; first | rfl | (try simp only [h3, h7, h8, h9, h10, h12, h15, g10, cNet,go_sem, simprocAttr, seval])) | with_reducible intro (ep : Nat → Nat) | with_reducible apply_assumption -exfalso -symm only [*])
      | true =>
       have z5 := z4' rfl
       by_cases hll : I.length = ou.length
       ·repeat' (first | ((fail_if_success (with_reducible refine AW_at (id := 36) ?_)); with_reducible refine sk ?_; intro K hK) | ((first | (with_reducible first | refine rg (md := { base := 0, own := [10] }) (h := ?_) | refine rgS [10] (md := { base := 0, own := [10] }) (h := ?_) | refine nx ?_) | refine pK (hfl) ?_); try simp (disch := omega) only [h3, h7, h8, h9, h10, h12, h15, g10, hll, cNet,go_sem, simprocAttr]) | (with_reducible refine bk ?_) | ((with_reducible refine' cE ?hv ?_ ?_); (case hv => first | rfl | (simp only [h3, h7, h8, h9, h10, h12, h15, g10, hll, cNet,go_sem, simprocAttr]; rfl)); all_goals (intro hc; (try simp only [go_sem, simprocAttr] at hc); try (exfalso; omega))) | ((with_reducible first | refine grdS_split ?_ ?_ | refine lkG_split ?_ ?_) <;> intro hg <;> (try simp (disch := omega) only [hg, h3, h7, h8, h9, h10, h12, h15, g10, hll, cNet,go_sem, simprocAttr]) <;> (try simp only [go_sem, simprocAttr] at hg) <;> (try (exfalso; omega))) | with_reducible intro (ep : Nat → Nat) | with_reducible apply_assumption -exfalso -symm only [*])
        have hcut3 : ∀ f H, f 7 = .bool true → K f H := by
         intro f H h7
         refine hK f H ?_
         clear hK
         repeat' (first | (with_reducible refine sk ?_; intro K hK) | ((with_reducible first | refine rg (md := { base := 0, own := [10] }) (h := ?_) | refine rgS [10] (md := { base := 0, own := [10] }) (h := ?_) | refine nx ?_); try simp (disch := omega) only [h7,go_sem, simprocAttr]) | (with_reducible refine bk ?_) | ((with_reducible refine' cE ?hv ?_ ?_); (case hv => first | rfl | (simp only [h7,go_sem, simprocAttr]; rfl)); all_goals (intro hc; (try simp only [go_sem, simprocAttr] at hc); try (exfalso; omega))) | ((with_reducible first | refine grdS_split ?_ ?_ | refine lkG_split ?_ ?_) <;> intro hg <;> (try simp (disch := omega) only [hg, h7,go_sem, simprocAttr]) <;> (try simp only [go_sem, simprocAttr] at hg) <;> (try (exfalso; omega))) | ((with_reducible refine fe ?_); refine ⟨_, (by simp only [Try.f8, h7,go_sem, simprocAttr]; rfl), ?_⟩; first | rfl | (try simp only [h7,go_sem, simprocAttr, seval])) | with_reducible intro (ep : Nat → Nat) | with_reducible apply_assumption -exfalso -symm only [*])
        clear hK
        repeat' (first | (with_reducible refine sk ?_; intro K hK) | ((with_reducible first | refine rg (md := { base := 0, own := [10] }) (h := ?_) | refine rgS [10] (md := { base := 0, own := [10] }) (h := ?_) | refine nx ?_); try simp (disch := omega) only [h3, h7, h8, h9, h10, h12, h15, g10, cNet,go_sem, simprocAttr]) | (with_reducible refine bk ?_) | ((with_reducible refine' cE ?hv ?_ ?_); (case hv => first | rfl | (simp only [h3, h7, h8, h9, h10, h12, h15, g10, cNet,go_sem, simprocAttr]; rfl)); all_goals (intro hc; (try simp only [go_sem, simprocAttr] at hc); try (exfalso; omega))) | ((with_reducible first | refine grdS_split ?_ ?_ | refine lkG_split ?_ ?_) <;> intro hg <;> (try simp (disch := omega) only [hg, h3, h7, h8, h9, h10, h12, h15, g10, cNet,go_sem, simprocAttr]) <;> (try simp only [go_sem, simprocAttr] at hg) <;> (try (exfalso; omega))) | with_reducible intro (ep : Nat → Nat) | with_reducible apply_assumption -exfalso -symm only [*])
        refine AW_range tabOK I.length (fun k f H => ∃ e, (f 7 = .bool true ∧ f 9 = .lst 1 (ints I) ∧ f 10 = .ptr 10 e 3 0 0) ∧ H 10 = some (e, .arr 3 [[.int .u8 kn, .int .i64 hd, .lst 1 (ints ou)]]) ∧ ∀ j, j < k → I[j]? = ou[j]?) (by omega) (by rw [hXs]; decide) (by decide) (by (first | rfl | (simp only [go_sem, simprocAttr]; done) | (simp only [go_sem, simprocAttr]; rfl))) (by (first | rfl | (simp only [h9, go_sem, simprocAttr]; done) | (simp only [h9, go_sem, simprocAttr]; rfl)))
         ⟨_, by (and_intros <;> first | rfl | (simp only [h7, h9, h10, go_sem, simprocAttr]; done) | (simp only [h7, h9, h10, go_sem, simprocAttr]; rfl)), by (first | rfl | (simp only [g10, go_sem, simprocAttr]; done) | (simp only [g10, go_sem, simprocAttr]; rfl)), fun j hj => by omega⟩ ?_ ?_
        ·clear hcut3 h3 h7 h8 h9 h10 h12 h15 g10
         rintro k f H hk h189 h188 ⟨e, ⟨h7, h9, h10⟩, g10, hpre⟩
         obtain ⟨x, hx⟩ : ∃ x, I[k]? = some x := ⟨_, List.getElem?_eq_getElem hk⟩
         obtain ⟨y, hy⟩ : ∃ y, ou[k]? = some y := ⟨_, List.getElem?_eq_getElem (by omega)⟩
         by_cases hxy : x = y
         ·subst hxy
          repeat' (first | (with_reducible refine sk ?_; intro K hK) | ((with_reducible first | refine rg (md := { base := 0, own := [10] }) (h := ?_) | refine rgS [10] (md := { base := 0, own := [10] }) (h := ?_) | refine nx ?_); try simp (disch := omega) only [h7, h9, h10, h188, h189, g10, hx, hy,go_sem, simprocAttr]) | (with_reducible refine bk ?_) | ((with_reducible refine' cE ?hv ?_ ?_); (case hv => first | rfl | (simp only [h7, h9, h10, h188, h189, g10, hx, hy,go_sem, simprocAttr]; rfl)); all_goals (intro hc; (try simp only [go_sem, simprocAttr] at hc); try (exfalso; omega))) | ((with_reducible first | refine grdS_split ?_ ?_ | refine lkG_split ?_ ?_) <;> intro hg <;> (try simp (disch := omega) only [hg, h7, h9, h10, h188, h189, g10, hx, hy,go_sem, simprocAttr]) <;> (try simp only [go_sem, simprocAttr] at hg) <;> (try (exfalso; omega))) | with_reducible intro (ep : Nat → Nat) | with_reducible apply_assumption -exfalso -symm only [*])
          exact ⟨e, rfl, rfl, fun j hj => by
           by_cases hjk : j = k
           ·subst hjk; rw [hx, hy]
           ·exact hpre j (by omega)⟩
         ·have hyx := bef_at z5 hll hpre hx hy hxy
          repeat' (first | (with_reducible refine sk ?_; intro K hK) | ((with_reducible first | refine rg (md := { base := 0, own := [10] }) (h := ?_) | refine rgS [10] (md := { base := 0, own := [10] }) (h := ?_) | refine nx ?_); try simp (disch := omega) only [h7, h9, h10, h188, h189, g10, hx, hy, hxy, hyx,go_sem, simprocAttr]) | (with_reducible refine bk ?_) | ((with_reducible refine' cE ?hv ?_ ?_); (case hv => first | rfl | (simp only [h7, h9, h10, h188, h189, g10, hx, hy, hxy, hyx,go_sem, simprocAttr]; rfl)); all_goals (intro hc; (try simp only [go_sem, simprocAttr] at hc); try (exfalso; omega))) | ((with_reducible first | refine grdS_split ?_ ?_ | refine lkG_split ?_ ?_) <;> intro hg <;> (try simp (disch := omega) only [hg, h7, h9, h10, h188, h189, g10, hx, hy, hxy, hyx,go_sem, simprocAttr]) <;> (try simp only [go_sem, simprocAttr] at hg) <;> (try (exfalso; omega))) | ((with_reducible refine fe ?_); refine ⟨_, (by simp only [Try.f8, h7, h9, h10, h188, h189, g10, hx, hy, hxy, hyx,go_sem, simprocAttr]; rfl), ?_⟩; first | rfl | (try simp only [h7, h9, h10, h188, h189, g10, hx, hy, hxy, hyx,go_sem, simprocAttr, seval])) | with_reducible intro (ep : Nat → Nat) | with_reducible apply_assumption -exfalso -symm only [*])
        ·rintro f H h189 h188 ⟨e, ⟨h7, h9, h10⟩, g10, hpre⟩
         exact hcut3 _ _ (by (first | rfl | (simp only [h7, go_sem, simprocAttr]; done) | (simp only [h7, go_sem, simprocAttr]; rfl)))
       ·have hlt := bef_len z5 hll
        have hlt' : (ou.length : Int) < (I.length : Int) := by omega
        have hll' : ¬ (I.length : Int) = (ou.length : Int) := by omega
        repeat' (first | (with_reducible refine sk ?_; intro K hK) | ((first | (with_reducible first | refine rg (md := { base := 0, own := [10] }) (h := ?_) | refine rgS [10] (md := { base := 0, own := [10] }) (h := ?_) | refine nx ?_) | refine pK (hfl) ?_); try simp (disch := omega) only [h3, h7, h8, h9, h10, h12, h15, g10, hll', hlt', cNet,go_sem, simprocAttr]) | (with_reducible refine bk ?_) | ((with_reducible refine' cE ?hv ?_ ?_); (case hv => first | rfl | (simp only [h3, h7, h8, h9, h10, h12, h15, g10, hll', hlt', cNet,go_sem, simprocAttr]; rfl)); all_goals (intro hc; (try simp only [go_sem, simprocAttr] at hc); try (exfalso; omega))) | ((with_reducible first | refine grdS_split ?_ ?_ | refine lkG_split ?_ ?_) <;> intro hg <;> (try simp (disch := omega) only [hg, h3, h7, h8, h9, h10, h12, h15, g10, hll', hlt', cNet,go_sem, simprocAttr]) <;> (try simp only [go_sem, simprocAttr] at hg) <;> (try (exfalso; omega))) | ((with_reducible refine fe ?_); refine ⟨_, (by simp only [Try.f8, h3, h7, h8, h9, h10, h12, h15, g10, hll', hlt', cNet,go_sem, simprocAttr]; rfl), ?_⟩; first | rfl | (try simp only [h3, h7, h8, h9, h10, h12, h15, g10, hll', hlt', cNet,go_sem, simprocAttr, seval])) | with_reducible intro (ep : Nat → Nat) | with_reducible apply_assumption -exfalso -symm only [*])
     | false =>
      obtain ⟨y1, y2⟩ := low_tank z2 hfd
      have hd1 : hd = -1 := by rw [z3, y1]
      have y3 : ¬ needs L * n.mins ≤ n.tank.lo := by omega
      rw [hfd] at h15
      subst hd1
      cases B with
      | false =>
       repeat' (first | (with_reducible refine sk ?_; intro K hK) | ((first | (with_reducible first | refine rg (md := { base := 0, own := [10] }) (h := ?_) | refine rgS [10] (md := { base := 0, own := [10] }) (h := ?_) | refine nx ?_) | refine pK (hfl) ?_); try simp (disch := omega) only [h3, h7, h8, h9, h10, h12, h15, g10, y3, cNet,go_sem, simprocAttr]) | (with_reducible refine bk ?_) | ((with_reducible refine' cE ?hv ?_ ?_); (case hv => first | rfl | (simp only [h3, h7, h8, h9, h10, h12, h15, g10, y3, cNet,go_sem, simprocAttr]; rfl)); all_goals (intro hc; (try simp only [go_sem, simprocAttr] at hc); try (exfalso; omega))) | ((with_reducible first | refine grdS_split ?_ ?_ | refine lkG_split ?_ ?_) <;> intro hg <;> (try simp (disch := omega) only [hg, h3, h7, h8, h9, h10, h12, h15, g10, y3, cNet,go_sem, simprocAttr]) <;> (try simp only [go_sem, simprocAttr] at hg) <;> (try (exfalso; omega))) | ((with_reducible refine fe ?_); refine ⟨_, (by simp only [Try.f8, h3, h7, h8, h9, h10, h12, h15, g10, y3, cNet,go_sem, simprocAttr]; rfl), ?_⟩; first | rfl | (try simp only [h3, h7, h8, h9, h10, h12, h15, g10, y3, cNet,go_sem, simprocAttr, seval])) | with_reducible intro (ep : Nat → Nat) | with_reducible apply_assumption -exfalso -symm only [*])
      | true =>
       have z5 := z4' rfl
       by_cases hll : I.length = ou.length
       ·repeat' (first | ((fail_if_success (with_reducible refine AW_at (id := 36) ?_)); with_reducible refine sk ?_; intro K hK) | ((first | (with_reducible first | refine rg (md := { base := 0, own := [10] }) (h := ?_) | refine rgS [10] (md := { base := 0, own := [10] }) (h := ?_) | refine nx ?_) | refine pK (hfl) ?_); try simp (disch := omega) only [h3, h7, h8, h9, h10, h12, h15, g10, hll, y3, cNet,go_sem, simprocAttr]) | (with_reducible refine bk ?_) | ((with_reducible refine' cE ?hv ?_ ?_); (case hv => first | rfl | (simp only [h3, h7, h8, h9, h10, h12, h15, g10, hll, y3, cNet,go_sem, simprocAttr]; rfl)); all_goals (intro hc; (try simp only [go_sem, simprocAttr] at hc); try (exfalso; omega))) | ((with_reducible first | refine grdS_split ?_ ?_ | refine lkG_split ?_ ?_) <;> intro hg <;> (try simp (disch := omega) only [hg, h3, h7, h8, h9, h10, h12, h15, g10, hll, y3, cNet,go_sem, simprocAttr]) <;> (try simp only [go_sem, simprocAttr] at hg) <;> (try (exfalso; omega))) | with_reducible intro (ep : Nat → Nat) | with_reducible apply_assumption -exfalso -symm only [*])
        have hcut3 : ∀ f H, f 7 = .bool true → K f H := by
         intro f H h7
         refine hK f H ?_
         clear hK
         repeat' (first | (with_reducible refine sk ?_; intro K hK) | ((with_reducible first | refine rg (md := { base := 0, own := [10] }) (h := ?_) | refine rgS [10] (md := { base := 0, own := [10] }) (h := ?_) | refine nx ?_); try simp (disch := omega) only [h7,go_sem, simprocAttr]) | (with_reducible refine bk ?_) | ((with_reducible refine' cE ?hv ?_ ?_); (case hv => first | rfl | (simp only [h7,go_sem, simprocAttr]; rfl)); all_goals (intro hc; (try simp only [go_sem, simprocAttr] at hc); try (exfalso; omega))) | ((with_reducible first | refine grdS_split ?_ ?_ | refine lkG_split ?_ ?_) <;> intro hg <;> (try simp (disch := omega) only [hg, h7,go_sem, simprocAttr]) <;> (try simp only [go_sem, simprocAttr] at hg) <;> (try (exfalso; omega))) | ((with_reducible refine fe ?_); refine ⟨_, (by simp only [Try.f8, h7,go_sem, simprocAttr]; rfl), ?_⟩; first | rfl | (try simp only [h7,go_sem, simprocAttr, seval])) | with_reducible intro (ep : Nat → Nat) | with_reducible apply_assumption -exfalso -symm only [*])
        clear hK
        repeat' (first | (with_reducible refine sk ?_; intro K hK) | ((with_reducible first | refine rg (md := { base := 0, own := [10] }) (h := ?_) | refine rgS [10] (md := { base := 0, own := [10] }) (h := ?_) | refine nx ?_); try simp (disch := omega) only [h3, h7, h8, h9, h10, h12, h15, g10, cNet,go_sem, simprocAttr]) | (with_reducible refine bk ?_) | ((with_reducible refine' cE ?hv ?_ ?_); (case hv => first | rfl | (simp only [h3, h7, h8, h9, h10, h12, h15, g10, cNet,go_sem, simprocAttr]; rfl)); all_goals (intro hc; (try simp only [go_sem, simprocAttr] at hc); try (exfalso; omega))) | ((with_reducible first | refine grdS_split ?_ ?_ | refine lkG_split ?_ ?_) <;> intro hg <;> (try simp (disch := omega) only [hg, h3, h7, h8, h9, h10, h12, h15, g10, cNet,go_sem, simprocAttr]) <;> (try simp only [go_sem, simprocAttr] at hg) <;> (try (exfalso; omega))) | with_reducible intro (ep : Nat → Nat) | with_reducible apply_assumption -exfalso -symm only [*])
        refine AW_range tabOK I.length (fun k f H => ∃ e, (f 7 = .bool true ∧ f 9 = .lst 1 (ints I) ∧ f 10 = .ptr 10 e 3 0 0) ∧ H 10 = some (e, .arr 3 [[.int .u8 kn, .int .i64 (-1), .lst 1 (ints ou)]]) ∧ ∀ j, j < k → I[j]? = ou[j]?) (by omega) (by rw [hXs]; decide) (by decide) (by (first | rfl | (simp only [go_sem, simprocAttr]; done) | (simp only [go_sem, simprocAttr]; rfl))) (by (first | rfl | (simp only [h9, go_sem, simprocAttr]; done) | (simp only [h9, go_sem, simprocAttr]; rfl)))
         ⟨_, by (and_intros <;> first | rfl | (simp only [h7, h9, h10, go_sem, simprocAttr]; done) | (simp only [h7, h9, h10, go_sem, simprocAttr]; rfl)), by (first | rfl | (simp only [g10, go_sem, simprocAttr]; done) | (simp only [g10, go_sem, simprocAttr]; rfl)), fun j hj => by omega⟩ ?_ ?_
        ·clear hcut3 h3 h7 h8 h9 h10 h12 h15 g10
         rintro k f H hk h189 h188 ⟨e, ⟨h7, h9, h10⟩, g10, hpre⟩
         obtain ⟨x, hx⟩ : ∃ x, I[k]? = some x := ⟨_, List.getElem?_eq_getElem hk⟩
         obtain ⟨y, hy⟩ : ∃ y, ou[k]? = some y := ⟨_, List.getElem?_eq_getElem (by omega)⟩
         by_cases hxy : x = y
         ·subst hxy
          repeat' (first | (with_reducible refine sk ?_; intro K hK) | ((with_reducible first | refine rg (md := { base := 0, own := [10] }) (h := ?_) | refine rgS [10] (md := { base := 0, own := [10] }) (h := ?_) | refine nx ?_); try simp (disch := omega) only [h7, h9, h10, h188, h189, g10, hx, hy,go_sem, simprocAttr]) | (with_reducible refine bk ?_) | ((with_reducible refine' cE ?hv ?_ ?_); (case hv => first | rfl | (simp only [h7, h9, h10, h188, h189, g10, hx, hy,go_sem, simprocAttr]; rfl)); all_goals (intro hc; (try simp only [go_sem, simprocAttr] at hc); try (exfalso; omega))) | ((with_reducible first | refine grdS_split ?_ ?_ | refine lkG_split ?_ ?_) <;> intro hg <;> (try simp (disch := omega) only [hg, h7, h9, h10, h188, h189, g10, hx, hy,go_sem, simprocAttr]) <;> (try simp only [go_sem, simprocAttr] at hg) <;> (try (exfalso; omega))) | with_reducible intro (ep : Nat → Nat) | with_reducible apply_assumption -exfalso -symm only [*])
          exact ⟨e, rfl, rfl, fun j hj => by
           by_cases hjk : j = k
           ·subst hjk; rw [hx, hy]
           ·exact hpre j (by omega)⟩
         ·have hyx := bef_at z5 hll hpre hx hy hxy
          repeat' (first | (with_reducible refine sk ?_; intro K hK) | ((with_reducible first | refine rg (md := { base := 0, own := [10] }) (h := ?_) | refine rgS [10] (md := { base := 0, own := [10] }) (h := ?_) | refine nx ?_); try simp (disch := omega) only [h7, h9, h10, h188, h189, g10, hx, hy, hxy, hyx,go_sem, simprocAttr]) | (with_reducible refine bk ?_) | ((with_reducible refine' cE ?hv ?_ ?_); (case hv => first | rfl | (simp only [h7, h9, h10, h188, h189, g10, hx, hy, hxy, hyx,go_sem, simprocAttr]; rfl)); all_goals (intro hc; (try simp only [go_sem, simprocAttr] at hc); try (exfalso; omega))) | ((with_reducible first | refine grdS_split ?_ ?_ | refine lkG_split ?_ ?_) <;> intro hg <;> (try simp (disch := omega) only [hg, h7, h9, h10, h188, h189, g10, hx, hy, hxy, hyx,go_sem, simprocAttr]) <;> (try simp only [go_sem, simprocAttr] at hg) <;> (try (exfalso; omega))) | ((with_reducible refine fe ?_); refine ⟨_, (by simp only [Try.f8, h7, h9, h10, h188, h189, g10, hx, hy, hxy, hyx,go_sem, simprocAttr]; rfl), ?_⟩; first | rfl | (try simp only [h7, h9, h10, h188, h189, g10, hx, hy, hxy, hyx,go_sem, simprocAttr, seval])) | with_reducible intro (ep : Nat → Nat) | with_reducible apply_assumption -exfalso -symm only [*])
        ·rintro f H h189 h188 ⟨e, ⟨h7, h9, h10⟩, g10, hpre⟩
         exact hcut3 _ _ (by (first | rfl | (simp only [h7, go_sem, simprocAttr]; done) | (simp only [h7, go_sem, simprocAttr]; rfl)))
       ·have hlt := bef_len z5 hll
        have hlt' : (ou.length : Int) < (I.length : Int) := by omega
        have hll' : ¬ (I.length : Int) = (ou.length : Int) := by omega
        repeat' (first | (with_reducible refine sk ?_; intro K hK) | ((first | (with_reducible first | refine rg (md := { base := 0, own := [10] }) (h := ?_) | refine rgS [10] (md := { base := 0, own := [10] }) (h := ?_) | refine nx ?_) | refine pK (hfl) ?_); try simp (disch := omega) only [h3, h7, h8, h9, h10, h12, h15, g10, hll', hlt', y3, cNet,go_sem, simprocAttr]) | (with_reducible refine bk ?_) | ((with_reducible refine' cE ?hv ?_ ?_); (case hv => first | rfl | (simp only [h3, h7, h8, h9, h10, h12, h15, g10, hll', hlt', y3, cNet,go_sem, simprocAttr]; rfl)); all_goals (intro hc; (try simp only [go_sem, simprocAttr] at hc); try (exfalso; omega))) | ((with_reducible first | refine grdS_split ?_ ?_ | refine lkG_split ?_ ?_) <;> intro hg <;> (try simp (disch := omega) only [hg, h3, h7, h8, h9, h10, h12, h15, g10, hll', hlt', y3, cNet,go_sem, simprocAttr]) <;> (try simp only [go_sem, simprocAttr] at hg) <;> (try (exfalso; omega))) | ((with_reducible refine fe ?_); refine ⟨_, (by simp only [Try.f8, h3, h7, h8, h9, h10, h12, h15, g10, hll', hlt', y3, cNet,go_sem, simprocAttr]; rfl), ?_⟩; first | rfl | (try simp only [h3, h7, h8, h9, h10, h12, h15, g10, hll', hlt', y3, cNet,go_sem, simprocAttr, seval])) | with_reducible intro (ep : Nat → Nat) | with_reducible apply_assumption -exfalso -symm only [*])
    clear hK
    have hPl : (L.map (pressS n L ou false)).length = L.length := List.length_map ..
    have hPg : ∀ (k : Nat) (x : HeadT), L[k]? = some x → (L.map (pressS n L ou false))[k]? = some (pressS n L ou false x) := fun k x hx => by simp [hx]
    obtain ⟨A, hA⟩ : ∃ A, L.map (pressS n L ou false) = A := ⟨_, rfl⟩
    rw [hA] at hps' hPl
    simp only [hA] at hPg
    repeat' (first | (with_reducible refine sk ?_; intro K hK) | ((first | (with_reducible first | refine rg (md := { base := 0, own := [10] }) (h := ?_) | refine rgS [10] (md := { base := 0, own := [10] }) (h := ?_) | refine nx ?_) | refine pK (hw) ?_ | refine pK (hps') ?_); try simp (disch := omega) only [h3, h7, h8, h9, h10, h12, g10, cNet,go_sem, simprocAttr]) | (with_reducible refine bk ?_) | ((with_reducible refine' cE ?hv ?_ ?_); (case hv => first | rfl | (simp only [h3, h7, h8, h9, h10, h12, g10, cNet,go_sem, simprocAttr]; rfl)); all_goals (intro hc; (try simp only [go_sem, simprocAttr] at hc); try (exfalso; omega))) | ((with_reducible first | refine grdS_split ?_ ?_ | refine lkG_split ?_ ?_) <;> intro hg <;> (try simp (disch := omega) only [hg, h3, h7, h8, h9, h10, h12, g10, cNet,go_sem, simprocAttr]) <;> (try simp only [go_sem, simprocAttr] at hg) <;> (try (exfalso; omega))) | with_reducible intro (ep : Nat → Nat) | with_reducible apply_assumption -exfalso -symm only [*])
    refine AW_range tabOK A.length (fun k f H => ∃ e, (f 3 = .pim (cNet n) ∧ f 7 = .bool true ∧ f 8 = .lst 1 (ints O) ∧ f 9 = .lst 1 (ints I) ∧ f 10 = .ptr 10 e 3 0 0 ∧ f 12 = .bool B ∧ f 15 = .bool ((L.take k).any (lowH n L ou)) ∧ f 111 = .lst 1 (ints A)) ∧ H 10 = some (e, .arr 3 [[.int .u8 kn, .int .i64 hd, .lst 1 (ints ou)]])) (by omega) (by rw [hXs]; decide) (by decide) (by (first | rfl | (simp only [go_sem, simprocAttr]; done) | (simp only [go_sem, simprocAttr]; rfl))) (by (first | rfl | (simp only [go_sem, simprocAttr]; done) | (simp only [go_sem, simprocAttr]; rfl)))
     ⟨_, by (and_intros <;> first | rfl | (simp only [h3, h7, h8, h9, h10, h12, cNet, List.take_zero, List.any_nil, go_sem, simprocAttr]; done) | (simp only [h3, h7, h8, h9, h10, h12, cNet, List.take_zero, List.any_nil, go_sem, simprocAttr]; rfl)), by (first | rfl | (simp only [g10, go_sem, simprocAttr]; done) | (simp only [g10, go_sem, simprocAttr]; rfl))⟩ ?_ ?_
    ·clear hcut2 h3 h7 h8 h9 h10 h12 g10
     rintro k f H hk h113 h112 ⟨e, ⟨h3, h7, h8, h9, h10, h12, h15, h111⟩, g10⟩
     obtain ⟨a, ha⟩ : ∃ a, O[k]? = some a := ⟨_, List.getElem?_eq_getElem (by omega)⟩
     rcases @atI_at n.heads a with ⟨a1, a2⟩ | ⟨i, y, a0, a1, a2⟩
     ·have := ho1 a (List.mem_of_getElem? ha); rw [a1] at this; simp at this
     ·have hLk := hge k a y ha a1
      have hgk := hPg k y hLk
      have han := any_snoc (p := lowH n L ou) hLk
      have hya : y.id = a := (headAt_mem a1).2
      have hsy : lowH n L ou y = decide (pressS n L ou false y < y.least) := rfl
      by_cases hlt : pressS n L ou false y < y.least
      ·rw [decide_eq_true hlt] at hsy
       rw [hsy, Bool.or_true] at han
       cases hny : (L.take k).any (lowH n L ou) with
       | true =>
        rw [hny] at h15
        repeat' (first | (with_reducible refine sk ?_; intro K hK) | ((first | (with_reducible first | refine rg (md := { base := 0, own := [10] }) (h := ?_) | refine rgS [10] (md := { base := 0, own := [10] }) (h := ?_) | refine nx ?_) | refine pK (hat a) ?_); try simp (disch := omega) only [h3, h7, h8, h9, h10, h12, h15, h111, h112, h113, g10, ha, a0, a2, hgk, hlt, cNet, cHead,go_sem, simprocAttr]) | (with_reducible refine bk ?_) | ((with_reducible refine' cE ?hv ?_ ?_); (case hv => first | rfl | (simp only [h3, h7, h8, h9, h10, h12, h15, h111, h112, h113, g10, ha, a0, a2, hgk, hlt, cNet, cHead,go_sem, simprocAttr]; rfl)); all_goals (intro hc; (try simp only [go_sem, simprocAttr] at hc); try (exfalso; omega))) | ((with_reducible first | refine grdS_split ?_ ?_ | refine lkG_split ?_ ?_) <;> intro hg <;> (try simp (disch := omega) only [hg, h3, h7, h8, h9, h10, h12, h15, h111, h112, h113, g10, ha, a0, a2, hgk, hlt, cNet, cHead,go_sem, simprocAttr]) <;> (try simp only [go_sem, simprocAttr] at hg) <;> (try (exfalso; omega))) | with_reducible intro (ep : Nat → Nat) | with_reducible apply_assumption -exfalso -symm only [*])
        exact ⟨e, ⟨rfl, by rw [han]⟩, rfl⟩
       | false =>
        rw [hny] at h15
        have hd1 : hd = a := by rw [z3, low_head hLk hny hsy, hya]
        have hata := hat a
        subst hd1
        repeat' (first | (with_reducible refine sk ?_; intro K hK) | ((first | (with_reducible first | refine rg (md := { base := 0, own := [10] }) (h := ?_) | refine rgS [10] (md := { base := 0, own := [10] }) (h := ?_) | refine nx ?_) | refine pK (hata) ?_); try simp (disch := omega) only [h3, h7, h8, h9, h10, h12, h15, h111, h112, h113, g10, ha, a0, a2, hgk, hlt, cNet, cHead,go_sem, simprocAttr]) | (with_reducible refine bk ?_) | ((with_reducible refine' cE ?hv ?_ ?_); (case hv => first | rfl | (simp only [h3, h7, h8, h9, h10, h12, h15, h111, h112, h113, g10, ha, a0, a2, hgk, hlt, cNet, cHead,go_sem, simprocAttr]; rfl)); all_goals (intro hc; (try simp only [go_sem, simprocAttr] at hc); try (exfalso; omega))) | ((with_reducible first | refine grdS_split ?_ ?_ | refine lkG_split ?_ ?_) <;> intro hg <;> (try simp (disch := omega) only [hg, h3, h7, h8, h9, h10, h12, h15, h111, h112, h113, g10, ha, a0, a2, hgk, hlt, cNet, cHead,go_sem, simprocAttr]) <;> (try simp only [go_sem, simprocAttr] at hg) <;> (try (exfalso; omega))) | with_reducible intro (ep : Nat → Nat) | with_reducible apply_assumption -exfalso -symm only [*])
        exact ⟨e, ⟨rfl, by rw [han]⟩, rfl⟩
      ·rw [decide_eq_false hlt] at hsy
       rw [hsy, Bool.or_false] at han
       cases hny : (L.take k).any (lowH n L ou) with
       | true =>
        rw [hny] at h15 han
        repeat' (first | (with_reducible refine sk ?_; intro K hK) | ((first | (with_reducible first | refine rg (md := { base := 0, own := [10] }) (h := ?_) | refine rgS [10] (md := { base := 0, own := [10] }) (h := ?_) | refine nx ?_) | refine pK (hat a) ?_); try simp (disch := omega) only [h3, h7, h8, h9, h10, h12, h15, h111, h112, h113, g10, ha, a0, a2, hgk, hlt, cNet, cHead,go_sem, simprocAttr]) | (with_reducible refine bk ?_) | ((with_reducible refine' cE ?hv ?_ ?_); (case hv => first | rfl | (simp only [h3, h7, h8, h9, h10, h12, h15, h111, h112, h113, g10, ha, a0, a2, hgk, hlt, cNet, cHead,go_sem, simprocAttr]; rfl)); all_goals (intro hc; (try simp only [go_sem, simprocAttr] at hc); try (exfalso; omega))) | ((with_reducible first | refine grdS_split ?_ ?_ | refine lkG_split ?_ ?_) <;> intro hg <;> (try simp (disch := omega) only [hg, h3, h7, h8, h9, h10, h12, h15, h111, h112, h113, g10, ha, a0, a2, hgk, hlt, cNet, cHead,go_sem, simprocAttr]) <;> (try simp only [go_sem, simprocAttr] at hg) <;> (try (exfalso; omega))) | with_reducible intro (ep : Nat → Nat) | with_reducible apply_assumption -exfalso -symm only [*])
        exact ⟨e, ⟨rfl, by rw [han]⟩, rfl⟩
       | false =>
        rw [hny] at h15 han
        repeat' (first | (with_reducible refine sk ?_; intro K hK) | ((first | (with_reducible first | refine rg (md := { base := 0, own := [10] }) (h := ?_) | refine rgS [10] (md := { base := 0, own := [10] }) (h := ?_) | refine nx ?_) | refine pK (hat a) ?_); try simp (disch := omega) only [h3, h7, h8, h9, h10, h12, h15, h111, h112, h113, g10, ha, a0, a2, hgk, hlt, cNet, cHead,go_sem, simprocAttr]) | (with_reducible refine bk ?_) | ((with_reducible refine' cE ?hv ?_ ?_); (case hv => first | rfl | (simp only [h3, h7, h8, h9, h10, h12, h15, h111, h112, h113, g10, ha, a0, a2, hgk, hlt, cNet, cHead,go_sem, simprocAttr]; rfl)); all_goals (intro hc; (try simp only [go_sem, simprocAttr] at hc); try (exfalso; omega))) | ((with_reducible first | refine grdS_split ?_ ?_ | refine lkG_split ?_ ?_) <;> intro hg <;> (try simp (disch := omega) only [hg, h3, h7, h8, h9, h10, h12, h15, h111, h112, h113, g10, ha, a0, a2, hgk, hlt, cNet, cHead,go_sem, simprocAttr]) <;> (try simp only [go_sem, simprocAttr] at hg) <;> (try (exfalso; omega))) | with_reducible intro (ep : Nat → Nat) | with_reducible apply_assumption -exfalso -symm only [*])
        exact ⟨e, ⟨rfl, by rw [han]⟩, rfl⟩
    ·rintro f H h113 h112 ⟨e, ⟨h3, h7, h8, h9, h10, h12, h15, h111⟩, g10⟩
     rw [hPl, List.take_length] at h15
     exact hcut2 e _ _ ⟨by (and_intros <;> first | rfl | (simp only [h3, h7, h8, h9, h10, h12, h15, go_sem, simprocAttr]; done) | (simp only [h3, h7, h8, h9, h10, h12, h15, go_sem, simprocAttr]; rfl)), g10⟩
   clear hK
   repeat' (first | (with_reducible refine sk ?_; intro K hK) | ((with_reducible first | refine rg (md := { base := 0, own := [10] }) (h := ?_) | refine rgS [10] (md := { base := 0, own := [10] }) (h := ?_) | refine nx ?_); try simp (disch := omega) only [go_sem, simprocAttr]) | (with_reducible refine bk ?_) | ((with_reducible refine' cE ?hv ?_ ?_); (case hv => first | rfl | (simp only [go_sem, simprocAttr]; rfl)); all_goals (intro hc; (try simp only [go_sem, simprocAttr] at hc); try (exfalso; omega))) | ((with_reducible first | refine grdS_split ?_ ?_ | refine lkG_split ?_ ?_) <;> intro hg <;> (try simp (disch := omega) only [hg, go_sem, simprocAttr]) <;> (try simp only [go_sem, simprocAttr] at hg) <;> (try (exfalso; omega))) | with_reducible intro (ep : Nat → Nat) | with_reducible apply_assumption -exfalso -symm only [*])
   refine AW_range tabOK ou.length (fun k f H => ∃ e, (f 3 = .pim (cNet n) ∧ f 7 = .bool true ∧ f 8 = .lst 1 (ints O) ∧ f 9 = .lst 1 (ints I) ∧ f 10 = .ptr 10 e 3 0 0 ∧ f 12 = .bool B ∧ f 68 = .lst 1 (ints ou)) ∧ H 10 = some (e, .arr 3 [[.int .u8 kn, .int .i64 hd, .lst 1 (ints ou)]])) (by omega) (by rw [hXs]; decide) (by decide) (by (first | rfl | (simp only [go_sem, simprocAttr]; done) | (simp only [go_sem, simprocAttr]; rfl))) (by (first | rfl | (simp only [go_sem, simprocAttr]; done) | (simp only [go_sem, simprocAttr]; rfl)))
    ⟨_, by (and_intros <;> first | rfl | (simp only [cNet, Bool.not_not, go_sem, simprocAttr]; done) | (simp only [cNet, Bool.not_not, go_sem, simprocAttr]; rfl)), by (first | rfl | (simp only [go_sem, simprocAttr]; done) | (simp only [go_sem, simprocAttr]; rfl))⟩ ?_ ?_
   ·clear hcut1
    rintro k f H hk h70 h69 ⟨e, ⟨h3, h7, h8, h9, h10, h12, h68⟩, g10⟩
    obtain ⟨x, hx⟩ : ∃ x, ou[k]? = some x := ⟨_, List.getElem?_eq_getElem hk⟩
    obtain ⟨x1, x2⟩ := o1 x (List.mem_of_getElem? hx)
    have x3 : ¬ x < 0 := by omega
    have x4 : ¬ (n.pumps.length : Int) ≤ x := by omega
    cases k with
    | zero =>
     repeat' (first | (with_reducible refine sk ?_; intro K hK) | ((with_reducible first | refine rg (md := { base := 0, own := [10] }) (h := ?_) | refine rgS [10] (md := { base := 0, own := [10] }) (h := ?_) | refine nx ?_); try simp (disch := omega) only [h3, h7, h8, h9, h10, h12, h68, h69, h70, g10, hx, x3, x4, cNet,go_sem, simprocAttr]) | (with_reducible refine bk ?_) | ((with_reducible refine' cE ?hv ?_ ?_); (case hv => first | rfl | (simp only [h3, h7, h8, h9, h10, h12, h68, h69, h70, g10, hx, x3, x4, cNet,go_sem, simprocAttr]; rfl)); all_goals (intro hc; (try simp only [go_sem, simprocAttr] at hc); try (exfalso; omega))) | ((with_reducible first | refine grdS_split ?_ ?_ | refine lkG_split ?_ ?_) <;> intro hg <;> (try simp (disch := omega) only [hg, h3, h7, h8, h9, h10, h12, h68, h69, h70, g10, hx, x3, x4, cNet,go_sem, simprocAttr]) <;> (try simp only [go_sem, simprocAttr] at hg) <;> (try (exfalso; omega))) | with_reducible intro (ep : Nat → Nat) | with_reducible apply_assumption -exfalso -symm only [*])
     exact ⟨e, rfl, rfl⟩
    | succ k =>
     obtain ⟨y, hy⟩ : ∃ y, ou[k]? = some y := ⟨_, List.getElem?_eq_getElem (by omega)⟩
     have x5 : ¬ x ≤ y := by have := pair_step o2 hy hx; omega
     repeat' (first | (with_reducible refine sk ?_; intro K hK) | ((with_reducible first | refine rg (md := { base := 0, own := [10] }) (h := ?_) | refine rgS [10] (md := { base := 0, own := [10] }) (h := ?_) | refine nx ?_); try simp (disch := omega) only [h3, h7, h8, h9, h10, h12, h68, h69, h70, g10, hx, hy, x3, x4, x5, cNet,go_sem, simprocAttr]) | (with_reducible refine bk ?_) | ((with_reducible refine' cE ?hv ?_ ?_); (case hv => first | rfl | (simp only [h3, h7, h8, h9, h10, h12, h68, h69, h70, g10, hx, hy, x3, x4, x5, cNet,go_sem, simprocAttr]; rfl)); all_goals (intro hc; (try simp only [go_sem, simprocAttr] at hc); try (exfalso; omega))) | ((with_reducible first | refine grdS_split ?_ ?_ | refine lkG_split ?_ ?_) <;> intro hg <;> (try simp (disch := omega) only [hg, h3, h7, h8, h9, h10, h12, h68, h69, h70, g10, hx, hy, x3, x4, x5, cNet,go_sem, simprocAttr]) <;> (try simp only [go_sem, simprocAttr] at hg) <;> (try (exfalso; omega))) | with_reducible intro (ep : Nat → Nat) | with_reducible apply_assumption -exfalso -symm only [*])
     exact ⟨e, rfl, rfl⟩
   ·rintro f H h70 h69 ⟨e, ⟨h3, h7, h8, h9, h10, h12, h68⟩, g10⟩
    exact hcut1 e _ _ ⟨by (and_intros <;> first | rfl | (simp only [h3, h7, h8, h9, h10, h12, go_sem, simprocAttr]; done) | (simp only [h3, h7, h8, h9, h10, h12, go_sem, simprocAttr]; rfl)), g10⟩
 ·simp only [Bool.not_eq_true] at hr
  rw [hr] at hrd
  refine PureC_of (fn := Try.f8) tabOK (by kernel_rfl) rfl (by kernel_rfl) (by simp [Try.f8]) (by simp [noids, noid, noidss, go_sem, encNet, cNet]) (by first | rfl | simp [noids, noid, noidss, go_sem, encNet, cNet]) ?_
  intro X hX0 hXs
  repeat' (first | (with_reducible refine sk ?_; intro K hK) | ((first | (with_reducible first | refine rg (md := { base := 0, own := [10] }) (h := ?_) | refine rgS [10] (md := { base := 0, own := [10] }) (h := ?_) | refine nx ?_) | refine pK (alive_run) ?_ | refine pK (hrd) ?_); try simp (disch := omega) only [encNet, cNet,go_sem, simprocAttr]) | (with_reducible refine bk ?_) | ((with_reducible refine' cE ?hv ?_ ?_); (case hv => first | rfl | (simp only [encNet, cNet,go_sem, simprocAttr]; rfl)); all_goals (intro hc; (try simp only [go_sem, simprocAttr] at hc); try (exfalso; omega))) | ((with_reducible first | refine grdS_split ?_ ?_ | refine lkG_split ?_ ?_) <;> intro hg <;> (try simp (disch := omega) only [hg, encNet, cNet,go_sem, simprocAttr]) <;> (try simp only [go_sem, simprocAttr] at hg) <;> (try (exfalso; omega))) | ((with_reducible refine fe ?_); refine ⟨_, (by simp only [Try.f8, encNet, cNet,go_sem, simprocAttr]; rfl), ?_⟩; first | rfl | (try simp only [encNet, cNet,go_sem, simprocAttr, seval])) | with_reducible intro (ep : Nat → Nat) | with_reducible apply_assumption -exfalso -symm only [*])
end Cp
namespace Cp
open Go
theorem fit_map {α : Type} {c : α → List Val} : ∀ {xss : List (List Val)}, (∀ es ∈ xss, ∃ x, es = c x) → ∃ l : List α, xss = l.map c
 | [], _ => ⟨[], rfl⟩
 | es :: xss, h => by
  obtain ⟨x, rfl⟩ := h es (by simp)
  obtain ⟨l, rfl⟩ := fit_map fun es he => h es (List.mem_cons_of_mem _ he)
  exact ⟨x :: l, rfl⟩
theorem fit_slice {T : Tab} {n : Nat} {t e sz : Nat} {vs : List Val} {b b2 s1 : Nat} {z z2 : Val} {p p2 : Bool} {k2 : TK} {α : Type} {c : α → List Val} (ht : T t = some { kind := .slice e, sz := s1, bytes := b, zero := z, plain := p })
  (he : T e = some { kind := k2, sz := sz, bytes := b2, zero := z2, plain := p2 }) (h : Fit T (n + 1) t vs) (hc : ∀ es, Fit T n e es → ∃ x, es = c x) : ∃ l : List α, vs = [.lst sz (l.map c)] := by
 simp only [Fit, ht] at h
 obtain ⟨sz', xss, rfl, hs, _, hx⟩ := h
 rw [he] at hs
 cases hs
 obtain ⟨l, rfl⟩ := fit_map (c := c) fun es hes => hc es (hx es hes).2
 exact ⟨l, rfl⟩
theorem fit_struct {T : Tab} {n : Nat} {t sz : Nat} {vs : List Val} {b : Nat} {z : Val} {p : Bool} {fs : List (Nat × Nat)} (ht : T t = some { kind := .struct fs, sz := sz, bytes := b, zero := z, plain := p }) (h : Fit T (n + 1) t vs) :
  vs.length = sz ∧ ∀ q ∈ fs, ∃ fi, T q.2 = some fi ∧ Fit T n q.2 ((vs.drop q.1).take fi.sz) := by
 simp only [Fit, ht] at h
 exact h
theorem fit_int {T : Tab} {n : Nat} {t : Nat} {vs : List Val} {s b : Nat} {z : Val} {p : Bool} {k : IntKind} (ht : T t = some { kind := .int k, sz := s, bytes := b, zero := z, plain := p }) (h : Fit T (n + 1) t vs) : ∃ m, vs = [.int k m] ∧ (Lit.int k m).wf = true := by
 simp only [Fit, ht] at h
 exact h
theorem fit3 {n : Nat} {vs : List Val} (h : Fit tab (n + 1) 3 vs) : ∃ m, vs = [.int .i64 m] := by
 obtain ⟨m, h, _⟩ := fit_int tab_3 h; exact ⟨m, h⟩
theorem fit_two {n : Nat} {vs : List Val} {t b : Nat} {z : Val} {p : Bool} (ht : tab t = some { kind := .struct [(0, 3), (1, 3)], sz := 2, bytes := b, zero := z, plain := p }) (h : Fit tab (n + 2) t vs) : ∃ x y : Int, vs = [.int .i64 x, .int .i64 y] := by
 obtain ⟨hl, hq⟩ := fit_struct ht h
 match vs, hl with
 | [a, b], _ =>
  obtain ⟨fi, e, h0⟩ := hq (0, 3) (by simp)
  rw [tab_3] at e; cases e
  obtain ⟨fi, e, h1⟩ := hq (1, 3) (by simp)
  rw [tab_3] at e; cases e
  obtain ⟨x, hx⟩ := fit3 h0
  obtain ⟨y, hy⟩ := fit3 h1
  simp at hx hy
  exact ⟨x, y, by rw [hx, hy]⟩
theorem fit_span {n : Nat} {vs : List Val} (h : Fit tab (n + 2) 26 vs) : ∃ s : Span, vs = [.int .i64 s.lo, .int .i64 s.hi] := by
 obtain ⟨x, y, h⟩ := fit_two tab_26 h; exact ⟨⟨x, y⟩, h⟩
theorem fit_pipe {n : Nat} {vs : List Val} (h : Fit tab (n + 3) 89 vs) : ∃ x : PipeT, vs = cPipe x := by
 obtain ⟨hl, hq⟩ := fit_struct tab_89 h
 match vs, hl with
 | [a0, a1, a2, a3], _ =>
  obtain ⟨fi, e0, h0⟩ := hq (0, 3) (by simp)
  rw [tab_3] at e0; cases e0
  obtain ⟨fi, e1, h1⟩ := hq (1, 3) (by simp)
  rw [tab_3] at e1; cases e1
  obtain ⟨fi, e2, h2⟩ := hq (2, 26) (by simp)
  rw [tab_26] at e2; cases e2
  obtain ⟨x0, h0⟩ := fit3 h0
  obtain ⟨x1, h1⟩ := fit3 h1
  obtain ⟨x2, h2⟩ := fit_span h2
  simp at h0 h1 h2
  obtain ⟨h2, h2'⟩ := h2
  exact ⟨⟨x0, x1, x2⟩, by rw [h0, h1, h2, h2']; rfl⟩
theorem fit_head {n : Nat} {vs : List Val} (h : Fit tab (n + 3) 61 vs) : ∃ x : HeadT, vs = cHead x := by
 obtain ⟨hl, hq⟩ := fit_struct tab_61 h
 match vs, hl with
 | [a0, a1, a2, a3, a4, a5, a6, a7], _ =>
  obtain ⟨fi, e0, h0⟩ := hq (0, 3) (by simp)
  rw [tab_3] at e0; cases e0
  obtain ⟨fi, e1, h1⟩ := hq (1, 3) (by simp)
  rw [tab_3] at e1; cases e1
  obtain ⟨fi, e2, h2⟩ := hq (2, 3) (by simp)
  rw [tab_3] at e2; cases e2
  obtain ⟨fi, e3, h3⟩ := hq (3, 3) (by simp)
  rw [tab_3] at e3; cases e3
  obtain ⟨fi, e4, h4⟩ := hq (4, 26) (by simp)
  rw [tab_26] at e4; cases e4
  obtain ⟨fi, e5, h5⟩ := hq (6, 26) (by simp)
  rw [tab_26] at e5; cases e5
  obtain ⟨x0, h0⟩ := fit3 h0
  obtain ⟨x1, h1⟩ := fit3 h1
  obtain ⟨x2, h2⟩ := fit3 h2
  obtain ⟨x3, h3⟩ := fit3 h3
  obtain ⟨x4, h4⟩ := fit_span h4
  obtain ⟨x5, h5⟩ := fit_span h5
  simp at h0 h1 h2 h3 h4 h5
  obtain ⟨h4, h4'⟩ := h4
  obtain ⟨h5, h5'⟩ := h5
  exact ⟨⟨x0, x1, x2, x3, x4, x5⟩, by rw [h0, h1, h2, h3, h4, h4', h5, h5']; rfl⟩
theorem fit_pump {n : Nat} {vs : List Val} (h : Fit tab (n + 3) 94 vs) : ∃ x : PumpT, vs = cPump x := by
 obtain ⟨hl, hq⟩ := fit_struct tab_94 h
 match vs, hl with
 | [a0, a1, a2], _ =>
  obtain ⟨fi, e0, h0⟩ := hq (0, 26) (by simp)
  rw [tab_26] at e0; cases e0
  obtain ⟨fi, e1, h1⟩ := hq (2, 3) (by simp)
  rw [tab_3] at e1; cases e1
  obtain ⟨x0, h0⟩ := fit_span h0
  obtain ⟨x1, h1⟩ := fit3 h1
  simp at h0 h1
  obtain ⟨h0, h0'⟩ := h0
  exact ⟨⟨x0, x1⟩, by rw [h0, h0', h1]; rfl⟩
theorem fit_net {n : Nat} {vs : List Val} (h : Fit tab (n + 5) 28 vs) : ∃ x : NetT, vs = cNet x := by
 obtain ⟨hl, hq⟩ := fit_struct tab_28 h
 match vs, hl with
 | [a0, a1, a2, a3, a4, a5, a6], _ =>
  obtain ⟨fi, e0, h0⟩ := hq (0, 22) (by simp)
  rw [tab_22] at e0; cases e0
  obtain ⟨fi, e1, h1⟩ := hq (1, 23) (by simp)
  rw [tab_23] at e1; cases e1
  obtain ⟨fi, e2, h2⟩ := hq (2, 24) (by simp)
  rw [tab_24] at e2; cases e2
  obtain ⟨fi, e3, h3⟩ := hq (3, 3) (by simp)
  rw [tab_3] at e3; cases e3
  obtain ⟨fi, e4, h4⟩ := hq (4, 26) (by simp)
  rw [tab_26] at e4; cases e4
  obtain ⟨fi, e5, h5⟩ := hq (6, 3) (by simp)
  rw [tab_3] at e5; cases e5
  obtain ⟨x0, h0⟩ := fit_slice tab_22 tab_89 h0 fun es he => fit_pipe he
  obtain ⟨x1, h1⟩ := fit_slice tab_23 tab_61 h1 fun es he => fit_head he
  obtain ⟨x2, h2⟩ := fit_slice tab_24 tab_94 h2 fun es he => fit_pump he
  obtain ⟨x3, h3⟩ := fit3 h3
  obtain ⟨x4, h4⟩ := fit_span h4
  obtain ⟨x5, h5⟩ := fit3 h5
  simp at h0 h1 h2 h3 h4 h5
  obtain ⟨h4, h4'⟩ := h4
  exact ⟨⟨x0, x1, x2, x3, x4, x5⟩, by rw [h0, h1, h2, h3, h4, h4', h5]; rfl⟩
theorem arg_byte {a : Val} (h : FitV tab 8 5 a) : ∃ m, a = .int .u8 m ∧ 0 ≤ m ∧ m ≤ 255 := by
 obtain ⟨ti, cs, e, h, _, rfl⟩ := h
 obtain ⟨m, rfl, hw⟩ := fit_int tab_5 h
 rw [tab_5] at e; cases e
 simp [Lit.wf, IntKind.min, IntKind.max, IntKind.signed, IntKind.bits] at hw
 exact ⟨m, rfl, by omega, by omega⟩
theorem arg_net {a : Val} (h : FitV tab 8 28 a) : ∃ x : NetT, a = encNet x := by
 obtain ⟨ti, cs, e, h, _, rfl⟩ := h
 obtain ⟨l, rfl⟩ := fit_net h
 rw [tab_28] at e; cases e; exact ⟨l, rfl⟩
end Cp
