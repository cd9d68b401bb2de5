/- Rules, facts and contracts that the statement's proof leans on. Conditions: none. -/
import Derived.Test.YtfpbidbjgigljaaP8
set_option linter.unusedVariables false
set_option linter.unusedSimpArgs false
set_option linter.unusedSectionVars false
namespace Cp
open Go Go.Proofs
set_option maxRecDepth 10000
set_option maxHeartbeats 4000000
theorem atNode_app {k : Int} : ∀ {a b : List HeadT}, atNode k (a ++ b) = atNode k a + atNode k b
 | [], b => by simp [atNode]
 | h :: a, b => by simp only [List.cons_append, atNode, atNode_app (a := a)]; omega
theorem atNode_bnd {k : Int} : ∀ {l : List HeadT}, heads500 l → 0 ≤ atNode k l ∧ atNode k l ≤ 500 * l.length
 | [], _ => by simp [atNode]
 | h :: l, hb => by
  have h1 := hb h (by simp)
  have h2 := atNode_bnd (k := k) (l := l) fun x hx => hb x (by simp [hx])
  simp only [atNode, List.length_cons]; split <;> omega
theorem kidsF_bnd {k : Int} {f : Nat → Int} {b : Int} (hf : ∀ j, 0 ≤ f j ∧ f j ≤ b) (hb : 0 ≤ b) : ∀ {l : List PipeT} {i : Nat}, 0 ≤ kidsF k f l i ∧ kidsF k f l i ≤ b * l.length
 | [], i => by simp [kidsF]
 | p :: l, i => by
  have h1 := hf i
  have h2 := kidsF_bnd (k := k) hf hb (l := l) (i := i + 1)
  simp only [kidsF, List.length_cons]
  have : b * ((l.length + 1 : Nat) : Int) = b * l.length + b := by rw [Int.natCast_add, Int.mul_add]; simp
  rw [this]
  split <;> omega
theorem water_law (n : NetT) (b : Int) (b0 : 0 ≤ b) (b1 : b ≤ 255) : PureC Try.prog 11 [encNet n, .int .u8 b] (.bool true) := by
 have hrd := ready_ok n
 simp only [encNet, cNet] at hrd
 by_cases hr : (!greatN n && netOK n) = true
 ·have hr2 : greatN n = false ∧ netOK n = true := by simpa using hr
  have hs := great_small hr2.1
  have hF := net_facts hr2.2
  have hpl := hF.pipes
  have hhl := hF.heads
  rw [hr] at hrd
  have hso := some_ok n (by omega) b ⟨b0, b1⟩
  have hopen := some_ok' hF b
  obtain ⟨ho1, ho2⟩ := okL_none hopen
  have hol : (someL n.heads b).length ≤ n.heads.length := someF_len
  have hfl := Flows_ok n hs (someL n.heads b) (by omega)
  unfold flowsT at hfl
  rw [if_pos hr2.2, if_pos hopen] at hfl
  have hflow := flow_ok n hF (someL n.heads b) (by omega) ho1
  have h5 := openH_500 hF (someL n.heads b)
  have hLn := fun h hm => openH_node hF (l := someL n.heads b) (h := h) hm
  have hLl := @openH_len n.heads (someL n.heads b)
  have hof := open_filter hF.ids ho2 ho1
  have hhas := fun a => has_ok (someL n.heads b) (by omega) a
  obtain ⟨O, hO⟩ : ∃ O, someL n.heads b = O := ⟨_, rfl⟩
  rw [hO] at hso hfl hflow h5 hLn hof hol hhas hLl
  obtain ⟨L, hL⟩ : ∃ L, openH n.heads O = L := ⟨_, rfl⟩
  rw [hL] at hfl hflow h5 hLn hof hLl
  have hnb := needs_bnd h5
  have hfb : ∀ j, 0 ≤ flowAt n.pipes j L ∧ flowAt n.pipes j L ≤ 10000 := fun j => by
   have := flowAt_bnd (ps := n.pipes) (j := j) h5
   omega
  simp only [encNet, cNet] at hso hfl hflow
  have hFl : ((flowL n.pipes (n.pipes.length + 1) L).drop 1).length = n.pipes.length := by rw [List.length_drop, flowL_len]; omega
  have hFg : ∀ i, i < n.pipes.length → ((flowL n.pipes (n.pipes.length + 1) L).drop 1)[i]? = some (flowAt n.pipes (i + 1) L) := fun i hi => by rw [List.getElem?_drop, Nat.add_comm 1 i]; exact flowL_get (by omega)
  obtain ⟨F, hFe⟩ : ∃ F, (flowL n.pipes (n.pipes.length + 1) L).drop 1 = F := ⟨_, rfl⟩
  rw [hFe] at hfl hFl hFg
  refine PureC_of (fn := Try.f11) tabOK (by kernel_rfl) rfl (by kernel_rfl) (by simp [Try.f11]) (by simp [noids, noid, noidss, go_sem, encNet, cNet]) (by first | rfl | simp [noids, noid, noidss, go_sem, encNet, cNet]) ?_
  intro X hX0 hXs
  repeat' (first | ((fail_if_success (with_reducible refine AW_at (id := 10) ?_)); with_reducible refine sk ?_; intro K hK) | ((first | (with_reducible first | refine rg (h := ?_) | refine rgS [13, 15] (h := ?_) | refine nx ?_) | refine pK (alive_run) ?_ | refine pK (hrd) ?_ | refine pK (hso) ?_ | refine pK (hfl) ?_); try simp (disch := omega) only [encNet, cNet, hFl,go_sem, simprocAttr]) | (with_reducible refine bk ?_) | ((with_reducible refine' cE ?hv ?_ ?_); (case hv => first | rfl | (simp only [encNet, cNet, hFl,go_sem, simprocAttr]; rfl)); all_goals (intro hc; (try simp only [go_sem, simprocAttr] at hc); try (exfalso; omega))) | ((with_reducible first | refine grdS_split ?_ ?_ | refine lkG_split ?_ ?_) <;> intro hg <;> (try simp (disch := omega) only [hg, encNet, cNet, hFl,go_sem, simprocAttr]) <;> (try simp only [go_sem, simprocAttr] at hg) <;> (try (exfalso; omega))) | ((with_reducible refine fe ?_); refine ⟨_, (by simp only [Try.f11, encNet, cNet, hFl,go_sem, simprocAttr]; rfl), ?_⟩; first | rfl | (try simp only [encNet, cNet, hFl,go_sem, simprocAttr, seval])) | with_reducible intro (ep : Nat → Nat) | with_reducible apply_assumption -exfalso -symm only [*])
  have hcut0 : ∀ f H, (f 2 = .pim (cNet n) ∧ f 5 = .bool true ∧ f 6 = .lst 1 (ints O) ∧ f 7 = .lst 1 (ints F)) → K f H := by
   rintro f H ⟨h2, h5', h6, h7⟩
   refine hK f H ?_
   clear hK
   repeat' (first | (with_reducible refine sk ?_; intro K hK) | ((with_reducible first | refine rg (h := ?_) | refine rgS [13, 15] (h := ?_) | refine nx ?_); try simp (disch := omega) only [h2, h5', h6, h7,go_sem, simprocAttr]) | (with_reducible refine bk ?_) | ((with_reducible refine' cE ?hv ?_ ?_); (case hv => first | rfl | (simp only [h2, h5', h6, h7,go_sem, simprocAttr]; rfl)); all_goals (intro hc; (try simp only [go_sem, simprocAttr] at hc); try (exfalso; omega))) | ((with_reducible first | refine grdS_split ?_ ?_ | refine lkG_split ?_ ?_) <;> intro hg <;> (try simp (disch := omega) only [hg, h2, h5', h6, h7,go_sem, simprocAttr]) <;> (try simp only [go_sem, simprocAttr] at hg) <;> (try (exfalso; omega))) | ((with_reducible refine fe ?_); refine ⟨_, (by simp only [Try.f11, h2, h5', h6, h7,go_sem, simprocAttr]; rfl), ?_⟩; first | rfl | (try simp only [h2, h5', h6, h7,go_sem, simprocAttr, seval])) | with_reducible intro (ep : Nat → Nat) | with_reducible apply_assumption -exfalso -symm only [*])
  clear hK
  repeat' (first | (with_reducible refine sk ?_; intro K hK) | ((with_reducible first | refine rg (h := ?_) | refine rgS [13, 15] (h := ?_) | refine nx ?_); try simp (disch := omega) only [cNet,go_sem, simprocAttr]) | (with_reducible refine bk ?_) | ((with_reducible refine' cE ?hv ?_ ?_); (case hv => first | rfl | (simp only [cNet,go_sem, simprocAttr]; rfl)); all_goals (intro hc; (try simp only [go_sem, simprocAttr] at hc); try (exfalso; omega))) | ((with_reducible first | refine grdS_split ?_ ?_ | refine lkG_split ?_ ?_) <;> intro hg <;> (try simp (disch := omega) only [hg, cNet,go_sem, simprocAttr]) <;> (try simp only [go_sem, simprocAttr] at hg) <;> (try (exfalso; omega))) | ((with_reducible refine fe ?_); refine ⟨_, (by simp only [Try.f11, cNet,go_sem, simprocAttr]; rfl), ?_⟩; first | rfl | (try simp only [cNet,go_sem, simprocAttr, seval])) | with_reducible intro (ep : Nat → Nat) | with_reducible apply_assumption -exfalso -symm only [*])
  refine AW_range tabOK (n.pipes.length + 1) (fun k f H => (f 2 = .pim (cNet n) ∧ f 5 = .bool true ∧ f 6 = .lst 1 (ints O) ∧ f 7 = .lst 1 (ints F))) (by omega) (by rw [hXs]; decide) (by decide) (by (first | rfl | (simp only [go_sem, simprocAttr]; done) | (simp only [go_sem, simprocAttr]; rfl))) (by (first | rfl | (simp only [go_sem, simprocAttr]; done) | (simp only [go_sem, simprocAttr]; rfl)))
   ⟨by (first | rfl | (simp only [cNet, go_sem, simprocAttr]; done) | (simp only [cNet, go_sem, simprocAttr]; rfl)), by (first | rfl | (simp only [go_sem, simprocAttr]; done) | (simp only [go_sem, simprocAttr]; rfl)), by (first | rfl | (simp only [go_sem, simprocAttr]; done) | (simp only [go_sem, simprocAttr]; rfl)), by (first | rfl | (simp only [go_sem, simprocAttr]; done) | (simp only [go_sem, simprocAttr]; rfl))⟩ ?_ ?_
  ·clear hcut0
   rintro k f H hk h46 h45 ⟨h2, h5', h6, h7⟩
   have hw := water hF.falls (k := k) (l := L) hLn
   have hfk := hfb k
   refine AW_keep [] ?_
   repeat' (first | ((fail_if_success (with_reducible refine AW_at (id := 14) ?_)); with_reducible refine sk ?_; intro K hK) | ((with_reducible first | refine rg (h := ?_) | refine rgS [13, 15] (h := ?_) | refine nx ?_); try simp (disch := omega) only [h2, h5', h6, h7, h45, h46, cNet,go_sem, simprocAttr]) | (with_reducible refine bk ?_) | ((with_reducible refine' cE ?hv ?_ ?_); (case hv => first | rfl | (simp only [h2, h5', h6, h7, h45, h46, cNet,go_sem, simprocAttr]; rfl)); all_goals (intro hc; (try simp only [go_sem, simprocAttr] at hc); try (exfalso; omega))) | ((with_reducible first | refine grdS_split ?_ ?_ | refine lkG_split ?_ ?_) <;> intro hg <;> (try simp (disch := omega) only [hg, h2, h5', h6, h7, h45, h46, cNet,go_sem, simprocAttr]) <;> (try simp only [go_sem, simprocAttr] at hg) <;> (try (exfalso; omega))) | ((with_reducible refine fe ?_); refine ⟨_, (by simp only [Try.f11, h2, h5', h6, h7, h45, h46, cNet,go_sem, simprocAttr]; rfl), ?_⟩; first | rfl | (try simp only [h2, h5', h6, h7, h45, h46, cNet,go_sem, simprocAttr, seval])) | with_reducible intro (ep : Nat → Nat) | with_reducible apply_assumption -exfalso -symm only [*])
   have hcut1 : ∀ f H, (f 2 = .pim (cNet n) ∧ f 5 = .bool true ∧ f 6 = .lst 1 (ints O) ∧ f 7 = .lst 1 (ints F) ∧ f 46 = .int .i64 k ∧ f 45 = .int .i64 ((n.pipes.length + 1 : Nat) : Int) ∧ f 9 = .int .i64 k ∧ f 10 = .int .i64 (flowAt n.pipes k L) ∧ f 11 = .int .i64 0) → K f H := by
    clear h2 h5' h6 h7 h45 h46
    rintro f H ⟨h2, h5', h6, h7, h46, h45, h9, h10, h11⟩
    refine hK f H ?_
    clear hK
    refine AW_keep [] ?_
    repeat' (first | ((fail_if_success (with_reducible refine AW_at (id := 17) ?_)); with_reducible refine sk ?_; intro K hK) | ((with_reducible first | refine rg (h := ?_) | refine rgS [13, 15] (h := ?_) | refine nx ?_); try simp (disch := omega) only [h2, h5', h6, h7, h45, h46, h9, h10, h11,go_sem, simprocAttr]) | (with_reducible refine bk ?_) | ((with_reducible refine' cE ?hv ?_ ?_); (case hv => first | rfl | (simp only [h2, h5', h6, h7, h45, h46, h9, h10, h11,go_sem, simprocAttr]; rfl)); all_goals (intro hc; (try simp only [go_sem, simprocAttr] at hc); try (exfalso; omega))) | ((with_reducible first | refine grdS_split ?_ ?_ | refine lkG_split ?_ ?_) <;> intro hg <;> (try simp (disch := omega) only [hg, h2, h5', h6, h7, h45, h46, h9, h10, h11,go_sem, simprocAttr]) <;> (try simp only [go_sem, simprocAttr] at hg) <;> (try (exfalso; omega))) | ((with_reducible refine fe ?_); refine ⟨_, (by simp only [Try.f11, h2, h5', h6, h7, h45, h46, h9, h10, h11,go_sem, simprocAttr]; rfl), ?_⟩; first | rfl | (try simp only [h2, h5', h6, h7, h45, h46, h9, h10, h11,go_sem, simprocAttr, seval])) | with_reducible intro (ep : Nat → Nat) | with_reducible apply_assumption -exfalso -symm only [*])
    have hcut2 : ∀ f H, (f 2 = .pim (cNet n) ∧ f 5 = .bool true ∧ f 6 = .lst 1 (ints O) ∧ f 7 = .lst 1 (ints F) ∧ f 46 = .int .i64 k ∧ f 45 = .int .i64 ((n.pipes.length + 1 : Nat) : Int) ∧ f 9 = .int .i64 k ∧ f 10 = .int .i64 (flowAt n.pipes k L) ∧ f 11 = .int .i64 (kidsF (k : Int) (fun i => flowAt n.pipes (i + 1) L) n.pipes 0)) → K f H := by
     clear h2 h5' h6 h7 h45 h46 h9 h10 h11
     rintro f H ⟨h2, h5', h6, h7, h46, h45, h9, h10, h11⟩
     refine hK f H ?_
     clear hK
     refine AW_keep [] ?_
     have hkb := kidsF_bnd (k := (k : Int)) (f := fun i => flowAt n.pipes (i + 1) L) (b := 10000) (fun j => hfb (j + 1)) (by omega) (l := n.pipes) (i := 0)
     obtain ⟨kd, hkd⟩ : ∃ kd, kidsF (k : Int) (fun i => flowAt n.pipes (i + 1) L) n.pipes 0 = kd := ⟨_, rfl⟩
     rw [hkd] at h11 hw hkb
     repeat' (first | ((fail_if_success (with_reducible refine AW_at (id := 23) ?_)); with_reducible refine sk ?_; intro K hK) | ((with_reducible first | refine rg (h := ?_) | refine rgS [13, 15] (h := ?_) | refine nx ?_); try simp (disch := omega) only [h2, h5', h6, h7, h45, h46, h9, h10, h11,go_sem, simprocAttr]) | (with_reducible refine bk ?_) | ((with_reducible refine' cE ?hv ?_ ?_); (case hv => first | rfl | (simp only [h2, h5', h6, h7, h45, h46, h9, h10, h11,go_sem, simprocAttr]; rfl)); all_goals (intro hc; (try simp only [go_sem, simprocAttr] at hc); try (exfalso; omega))) | ((with_reducible first | refine grdS_split ?_ ?_ | refine lkG_split ?_ ?_) <;> intro hg <;> (try simp (disch := omega) only [hg, h2, h5', h6, h7, h45, h46, h9, h10, h11,go_sem, simprocAttr]) <;> (try simp only [go_sem, simprocAttr] at hg) <;> (try (exfalso; omega))) | ((with_reducible refine fe ?_); refine ⟨_, (by simp only [Try.f11, h2, h5', h6, h7, h45, h46, h9, h10, h11,go_sem, simprocAttr]; rfl), ?_⟩; first | rfl | (try simp only [h2, h5', h6, h7, h45, h46, h9, h10, h11,go_sem, simprocAttr, seval])) | with_reducible intro (ep : Nat → Nat) | with_reducible apply_assumption -exfalso -symm only [*])
     have hcut3 : ∀ f H, (f 2 = .pim (cNet n) ∧ f 5 = .bool true ∧ f 6 = .lst 1 (ints O) ∧ f 7 = .lst 1 (ints F) ∧ f 46 = .int .i64 k ∧ f 45 = .int .i64 ((n.pipes.length + 1 : Nat) : Int) ∧ f 10 = .int .i64 (flowAt n.pipes k L) ∧ f 11 = .int .i64 (flowAt n.pipes k L)) → K f H := by
      clear h2 h5' h6 h7 h45 h46 h9 h10 h11
      rintro f H ⟨h2, h5', h6, h7, h46, h45, h10, h11⟩
      refine hK f H ?_
      clear hK
      have hz : ¬ flowAt n.pipes k L < 0 := by omega
      repeat' (first | (with_reducible refine sk ?_; intro K hK) | ((with_reducible first | refine rg (h := ?_) | refine rgS [13, 15] (h := ?_) | refine nx ?_); try simp (disch := omega) only [h2, h5', h6, h7, h45, h46, h10, h11, hz,go_sem, simprocAttr]) | (with_reducible refine bk ?_) | ((with_reducible refine' cE ?hv ?_ ?_); (case hv => first | rfl | (simp only [h2, h5', h6, h7, h45, h46, h10, h11, hz,go_sem, simprocAttr]; rfl)); all_goals (intro hc; (try simp only [go_sem, simprocAttr] at hc); try (exfalso; omega))) | ((with_reducible first | refine grdS_split ?_ ?_ | refine lkG_split ?_ ?_) <;> intro hg <;> (try simp (disch := omega) only [hg, h2, h5', h6, h7, h45, h46, h10, h11, hz,go_sem, simprocAttr]) <;> (try simp only [go_sem, simprocAttr] at hg) <;> (try (exfalso; omega))) | ((with_reducible refine fe ?_); refine ⟨_, (by simp only [Try.f11, h2, h5', h6, h7, h45, h46, h10, h11, hz,go_sem, simprocAttr]; rfl), ?_⟩; first | rfl | (try simp only [h2, h5', h6, h7, h45, h46, h10, h11, hz,go_sem, simprocAttr, seval])) | with_reducible intro (ep : Nat → Nat) | with_reducible apply_assumption -exfalso -symm only [*])
     clear hK
     repeat' (first | (with_reducible refine sk ?_; intro K hK) | ((with_reducible first | refine rg (h := ?_) | refine rgS [13, 15] (h := ?_) | refine nx ?_); try simp (disch := omega) only [h2, h5', h6, h7, h45, h46, h9, h10, h11, cNet,go_sem, simprocAttr]) | (with_reducible refine bk ?_) | ((with_reducible refine' cE ?hv ?_ ?_); (case hv => first | rfl | (simp only [h2, h5', h6, h7, h45, h46, h9, h10, h11, cNet,go_sem, simprocAttr]; rfl)); all_goals (intro hc; (try simp only [go_sem, simprocAttr] at hc); try (exfalso; omega))) | ((with_reducible first | refine grdS_split ?_ ?_ | refine lkG_split ?_ ?_) <;> intro hg <;> (try simp (disch := omega) only [hg, h2, h5', h6, h7, h45, h46, h9, h10, h11, cNet,go_sem, simprocAttr]) <;> (try simp only [go_sem, simprocAttr] at hg) <;> (try (exfalso; omega))) | ((with_reducible refine fe ?_); refine ⟨_, (by simp only [Try.f11, h2, h5', h6, h7, h45, h46, h9, h10, h11, cNet,go_sem, simprocAttr]; rfl), ?_⟩; first | rfl | (try simp only [h2, h5', h6, h7, h45, h46, h9, h10, h11, cNet,go_sem, simprocAttr, seval])) | with_reducible intro (ep : Nat → Nat) | with_reducible apply_assumption -exfalso -symm only [*])
     refine AW_range tabOK n.heads.length (fun i f H => (f 2 = .pim (cNet n) ∧ f 5 = .bool true ∧ f 6 = .lst 1 (ints O) ∧ f 7 = .lst 1 (ints F) ∧ f 46 = .int .i64 k ∧ f 45 = .int .i64 ((n.pipes.length + 1 : Nat) : Int) ∧ f 9 = .int .i64 k ∧ f 10 = .int .i64 (flowAt n.pipes k L) ∧ f 79 = .lst 8 (n.heads.map cHead)) ∧ f 11 = .int .i64 (kd + atNode (k : Int) ((n.heads.take i).filter fun h => O.contains h.id))) (by omega) (by rw [hXs]; decide) (by decide) (by (first | rfl | (simp only [go_sem, simprocAttr]; done) | (simp only [go_sem, simprocAttr]; rfl))) (by (first | rfl | (simp only [go_sem, simprocAttr]; done) | (simp only [go_sem, simprocAttr]; rfl)))
      ⟨by (and_intros <;> first | rfl | (simp only [h2, h5', h6, h7, h45, h46, h9, h10, go_sem, simprocAttr]; done) | (simp only [h2, h5', h6, h7, h45, h46, h9, h10, go_sem, simprocAttr]; rfl)), by simp only [go_sem, simprocAttr, h11, List.take_zero, List.filter_nil, atNode, Int.add_zero]⟩ ?_ ?_
     ·clear h2 h5' h6 h7 h45 h46 h9 h10 h11 hcut3
      rintro i f H hi h81 h80 ⟨⟨h2, h5', h6, h7, h46, h45, h9, h10, h79⟩, h11⟩
      obtain ⟨x, hx⟩ : ∃ x, n.heads[i]? = some x := ⟨_, List.getElem?_eq_getElem hi⟩
      have hxn := (hF.head x (List.mem_of_getElem? hx)).1.2.1
      have hb5 : heads500 ((n.heads.take i).filter fun h => O.contains h.id) := fun y hy => (hF.head y (List.mem_of_mem_take (List.mem_filter.1 hy).1)).1.2.1
      have hab := atNode_bnd (k := (k : Int)) hb5
      have hal : ((n.heads.take i).filter fun h => O.contains h.id).length ≤ 8 := Nat.le_trans (List.length_filter_le _ _) (by simp; omega)
      have hst : (n.heads.take (i + 1)).filter (fun h => O.contains h.id) = ((n.heads.take i).filter fun h => O.contains h.id) ++ (if O.contains x.id = true then [x] else []) := by rw [take_snoc' hx, List.filter_append]; simp [List.filter_cons]
      rw [hst, atNode_app]
      obtain ⟨an, han⟩ : ∃ an, atNode (k : Int) ((n.heads.take i).filter fun h => O.contains h.id) = an := ⟨_, rfl⟩
      rw [han] at h11 hab ⊢
      have hh := hhas x.id
      refine AW_keep [] ?_
      by_cases hxk : x.node = (k : Int)
      ·cases hc0 : O.contains x.id with
       | true =>
        rw [hc0] at hh
        repeat' (first | (with_reducible refine sk ?_; intro K hK) | ((first | (with_reducible first | refine rg (h := ?_) | refine rgS [13, 15] (h := ?_) | refine nx ?_) | refine pK (hh) ?_); try simp (disch := omega) only [h2, h5', h6, h7, h45, h46, h9, h10, h11, h79, h80, h81, hx, hxk, cHead,go_sem, simprocAttr]) | (with_reducible refine bk ?_) | ((with_reducible refine' cE ?hv ?_ ?_); (case hv => first | rfl | (simp only [h2, h5', h6, h7, h45, h46, h9, h10, h11, h79, h80, h81, hx, hxk, cHead,go_sem, simprocAttr]; rfl)); all_goals (intro hc; (try simp only [go_sem, simprocAttr] at hc); try (exfalso; omega))) | ((with_reducible first | refine grdS_split ?_ ?_ | refine lkG_split ?_ ?_) <;> intro hg <;> (try simp (disch := omega) only [hg, h2, h5', h6, h7, h45, h46, h9, h10, h11, h79, h80, h81, hx, hxk, cHead,go_sem, simprocAttr]) <;> (try simp only [go_sem, simprocAttr] at hg) <;> (try (exfalso; omega))) | ((with_reducible refine fe ?_); refine ⟨_, (by simp only [Try.f11, h2, h5', h6, h7, h45, h46, h9, h10, h11, h79, h80, h81, hx, hxk, cHead,go_sem, simprocAttr]; rfl), ?_⟩; first | rfl | (try simp only [h2, h5', h6, h7, h45, h46, h9, h10, h11, h79, h80, h81, hx, hxk, cHead,go_sem, simprocAttr, seval])) | with_reducible intro (ep : Nat → Nat) | with_reducible apply_assumption -exfalso -symm only [*])
        all_goals (simp only [if_true, atNode, hxk, Int.add_zero, Int.add_assoc])
       | false =>
        rw [hc0] at hh
        repeat' (first | (with_reducible refine sk ?_; intro K hK) | ((first | (with_reducible first | refine rg (h := ?_) | refine rgS [13, 15] (h := ?_) | refine nx ?_) | refine pK (hh) ?_); try simp (disch := omega) only [h2, h5', h6, h7, h45, h46, h9, h10, h11, h79, h80, h81, hx, hxk, cHead,go_sem, simprocAttr]) | (with_reducible refine bk ?_) | ((with_reducible refine' cE ?hv ?_ ?_); (case hv => first | rfl | (simp only [h2, h5', h6, h7, h45, h46, h9, h10, h11, h79, h80, h81, hx, hxk, cHead,go_sem, simprocAttr]; rfl)); all_goals (intro hc; (try simp only [go_sem, simprocAttr] at hc); try (exfalso; omega))) | ((with_reducible first | refine grdS_split ?_ ?_ | refine lkG_split ?_ ?_) <;> intro hg <;> (try simp (disch := omega) only [hg, h2, h5', h6, h7, h45, h46, h9, h10, h11, h79, h80, h81, hx, hxk, cHead,go_sem, simprocAttr]) <;> (try simp only [go_sem, simprocAttr] at hg) <;> (try (exfalso; omega))) | ((with_reducible refine fe ?_); refine ⟨_, (by simp only [Try.f11, h2, h5', h6, h7, h45, h46, h9, h10, h11, h79, h80, h81, hx, hxk, cHead,go_sem, simprocAttr]; rfl), ?_⟩; first | rfl | (try simp only [h2, h5', h6, h7, h45, h46, h9, h10, h11, h79, h80, h81, hx, hxk, cHead,go_sem, simprocAttr, seval])) | with_reducible intro (ep : Nat → Nat) | with_reducible apply_assumption -exfalso -symm only [*])
        all_goals (simp [atNode])
      ·have he : atNode (k : Int) (if O.contains x.id = true then [x] else []) = 0 := by split <;> simp [atNode, hxk]
       rw [he, Int.add_zero]
       repeat' (first | (with_reducible refine sk ?_; intro K hK) | ((with_reducible first | refine rg (h := ?_) | refine rgS [13, 15] (h := ?_) | refine nx ?_); try simp (disch := omega) only [h2, h5', h6, h7, h45, h46, h9, h10, h11, h79, h80, h81, hx, hxk, cHead,go_sem, simprocAttr]) | (with_reducible refine bk ?_) | ((with_reducible refine' cE ?hv ?_ ?_); (case hv => first | rfl | (simp only [h2, h5', h6, h7, h45, h46, h9, h10, h11, h79, h80, h81, hx, hxk, cHead,go_sem, simprocAttr]; rfl)); all_goals (intro hc; (try simp only [go_sem, simprocAttr] at hc); try (exfalso; omega))) | ((with_reducible first | refine grdS_split ?_ ?_ | refine lkG_split ?_ ?_) <;> intro hg <;> (try simp (disch := omega) only [hg, h2, h5', h6, h7, h45, h46, h9, h10, h11, h79, h80, h81, hx, hxk, cHead,go_sem, simprocAttr]) <;> (try simp only [go_sem, simprocAttr] at hg) <;> (try (exfalso; omega))) | ((with_reducible refine fe ?_); refine ⟨_, (by simp only [Try.f11, h2, h5', h6, h7, h45, h46, h9, h10, h11, h79, h80, h81, hx, hxk, cHead,go_sem, simprocAttr]; rfl), ?_⟩; first | rfl | (try simp only [h2, h5', h6, h7, h45, h46, h9, h10, h11, h79, h80, h81, hx, hxk, cHead,go_sem, simprocAttr, seval])) | with_reducible intro (ep : Nat → Nat) | with_reducible apply_assumption -exfalso -symm only [*])
     ·clear h2 h5' h6 h7 h45 h46 h9 h10 h11
      rintro f H h81 h80 ⟨⟨h2, h5', h6, h7, h46, h45, h9, h10, h79⟩, h11⟩
      rw [List.take_of_length_le (Nat.le_refl _), ← hof, ← hw] at h11
      repeat' (first | (with_reducible refine sk ?_; intro K hK) | ((with_reducible first | refine rg (h := ?_) | refine rgS [13, 15] (h := ?_) | refine nx ?_); try simp (disch := omega) only [h2, h5', h6, h7, h45, h46, h10, h11,go_sem, simprocAttr]) | (with_reducible refine bk ?_) | ((with_reducible refine' cE ?hv ?_ ?_); (case hv => first | rfl | (simp only [h2, h5', h6, h7, h45, h46, h10, h11,go_sem, simprocAttr]; rfl)); all_goals (intro hc; (try simp only [go_sem, simprocAttr] at hc); try (exfalso; omega))) | ((with_reducible first | refine grdS_split ?_ ?_ | refine lkG_split ?_ ?_) <;> intro hg <;> (try simp (disch := omega) only [hg, h2, h5', h6, h7, h45, h46, h10, h11,go_sem, simprocAttr]) <;> (try simp only [go_sem, simprocAttr] at hg) <;> (try (exfalso; omega))) | ((with_reducible refine fe ?_); refine ⟨_, (by simp only [Try.f11, h2, h5', h6, h7, h45, h46, h10, h11,go_sem, simprocAttr]; rfl), ?_⟩; first | rfl | (try simp only [h2, h5', h6, h7, h45, h46, h10, h11,go_sem, simprocAttr, seval])) | with_reducible intro (ep : Nat → Nat) | with_reducible apply_assumption -exfalso -symm only [*])
      all_goals (and_intros <;> first | rfl | (simp only [h2, h5', h6, h7, h45, h46, h10, h11, go_sem, simprocAttr]; done) | (simp only [h2, h5', h6, h7, h45, h46, h10, h11, go_sem, simprocAttr]; rfl))
    clear hK
    repeat' (first | (with_reducible refine sk ?_; intro K hK) | ((with_reducible first | refine rg (h := ?_) | refine rgS [13, 15] (h := ?_) | refine nx ?_); try simp (disch := omega) only [h2, h5', h6, h7, h45, h46, h9, h10, h11, cNet,go_sem, simprocAttr]) | (with_reducible refine bk ?_) | ((with_reducible refine' cE ?hv ?_ ?_); (case hv => first | rfl | (simp only [h2, h5', h6, h7, h45, h46, h9, h10, h11, cNet,go_sem, simprocAttr]; rfl)); all_goals (intro hc; (try simp only [go_sem, simprocAttr] at hc); try (exfalso; omega))) | ((with_reducible first | refine grdS_split ?_ ?_ | refine lkG_split ?_ ?_) <;> intro hg <;> (try simp (disch := omega) only [hg, h2, h5', h6, h7, h45, h46, h9, h10, h11, cNet,go_sem, simprocAttr]) <;> (try simp only [go_sem, simprocAttr] at hg) <;> (try (exfalso; omega))) | ((with_reducible refine fe ?_); refine ⟨_, (by simp only [Try.f11, h2, h5', h6, h7, h45, h46, h9, h10, h11, cNet,go_sem, simprocAttr]; rfl), ?_⟩; first | rfl | (try simp only [h2, h5', h6, h7, h45, h46, h9, h10, h11, cNet,go_sem, simprocAttr, seval])) | with_reducible intro (ep : Nat → Nat) | with_reducible apply_assumption -exfalso -symm only [*])
    refine AW_range tabOK n.pipes.length (fun i f H => (f 2 = .pim (cNet n) ∧ f 5 = .bool true ∧ f 6 = .lst 1 (ints O) ∧ f 7 = .lst 1 (ints F) ∧ f 46 = .int .i64 k ∧ f 45 = .int .i64 ((n.pipes.length + 1 : Nat) : Int) ∧ f 9 = .int .i64 k ∧ f 10 = .int .i64 (flowAt n.pipes k L) ∧ f 60 = .lst 4 (n.pipes.map cPipe)) ∧ f 11 = .int .i64 (kidsF (k : Int) (fun i => flowAt n.pipes (i + 1) L) (n.pipes.take i) 0)) (by omega) (by rw [hXs]; decide) (by decide) (by (first | rfl | (simp only [go_sem, simprocAttr]; done) | (simp only [go_sem, simprocAttr]; rfl))) (by (first | rfl | (simp only [go_sem, simprocAttr]; done) | (simp only [go_sem, simprocAttr]; rfl)))
     ⟨by (and_intros <;> first | rfl | (simp only [h2, h5', h6, h7, h45, h46, h9, h10, go_sem, simprocAttr]; done) | (simp only [h2, h5', h6, h7, h45, h46, h9, h10, go_sem, simprocAttr]; rfl)), by (first | rfl | (simp only [h11, List.take_zero, kidsF, go_sem, simprocAttr]; done) | (simp only [h11, List.take_zero, kidsF, go_sem, simprocAttr]; rfl))⟩ ?_ ?_
    ·clear h2 h5' h6 h7 h45 h46 h9 h10 h11 hcut2
     rintro i f H hi h62 h61 ⟨⟨h2, h5', h6, h7, h46, h45, h9, h10, h60⟩, h11⟩
     obtain ⟨x, hx⟩ : ∃ x, n.pipes[i]? = some x := ⟨_, List.getElem?_eq_getElem hi⟩
     have hfi := hFg i hi
     have hfbi := hfb (i + 1)
     have hil : i < F.length := by omega
     have hkb := kidsF_bnd (k := (k : Int)) (f := fun i => flowAt n.pipes (i + 1) L) (b := 10000) (fun j => hfb (j + 1)) (by omega) (l := n.pipes.take i) (i := 0)
     have htl : (n.pipes.take i).length = i := by simp; omega
     rw [htl] at hkb
     have hst : kidsF (k : Int) (fun i => flowAt n.pipes (i + 1) L) (n.pipes.take (i + 1)) 0 = kidsF (k : Int) (fun i => flowAt n.pipes (i + 1) L) (n.pipes.take i) 0 + (if x.frm = (k : Int) then flowAt n.pipes (i + 1) L else 0) := by
      rw [take_snoc' hx, kidsF_app, htl]; simp [kidsF]
     rw [hst]
     obtain ⟨kd, hkd⟩ : ∃ kd, kidsF (k : Int) (fun i => flowAt n.pipes (i + 1) L) (n.pipes.take i) 0 = kd := ⟨_, rfl⟩
     rw [hkd] at h11 hkb ⊢
     refine AW_keep [] ?_
     by_cases hxk : x.frm = (k : Int)
     ·rw [if_pos hxk]
      repeat' (first | (with_reducible refine sk ?_; intro K hK) | ((with_reducible first | refine rg (h := ?_) | refine rgS [13, 15] (h := ?_) | refine nx ?_); try simp (disch := omega) only [h2, h5', h6, h7, h45, h46, h9, h10, h11, h60, h61, h62, hx, hxk, hfi, hil, cPipe,go_sem, simprocAttr]) | (with_reducible refine bk ?_) | ((with_reducible refine' cE ?hv ?_ ?_); (case hv => first | rfl | (simp only [h2, h5', h6, h7, h45, h46, h9, h10, h11, h60, h61, h62, hx, hxk, hfi, hil, cPipe,go_sem, simprocAttr]; rfl)); all_goals (intro hc; (try simp only [go_sem, simprocAttr] at hc); try (exfalso; omega))) | ((with_reducible first | refine grdS_split ?_ ?_ | refine lkG_split ?_ ?_) <;> intro hg <;> (try simp (disch := omega) only [hg, h2, h5', h6, h7, h45, h46, h9, h10, h11, h60, h61, h62, hx, hxk, hfi, hil, cPipe,go_sem, simprocAttr]) <;> (try simp only [go_sem, simprocAttr] at hg) <;> (try (exfalso; omega))) | ((with_reducible refine fe ?_); refine ⟨_, (by simp only [Try.f11, h2, h5', h6, h7, h45, h46, h9, h10, h11, h60, h61, h62, hx, hxk, hfi, hil, cPipe,go_sem, simprocAttr]; rfl), ?_⟩; first | rfl | (try simp only [h2, h5', h6, h7, h45, h46, h9, h10, h11, h60, h61, h62, hx, hxk, hfi, hil, cPipe,go_sem, simprocAttr, seval])) | with_reducible intro (ep : Nat → Nat) | with_reducible apply_assumption -exfalso -symm only [*])
     ·rw [if_neg hxk, Int.add_zero]
      repeat' (first | (with_reducible refine sk ?_; intro K hK) | ((with_reducible first | refine rg (h := ?_) | refine rgS [13, 15] (h := ?_) | refine nx ?_); try simp (disch := omega) only [h2, h5', h6, h7, h45, h46, h9, h10, h11, h60, h61, h62, hx, hxk, cPipe,go_sem, simprocAttr]) | (with_reducible refine bk ?_) | ((with_reducible refine' cE ?hv ?_ ?_); (case hv => first | rfl | (simp only [h2, h5', h6, h7, h45, h46, h9, h10, h11, h60, h61, h62, hx, hxk, cPipe,go_sem, simprocAttr]; rfl)); all_goals (intro hc; (try simp only [go_sem, simprocAttr] at hc); try (exfalso; omega))) | ((with_reducible first | refine grdS_split ?_ ?_ | refine lkG_split ?_ ?_) <;> intro hg <;> (try simp (disch := omega) only [hg, h2, h5', h6, h7, h45, h46, h9, h10, h11, h60, h61, h62, hx, hxk, cPipe,go_sem, simprocAttr]) <;> (try simp only [go_sem, simprocAttr] at hg) <;> (try (exfalso; omega))) | ((with_reducible refine fe ?_); refine ⟨_, (by simp only [Try.f11, h2, h5', h6, h7, h45, h46, h9, h10, h11, h60, h61, h62, hx, hxk, cPipe,go_sem, simprocAttr]; rfl), ?_⟩; first | rfl | (try simp only [h2, h5', h6, h7, h45, h46, h9, h10, h11, h60, h61, h62, hx, hxk, cPipe,go_sem, simprocAttr, seval])) | with_reducible intro (ep : Nat → Nat) | with_reducible apply_assumption -exfalso -symm only [*])
    ·clear h2 h5' h6 h7 h45 h46 h9 h10 h11
     rintro f H h62 h61 ⟨⟨h2, h5', h6, h7, h46, h45, h9, h10, h60⟩, h11⟩
     rw [List.take_of_length_le (Nat.le_refl _)] at h11
     repeat' (first | (with_reducible refine sk ?_; intro K hK) | ((with_reducible first | refine rg (h := ?_) | refine rgS [13, 15] (h := ?_) | refine nx ?_); try simp (disch := omega) only [h2, h5', h6, h7, h45, h46, h9, h10, h11,go_sem, simprocAttr]) | (with_reducible refine bk ?_) | ((with_reducible refine' cE ?hv ?_ ?_); (case hv => first | rfl | (simp only [h2, h5', h6, h7, h45, h46, h9, h10, h11,go_sem, simprocAttr]; rfl)); all_goals (intro hc; (try simp only [go_sem, simprocAttr] at hc); try (exfalso; omega))) | ((with_reducible first | refine grdS_split ?_ ?_ | refine lkG_split ?_ ?_) <;> intro hg <;> (try simp (disch := omega) only [hg, h2, h5', h6, h7, h45, h46, h9, h10, h11,go_sem, simprocAttr]) <;> (try simp only [go_sem, simprocAttr] at hg) <;> (try (exfalso; omega))) | ((with_reducible refine fe ?_); refine ⟨_, (by simp only [Try.f11, h2, h5', h6, h7, h45, h46, h9, h10, h11,go_sem, simprocAttr]; rfl), ?_⟩; first | rfl | (try simp only [h2, h5', h6, h7, h45, h46, h9, h10, h11,go_sem, simprocAttr, seval])) | with_reducible intro (ep : Nat → Nat) | with_reducible apply_assumption -exfalso -symm only [*])
     all_goals (and_intros <;> first | rfl | (simp only [h2, h5', h6, h7, h45, h46, h9, h10, h11, go_sem, simprocAttr]; done) | (simp only [h2, h5', h6, h7, h45, h46, h9, h10, h11, go_sem, simprocAttr]; rfl))
   clear hK
   rcases Nat.eq_zero_or_pos k with hk0 | hk0
   ·subst hk0
    have hfz : flowAt n.pipes 0 L = needs L := flowAt_zero
    rw [hfz] at hcut1
    repeat' (first | (with_reducible refine sk ?_; intro K hK) | ((first | (with_reducible first | refine rg (h := ?_) | refine rgS [13, 15] (h := ?_) | refine nx ?_) | refine pK (hflow) ?_); try simp (disch := omega) only [h2, h5', h6, h7, h45, h46, cNet,go_sem, simprocAttr]) | (with_reducible refine bk ?_) | ((with_reducible refine' cE ?hv ?_ ?_); (case hv => first | rfl | (simp only [h2, h5', h6, h7, h45, h46, cNet,go_sem, simprocAttr]; rfl)); all_goals (intro hc; (try simp only [go_sem, simprocAttr] at hc); try (exfalso; omega))) | ((with_reducible first | refine grdS_split ?_ ?_ | refine lkG_split ?_ ?_) <;> intro hg <;> (try simp (disch := omega) only [hg, h2, h5', h6, h7, h45, h46, cNet,go_sem, simprocAttr]) <;> (try simp only [go_sem, simprocAttr] at hg) <;> (try (exfalso; omega))) | ((with_reducible refine fe ?_); refine ⟨_, (by simp only [Try.f11, h2, h5', h6, h7, h45, h46, cNet,go_sem, simprocAttr]; rfl), ?_⟩; first | rfl | (try simp only [h2, h5', h6, h7, h45, h46, cNet,go_sem, simprocAttr, seval])) | with_reducible intro (ep : Nat → Nat) | with_reducible apply_assumption -exfalso -symm only [*])
    all_goals (and_intros <;> first | rfl | (simp only [h2, h5', h6, h7, h45, h46, cNet, go_sem, simprocAttr]; done) | (simp only [h2, h5', h6, h7, h45, h46, cNet, go_sem, simprocAttr]; rfl))
   ·obtain ⟨j, rfl⟩ : ∃ j, k = j + 1 := ⟨k - 1, by omega⟩
    have hfi := hFg j (by omega)
    have hjl : j < F.length := by omega
    have hz0 : ¬ ((j + 1 : Nat) : Int) = 0 := by omega
    repeat' (first | (with_reducible refine sk ?_; intro K hK) | ((with_reducible first | refine rg (h := ?_) | refine rgS [13, 15] (h := ?_) | refine nx ?_); try simp (disch := omega) only [h2, h5', h6, h7, h45, h46, hfi, hjl, hz0, cNet,go_sem, simprocAttr]) | (with_reducible refine bk ?_) | ((with_reducible refine' cE ?hv ?_ ?_); (case hv => first | rfl | (simp only [h2, h5', h6, h7, h45, h46, hfi, hjl, hz0, cNet,go_sem, simprocAttr]; rfl)); all_goals (intro hc; (try simp only [go_sem, simprocAttr] at hc); try (exfalso; omega))) | ((with_reducible first | refine grdS_split ?_ ?_ | refine lkG_split ?_ ?_) <;> intro hg <;> (try simp (disch := omega) only [hg, h2, h5', h6, h7, h45, h46, hfi, hjl, hz0, cNet,go_sem, simprocAttr]) <;> (try simp only [go_sem, simprocAttr] at hg) <;> (try (exfalso; omega))) | ((with_reducible refine fe ?_); refine ⟨_, (by simp only [Try.f11, h2, h5', h6, h7, h45, h46, hfi, hjl, hz0, cNet,go_sem, simprocAttr]; rfl), ?_⟩; first | rfl | (try simp only [h2, h5', h6, h7, h45, h46, hfi, hjl, hz0, cNet,go_sem, simprocAttr, seval])) | with_reducible intro (ep : Nat → Nat) | with_reducible apply_assumption -exfalso -symm only [*])
    all_goals (and_intros <;> first | rfl | (simp only [h2, h5', h6, h7, h45, h46, cNet, go_sem, simprocAttr]; done) | (simp only [h2, h5', h6, h7, h45, h46, cNet, go_sem, simprocAttr]; rfl))
  ·rintro f H h46 h45 ⟨h2, h5', h6, h7⟩
   repeat' (first | (with_reducible refine sk ?_; intro K hK) | ((with_reducible first | refine rg (h := ?_) | refine rgS [13, 15] (h := ?_) | refine nx ?_); try simp (disch := omega) only [h2, h5', h6, h7,go_sem, simprocAttr]) | (with_reducible refine bk ?_) | ((with_reducible refine' cE ?hv ?_ ?_); (case hv => first | rfl | (simp only [h2, h5', h6, h7,go_sem, simprocAttr]; rfl)); all_goals (intro hc; (try simp only [go_sem, simprocAttr] at hc); try (exfalso; omega))) | ((with_reducible first | refine grdS_split ?_ ?_ | refine lkG_split ?_ ?_) <;> intro hg <;> (try simp (disch := omega) only [hg, h2, h5', h6, h7,go_sem, simprocAttr]) <;> (try simp only [go_sem, simprocAttr] at hg) <;> (try (exfalso; omega))) | ((with_reducible refine fe ?_); refine ⟨_, (by simp only [Try.f11, h2, h5', h6, h7,go_sem, simprocAttr]; rfl), ?_⟩; first | rfl | (try simp only [h2, h5', h6, h7,go_sem, simprocAttr, seval])) | with_reducible intro (ep : Nat → Nat) | with_reducible apply_assumption -exfalso -symm only [*])
   all_goals (and_intros <;> first | rfl | (simp only [h2, h5', h6, h7, go_sem, simprocAttr]; done) | (simp only [h2, h5', h6, h7, go_sem, simprocAttr]; rfl))
 ·simp only [Bool.not_eq_true] at hr
  rw [hr] at hrd
  refine PureC_of (fn := Try.f11) tabOK (by kernel_rfl) rfl (by kernel_rfl) (by simp [Try.f11]) (by simp [noids, noid, noidss, go_sem, encNet, cNet]) (by first | rfl | simp [noids, noid, noidss, go_sem, encNet, cNet]) ?_
  intro X hX0 hXs
  repeat' (first | (with_reducible refine sk ?_; intro K hK) | ((first | (with_reducible first | refine rg (h := ?_) | refine rgS [13, 15] (h := ?_) | refine nx ?_) | refine pK (alive_run) ?_ | refine pK (hrd) ?_); try simp (disch := omega) only [encNet, cNet,go_sem, simprocAttr]) | (with_reducible refine bk ?_) | ((with_reducible refine' cE ?hv ?_ ?_); (case hv => first | rfl | (simp only [encNet, cNet,go_sem, simprocAttr]; rfl)); all_goals (intro hc; (try simp only [go_sem, simprocAttr] at hc); try (exfalso; omega))) | ((with_reducible first | refine grdS_split ?_ ?_ | refine lkG_split ?_ ?_) <;> intro hg <;> (try simp (disch := omega) only [hg, encNet, cNet,go_sem, simprocAttr]) <;> (try simp only [go_sem, simprocAttr] at hg) <;> (try (exfalso; omega))) | ((with_reducible refine fe ?_); refine ⟨_, (by simp only [Try.f11, encNet, cNet,go_sem, simprocAttr]; rfl), ?_⟩; first | rfl | (try simp only [encNet, cNet,go_sem, simprocAttr, seval])) | with_reducible intro (ep : Nat → Nat) | with_reducible apply_assumption -exfalso -symm only [*])
end Cp
namespace Cp
open Go
theorem fit_map {α : Type} {c : α → List Val} : ∀ {xss : List (List Val)}, (∀ es ∈ xss, ∃ x, es = c x) → ∃ l : List α, xss = l.map c
 | [], _ => ⟨[], rfl⟩
 | es :: xss, h => by
  obtain ⟨x, rfl⟩ := h es (by simp)
  obtain ⟨l, rfl⟩ := fit_map fun es he => h es (List.mem_cons_of_mem _ he)
  exact ⟨x :: l, rfl⟩
theorem fit_slice {T : Tab} {n : Nat} {t e sz : Nat} {vs : List Val} {b b2 s1 : Nat} {z z2 : Val} {p p2 : Bool} {k2 : TK} {α : Type} {c : α → List Val} (ht : T t = some { kind := .slice e, sz := s1, bytes := b, zero := z, plain := p })
  (he : T e = some { kind := k2, sz := sz, bytes := b2, zero := z2, plain := p2 }) (h : Fit T (n + 1) t vs) (hc : ∀ es, Fit T n e es → ∃ x, es = c x) : ∃ l : List α, vs = [.lst sz (l.map c)] := by
 simp only [Fit, ht] at h
 obtain ⟨sz', xss, rfl, hs, _, hx⟩ := h
 rw [he] at hs
 cases hs
 obtain ⟨l, rfl⟩ := fit_map (c := c) fun es hes => hc es (hx es hes).2
 exact ⟨l, rfl⟩
theorem fit_struct {T : Tab} {n : Nat} {t sz : Nat} {vs : List Val} {b : Nat} {z : Val} {p : Bool} {fs : List (Nat × Nat)} (ht : T t = some { kind := .struct fs, sz := sz, bytes := b, zero := z, plain := p }) (h : Fit T (n + 1) t vs) :
  vs.length = sz ∧ ∀ q ∈ fs, ∃ fi, T q.2 = some fi ∧ Fit T n q.2 ((vs.drop q.1).take fi.sz) := by
 simp only [Fit, ht] at h
 exact h
theorem fit_int {T : Tab} {n : Nat} {t : Nat} {vs : List Val} {s b : Nat} {z : Val} {p : Bool} {k : IntKind} (ht : T t = some { kind := .int k, sz := s, bytes := b, zero := z, plain := p }) (h : Fit T (n + 1) t vs) : ∃ m, vs = [.int k m] ∧ (Lit.int k m).wf = true := by
 simp only [Fit, ht] at h
 exact h
theorem fit3 {n : Nat} {vs : List Val} (h : Fit tab (n + 1) 3 vs) : ∃ m, vs = [.int .i64 m] := by
 obtain ⟨m, h, _⟩ := fit_int tab_3 h; exact ⟨m, h⟩
theorem fit_two {n : Nat} {vs : List Val} {t b : Nat} {z : Val} {p : Bool} (ht : tab t = some { kind := .struct [(0, 3), (1, 3)], sz := 2, bytes := b, zero := z, plain := p }) (h : Fit tab (n + 2) t vs) : ∃ x y : Int, vs = [.int .i64 x, .int .i64 y] := by
 obtain ⟨hl, hq⟩ := fit_struct ht h
 match vs, hl with
 | [a, b], _ =>
  obtain ⟨fi, e, h0⟩ := hq (0, 3) (by simp)
  rw [tab_3] at e; cases e
  obtain ⟨fi, e, h1⟩ := hq (1, 3) (by simp)
  rw [tab_3] at e; cases e
  obtain ⟨x, hx⟩ := fit3 h0
  obtain ⟨y, hy⟩ := fit3 h1
  simp at hx hy
  exact ⟨x, y, by rw [hx, hy]⟩
theorem fit_span {n : Nat} {vs : List Val} (h : Fit tab (n + 2) 26 vs) : ∃ s : Span, vs = [.int .i64 s.lo, .int .i64 s.hi] := by
 obtain ⟨x, y, h⟩ := fit_two tab_26 h; exact ⟨⟨x, y⟩, h⟩
theorem fit_pipe {n : Nat} {vs : List Val} (h : Fit tab (n + 3) 89 vs) : ∃ x : PipeT, vs = cPipe x := by
 obtain ⟨hl, hq⟩ := fit_struct tab_89 h
 match vs, hl with
 | [a0, a1, a2, a3], _ =>
  obtain ⟨fi, e0, h0⟩ := hq (0, 3) (by simp)
  rw [tab_3] at e0; cases e0
  obtain ⟨fi, e1, h1⟩ := hq (1, 3) (by simp)
  rw [tab_3] at e1; cases e1
  obtain ⟨fi, e2, h2⟩ := hq (2, 26) (by simp)
  rw [tab_26] at e2; cases e2
  obtain ⟨x0, h0⟩ := fit3 h0
  obtain ⟨x1, h1⟩ := fit3 h1
  obtain ⟨x2, h2⟩ := fit_span h2
  simp at h0 h1 h2
  obtain ⟨h2, h2'⟩ := h2
  exact ⟨⟨x0, x1, x2⟩, by rw [h0, h1, h2, h2']; rfl⟩
theorem fit_head {n : Nat} {vs : List Val} (h : Fit tab (n + 3) 61 vs) : ∃ x : HeadT, vs = cHead x := by
 obtain ⟨hl, hq⟩ := fit_struct tab_61 h
 match vs, hl with
 | [a0, a1, a2, a3, a4, a5, a6, a7], _ =>
  obtain ⟨fi, e0, h0⟩ := hq (0, 3) (by simp)
  rw [tab_3] at e0; cases e0
  obtain ⟨fi, e1, h1⟩ := hq (1, 3) (by simp)
  rw [tab_3] at e1; cases e1
  obtain ⟨fi, e2, h2⟩ := hq (2, 3) (by simp)
  rw [tab_3] at e2; cases e2
  obtain ⟨fi, e3, h3⟩ := hq (3, 3) (by simp)
  rw [tab_3] at e3; cases e3
  obtain ⟨fi, e4, h4⟩ := hq (4, 26) (by simp)
  rw [tab_26] at e4; cases e4
  obtain ⟨fi, e5, h5⟩ := hq (6, 26) (by simp)
  rw [tab_26] at e5; cases e5
  obtain ⟨x0, h0⟩ := fit3 h0
  obtain ⟨x1, h1⟩ := fit3 h1
  obtain ⟨x2, h2⟩ := fit3 h2
  obtain ⟨x3, h3⟩ := fit3 h3
  obtain ⟨x4, h4⟩ := fit_span h4
  obtain ⟨x5, h5⟩ := fit_span h5
  simp at h0 h1 h2 h3 h4 h5
  obtain ⟨h4, h4'⟩ := h4
  obtain ⟨h5, h5'⟩ := h5
  exact ⟨⟨x0, x1, x2, x3, x4, x5⟩, by rw [h0, h1, h2, h3, h4, h4', h5, h5']; rfl⟩
theorem fit_pump {n : Nat} {vs : List Val} (h : Fit tab (n + 3) 94 vs) : ∃ x : PumpT, vs = cPump x := by
 obtain ⟨hl, hq⟩ := fit_struct tab_94 h
 match vs, hl with
 | [a0, a1, a2], _ =>
  obtain ⟨fi, e0, h0⟩ := hq (0, 26) (by simp)
  rw [tab_26] at e0; cases e0
  obtain ⟨fi, e1, h1⟩ := hq (2, 3) (by simp)
  rw [tab_3] at e1; cases e1
  obtain ⟨x0, h0⟩ := fit_span h0
  obtain ⟨x1, h1⟩ := fit3 h1
  simp at h0 h1
  obtain ⟨h0, h0'⟩ := h0
  exact ⟨⟨x0, x1⟩, by rw [h0, h0', h1]; rfl⟩
theorem fit_net {n : Nat} {vs : List Val} (h : Fit tab (n + 5) 28 vs) : ∃ x : NetT, vs = cNet x := by
 obtain ⟨hl, hq⟩ := fit_struct tab_28 h
 match vs, hl with
 | [a0, a1, a2, a3, a4, a5, a6], _ =>
  obtain ⟨fi, e0, h0⟩ := hq (0, 22) (by simp)
  rw [tab_22] at e0; cases e0
  obtain ⟨fi, e1, h1⟩ := hq (1, 23) (by simp)
  rw [tab_23] at e1; cases e1
  obtain ⟨fi, e2, h2⟩ := hq (2, 24) (by simp)
  rw [tab_24] at e2; cases e2
  obtain ⟨fi, e3, h3⟩ := hq (3, 3) (by simp)
  rw [tab_3] at e3; cases e3
  obtain ⟨fi, e4, h4⟩ := hq (4, 26) (by simp)
  rw [tab_26] at e4; cases e4
  obtain ⟨fi, e5, h5⟩ := hq (6, 3) (by simp)
  rw [tab_3] at e5; cases e5
  obtain ⟨x0, h0⟩ := fit_slice tab_22 tab_89 h0 fun es he => fit_pipe he
  obtain ⟨x1, h1⟩ := fit_slice tab_23 tab_61 h1 fun es he => fit_head he
  obtain ⟨x2, h2⟩ := fit_slice tab_24 tab_94 h2 fun es he => fit_pump he
  obtain ⟨x3, h3⟩ := fit3 h3
  obtain ⟨x4, h4⟩ := fit_span h4
  obtain ⟨x5, h5⟩ := fit3 h5
  simp at h0 h1 h2 h3 h4 h5
  obtain ⟨h4, h4'⟩ := h4
  exact ⟨⟨x0, x1, x2, x3, x4, x5⟩, by rw [h0, h1, h2, h3, h4, h4', h5]; rfl⟩
theorem arg_byte {a : Val} (h : FitV tab 8 5 a) : ∃ m, a = .int .u8 m ∧ 0 ≤ m ∧ m ≤ 255 := by
 obtain ⟨ti, cs, e, h, _, rfl⟩ := h
 obtain ⟨m, rfl, hw⟩ := fit_int tab_5 h
 rw [tab_5] at e; cases e
 simp [Lit.wf, IntKind.min, IntKind.max, IntKind.signed, IntKind.bits] at hw
 exact ⟨m, rfl, by omega, by omega⟩
theorem arg_net {a : Val} (h : FitV tab 8 28 a) : ∃ x : NetT, a = encNet x := by
 obtain ⟨ti, cs, e, h, _, rfl⟩ := h
 obtain ⟨l, rfl⟩ := fit_net h
 rw [tab_28] at e; cases e; exact ⟨l, rfl⟩
end Cp
