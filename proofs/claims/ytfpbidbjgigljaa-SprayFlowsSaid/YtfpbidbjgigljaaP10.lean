/- Rules, facts and contracts that the statement's proof leans on. Conditions: none. -/
import Derived.Test.YtfpbidbjgigljaaP9
set_option linter.unusedVariables false
set_option linter.unusedSimpArgs false
set_option linter.unusedSectionVars false
namespace Cp
open Go Go.Proofs
set_option maxRecDepth 10000
set_option maxHeartbeats 4000000
theorem same_self (a : NetT) (ha : NetS a) : PureC Try.prog 25 [encNet a, encNet a] (.bool true) := by
 have hp := ha.pipes
 have hh := ha.heads
 have hq := ha.pumps
 refine PureC_of (fn := Try.f25) tabOK (by kernel_rfl) rfl (by kernel_rfl) (by simp [Try.f25]) (by simp [noids, noid, noidss, go_sem, encNet, cNet]) (by first | rfl | simp [noids, noid, noidss, go_sem, encNet, cNet]) ?_
 intro X hX0 hXs
 repeat' (first | ((fail_if_success (with_reducible refine AW_at (id := 3) ?_)); with_reducible refine sk ?_; intro K hK) | ((with_reducible first | refine rg (h := ?_) | refine nx ?_); try simp (disch := omega) only [encNet, cNet, Bool.true_and, Bool.and_self,go_sem, simprocAttr]) | (with_reducible refine bk ?_) | ((with_reducible refine' cE ?hv ?_ ?_); (case hv => first | rfl | (simp only [encNet, cNet, Bool.true_and, Bool.and_self,go_sem, simprocAttr]; rfl)); all_goals (intro hc; (try simp only [go_sem, simprocAttr] at hc); try (exfalso; omega))) | ((with_reducible first | refine grdS_split ?_ ?_ | refine lkG_split ?_ ?_) <;> intro hg <;> (try simp (disch := omega) only [hg, encNet, cNet, Bool.true_and, Bool.and_self,go_sem, simprocAttr]) <;> (try simp only [go_sem, simprocAttr] at hg) <;> (try (exfalso; omega))) | ((with_reducible refine fe ?_); refine ⟨_, (by simp only [Try.f25, encNet, cNet, Bool.true_and, Bool.and_self,go_sem, simprocAttr]; rfl), ?_⟩; first | rfl | (try simp only [encNet, cNet, Bool.true_and, Bool.and_self,go_sem, simprocAttr, seval])) | with_reducible intro (ep : Nat → Nat) | with_reducible apply_assumption -exfalso -symm only [*])
 have hcut1 : ∀ f H, (f 2 = .pim (cNet a) ∧ f 3 = .pim (cNet a)) → K f H := by
  rintro f H ⟨h2, h3⟩
  refine hK f H ?_
  clear hK
  refine sk ?_
  intro K hK
  have hcut2 : ∀ f H, (f 2 = .pim (cNet a) ∧ f 3 = .pim (cNet a)) → K f H := by
   clear h2 h3
   rintro f H ⟨h2, h3⟩
   refine hK f H ?_
   clear hK
   refine sk ?_
   intro K hK
   have hcut3 : ∀ f H, (f 2 = .pim (cNet a) ∧ f 3 = .pim (cNet a)) → K f H := by
    clear h2 h3
    rintro f H ⟨h2, h3⟩
    refine hK f H ?_
    clear hK
    repeat' (first | (with_reducible refine sk ?_; intro K hK) | ((with_reducible first | refine rg (h := ?_) | refine nx ?_); try simp (disch := omega) only [h2, h3,go_sem, simprocAttr]) | (with_reducible refine bk ?_) | ((with_reducible refine' cE ?hv ?_ ?_); (case hv => first | rfl | (simp only [h2, h3,go_sem, simprocAttr]; rfl)); all_goals (intro hc; (try simp only [go_sem, simprocAttr] at hc); try (exfalso; omega))) | ((with_reducible first | refine grdS_split ?_ ?_ | refine lkG_split ?_ ?_) <;> intro hg <;> (try simp (disch := omega) only [hg, h2, h3,go_sem, simprocAttr]) <;> (try simp only [go_sem, simprocAttr] at hg) <;> (try (exfalso; omega))) | ((with_reducible refine fe ?_); refine ⟨_, (by simp only [Try.f25, h2, h3,go_sem, simprocAttr]; rfl), ?_⟩; first | rfl | (try simp only [h2, h3,go_sem, simprocAttr, seval])) | with_reducible intro (ep : Nat → Nat) | with_reducible apply_assumption -exfalso -symm only [*])
   clear hK
   repeat' (first | (with_reducible refine sk ?_; intro K hK) | ((with_reducible first | refine rg (h := ?_) | refine nx ?_); try simp (disch := omega) only [h2, h3, cNet,go_sem, simprocAttr]) | (with_reducible refine bk ?_) | ((with_reducible refine' cE ?hv ?_ ?_); (case hv => first | rfl | (simp only [h2, h3, cNet,go_sem, simprocAttr]; rfl)); all_goals (intro hc; (try simp only [go_sem, simprocAttr] at hc); try (exfalso; omega))) | ((with_reducible first | refine grdS_split ?_ ?_ | refine lkG_split ?_ ?_) <;> intro hg <;> (try simp (disch := omega) only [hg, h2, h3, cNet,go_sem, simprocAttr]) <;> (try simp only [go_sem, simprocAttr] at hg) <;> (try (exfalso; omega))) | ((with_reducible refine fe ?_); refine ⟨_, (by simp only [Try.f25, h2, h3, cNet,go_sem, simprocAttr]; rfl), ?_⟩; first | rfl | (try simp only [h2, h3, cNet,go_sem, simprocAttr, seval])) | with_reducible intro (ep : Nat → Nat) | with_reducible apply_assumption -exfalso -symm only [*])
   refine AW_block (AW_loop (fun m f H => ∃ k : Nat, m = a.pumps.length - k ∧ k ≤ a.pumps.length ∧ (f 2 = .pim (cNet a) ∧ f 3 = .pim (cNet a) ∧ f 7 = .int .i64 k)) a.pumps.length
    ⟨0, by simp, Nat.zero_le _, by (and_intros <;> first | rfl | (simp only [h2, h3, cNet, go_sem, simprocAttr]; done) | (simp only [h2, h3, cNet, go_sem, simprocAttr]; rfl))⟩ ?_)
   clear h2 h3
   rintro m f H ⟨k, rfl, hk, h2, h3, h7⟩
   by_cases hlt : k < a.pumps.length
   ·obtain ⟨x, hx⟩ : ∃ x, a.pumps[k]? = some x := ⟨_, List.getElem?_eq_getElem hlt⟩
    repeat' (first | (with_reducible refine sk ?_; intro K hK) | ((with_reducible first | refine rg (h := ?_) | refine nx ?_); try simp (disch := omega) only [h2, h3, h7, hx, cNet, cPump, Bool.true_and, Bool.and_self,go_sem, simprocAttr]) | (with_reducible refine bk ?_) | ((with_reducible refine' cE ?hv ?_ ?_); (case hv => first | rfl | (simp only [h2, h3, h7, hx, cNet, cPump, Bool.true_and, Bool.and_self,go_sem, simprocAttr]; rfl)); all_goals (intro hc; (try simp only [go_sem, simprocAttr] at hc); try (exfalso; omega))) | ((with_reducible first | refine grdS_split ?_ ?_ | refine lkG_split ?_ ?_) <;> intro hg <;> (try simp (disch := omega) only [hg, h2, h3, h7, hx, cNet, cPump, Bool.true_and, Bool.and_self,go_sem, simprocAttr]) <;> (try simp only [go_sem, simprocAttr] at hg) <;> (try (exfalso; omega))) | ((with_reducible refine fe ?_); refine ⟨_, (by simp only [Try.f25, h2, h3, h7, hx, cNet, cPump, Bool.true_and, Bool.and_self,go_sem, simprocAttr]; rfl), ?_⟩; first | rfl | (try simp only [h2, h3, h7, hx, cNet, cPump, Bool.true_and, Bool.and_self,go_sem, simprocAttr, seval])) | with_reducible intro (ep : Nat → Nat) | with_reducible apply_assumption -exfalso -symm only [*])
    exact ⟨a.pumps.length - (k + 1), by omega, k + 1, rfl, by omega, by (and_intros <;> first | rfl | (simp only [h2, h3, h7, cNet, go_sem, simprocAttr]; done) | (simp only [h2, h3, h7, cNet, go_sem, simprocAttr]; rfl))⟩
   ·repeat' (first | (with_reducible refine sk ?_; intro K hK) | ((with_reducible first | refine rg (h := ?_) | refine nx ?_); try simp (disch := omega) only [h2, h3, h7, cNet,go_sem, simprocAttr]) | (with_reducible refine bk ?_) | ((with_reducible refine' cE ?hv ?_ ?_); (case hv => first | rfl | (simp only [h2, h3, h7, cNet,go_sem, simprocAttr]; rfl)); all_goals (intro hc; (try simp only [go_sem, simprocAttr] at hc); try (exfalso; omega))) | ((with_reducible first | refine grdS_split ?_ ?_ | refine lkG_split ?_ ?_) <;> intro hg <;> (try simp (disch := omega) only [hg, h2, h3, h7, cNet,go_sem, simprocAttr]) <;> (try simp only [go_sem, simprocAttr] at hg) <;> (try (exfalso; omega))) | ((with_reducible refine fe ?_); refine ⟨_, (by simp only [Try.f25, h2, h3, h7, cNet,go_sem, simprocAttr]; rfl), ?_⟩; first | rfl | (try simp only [h2, h3, h7, cNet,go_sem, simprocAttr, seval])) | with_reducible intro (ep : Nat → Nat) | with_reducible apply_assumption -exfalso -symm only [*])
    all_goals (and_intros <;> first | rfl | (simp only [h2, h3, cNet, go_sem, simprocAttr]; done) | (simp only [h2, h3, cNet, go_sem, simprocAttr]; rfl))
  clear hK
  repeat' (first | (with_reducible refine sk ?_; intro K hK) | ((with_reducible first | refine rg (h := ?_) | refine nx ?_); try simp (disch := omega) only [h2, h3, cNet,go_sem, simprocAttr]) | (with_reducible refine bk ?_) | ((with_reducible refine' cE ?hv ?_ ?_); (case hv => first | rfl | (simp only [h2, h3, cNet,go_sem, simprocAttr]; rfl)); all_goals (intro hc; (try simp only [go_sem, simprocAttr] at hc); try (exfalso; omega))) | ((with_reducible first | refine grdS_split ?_ ?_ | refine lkG_split ?_ ?_) <;> intro hg <;> (try simp (disch := omega) only [hg, h2, h3, cNet,go_sem, simprocAttr]) <;> (try simp only [go_sem, simprocAttr] at hg) <;> (try (exfalso; omega))) | ((with_reducible refine fe ?_); refine ⟨_, (by simp only [Try.f25, h2, h3, cNet,go_sem, simprocAttr]; rfl), ?_⟩; first | rfl | (try simp only [h2, h3, cNet,go_sem, simprocAttr, seval])) | with_reducible intro (ep : Nat → Nat) | with_reducible apply_assumption -exfalso -symm only [*])
  refine AW_block (AW_loop (fun m f H => ∃ k : Nat, m = a.heads.length - k ∧ k ≤ a.heads.length ∧ (f 2 = .pim (cNet a) ∧ f 3 = .pim (cNet a) ∧ f 6 = .int .i64 k)) a.heads.length
   ⟨0, by simp, Nat.zero_le _, by (and_intros <;> first | rfl | (simp only [h2, h3, cNet, go_sem, simprocAttr]; done) | (simp only [h2, h3, cNet, go_sem, simprocAttr]; rfl))⟩ ?_)
  clear h2 h3
  rintro m f H ⟨k, rfl, hk, h2, h3, h6⟩
  by_cases hlt : k < a.heads.length
  ·obtain ⟨x, hx⟩ : ∃ x, a.heads[k]? = some x := ⟨_, List.getElem?_eq_getElem hlt⟩
   repeat' (first | (with_reducible refine sk ?_; intro K hK) | ((with_reducible first | refine rg (h := ?_) | refine nx ?_); try simp (disch := omega) only [h2, h3, h6, hx, cNet, cHead, Bool.true_and, Bool.and_self,go_sem, simprocAttr]) | (with_reducible refine bk ?_) | ((with_reducible refine' cE ?hv ?_ ?_); (case hv => first | rfl | (simp only [h2, h3, h6, hx, cNet, cHead, Bool.true_and, Bool.and_self,go_sem, simprocAttr]; rfl)); all_goals (intro hc; (try simp only [go_sem, simprocAttr] at hc); try (exfalso; omega))) | ((with_reducible first | refine grdS_split ?_ ?_ | refine lkG_split ?_ ?_) <;> intro hg <;> (try simp (disch := omega) only [hg, h2, h3, h6, hx, cNet, cHead, Bool.true_and, Bool.and_self,go_sem, simprocAttr]) <;> (try simp only [go_sem, simprocAttr] at hg) <;> (try (exfalso; omega))) | ((with_reducible refine fe ?_); refine ⟨_, (by simp only [Try.f25, h2, h3, h6, hx, cNet, cHead, Bool.true_and, Bool.and_self,go_sem, simprocAttr]; rfl), ?_⟩; first | rfl | (try simp only [h2, h3, h6, hx, cNet, cHead, Bool.true_and, Bool.and_self,go_sem, simprocAttr, seval])) | with_reducible intro (ep : Nat → Nat) | with_reducible apply_assumption -exfalso -symm only [*])
   exact ⟨a.heads.length - (k + 1), by omega, k + 1, rfl, by omega, by (and_intros <;> first | rfl | (simp only [h2, h3, h6, cNet, go_sem, simprocAttr]; done) | (simp only [h2, h3, h6, cNet, go_sem, simprocAttr]; rfl))⟩
  ·repeat' (first | (with_reducible refine sk ?_; intro K hK) | ((with_reducible first | refine rg (h := ?_) | refine nx ?_); try simp (disch := omega) only [h2, h3, h6, cNet,go_sem, simprocAttr]) | (with_reducible refine bk ?_) | ((with_reducible refine' cE ?hv ?_ ?_); (case hv => first | rfl | (simp only [h2, h3, h6, cNet,go_sem, simprocAttr]; rfl)); all_goals (intro hc; (try simp only [go_sem, simprocAttr] at hc); try (exfalso; omega))) | ((with_reducible first | refine grdS_split ?_ ?_ | refine lkG_split ?_ ?_) <;> intro hg <;> (try simp (disch := omega) only [hg, h2, h3, h6, cNet,go_sem, simprocAttr]) <;> (try simp only [go_sem, simprocAttr] at hg) <;> (try (exfalso; omega))) | ((with_reducible refine fe ?_); refine ⟨_, (by simp only [Try.f25, h2, h3, h6, cNet,go_sem, simprocAttr]; rfl), ?_⟩; first | rfl | (try simp only [h2, h3, h6, cNet,go_sem, simprocAttr, seval])) | with_reducible intro (ep : Nat → Nat) | with_reducible apply_assumption -exfalso -symm only [*])
   all_goals (and_intros <;> first | rfl | (simp only [h2, h3, cNet, go_sem, simprocAttr]; done) | (simp only [h2, h3, cNet, go_sem, simprocAttr]; rfl))
 clear hK
 repeat' (first | (with_reducible refine sk ?_; intro K hK) | ((with_reducible first | refine rg (h := ?_) | refine nx ?_); try simp (disch := omega) only [cNet,go_sem, simprocAttr]) | (with_reducible refine bk ?_) | ((with_reducible refine' cE ?hv ?_ ?_); (case hv => first | rfl | (simp only [cNet,go_sem, simprocAttr]; rfl)); all_goals (intro hc; (try simp only [go_sem, simprocAttr] at hc); try (exfalso; omega))) | ((with_reducible first | refine grdS_split ?_ ?_ | refine lkG_split ?_ ?_) <;> intro hg <;> (try simp (disch := omega) only [hg, cNet,go_sem, simprocAttr]) <;> (try simp only [go_sem, simprocAttr] at hg) <;> (try (exfalso; omega))) | ((with_reducible refine fe ?_); refine ⟨_, (by simp only [Try.f25, cNet,go_sem, simprocAttr]; rfl), ?_⟩; first | rfl | (try simp only [cNet,go_sem, simprocAttr, seval])) | with_reducible intro (ep : Nat → Nat) | with_reducible apply_assumption -exfalso -symm only [*])
 refine AW_block (AW_loop (fun m f H => ∃ k : Nat, m = a.pipes.length - k ∧ k ≤ a.pipes.length ∧ (f 2 = .pim (cNet a) ∧ f 3 = .pim (cNet a) ∧ f 5 = .int .i64 k)) a.pipes.length
  ⟨0, by simp, Nat.zero_le _, by (and_intros <;> first | rfl | (simp only [cNet, go_sem, simprocAttr]; done) | (simp only [cNet, go_sem, simprocAttr]; rfl))⟩ ?_)
 rintro m f H ⟨k, rfl, hk, h2, h3, h5⟩
 by_cases hlt : k < a.pipes.length
 ·obtain ⟨x, hx⟩ : ∃ x, a.pipes[k]? = some x := ⟨_, List.getElem?_eq_getElem hlt⟩
  repeat' (first | (with_reducible refine sk ?_; intro K hK) | ((with_reducible first | refine rg (h := ?_) | refine nx ?_); try simp (disch := omega) only [h2, h3, h5, hx, cNet, cPipe, Bool.true_and, Bool.and_self,go_sem, simprocAttr]) | (with_reducible refine bk ?_) | ((with_reducible refine' cE ?hv ?_ ?_); (case hv => first | rfl | (simp only [h2, h3, h5, hx, cNet, cPipe, Bool.true_and, Bool.and_self,go_sem, simprocAttr]; rfl)); all_goals (intro hc; (try simp only [go_sem, simprocAttr] at hc); try (exfalso; omega))) | ((with_reducible first | refine grdS_split ?_ ?_ | refine lkG_split ?_ ?_) <;> intro hg <;> (try simp (disch := omega) only [hg, h2, h3, h5, hx, cNet, cPipe, Bool.true_and, Bool.and_self,go_sem, simprocAttr]) <;> (try simp only [go_sem, simprocAttr] at hg) <;> (try (exfalso; omega))) | ((with_reducible refine fe ?_); refine ⟨_, (by simp only [Try.f25, h2, h3, h5, hx, cNet, cPipe, Bool.true_and, Bool.and_self,go_sem, simprocAttr]; rfl), ?_⟩; first | rfl | (try simp only [h2, h3, h5, hx, cNet, cPipe, Bool.true_and, Bool.and_self,go_sem, simprocAttr, seval])) | with_reducible intro (ep : Nat → Nat) | with_reducible apply_assumption -exfalso -symm only [*])
  exact ⟨a.pipes.length - (k + 1), by omega, k + 1, rfl, by omega, by (and_intros <;> first | rfl | (simp only [h2, h3, h5, cNet, go_sem, simprocAttr]; done) | (simp only [h2, h3, h5, cNet, go_sem, simprocAttr]; rfl))⟩
 ·repeat' (first | (with_reducible refine sk ?_; intro K hK) | ((with_reducible first | refine rg (h := ?_) | refine nx ?_); try simp (disch := omega) only [h2, h3, h5, cNet,go_sem, simprocAttr]) | (with_reducible refine bk ?_) | ((with_reducible refine' cE ?hv ?_ ?_); (case hv => first | rfl | (simp only [h2, h3, h5, cNet,go_sem, simprocAttr]; rfl)); all_goals (intro hc; (try simp only [go_sem, simprocAttr] at hc); try (exfalso; omega))) | ((with_reducible first | refine grdS_split ?_ ?_ | refine lkG_split ?_ ?_) <;> intro hg <;> (try simp (disch := omega) only [hg, h2, h3, h5, cNet,go_sem, simprocAttr]) <;> (try simp only [go_sem, simprocAttr] at hg) <;> (try (exfalso; omega))) | ((with_reducible refine fe ?_); refine ⟨_, (by simp only [Try.f25, h2, h3, h5, cNet,go_sem, simprocAttr]; rfl), ?_⟩; first | rfl | (try simp only [h2, h3, h5, cNet,go_sem, simprocAttr, seval])) | with_reducible intro (ep : Nat → Nat) | with_reducible apply_assumption -exfalso -symm only [*])
  all_goals (and_intros <;> first | rfl | (simp only [h2, h3, cNet, go_sem, simprocAttr]; done) | (simp only [h2, h3, cNet, go_sem, simprocAttr]; rfl))
theorem rpress_ok (n : NetT) (hF : NetF n) (l : List Int) (hl : l.length ≤ 20) (ho : ∀ a ∈ l, (headAt n.heads a).isSome = true) (out : List Int) (hno : outOK n out = true) (k : Nat) (h : HeadT) (hk : n.heads[k]? = some h) (best : Bool) :
  PureC Try.prog 63 [encNet n, .lst 1 (ints l), .lst 1 (ints out), .int .i64 k, .bool best] (.int .i64 (pressS n (openH n.heads l) out best h)) := by
 have hpl := hF.pipes
 have hhf := hF.head h (List.mem_of_getElem? hk)
 have hkl : k < n.heads.length := (List.getElem?_eq_some_iff.1 hk).1
 have h5 := openH_500 hF l
 have hLl := @openH_len n.heads l
 have hnb := needs_bnd h5
 have hrf := rflows_ok n hF l hl ho
 have hfl := flow_ok n hF l (by omega) ho
 have hpm := rpumps_ok n hF (needs (openH n.heads l)) (by omega) out hno best
 obtain ⟨L, hL⟩ : ∃ L, openH n.heads l = L := ⟨_, rfl⟩
 rw [hL] at h5 hLl hnb hrf hfl hpm ⊢
 have hpe : pumpsF best (shareS n (needs L) out) out n.pumps 0 200000 = pumpsS n L out best := rfl
 rw [hpe] at hpm
 have hpb := pumpsS_bnd hF h5 (by omega) hno best
 unfold pressS
 obtain ⟨pm, hpme⟩ : ∃ pm, pumpsS n L out best = pm := ⟨_, rfl⟩
 rw [hpme] at hpm hpb ⊢
 simp only [encNet, cNet] at hrf hfl hpm
 have hcast : ((h.node.toNat : Nat) : Int) = h.node := by omega
 refine PureC_of (fn := Try.f63) tabOK (by kernel_rfl) rfl (by kernel_rfl) (by simp [Try.f63]) (by simp [noids, noid, noidss, go_sem, encNet, cNet]) (by first | rfl | simp [noids, noid, noidss, go_sem, encNet, cNet]) ?_
 intro X hX0 hXs
 repeat' (first | (with_reducible refine sk ?_; intro K hK) | ((first | (with_reducible first | refine rg (h := ?_) | refine nx ?_) | refine pK (hrf) ?_ | refine pK (hfl) ?_ | refine pK (hpm) ?_); try simp (disch := omega) only [encNet, cNet, hk, hkl, cHead,go_sem, simprocAttr]) | (with_reducible refine bk ?_) | ((with_reducible refine' cE ?hv ?_ ?_); (case hv => first | rfl | (simp only [encNet, cNet, hk, hkl, cHead,go_sem, simprocAttr]; rfl)); all_goals (intro hc; (try simp only [go_sem, simprocAttr] at hc); try (exfalso; omega))) | ((with_reducible refine fe ?_); refine ⟨_, (by simp only [Try.f63, encNet, cNet, hk, hkl, cHead,go_sem, simprocAttr]; rfl), ?_⟩; first | rfl | (try simp only [encNet, cNet, hk, hkl, cHead,go_sem, simprocAttr, seval])) | with_reducible intro (ep : Nat → Nat) | with_reducible apply_assumption -exfalso -symm only [*])
 refine AW_block (AW_loop (fun j f H => j ≤ n.pipes.length ∧ (f 4 = .bool best ∧ f 5 = .pim (cNet n) ∧ f 11 = .lst 1 (ints (flowD n L)) ∧ f 13 = .int .i64 j) ∧ ∃ bar, f 12 = .int .i64 bar ∧ bar - lossL n.pipes L best (path n.pipes j) = pm - lossL n.pipes L best (path n.pipes h.node.toNat) ∧ -1000000 - 100000001 * ((n.pipes.length : Int) - j) ≤ bar ∧ bar ≤ 200000) h.node.toNat
  ⟨by omega, by (and_intros <;> first | rfl | (simp only [hcast, cNet, go_sem, simprocAttr]; done) | (simp only [hcast, cNet, go_sem, simprocAttr]; rfl)), pm, by (first | rfl | (simp only [go_sem, simprocAttr]; done) | (simp only [go_sem, simprocAttr]; rfl)), rfl, by omega, by omega⟩ ?_)
 rintro j f H ⟨hj, ⟨h4, h5', h11, h13⟩, bar, h12, hr, hb1, hb2⟩
 refine AW_keep [] ?_
 by_cases hz : j = 0
 ·subst hz
  rw [path_zero, lossL, Int.sub_zero] at hr
  repeat' (first | (with_reducible refine sk ?_; intro K hK) | ((with_reducible first | refine rg (h := ?_) | refine nx ?_); try simp (disch := omega) only [h4, h5', h11, h12, h13,go_sem, simprocAttr]) | (with_reducible refine bk ?_) | ((with_reducible refine' cE ?hv ?_ ?_); (case hv => first | rfl | (simp only [h4, h5', h11, h12, h13,go_sem, simprocAttr]; rfl)); all_goals (intro hc; (try simp only [go_sem, simprocAttr] at hc); try (exfalso; omega))) | ((with_reducible refine fe ?_); refine ⟨_, (by simp only [Try.f63, h4, h5', h11, h12, h13,go_sem, simprocAttr]; rfl), ?_⟩; first | rfl | (try simp only [h4, h5', h11, h12, h13,go_sem, simprocAttr, seval])) | with_reducible intro (ep : Nat → Nat) | with_reducible apply_assumption -exfalso -symm only [*])
  all_goals rw [hr]
 ·obtain ⟨i, rfl⟩ : ∃ i, j = i + 1 := ⟨j - 1, by omega⟩
  obtain ⟨p, hp⟩ : ∃ p, n.pipes[i]? = some p := ⟨_, List.getElem?_eq_getElem (by omega)⟩
  have hpf := hF.pipe i p hp
  have hfb := foulE_bnd hpf.2.2 best
  have hfl := flowAt_bnd (ps := n.pipes) (j := i + 1) h5
  have hfg : (flowD n L)[i]? = some (flowAt n.pipes (i + 1) L) := flowD_get (by omega)
  have hil : i < n.pipes.length := by omega
  have hlb := loss_bnd hfb (x := flowAt n.pipes (i + 1) L) (by omega)
  have hub2 : upD (foulE best p * flowAt n.pipes (i + 1) L * flowAt n.pipes (i + 1) L) 1000 ≤ 100000001 ∧ 0 ≤ upD (foulE best p * flowAt n.pipes (i + 1) L * flowAt n.pipes (i + 1) L) 1000 := by unfold upD; omega
  have hmm : 0 ≤ foulE best p * flowAt n.pipes (i + 1) L ∧ foulE best p * flowAt n.pipes (i + 1) L ≤ 10000000 := ⟨Int.mul_nonneg hfb.1 hfl.1, Int.le_trans (Int.mul_le_mul hfb.2 (by omega : flowAt n.pipes (i + 1) L ≤ 10000) hfl.1 (by omega)) (by omega)⟩
  have hst := path_step hF.falls (k := i + 1) (by omega)
  have hfe : frmOf n.pipes (i + 1) = p.frm.toNat := frmOf_get hp
  rw [hst, lossL] at hr
  have hla : lossAt n.pipes L best (i + 1) = upD (foulE best p * flowAt n.pipes (i + 1) L * flowAt n.pipes (i + 1) L) 1000 := by unfold lossAt; rw [Nat.add_sub_cancel, hp]
  rw [hla] at hr
  have hkp : (0 : Int) < ((i + 1 : Nat) : Int) := by omega
  have hfr : p.frm = ((frmOf n.pipes (i + 1) : Nat) : Int) := by omega
  have hlt := frmOf_lt hF.falls (k := i + 1) (by omega)
  obtain ⟨fl, hfle⟩ : ∃ fl, flowAt n.pipes (i + 1) L = fl := ⟨_, rfl⟩
  rw [hfle] at hfg hub2 hmm hr hlb
  have htd : (foulE best p * fl * fl + 999).tdiv 1000 = upD (foulE best p * fl * fl) 1000 := by
   have := tdiv_up (a := foulE best p * fl * fl) (b := 1000) hlb.1 (by omega)
   rwa [show foulE best p * fl * fl + 1000 - 1 = foulE best p * fl * fl + 999 by omega] at this
  obtain ⟨up, hupe⟩ : ∃ up, upD (foulE best p * fl * fl) 1000 = up := ⟨_, rfl⟩
  rw [hupe] at htd hub2 hr
  cases best with
  | true =>
   simp only [foulE, if_true] at htd hmm hlb
   repeat' (first | (with_reducible refine sk ?_; intro K hK) | ((with_reducible first | refine rg (h := ?_) | refine nx ?_); try simp (disch := omega) only [h4, h5', h11, h12, h13, hp, hfg, hkp, hil, flowD_len, hfr, htd, cNet, cPipe,go_sem, simprocAttr]) | (with_reducible refine bk ?_) | ((with_reducible refine' cE ?hv ?_ ?_); (case hv => first | rfl | (simp only [h4, h5', h11, h12, h13, hp, hfg, hkp, hil, flowD_len, hfr, htd, cNet, cPipe,go_sem, simprocAttr]; rfl)); all_goals (intro hc; (try simp only [go_sem, simprocAttr] at hc); try (exfalso; omega))) | ((with_reducible refine fe ?_); refine ⟨_, (by simp only [Try.f63, h4, h5', h11, h12, h13, hp, hfg, hkp, hil, flowD_len, hfr, htd, cNet, cPipe,go_sem, simprocAttr]; rfl), ?_⟩; first | rfl | (try simp only [h4, h5', h11, h12, h13, hp, hfg, hkp, hil, flowD_len, hfr, htd, cNet, cPipe,go_sem, simprocAttr, seval])) | with_reducible intro (ep : Nat → Nat) | with_reducible apply_assumption -exfalso -symm only [*])
   exact ⟨frmOf n.pipes (i + 1), hlt, by omega, by (and_intros <;> first | rfl | (simp only [h4, h5', h11, h12, h13, cNet, go_sem, simprocAttr]; done) | (simp only [h4, h5', h11, h12, h13, cNet, go_sem, simprocAttr]; rfl)), bar - up, by (first | rfl | (simp only [go_sem, simprocAttr]; done) | (simp only [go_sem, simprocAttr]; rfl)), by omega, by omega, by omega⟩
  | false =>
   simp only [foulE, Bool.false_eq_true, if_false] at htd hmm hlb
   repeat' (first | (with_reducible refine sk ?_; intro K hK) | ((with_reducible first | refine rg (h := ?_) | refine nx ?_); try simp (disch := omega) only [h4, h5', h11, h12, h13, hp, hfg, hkp, hil, flowD_len, hfr, htd, cNet, cPipe,go_sem, simprocAttr]) | (with_reducible refine bk ?_) | ((with_reducible refine' cE ?hv ?_ ?_); (case hv => first | rfl | (simp only [h4, h5', h11, h12, h13, hp, hfg, hkp, hil, flowD_len, hfr, htd, cNet, cPipe,go_sem, simprocAttr]; rfl)); all_goals (intro hc; (try simp only [go_sem, simprocAttr] at hc); try (exfalso; omega))) | ((with_reducible refine fe ?_); refine ⟨_, (by simp only [Try.f63, h4, h5', h11, h12, h13, hp, hfg, hkp, hil, flowD_len, hfr, htd, cNet, cPipe,go_sem, simprocAttr]; rfl), ?_⟩; first | rfl | (try simp only [h4, h5', h11, h12, h13, hp, hfg, hkp, hil, flowD_len, hfr, htd, cNet, cPipe,go_sem, simprocAttr, seval])) | with_reducible intro (ep : Nat → Nat) | with_reducible apply_assumption -exfalso -symm only [*])
   exact ⟨frmOf n.pipes (i + 1), hlt, by omega, by (and_intros <;> first | rfl | (simp only [h4, h5', h11, h12, h13, cNet, go_sem, simprocAttr]; done) | (simp only [h4, h5', h11, h12, h13, cNet, go_sem, simprocAttr]; rfl)), bar - up, by (first | rfl | (simp only [go_sem, simprocAttr]; done) | (simp only [go_sem, simprocAttr]; rfl)), by omega, by omega, by omega⟩
end Cp
namespace Cp
open Go Go.Proofs
abbrev iv (n : Int) : Val := .int .i64 n
end Cp
namespace Cp
open Go Go.Proofs
end Cp
namespace Cp
open Go Go.Proofs
set_option maxRecDepth 10000
set_option maxHeartbeats 4000000
end Cp
namespace Cp
open Go Go.Proofs
set_option maxRecDepth 10000
set_option maxHeartbeats 4000000
theorem rFlows_ok (n : NetT) (hs : NetS n) (l : List Int) (hl : l.length ≤ 20) : PureC Try.prog 18 [encNet n, .lst 1 (ints l)] (flowsT n l) := by
 have hnoid : noid (flowsT n l) = true := by unfold flowsT; split <;> (try split) <;> (simp only [noid, noids, noidss, go_sem, simprocAttr]; rfl)
 have hn := rNet_ok n hs
 have ho := open_ok n (by have := hs.heads; omega) l (by omega)
 simp only [encNet, cNet] at hn ho
 refine PureC_of (fn := Try.f18) tabOK (by kernel_rfl) rfl (by kernel_rfl) (by simp [Try.f18]) (by simp [noids, noid, noidss, go_sem, encNet, cNet, hnoid]) (by first | rfl | simp [noids, noid, noidss, go_sem, encNet, cNet, hnoid]) ?_
 intro X hX0 hXs
 unfold flowsT
 cases hN : netOK n with
 | false =>
  rw [hN] at hn
  repeat' (first | (with_reducible refine sk ?_; intro K hK) | ((first | (with_reducible first | refine rg (h := ?_) | refine nx ?_) | refine pK (hn) ?_); try simp (disch := omega) only [encNet, cNet,go_sem, simprocAttr]) | (with_reducible refine bk ?_) | ((with_reducible refine' cE ?hv ?_ ?_); (case hv => first | rfl | (simp only [encNet, cNet,go_sem, simprocAttr]; rfl)); all_goals (intro hc; (try simp only [go_sem, simprocAttr] at hc); try (exfalso; omega))) | ((with_reducible refine fe ?_); refine ⟨_, (by simp only [Try.f18, encNet, cNet,go_sem, simprocAttr]; rfl), ?_⟩; first | rfl | (try simp only [encNet, cNet,go_sem, simprocAttr, seval])) | with_reducible intro (ep : Nat → Nat) | with_reducible apply_assumption -exfalso -symm only [*])
 | true =>
  rw [hN] at hn
  have hF := net_facts hN
  cases hO : openOK n.heads l with
  | false =>
   rw [hO] at ho
   repeat' (first | (with_reducible refine sk ?_; intro K hK) | ((first | (with_reducible first | refine rg (h := ?_) | refine nx ?_) | refine pK (hn) ?_ | refine pK (ho) ?_); try simp (disch := omega) only [encNet, cNet,go_sem, simprocAttr]) | (with_reducible refine bk ?_) | ((with_reducible refine' cE ?hv ?_ ?_); (case hv => first | rfl | (simp only [encNet, cNet,go_sem, simprocAttr]; rfl)); all_goals (intro hc; (try simp only [go_sem, simprocAttr] at hc); try (exfalso; omega))) | ((with_reducible refine fe ?_); refine ⟨_, (by simp only [Try.f18, encNet, cNet,go_sem, simprocAttr]; rfl), ?_⟩; first | rfl | (try simp only [encNet, cNet,go_sem, simprocAttr, seval])) | with_reducible intro (ep : Nat → Nat) | with_reducible apply_assumption -exfalso -symm only [*])
  | true =>
   rw [hO] at ho
   have hrf := rflows_ok n hF l hl (okL_none hO).1
   unfold flowD at hrf
   simp only [encNet, cNet] at hrf
   repeat' (first | (with_reducible refine sk ?_; intro K hK) | ((first | (with_reducible first | refine rg (h := ?_) | refine nx ?_) | refine pK (hn) ?_ | refine pK (ho) ?_ | refine pK (hrf) ?_); try simp (disch := omega) only [encNet, cNet,go_sem, simprocAttr]) | (with_reducible refine bk ?_) | ((with_reducible refine' cE ?hv ?_ ?_); (case hv => first | rfl | (simp only [encNet, cNet,go_sem, simprocAttr]; rfl)); all_goals (intro hc; (try simp only [go_sem, simprocAttr] at hc); try (exfalso; omega))) | ((with_reducible refine fe ?_); refine ⟨_, (by simp only [Try.f18, encNet, cNet,go_sem, simprocAttr]; rfl), ?_⟩; first | rfl | (try simp only [encNet, cNet,go_sem, simprocAttr, seval])) | with_reducible intro (ep : Nat → Nat) | with_reducible apply_assumption -exfalso -symm only [*])
theorem rPress_ok (n : NetT) (hs : NetS n) (l : List Int) (hl : l.length ≤ 20) (out : List Int) (hol : out.length ≤ 1000) : PureC Try.prog 20 [encNet n, .lst 1 (ints l), .lst 1 (ints out)] (pressT n l out) := by
 have hnoid : noid (pressT n l out) = true := by unfold pressT pressV; split <;> (try split) <;> (simp only [noid, noids, noidss, go_sem, simprocAttr, cSpan_noid]; rfl)
 have hn := rNet_ok n hs
 have ho := open_ok n (by have := hs.heads; omega) l (by omega)
 have hu := rOut_ok n (by have := hs.pumps; omega) out (by omega)
 simp only [encNet, cNet] at hn ho hu
 refine PureC_of (fn := Try.f20) tabOK (by kernel_rfl) rfl (by kernel_rfl) (by simp [Try.f20]) (by simp [noids, noid, noidss, go_sem, encNet, cNet, hnoid]) (by first | rfl | simp [noids, noid, noidss, go_sem, encNet, cNet, hnoid]) ?_
 intro X hX0 hXs
 unfold pressT pressV
 cases hN : netOK n with
 | false =>
  rw [hN] at hn
  repeat' (first | (with_reducible refine sk ?_; intro K hK) | ((first | (with_reducible first | refine rg (id := 10) (md := { base := 0, own := [49] }) (h := ?_) | refine rg (md := { base := 0, own := [8, 49] }) (h := ?_) | refine nx ?_) | refine pK (hn) ?_); try simp (disch := omega) only [encNet, cNet,go_sem, simprocAttr]) | (with_reducible refine bk ?_) | ((with_reducible refine' cE ?hv ?_ ?_); (case hv => first | rfl | (simp only [encNet, cNet,go_sem, simprocAttr]; rfl)); all_goals (intro hc; (try simp only [go_sem, simprocAttr] at hc); try (exfalso; omega))) | ((with_reducible first | refine grdS_split ?_ ?_ | refine lkG_split ?_ ?_) <;> intro hg <;> (try simp (disch := omega) only [hg, encNet, cNet,go_sem, simprocAttr]) <;> (try simp only [go_sem, simprocAttr] at hg) <;> (try (exfalso; omega))) | ((with_reducible refine fe ?_); refine ⟨_, (by simp only [Try.f20, encNet, cNet,go_sem, simprocAttr]; rfl), ?_⟩; first | rfl | (try simp only [encNet, cNet,go_sem, simprocAttr, seval])) | with_reducible intro (ep : Nat → Nat) | with_reducible apply_assumption -exfalso -symm only [*])
 | true =>
  rw [hN] at hn
  have hF := net_facts hN
  cases hO : openOK n.heads l with
  | false =>
   rw [hO] at ho
   simp only [Bool.false_eq_true, false_and, if_false, if_true]
   repeat' (first | (with_reducible refine sk ?_; intro K hK) | ((first | (with_reducible first | refine rg (id := 10) (md := { base := 0, own := [49] }) (h := ?_) | refine rg (md := { base := 0, own := [8, 49] }) (h := ?_) | refine nx ?_) | refine pK (hn) ?_ | refine pK (ho) ?_); try simp (disch := omega) only [encNet, cNet,go_sem, simprocAttr]) | (with_reducible refine bk ?_) | ((with_reducible refine' cE ?hv ?_ ?_); (case hv => first | rfl | (simp only [encNet, cNet,go_sem, simprocAttr]; rfl)); all_goals (intro hc; (try simp only [go_sem, simprocAttr] at hc); try (exfalso; omega))) | ((with_reducible first | refine grdS_split ?_ ?_ | refine lkG_split ?_ ?_) <;> intro hg <;> (try simp (disch := omega) only [hg, encNet, cNet,go_sem, simprocAttr]) <;> (try simp only [go_sem, simprocAttr] at hg) <;> (try (exfalso; omega))) | ((with_reducible refine fe ?_); refine ⟨_, (by simp only [Try.f20, encNet, cNet,go_sem, simprocAttr]; rfl), ?_⟩; first | rfl | (try simp only [encNet, cNet,go_sem, simprocAttr, seval])) | with_reducible intro (ep : Nat → Nat) | with_reducible apply_assumption -exfalso -symm only [*])
  | true =>
   rw [hO] at ho
   cases hU : outOK n out with
   | false =>
    rw [hU] at hu
    simp only [Bool.false_eq_true, and_false, if_false, if_true]
    repeat' (first | (with_reducible refine sk ?_; intro K hK) | ((first | (with_reducible first | refine rg (id := 10) (md := { base := 0, own := [49] }) (h := ?_) | refine rg (md := { base := 0, own := [8, 49] }) (h := ?_) | refine nx ?_) | refine pK (hn) ?_ | refine pK (ho) ?_ | refine pK (hu) ?_); try simp (disch := omega) only [encNet, cNet,go_sem, simprocAttr]) | (with_reducible refine bk ?_) | ((with_reducible refine' cE ?hv ?_ ?_); (case hv => first | rfl | (simp only [encNet, cNet,go_sem, simprocAttr]; rfl)); all_goals (intro hc; (try simp only [go_sem, simprocAttr] at hc); try (exfalso; omega))) | ((with_reducible first | refine grdS_split ?_ ?_ | refine lkG_split ?_ ?_) <;> intro hg <;> (try simp (disch := omega) only [hg, encNet, cNet,go_sem, simprocAttr]) <;> (try simp only [go_sem, simprocAttr] at hg) <;> (try (exfalso; omega))) | ((with_reducible refine fe ?_); refine ⟨_, (by simp only [Try.f20, encNet, cNet,go_sem, simprocAttr]; rfl), ?_⟩; first | rfl | (try simp only [encNet, cNet,go_sem, simprocAttr, seval])) | with_reducible intro (ep : Nat → Nat) | with_reducible apply_assumption -exfalso -symm only [*])
   | true =>
    rw [hU] at hu
    simp only [and_self, if_true]
    have hal := (okL_none hO).1
    have hat := fun id => at_ok n (by have := hs.heads; omega) id
    have hrp := fun k h hk best => rpress_ok n hF l hl hal out hU k h hk best
    obtain ⟨L, hL⟩ : ∃ L, openH n.heads l = L := ⟨_, rfl⟩
    simp only [encNet, cNet, hL] at hat hrp
    rw [hL]
    have hlen : L.length = l.length := by rw [← hL]; exact openH_len' hal
    have hge : ∀ (k : Nat) (a : Int) (x : HeadT), l[k]? = some a → headAt n.heads a = some x → L[k]? = some x := fun k a x ha hx => by
     have h1 := openH_snoc ha hx
     have h2 : (openH n.heads (l.take k)).length = k := by
      rw [openH_len' fun b hb => hal b (List.mem_of_mem_take hb)]
      have := (List.getElem?_eq_some_iff.1 ha).1
      simp; omega
     have h3 : openH n.heads l = openH n.heads (l.take (k + 1)) ++ openH n.heads (l.drop (k + 1)) := by unfold openH; rw [← List.filterMap_append, List.take_append_drop]
     rw [← hL, h3, h1, List.append_assoc, List.getElem?_append_right (by omega), h2]
     simp
    repeat' (first | (with_reducible refine sk ?_; intro K hK) | ((first | (with_reducible first | refine rg (id := 10) (md := { base := 0, own := [49] }) (h := ?_) | refine rg (md := { base := 0, own := [8, 49] }) (h := ?_) | refine nx ?_) | refine pK (hn) ?_ | refine pK (ho) ?_ | refine pK (hu) ?_); try simp (disch := omega) only [encNet, cNet,go_sem, simprocAttr]) | (with_reducible refine bk ?_) | ((with_reducible refine' cE ?hv ?_ ?_); (case hv => first | rfl | (simp only [encNet, cNet,go_sem, simprocAttr]; rfl)); all_goals (intro hc; (try simp only [go_sem, simprocAttr] at hc); try (exfalso; omega))) | ((with_reducible first | refine grdS_split ?_ ?_ | refine lkG_split ?_ ?_) <;> intro hg <;> (try simp (disch := omega) only [hg, encNet, cNet,go_sem, simprocAttr]) <;> (try simp only [go_sem, simprocAttr] at hg) <;> (try (exfalso; omega))) | with_reducible intro (ep : Nat → Nat) | with_reducible apply_assumption -exfalso -symm only [*])
    refine AW_block (AW_loop (fun m f H => ∃ k : Nat, m = l.length - k ∧ k ≤ l.length ∧ (f 1 = .lst 1 (ints l) ∧ f 2 = .lst 1 (ints out) ∧ f 3 = .pim (cNet n) ∧ f 9 = .int .i64 k) ∧ ∃ e, f 8 = .gr 8 e k ∧ H 8 = some (e, .arr 2 (((L.take k).map (spanS n L out)).map cSpan))) l.length
     ⟨0, by simp, Nat.zero_le _, by (and_intros <;> first | rfl | (simp only [cNet, go_sem, simprocAttr]; done) | (simp only [cNet, go_sem, simprocAttr]; rfl)), _, by (first | rfl | (simp only [go_sem, simprocAttr]; done) | (simp only [go_sem, simprocAttr]; rfl)), by (first | rfl | (simp only [List.take_zero, List.map_nil, go_sem, simprocAttr]; done) | (simp only [List.take_zero, List.map_nil, go_sem, simprocAttr]; rfl))⟩ ?_)
    rintro m f H ⟨k, rfl, hk, ⟨h1, h2, h3, h9⟩, e, h8, hH⟩
    by_cases hlt : k < l.length
    ·obtain ⟨a, ha⟩ : ∃ a, l[k]? = some a := ⟨_, List.getElem?_eq_getElem hlt⟩
     refine AW_keep [8] ?_
     rcases @atI_at n.heads a with ⟨a1, a2⟩ | ⟨i, y, a0, a1, a2⟩
     ·have := hal a (List.mem_of_getElem? ha); rw [a1] at this; simp at this
     ·have hp0 := hrp i y a0 false
      have hp1 := hrp i y a0 true
      have hLk := hge k a y ha a1
      have hkb : k ≤ 1073741823 := by omega
      have htl : (((L.take k).map (spanS n L out)).map cSpan).length = k := by simp; omega
      repeat' (first | (with_reducible refine sk ?_; intro K hK) | ((first | (with_reducible first | refine rg (id := 10) (md := { base := 0, own := [49] }) (h := ?_) | refine rg (md := { base := 0, own := [8, 49] }) (h := ?_) | refine nx ?_) | refine pK (hat a) ?_ | refine pK (hp0) ?_ | refine pK (hp1) ?_); try simp (disch := omega) only [h1, h2, h3, h8, h9, hH, ha, a2, hkb, htl, cNet,go_sem, simprocAttr]) | (with_reducible refine bk ?_) | ((with_reducible refine' cE ?hv ?_ ?_); (case hv => first | rfl | (simp only [h1, h2, h3, h8, h9, hH, ha, a2, hkb, htl, cNet,go_sem, simprocAttr]; rfl)); all_goals (intro hc; (try simp only [go_sem, simprocAttr] at hc); try (exfalso; omega))) | ((with_reducible first | refine grdS_split ?_ ?_ | refine lkG_split ?_ ?_) <;> intro hg <;> (try simp (disch := omega) only [hg, h1, h2, h3, h8, h9, hH, ha, a2, hkb, htl, cNet,go_sem, simprocAttr]) <;> (try simp only [go_sem, simprocAttr] at hg) <;> (try (exfalso; omega))) | with_reducible intro (ep : Nat → Nat) | with_reducible apply_assumption -exfalso -symm only [*])
      exact ⟨l.length - (k + 1), by omega, k + 1, rfl, by omega, by (and_intros <;> first | rfl | (simp only [h1, h2, h3, h9, cNet, go_sem, simprocAttr]; done) | (simp only [h1, h2, h3, h9, cNet, go_sem, simprocAttr]; rfl)), _, rfl, by rw [map_snoc hLk, List.map_append]; rfl⟩
    ·repeat' (first | (with_reducible refine sk ?_; intro K hK) | ((with_reducible first | refine rg (id := 10) (md := { base := 0, own := [49] }) (h := ?_) | refine rg (md := { base := 0, own := [8, 49] }) (h := ?_) | refine nx ?_); try simp (disch := omega) only [h1, h2, h3, h8, h9,go_sem, simprocAttr]) | (with_reducible refine bk ?_) | ((with_reducible refine' cE ?hv ?_ ?_); (case hv => first | rfl | (simp only [h1, h2, h3, h8, h9,go_sem, simprocAttr]; rfl)); all_goals (intro hc; (try simp only [go_sem, simprocAttr] at hc); try (exfalso; omega))) | ((with_reducible first | refine grdS_split ?_ ?_ | refine lkG_split ?_ ?_) <;> intro hg <;> (try simp (disch := omega) only [hg, h1, h2, h3, h8, h9,go_sem, simprocAttr]) <;> (try simp only [go_sem, simprocAttr] at hg) <;> (try (exfalso; omega))) | with_reducible intro (ep : Nat → Nat) | with_reducible apply_assumption -exfalso -symm only [*])
     obtain rfl : k = l.length := by omega
     rw [← hlen, List.take_of_length_le (Nat.le_refl _)] at hH
     refine FnP_frz 8 (Or.inl rfl) hH ⟨_, (by simp only [Try.f20, go_sem, simprocAttr, h8]; rfl), ?_⟩
     simp only [go_sem, simprocAttr, List.length_map, hlen]
def flowsW (n : NetT) (l : List Int) : List Int × Int := if netOK n = true then (if openOK n.heads l = true then ((flowL n.pipes (n.pipes.length + 1) (openH n.heads l)).drop 1, 0) else ([], 2)) else ([], 50)
def pressW (n : NetT) (l out : List Int) : List Span × Int := if netOK n = true then (if openOK n.heads l = true ∧ outOK n out = true then ((openH n.heads l).map (spanS n (openH n.heads l) out), 0) else ([], 2)) else ([], 50)
theorem flowsW_ok {fid : FuncId} {args : List Val} {n : NetT} {l : List Int} (h : PureC Try.prog fid args (flowsT n l)) : PureC Try.prog fid args (.tup [.lst 1 (ints (flowsW n l).1), .int .i64 (flowsW n l).2]) := by
 unfold flowsT at h
 unfold flowsW
 split
 ·rename_i hN
  rw [if_pos hN] at h
  split
  ·rename_i hO
   rw [if_pos hO] at h
   exact h
  ·rename_i hO
   rw [if_neg hO] at h
   exact h.weak rfl fun G w x hx => hx.tup_nils
 ·rename_i hN
  rw [if_neg hN] at h
  exact h.weak rfl fun G w x hx => hx.tup_nils
theorem pressW_ok {fid : FuncId} {args : List Val} {n : NetT} {l out : List Int} (h : PureC Try.prog fid args (pressT n l out)) : PureC Try.prog fid args (.tup [.lst 2 ((pressW n l out).1.map cSpan), .int .i64 (pressW n l out).2]) := by
 unfold pressT pressV at h
 unfold pressW
 split
 ·rename_i hN
  rw [if_pos hN] at h
  split
  ·rename_i hO
   rw [if_pos hO] at h
   exact h
  ·rename_i hO
   rw [if_neg hO] at h
   exact h.weak rfl fun G w x hx => hx.tup_nils
 ·rename_i hN
  rw [if_neg hN] at h
  exact h.weak rfl fun G w x hx => hx.tup_nils
theorem flowsW_len (n : NetT) (l : List Int) : (flowsW n l).1.length ≤ n.pipes.length := by
 unfold flowsW
 split
 ·split
  ·simp only [List.length_drop, flowL_len]; omega
  ·simp
 ·simp
theorem pressW_len (n : NetT) (l out : List Int) : (pressW n l out).1.length ≤ l.length := by
 unfold pressW
 split
 ·split
  ·simp only [List.length_map]; exact openH_len
  ·simp
 ·simp
theorem flows_law (n : NetT) (l : List Int) (_ : l.length ≤ maxLen) (out : List Int) (_ : out.length ≤ maxLen) : PureC Try.prog 3 [encNet n, .lst 1 (ints l), .lst 1 (ints out)] (.bool true) := by
 have hg := great_ok n
 simp only [encNet, cNet] at hg
 cases hgr : greatN n with
 | true =>
  rw [hgr] at hg
  refine PureC_of (fn := Try.f3) tabOK (by kernel_rfl) rfl (by kernel_rfl) (by simp [Try.f3]) (by simp [noids, noid, noidss, go_sem, encNet, cNet]) (by first | rfl | simp [noids, noid, noidss, go_sem, encNet, cNet]) ?_
  intro X hX0 hXs
  repeat' (first | (with_reducible refine sk ?_; intro K hK) | ((first | (with_reducible first | refine rg (h := ?_) | refine rgS [7] (h := ?_) | refine nx ?_) | refine pK (hg) ?_); try simp (disch := omega) only [encNet, cNet,go_sem, simprocAttr]) | (with_reducible refine bk ?_) | ((with_reducible refine' cE ?hv ?_ ?_); (case hv => first | rfl | (simp only [encNet, cNet,go_sem, simprocAttr]; rfl)); all_goals (intro hc; (try simp only [go_sem, simprocAttr] at hc); try (exfalso; omega))) | ((with_reducible first | refine grdS_split ?_ ?_ | refine lkG_split ?_ ?_) <;> intro hg <;> (try simp (disch := omega) only [hg, encNet, cNet,go_sem, simprocAttr]) <;> (try simp only [go_sem, simprocAttr] at hg) <;> (try (exfalso; omega))) | ((with_reducible refine fe ?_); refine ⟨_, (by simp only [Try.f3, encNet, cNet,go_sem, simprocAttr]; rfl), ?_⟩; first | rfl | (try simp only [encNet, cNet,go_sem, simprocAttr, seval])) | with_reducible intro (ep : Nat → Nat) | with_reducible apply_assumption -exfalso -symm only [*])
 | false =>
  rw [hgr] at hg
  by_cases hl : (20 : Int) < l.length
  ·refine PureC_of (fn := Try.f3) tabOK (by kernel_rfl) rfl (by kernel_rfl) (by simp [Try.f3]) (by simp [noids, noid, noidss, go_sem, encNet, cNet]) (by first | rfl | simp [noids, noid, noidss, go_sem, encNet, cNet]) ?_
   intro X hX0 hXs
   repeat' (first | (with_reducible refine sk ?_; intro K hK) | ((first | (with_reducible first | refine rg (h := ?_) | refine rgS [7] (h := ?_) | refine nx ?_) | refine pK (hg) ?_); try simp (disch := omega) only [encNet, cNet, hl,go_sem, simprocAttr]) | (with_reducible refine bk ?_) | ((with_reducible refine' cE ?hv ?_ ?_); (case hv => first | rfl | (simp only [encNet, cNet, hl,go_sem, simprocAttr]; rfl)); all_goals (intro hc; (try simp only [go_sem, simprocAttr] at hc); try (exfalso; omega))) | ((with_reducible first | refine grdS_split ?_ ?_ | refine lkG_split ?_ ?_) <;> intro hg <;> (try simp (disch := omega) only [hg, encNet, cNet, hl,go_sem, simprocAttr]) <;> (try simp only [go_sem, simprocAttr] at hg) <;> (try (exfalso; omega))) | ((with_reducible refine fe ?_); refine ⟨_, (by simp only [Try.f3, encNet, cNet, hl,go_sem, simprocAttr]; rfl), ?_⟩; first | rfl | (try simp only [encNet, cNet, hl,go_sem, simprocAttr, seval])) | with_reducible intro (ep : Nat → Nat) | with_reducible apply_assumption -exfalso -symm only [*])
  ·by_cases ho : (20 : Int) < out.length
   ·refine PureC_of (fn := Try.f3) tabOK (by kernel_rfl) rfl (by kernel_rfl) (by simp [Try.f3]) (by simp [noids, noid, noidss, go_sem, encNet, cNet]) (by first | rfl | simp [noids, noid, noidss, go_sem, encNet, cNet]) ?_
    intro X hX0 hXs
    repeat' (first | (with_reducible refine sk ?_; intro K hK) | ((first | (with_reducible first | refine rg (h := ?_) | refine rgS [7] (h := ?_) | refine nx ?_) | refine pK (hg) ?_); try simp (disch := omega) only [encNet, cNet, hl, ho,go_sem, simprocAttr]) | (with_reducible refine bk ?_) | ((with_reducible refine' cE ?hv ?_ ?_); (case hv => first | rfl | (simp only [encNet, cNet, hl, ho,go_sem, simprocAttr]; rfl)); all_goals (intro hc; (try simp only [go_sem, simprocAttr] at hc); try (exfalso; omega))) | ((with_reducible first | refine grdS_split ?_ ?_ | refine lkG_split ?_ ?_) <;> intro hg <;> (try simp (disch := omega) only [hg, encNet, cNet, hl, ho,go_sem, simprocAttr]) <;> (try simp only [go_sem, simprocAttr] at hg) <;> (try (exfalso; omega))) | ((with_reducible refine fe ?_); refine ⟨_, (by simp only [Try.f3, encNet, cNet, hl, ho,go_sem, simprocAttr]; rfl), ?_⟩; first | rfl | (try simp only [encNet, cNet, hl, ho,go_sem, simprocAttr, seval])) | with_reducible intro (ep : Nat → Nat) | with_reducible apply_assumption -exfalso -symm only [*])
   ·have hs := great_small hgr
    have hpl := hs.pipes
    have h1 := flowsW_ok (Flows_ok n hs l (by omega))
    have h2 := flowsW_ok (rFlows_ok n hs l (by omega))
    have h3 := pressW_ok (Press_ok n hs l (by omega) out (by omega))
    have h4 := pressW_ok (rPress_ok n hs l (by omega) out (by omega))
    have h5 := check_ok n (by omega) (by have := hs.heads; omega) (by have := hs.pumps; omega)
    have h6 := rCheck_ok n hs
    have h7 := twin_ok n hs
    have h8 := same_self n hs
    have g1 := flowsW_len n l
    have g2 := pressW_len n l out
    obtain ⟨F, hF⟩ : ∃ F, (flowsW n l).1 = F := ⟨_, rfl⟩
    obtain ⟨S, hS⟩ : ∃ S, (pressW n l out).1 = S := ⟨_, rfl⟩
    rw [hF] at h1 h2 g1
    rw [hS] at h3 h4 g2
    have h9 := sameInts_ok F F (by omega)
    have h10 := sameSpans_ok S S (by omega)
    have h11 := sameInts_ok l l (by omega)
    simp only [decide_true] at h9 h10 h11
    have hlb : l.length ≤ 1073741824 := by omega
    have hob : out.length ≤ 1073741824 := by omega
    simp only [encNet, cNet] at h1 h2 h3 h4 h5 h6 h7 h8
    refine PureC_of (fn := Try.f3) tabOK (by kernel_rfl) rfl (by kernel_rfl) (by simp [Try.f3]) (by simp [noids, noid, noidss, go_sem, encNet, cNet]) (by first | rfl | simp [noids, noid, noidss, go_sem, encNet, cNet]) ?_
    intro X hX0 hXs
    repeat' (first | (with_reducible refine sk ?_; intro K hK) | ((first | (with_reducible first | refine rg (h := ?_) | refine rgS [7] (h := ?_) | refine nx ?_) | refine pK (hg) ?_ | refine pK (h7) ?_ | refine pK (h1) ?_ | refine pK (h2) ?_ | refine pK (h3) ?_ | refine pK (h4) ?_ | refine pK (h5) ?_ | refine pK (h6) ?_ | refine pK (h9) ?_ | refine pK (h10) ?_ | refine pK (h8) ?_ | refine pK (h11) ?_); try simp (disch := omega) only [encNet, cNet, hl, ho, hlb, hob,go_sem, simprocAttr]) | (with_reducible refine bk ?_) | ((with_reducible refine' cE ?hv ?_ ?_); (case hv => first | rfl | (simp only [encNet, cNet, hl, ho, hlb, hob,go_sem, simprocAttr]; rfl)); all_goals (intro hc; (try simp only [go_sem, simprocAttr] at hc); try (exfalso; omega))) | ((with_reducible first | refine grdS_split ?_ ?_ | refine lkG_split ?_ ?_) <;> intro hg <;> (try simp (disch := omega) only [hg, encNet, cNet, hl, ho, hlb, hob,go_sem, simprocAttr]) <;> (try simp only [go_sem, simprocAttr] at hg) <;> (try (exfalso; omega))) | ((with_reducible refine fe ?_); refine ⟨_, (by simp only [Try.f3, encNet, cNet, hl, ho, hlb, hob,go_sem, simprocAttr]; rfl), ?_⟩; first | rfl | (try simp only [encNet, cNet, hl, ho, hlb, hob,go_sem, simprocAttr, seval])) | with_reducible intro (ep : Nat → Nat) | with_reducible apply_assumption -exfalso -symm only [*])
end Cp
namespace Cp
open Go
theorem fit_map {α : Type} {c : α → List Val} : ∀ {xss : List (List Val)}, (∀ es ∈ xss, ∃ x, es = c x) → ∃ l : List α, xss = l.map c
 | [], _ => ⟨[], rfl⟩
 | es :: xss, h => by
  obtain ⟨x, rfl⟩ := h es (by simp)
  obtain ⟨l, rfl⟩ := fit_map fun es he => h es (List.mem_cons_of_mem _ he)
  exact ⟨x :: l, rfl⟩
theorem fit_slice {T : Tab} {n : Nat} {t e sz : Nat} {vs : List Val} {b b2 s1 : Nat} {z z2 : Val} {p p2 : Bool} {k2 : TK} {α : Type} {c : α → List Val} (ht : T t = some { kind := .slice e, sz := s1, bytes := b, zero := z, plain := p })
  (he : T e = some { kind := k2, sz := sz, bytes := b2, zero := z2, plain := p2 }) (h : Fit T (n + 1) t vs) (hc : ∀ es, Fit T n e es → ∃ x, es = c x) : ∃ l : List α, vs = [.lst sz (l.map c)] := by
 simp only [Fit, ht] at h
 obtain ⟨sz', xss, rfl, hs, _, hx⟩ := h
 rw [he] at hs
 cases hs
 obtain ⟨l, rfl⟩ := fit_map (c := c) fun es hes => hc es (hx es hes).2
 exact ⟨l, rfl⟩
theorem fit_struct {T : Tab} {n : Nat} {t sz : Nat} {vs : List Val} {b : Nat} {z : Val} {p : Bool} {fs : List (Nat × Nat)} (ht : T t = some { kind := .struct fs, sz := sz, bytes := b, zero := z, plain := p }) (h : Fit T (n + 1) t vs) :
  vs.length = sz ∧ ∀ q ∈ fs, ∃ fi, T q.2 = some fi ∧ Fit T n q.2 ((vs.drop q.1).take fi.sz) := by
 simp only [Fit, ht] at h
 exact h
theorem fit_int {T : Tab} {n : Nat} {t : Nat} {vs : List Val} {s b : Nat} {z : Val} {p : Bool} {k : IntKind} (ht : T t = some { kind := .int k, sz := s, bytes := b, zero := z, plain := p }) (h : Fit T (n + 1) t vs) : ∃ m, vs = [.int k m] ∧ (Lit.int k m).wf = true := by
 simp only [Fit, ht] at h
 exact h
theorem fit3 {n : Nat} {vs : List Val} (h : Fit tab (n + 1) 3 vs) : ∃ m, vs = [.int .i64 m] := by
 obtain ⟨m, h, _⟩ := fit_int tab_3 h; exact ⟨m, h⟩
theorem fit_two {n : Nat} {vs : List Val} {t b : Nat} {z : Val} {p : Bool} (ht : tab t = some { kind := .struct [(0, 3), (1, 3)], sz := 2, bytes := b, zero := z, plain := p }) (h : Fit tab (n + 2) t vs) : ∃ x y : Int, vs = [.int .i64 x, .int .i64 y] := by
 obtain ⟨hl, hq⟩ := fit_struct ht h
 match vs, hl with
 | [a, b], _ =>
  obtain ⟨fi, e, h0⟩ := hq (0, 3) (by simp)
  rw [tab_3] at e; cases e
  obtain ⟨fi, e, h1⟩ := hq (1, 3) (by simp)
  rw [tab_3] at e; cases e
  obtain ⟨x, hx⟩ := fit3 h0
  obtain ⟨y, hy⟩ := fit3 h1
  simp at hx hy
  exact ⟨x, y, by rw [hx, hy]⟩
theorem fit_span {n : Nat} {vs : List Val} (h : Fit tab (n + 2) 26 vs) : ∃ s : Span, vs = [.int .i64 s.lo, .int .i64 s.hi] := by
 obtain ⟨x, y, h⟩ := fit_two tab_26 h; exact ⟨⟨x, y⟩, h⟩
theorem fit_pipe {n : Nat} {vs : List Val} (h : Fit tab (n + 3) 89 vs) : ∃ x : PipeT, vs = cPipe x := by
 obtain ⟨hl, hq⟩ := fit_struct tab_89 h
 match vs, hl with
 | [a0, a1, a2, a3], _ =>
  obtain ⟨fi, e0, h0⟩ := hq (0, 3) (by simp)
  rw [tab_3] at e0; cases e0
  obtain ⟨fi, e1, h1⟩ := hq (1, 3) (by simp)
  rw [tab_3] at e1; cases e1
  obtain ⟨fi, e2, h2⟩ := hq (2, 26) (by simp)
  rw [tab_26] at e2; cases e2
  obtain ⟨x0, h0⟩ := fit3 h0
  obtain ⟨x1, h1⟩ := fit3 h1
  obtain ⟨x2, h2⟩ := fit_span h2
  simp at h0 h1 h2
  obtain ⟨h2, h2'⟩ := h2
  exact ⟨⟨x0, x1, x2⟩, by rw [h0, h1, h2, h2']; rfl⟩
theorem fit_head {n : Nat} {vs : List Val} (h : Fit tab (n + 3) 61 vs) : ∃ x : HeadT, vs = cHead x := by
 obtain ⟨hl, hq⟩ := fit_struct tab_61 h
 match vs, hl with
 | [a0, a1, a2, a3, a4, a5, a6, a7], _ =>
  obtain ⟨fi, e0, h0⟩ := hq (0, 3) (by simp)
  rw [tab_3] at e0; cases e0
  obtain ⟨fi, e1, h1⟩ := hq (1, 3) (by simp)
  rw [tab_3] at e1; cases e1
  obtain ⟨fi, e2, h2⟩ := hq (2, 3) (by simp)
  rw [tab_3] at e2; cases e2
  obtain ⟨fi, e3, h3⟩ := hq (3, 3) (by simp)
  rw [tab_3] at e3; cases e3
  obtain ⟨fi, e4, h4⟩ := hq (4, 26) (by simp)
  rw [tab_26] at e4; cases e4
  obtain ⟨fi, e5, h5⟩ := hq (6, 26) (by simp)
  rw [tab_26] at e5; cases e5
  obtain ⟨x0, h0⟩ := fit3 h0
  obtain ⟨x1, h1⟩ := fit3 h1
  obtain ⟨x2, h2⟩ := fit3 h2
  obtain ⟨x3, h3⟩ := fit3 h3
  obtain ⟨x4, h4⟩ := fit_span h4
  obtain ⟨x5, h5⟩ := fit_span h5
  simp at h0 h1 h2 h3 h4 h5
  obtain ⟨h4, h4'⟩ := h4
  obtain ⟨h5, h5'⟩ := h5
  exact ⟨⟨x0, x1, x2, x3, x4, x5⟩, by rw [h0, h1, h2, h3, h4, h4', h5, h5']; rfl⟩
theorem fit_pump {n : Nat} {vs : List Val} (h : Fit tab (n + 3) 94 vs) : ∃ x : PumpT, vs = cPump x := by
 obtain ⟨hl, hq⟩ := fit_struct tab_94 h
 match vs, hl with
 | [a0, a1, a2], _ =>
  obtain ⟨fi, e0, h0⟩ := hq (0, 26) (by simp)
  rw [tab_26] at e0; cases e0
  obtain ⟨fi, e1, h1⟩ := hq (2, 3) (by simp)
  rw [tab_3] at e1; cases e1
  obtain ⟨x0, h0⟩ := fit_span h0
  obtain ⟨x1, h1⟩ := fit3 h1
  simp at h0 h1
  obtain ⟨h0, h0'⟩ := h0
  exact ⟨⟨x0, x1⟩, by rw [h0, h0', h1]; rfl⟩
theorem fit_net {n : Nat} {vs : List Val} (h : Fit tab (n + 5) 28 vs) : ∃ x : NetT, vs = cNet x := by
 obtain ⟨hl, hq⟩ := fit_struct tab_28 h
 match vs, hl with
 | [a0, a1, a2, a3, a4, a5, a6], _ =>
  obtain ⟨fi, e0, h0⟩ := hq (0, 22) (by simp)
  rw [tab_22] at e0; cases e0
  obtain ⟨fi, e1, h1⟩ := hq (1, 23) (by simp)
  rw [tab_23] at e1; cases e1
  obtain ⟨fi, e2, h2⟩ := hq (2, 24) (by simp)
  rw [tab_24] at e2; cases e2
  obtain ⟨fi, e3, h3⟩ := hq (3, 3) (by simp)
  rw [tab_3] at e3; cases e3
  obtain ⟨fi, e4, h4⟩ := hq (4, 26) (by simp)
  rw [tab_26] at e4; cases e4
  obtain ⟨fi, e5, h5⟩ := hq (6, 3) (by simp)
  rw [tab_3] at e5; cases e5
  obtain ⟨x0, h0⟩ := fit_slice tab_22 tab_89 h0 fun es he => fit_pipe he
  obtain ⟨x1, h1⟩ := fit_slice tab_23 tab_61 h1 fun es he => fit_head he
  obtain ⟨x2, h2⟩ := fit_slice tab_24 tab_94 h2 fun es he => fit_pump he
  obtain ⟨x3, h3⟩ := fit3 h3
  obtain ⟨x4, h4⟩ := fit_span h4
  obtain ⟨x5, h5⟩ := fit3 h5
  simp at h0 h1 h2 h3 h4 h5
  obtain ⟨h4, h4'⟩ := h4
  exact ⟨⟨x0, x1, x2, x3, x4, x5⟩, by rw [h0, h1, h2, h3, h4, h4', h5]; rfl⟩
theorem arg_ints {a : Val} (h : FitV tab 8 29 a) : ∃ l : List Int, a = .lst 1 (ints l) ∧ l.length ≤ maxLen := by
 obtain ⟨ti, cs, e, h, _, rfl⟩ := h
 have hk : ∀ n, Fit tab (n + 1) 29 cs → ∃ sz xss, cs = [.lst sz xss] ∧ (tab 3).map (·.sz) = some sz ∧ xss.length ≤ maxLen ∧ ∀ es ∈ xss, es.length = sz ∧ Fit tab n 3 es := fun n h => by
  simp only [Fit, tab_29] at h; exact h
 obtain ⟨sz, xss, rfl, hs, hl, hx⟩ := hk 7 h
 rw [tab_3] at hs; cases hs
 obtain ⟨l, rfl⟩ := fit_map (c := fun m : Int => [Val.int .i64 m]) fun es hes => fit3 (hx es hes).2
 rw [tab_29] at e; cases e; exact ⟨l, rfl, by simpa using hl⟩
theorem arg_net {a : Val} (h : FitV tab 8 28 a) : ∃ x : NetT, a = encNet x := by
 obtain ⟨ti, cs, e, h, _, rfl⟩ := h
 obtain ⟨l, rfl⟩ := fit_net h
 rw [tab_28] at e; cases e; exact ⟨l, rfl⟩
end Cp
