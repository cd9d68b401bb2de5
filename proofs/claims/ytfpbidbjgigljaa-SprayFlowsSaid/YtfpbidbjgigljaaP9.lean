/- Rules, facts and contracts that the statement's proof leans on. Conditions: none. -/
import Derived.Test.YtfpbidbjgigljaaP8
set_option linter.unusedVariables false
set_option linter.unusedSimpArgs false
set_option linter.unusedSectionVars false
namespace Cp
open Go Go.Proofs
set_option maxRecDepth 10000
set_option maxHeartbeats 2000000
theorem rhas_ok (l : List Int) (hl : l.length ≤ 100000) (a : Int) : PureC Try.prog 103 [.lst 1 (ints l), .int .i64 a] (.bool (l.contains a)) := by
 refine PureC_of (fn := Try.f103) tabOK (by kernel_rfl) rfl (by kernel_rfl) (by simp [Try.f103]) (by simp [noids, noid, noidss, go_sem]) (by first | rfl | simp [noids, noid, noidss, go_sem]) ?_
 intro X hX0 hXs
 repeat' (first | (with_reducible refine sk ?_; intro K hK) | ((with_reducible first | refine rg (h := ?_) | refine nx ?_); try simp (disch := omega) only [go_sem, simprocAttr]) | (with_reducible refine bk ?_) | ((with_reducible refine' cE ?hv ?_ ?_); (case hv => first | rfl | (simp only [go_sem, simprocAttr]; rfl)); all_goals (intro hc; (try simp only [go_sem, simprocAttr] at hc); try (exfalso; omega))) | ((with_reducible refine fe ?_); refine ⟨_, (by simp only [Try.f103, go_sem, simprocAttr]; rfl), ?_⟩; first | rfl | (try simp only [go_sem, simprocAttr, seval])) | with_reducible intro (ep : Nat → Nat) | with_reducible apply_assumption -exfalso -symm only [*])
 refine AW_block (AW_loop (fun n f H => ∃ k : Nat, n = l.length - k ∧ k ≤ l.length ∧ (f 0 = .lst 1 (ints l) ∧ f 1 = .int .i64 a ∧ f 5 = .int .i64 k) ∧ l.contains a = (l.drop k).contains a) l.length
  ⟨0, by simp, Nat.zero_le _, by (and_intros <;> first | rfl | (simp only [go_sem, simprocAttr]; done) | (simp only [go_sem, simprocAttr]; rfl)), by simp⟩ ?_)
 rintro n f H ⟨k, rfl, hk, ⟨h0, h1, h5⟩, hr⟩
 by_cases hlt : k < l.length
 ·obtain ⟨x, hx⟩ : ∃ x, l[k]? = some x := ⟨_, List.getElem?_eq_getElem hlt⟩
  rw [drop_cons hx, List.contains_cons] at hr
  by_cases he : x = a
  ·repeat' (first | (with_reducible refine sk ?_; intro K hK) | ((with_reducible first | refine rg (h := ?_) | refine nx ?_); try simp (disch := omega) only [h0, h1, h5, hx, he,go_sem, simprocAttr]) | (with_reducible refine bk ?_) | ((with_reducible refine' cE ?hv ?_ ?_); (case hv => first | rfl | (simp only [h0, h1, h5, hx, he,go_sem, simprocAttr]; rfl)); all_goals (intro hc; (try simp only [go_sem, simprocAttr] at hc); try (exfalso; omega))) | ((with_reducible refine fe ?_); refine ⟨_, (by simp only [Try.f103, h0, h1, h5, hx, he,go_sem, simprocAttr]; rfl), ?_⟩; first | rfl | (try simp only [h0, h1, h5, hx, he,go_sem, simprocAttr, seval])) | with_reducible intro (ep : Nat → Nat) | with_reducible apply_assumption -exfalso -symm only [*])
   rw [hr]; simp [he]
  ·have hb : (a == x) = false := by simp; exact fun h => he h.symm
   rw [hb, Bool.false_or] at hr
   repeat' (first | (with_reducible refine sk ?_; intro K hK) | ((with_reducible first | refine rg (h := ?_) | refine nx ?_); try simp (disch := omega) only [h0, h1, h5, hx, he,go_sem, simprocAttr]) | (with_reducible refine bk ?_) | ((with_reducible refine' cE ?hv ?_ ?_); (case hv => first | rfl | (simp only [h0, h1, h5, hx, he,go_sem, simprocAttr]; rfl)); all_goals (intro hc; (try simp only [go_sem, simprocAttr] at hc); try (exfalso; omega))) | ((with_reducible refine fe ?_); refine ⟨_, (by simp only [Try.f103, h0, h1, h5, hx, he,go_sem, simprocAttr]; rfl), ?_⟩; first | rfl | (try simp only [h0, h1, h5, hx, he,go_sem, simprocAttr, seval])) | with_reducible intro (ep : Nat → Nat) | with_reducible apply_assumption -exfalso -symm only [*])
   exact ⟨l.length - (k + 1), by omega, k + 1, rfl, by omega, by (and_intros <;> first | rfl | (simp only [h0, h1, h5, go_sem, simprocAttr]; done) | (simp only [h0, h1, h5, go_sem, simprocAttr]; rfl)), hr⟩
 ·rw [drop_none (by omega)] at hr
  repeat' (first | (with_reducible refine sk ?_; intro K hK) | ((with_reducible first | refine rg (h := ?_) | refine nx ?_); try simp (disch := omega) only [h0, h1, h5,go_sem, simprocAttr]) | (with_reducible refine bk ?_) | ((with_reducible refine' cE ?hv ?_ ?_); (case hv => first | rfl | (simp only [h0, h1, h5,go_sem, simprocAttr]; rfl)); all_goals (intro hc; (try simp only [go_sem, simprocAttr] at hc); try (exfalso; omega))) | ((with_reducible refine fe ?_); refine ⟨_, (by simp only [Try.f103, h0, h1, h5,go_sem, simprocAttr]; rfl), ?_⟩; first | rfl | (try simp only [h0, h1, h5,go_sem, simprocAttr, seval])) | with_reducible intro (ep : Nat → Nat) | with_reducible apply_assumption -exfalso -symm only [*])
  rw [hr]; rfl
theorem rOut_ok (n : NetT) (hq : n.pumps.length ≤ 1000) (l : List Int) (hl : l.length ≤ 100000) : PureC Try.prog 62 [encNet n, .lst 1 (ints l)] (.bool (outOK n l)) := by
 refine PureC_of (fn := Try.f62) tabOK (by kernel_rfl) rfl (by kernel_rfl) (by simp [Try.f62]) (by simp [noids, noid, noidss, go_sem, encNet, cNet]) (by first | rfl | simp [noids, noid, noidss, go_sem, encNet, cNet]) ?_
 intro X hX0 hXs
 repeat' (first | (with_reducible refine sk ?_; intro K hK) | ((with_reducible first | refine rg (h := ?_) | refine nx ?_); try simp (disch := omega) only [encNet, cNet,go_sem, simprocAttr]) | (with_reducible refine bk ?_) | ((with_reducible refine' cE ?hv ?_ ?_); (case hv => first | rfl | (simp only [encNet, cNet,go_sem, simprocAttr]; rfl)); all_goals (intro hc; (try simp only [go_sem, simprocAttr] at hc); try (exfalso; omega))) | ((with_reducible first | refine grdS_split ?_ ?_ | refine lkG_split ?_ ?_) <;> intro hg <;> (try simp (disch := omega) only [hg, encNet, cNet,go_sem, simprocAttr]) <;> (try simp only [go_sem, simprocAttr] at hg) <;> (try (exfalso; omega))) | ((with_reducible refine fe ?_); refine ⟨_, (by simp only [Try.f62, encNet, cNet,go_sem, simprocAttr]; rfl), ?_⟩; first | rfl | (try simp only [encNet, cNet,go_sem, simprocAttr, seval])) | with_reducible intro (ep : Nat → Nat) | with_reducible apply_assumption -exfalso -symm only [*])
 refine AW_block (AW_loop (fun m f H => ∃ k : Nat, m = l.length - k ∧ k ≤ l.length ∧ (f 1 = .lst 1 (ints l) ∧ f 2 = .pim (cNet n) ∧ f 5 = .int .i64 k) ∧ ∃ prev, okL (isPump n) none l = okL (isPump n) prev (l.drop k) ∧ (k = 0 ∧ prev = none ∨ ∃ (j : Nat) (y : Int), k = j + 1 ∧ l[j]? = some y ∧ prev = some y)) l.length
  ⟨0, by simp, Nat.zero_le _, by (and_intros <;> first | rfl | (simp only [cNet, go_sem, simprocAttr]; done) | (simp only [cNet, go_sem, simprocAttr]; rfl)), none, by simp, .inl ⟨rfl, rfl⟩⟩ ?_)
 rintro m f H ⟨k, rfl, hk, ⟨h1, h2, h5⟩, prev, hr, hp⟩
 by_cases hlt : k < l.length
 ·obtain ⟨x, hx⟩ : ∃ x, l[k]? = some x := ⟨_, List.getElem?_eq_getElem hlt⟩
  rw [drop_cons hx, okL_step] at hr
  refine AW_keep [] ?_
  by_cases hpx : 0 ≤ x ∧ x ≤ (n.pumps.length : Int) - 1
  ·have hpt : isPump n x = true := decide_eq_true (by omega)
   rw [hpt] at hr
   have z1 := hpx.1
   have z2 := hpx.2
   rcases hp with ⟨rfl, rfl⟩ | ⟨j, z, rfl, hy, rfl⟩
   ·repeat' (first | (with_reducible refine sk ?_; intro K hK) | ((first | (with_reducible first | refine rg (h := ?_) | refine nx ?_) | refine pK (within_ok _ _ _) ?_); try simp (disch := omega) only [h1, h2, h5, hx, z1, z2, cNet,go_sem, simprocAttr]) | (with_reducible refine bk ?_) | ((with_reducible refine' cE ?hv ?_ ?_); (case hv => first | rfl | (simp only [h1, h2, h5, hx, z1, z2, cNet,go_sem, simprocAttr]; rfl)); all_goals (intro hc; (try simp only [go_sem, simprocAttr] at hc); try (exfalso; omega))) | ((with_reducible first | refine grdS_split ?_ ?_ | refine lkG_split ?_ ?_) <;> intro hg <;> (try simp (disch := omega) only [hg, h1, h2, h5, hx, z1, z2, cNet,go_sem, simprocAttr]) <;> (try simp only [go_sem, simprocAttr] at hg) <;> (try (exfalso; omega))) | ((with_reducible refine fe ?_); refine ⟨_, (by simp only [Try.f62, h1, h2, h5, hx, z1, z2, cNet,go_sem, simprocAttr]; rfl), ?_⟩; first | rfl | (try simp only [h1, h2, h5, hx, z1, z2, cNet,go_sem, simprocAttr, seval])) | with_reducible intro (ep : Nat → Nat) | with_reducible apply_assumption -exfalso -symm only [*])
    exact ⟨l.length - 1, by omega, 1, rfl, by omega, by (and_intros <;> first | rfl | (simp only [h1, h2, h5, cNet, go_sem, simprocAttr]; done) | (simp only [h1, h2, h5, cNet, go_sem, simprocAttr]; rfl)), some x, by rw [hr]; simp, .inr ⟨0, x, rfl, hx, rfl⟩⟩
   ·have hj : j < l.length := by omega
    by_cases hle : x ≤ z
    ·have hno : outOK n l = false := by
      unfold outOK; rw [hr]; simp; intro h; omega
     repeat' (first | (with_reducible refine sk ?_; intro K hK) | ((first | (with_reducible first | refine rg (h := ?_) | refine nx ?_) | refine pK (within_ok _ _ _) ?_); try simp (disch := omega) only [h1, h2, h5, hx, hy, hj, z1, z2, hle, cNet,go_sem, simprocAttr]) | (with_reducible refine bk ?_) | ((with_reducible refine' cE ?hv ?_ ?_); (case hv => first | rfl | (simp only [h1, h2, h5, hx, hy, hj, z1, z2, hle, cNet,go_sem, simprocAttr]; rfl)); all_goals (intro hc; (try simp only [go_sem, simprocAttr] at hc); try (exfalso; omega))) | ((with_reducible first | refine grdS_split ?_ ?_ | refine lkG_split ?_ ?_) <;> intro hg <;> (try simp (disch := omega) only [hg, h1, h2, h5, hx, hy, hj, z1, z2, hle, cNet,go_sem, simprocAttr]) <;> (try simp only [go_sem, simprocAttr] at hg) <;> (try (exfalso; omega))) | ((with_reducible refine fe ?_); refine ⟨_, (by simp only [Try.f62, h1, h2, h5, hx, hy, hj, z1, z2, hle, cNet,go_sem, simprocAttr]; rfl), ?_⟩; first | rfl | (try simp only [h1, h2, h5, hx, hy, hj, z1, z2, hle, cNet,go_sem, simprocAttr, seval])) | with_reducible intro (ep : Nat → Nat) | with_reducible apply_assumption -exfalso -symm only [*])
     exact hno.symm
    ·repeat' (first | (with_reducible refine sk ?_; intro K hK) | ((first | (with_reducible first | refine rg (h := ?_) | refine nx ?_) | refine pK (within_ok _ _ _) ?_); try simp (disch := omega) only [h1, h2, h5, hx, hy, hj, z1, z2, hle, cNet,go_sem, simprocAttr]) | (with_reducible refine bk ?_) | ((with_reducible refine' cE ?hv ?_ ?_); (case hv => first | rfl | (simp only [h1, h2, h5, hx, hy, hj, z1, z2, hle, cNet,go_sem, simprocAttr]; rfl)); all_goals (intro hc; (try simp only [go_sem, simprocAttr] at hc); try (exfalso; omega))) | ((with_reducible first | refine grdS_split ?_ ?_ | refine lkG_split ?_ ?_) <;> intro hg <;> (try simp (disch := omega) only [hg, h1, h2, h5, hx, hy, hj, z1, z2, hle, cNet,go_sem, simprocAttr]) <;> (try simp only [go_sem, simprocAttr] at hg) <;> (try (exfalso; omega))) | ((with_reducible refine fe ?_); refine ⟨_, (by simp only [Try.f62, h1, h2, h5, hx, hy, hj, z1, z2, hle, cNet,go_sem, simprocAttr]; rfl), ?_⟩; first | rfl | (try simp only [h1, h2, h5, hx, hy, hj, z1, z2, hle, cNet,go_sem, simprocAttr, seval])) | with_reducible intro (ep : Nat → Nat) | with_reducible apply_assumption -exfalso -symm only [*])
     exact ⟨l.length - (j + 1 + 1), by omega, j + 1 + 1, rfl, by omega, by (and_intros <;> first | rfl | (simp only [h1, h2, h5, cNet, go_sem, simprocAttr]; done) | (simp only [h1, h2, h5, cNet, go_sem, simprocAttr]; rfl)), some x, by rw [hr]; simp; intro h; omega, .inr ⟨j + 1, x, rfl, hx, rfl⟩⟩
  ·have hpt : isPump n x = false := decide_eq_false (by omega)
   have hno : outOK n l = false := by unfold outOK; rw [hr, hpt]; simp
   rcases hp with ⟨rfl, rfl⟩ | ⟨j, z, rfl, hy, rfl⟩
   ·repeat' (first | (with_reducible refine sk ?_; intro K hK) | ((first | (with_reducible first | refine rg (h := ?_) | refine nx ?_) | refine pK (within_ok _ _ _) ?_); try simp (disch := omega) only [h1, h2, h5, hx, hpx, cNet,go_sem, simprocAttr]) | (with_reducible refine bk ?_) | ((with_reducible refine' cE ?hv ?_ ?_); (case hv => first | rfl | (simp only [h1, h2, h5, hx, hpx, cNet,go_sem, simprocAttr]; rfl)); all_goals (intro hc; (try simp only [go_sem, simprocAttr] at hc); try (exfalso; omega))) | ((with_reducible first | refine grdS_split ?_ ?_ | refine lkG_split ?_ ?_) <;> intro hg <;> (try simp (disch := omega) only [hg, h1, h2, h5, hx, hpx, cNet,go_sem, simprocAttr]) <;> (try simp only [go_sem, simprocAttr] at hg) <;> (try (exfalso; omega))) | ((with_reducible refine fe ?_); refine ⟨_, (by simp only [Try.f62, h1, h2, h5, hx, hpx, cNet,go_sem, simprocAttr]; rfl), ?_⟩; first | rfl | (try simp only [h1, h2, h5, hx, hpx, cNet,go_sem, simprocAttr, seval])) | with_reducible intro (ep : Nat → Nat) | with_reducible apply_assumption -exfalso -symm only [*])
    exact hno.symm
   ·have hj : j < l.length := by omega
    repeat' (first | (with_reducible refine sk ?_; intro K hK) | ((first | (with_reducible first | refine rg (h := ?_) | refine nx ?_) | refine pK (within_ok _ _ _) ?_); try simp (disch := omega) only [h1, h2, h5, hx, hy, hj, hpx, cNet,go_sem, simprocAttr]) | (with_reducible refine bk ?_) | ((with_reducible refine' cE ?hv ?_ ?_); (case hv => first | rfl | (simp only [h1, h2, h5, hx, hy, hj, hpx, cNet,go_sem, simprocAttr]; rfl)); all_goals (intro hc; (try simp only [go_sem, simprocAttr] at hc); try (exfalso; omega))) | ((with_reducible first | refine grdS_split ?_ ?_ | refine lkG_split ?_ ?_) <;> intro hg <;> (try simp (disch := omega) only [hg, h1, h2, h5, hx, hy, hj, hpx, cNet,go_sem, simprocAttr]) <;> (try simp only [go_sem, simprocAttr] at hg) <;> (try (exfalso; omega))) | ((with_reducible refine fe ?_); refine ⟨_, (by simp only [Try.f62, h1, h2, h5, hx, hy, hj, hpx, cNet,go_sem, simprocAttr]; rfl), ?_⟩; first | rfl | (try simp only [h1, h2, h5, hx, hy, hj, hpx, cNet,go_sem, simprocAttr, seval])) | with_reducible intro (ep : Nat → Nat) | with_reducible apply_assumption -exfalso -symm only [*])
    exact hno.symm
 ·rw [drop_none (by omega)] at hr
  have hok : outOK n l = decide ((l.length : Int) ≤ n.out) := by unfold outOK; rw [hr]; cases prev <;> simp [okL]
  repeat' (first | (with_reducible refine sk ?_; intro K hK) | ((with_reducible first | refine rg (h := ?_) | refine nx ?_); try simp (disch := omega) only [h1, h2, h5, cNet,go_sem, simprocAttr]) | (with_reducible refine bk ?_) | ((with_reducible refine' cE ?hv ?_ ?_); (case hv => first | rfl | (simp only [h1, h2, h5, cNet,go_sem, simprocAttr]; rfl)); all_goals (intro hc; (try simp only [go_sem, simprocAttr] at hc); try (exfalso; omega))) | ((with_reducible first | refine grdS_split ?_ ?_ | refine lkG_split ?_ ?_) <;> intro hg <;> (try simp (disch := omega) only [hg, h1, h2, h5, cNet,go_sem, simprocAttr]) <;> (try simp only [go_sem, simprocAttr] at hg) <;> (try (exfalso; omega))) | ((with_reducible refine fe ?_); refine ⟨_, (by simp only [Try.f62, h1, h2, h5, cNet,go_sem, simprocAttr]; rfl), ?_⟩; first | rfl | (try simp only [h1, h2, h5, cNet,go_sem, simprocAttr, seval])) | with_reducible intro (ep : Nat → Nat) | with_reducible apply_assumption -exfalso -symm only [*])
  exact hok.symm
def flowD (n : NetT) (L : List HeadT) : List Int := (flowL n.pipes (n.pipes.length + 1) L).drop 1
theorem flowD_len {n : NetT} {L : List HeadT} : (flowD n L).length = n.pipes.length := by unfold flowD; rw [List.length_drop, flowL_len]; omega
theorem flowD_get {n : NetT} {L : List HeadT} {i : Nat} (h : i < n.pipes.length) : (flowD n L)[i]? = some (flowAt n.pipes (i + 1) L) := by unfold flowD; rw [List.getElem?_drop, Nat.add_comm 1 i]; exact flowL_get (by omega)
theorem addV_tail {ps : List PipeT} {k : Nat} {need a b : Int} {G : List Int} : (addV ps k need (a :: G)).drop 1 = (addV ps k need (b :: G)).drop 1 := by
 simp [addV, List.mapIdx_cons]
theorem addV_snoc {n : NetT} {L : List HeadT} {h : HeadT} : (addV n.pipes h.node.toNat h.need (0 :: flowD n L)).drop 1 = flowD n (L ++ [h]) := by
 have h1 : flowL n.pipes (n.pipes.length + 1) L = flowAt n.pipes 0 L :: flowD n L := by
  unfold flowD; rw [← List.drop_zero (l := flowL n.pipes (n.pipes.length + 1) L)]
  exact drop_cons (flowL_get (by omega))
 rw [addV_tail (b := flowAt n.pipes 0 L), ← h1, addV_flow]; rfl
theorem addV_le {ps : List PipeT} {k : Nat} {need : Int} (hn : 0 ≤ need) {G : List Int} {i : Nat} {x y : Int} (hx : G[i]? = some x) (hy : ((addV ps k need (0 :: G)).drop 1)[i]? = some y) : x ≤ y := by
 rw [List.getElem?_drop, Nat.add_comm 1 i] at hy
 simp only [addV, List.getElem?_mapIdx, List.getElem?_cons_succ, hx, Option.map_some, Option.some.injEq] at hy
 subst hy; split <;> omega
theorem rflows_ok (n : NetT) (hF : NetF n) (l : List Int) (hl : l.length ≤ 20) (ho : ∀ a ∈ l, (headAt n.heads a).isSome = true) : PureC Try.prog 55 [encNet n, .lst 1 (ints l)] (.lst 1 (ints (flowD n (openH n.heads l)))) := by
 have hpl := hF.pipes
 have hhl := hF.heads
 have hat := fun id => at_ok n (by omega) id
 simp only [encNet, cNet] at hat
 have hpb : n.pipes.length ≤ 1073741824 := by omega
 have hrep : List.replicate n.pipes.length [Val.int .i64 0] = ints (flowD n []) := by
  unfold flowD; rw [flowL_nil]; simp [ints]
 refine PureC_of (fn := Try.f55) tabOK (by kernel_rfl) rfl (by kernel_rfl) (by simp [Try.f55]) (by simp [noids, noid, noidss, go_sem, encNet, cNet]) (by first | rfl | simp [noids, noid, noidss, go_sem, encNet, cNet]) ?_
 intro X hX0 hXs
 repeat' (first | (with_reducible refine sk ?_; intro K hK) | ((with_reducible first | refine rg (md := { base := 0, own := [7, 12] }) (h := ?_) | refine rgS [7] (md := { base := 0, own := [7, 12] }) (h := ?_) | refine nx ?_); try simp (disch := omega) only [encNet, cNet, mk_ints, hpb, hrep,go_sem, simprocAttr]) | (with_reducible refine bk ?_) | ((with_reducible refine' cE ?hv ?_ ?_); (case hv => first | rfl | (simp only [encNet, cNet, mk_ints, hpb, hrep,go_sem, simprocAttr]; rfl)); all_goals (intro hc; (try simp only [go_sem, simprocAttr] at hc); try (exfalso; omega))) | ((with_reducible refine fe ?_); refine ⟨_, (by simp only [Try.f55, encNet, cNet, mk_ints, hpb, hrep,go_sem, simprocAttr]; rfl), ?_⟩; first | rfl | (try simp only [encNet, cNet, mk_ints, hpb, hrep,go_sem, simprocAttr, seval])) | with_reducible intro (ep : Nat → Nat) | with_reducible apply_assumption -exfalso -symm only [*])
 refine AW_block (AW_loop (fun m f H => ∃ k : Nat, m = l.length - k ∧ k ≤ l.length ∧ (f 1 = .lst 1 (ints l) ∧ f 2 = .pim (cNet n) ∧ f 6 = .int .i64 k) ∧ ∃ e, f 5 = .gr 12 e n.pipes.length ∧ H 12 = some (e, .arr 1 (ints (flowD n (openH n.heads (l.take k)))))) l.length
  ⟨0, by simp, Nat.zero_le _, by (and_intros <;> first | rfl | (simp only [cNet, go_sem, simprocAttr]; done) | (simp only [cNet, go_sem, simprocAttr]; rfl)), _, by (first | rfl | (simp only [go_sem, simprocAttr]; done) | (simp only [go_sem, simprocAttr]; rfl)), by (first | rfl | (simp only [List.take_zero, openH, List.filterMap_nil, go_sem, simprocAttr]; done) | (simp only [List.take_zero, openH, List.filterMap_nil, go_sem, simprocAttr]; rfl))⟩ ?_)
 rintro m f H ⟨k, rfl, hk, ⟨h1, h2, h6⟩, e, h5, hH⟩
 by_cases hlt : k < l.length
 ·obtain ⟨x, hx⟩ : ∃ x, l[k]? = some x := ⟨_, List.getElem?_eq_getElem hlt⟩
  refine AW_keep [12] ?_
  rcases @atI_at n.heads x with ⟨a1, a2⟩ | ⟨i, y, a0, a1, a2⟩
  ·have := ho x (List.mem_of_getElem? hx); rw [a1] at this; simp at this
  ·have hyf := hF.head y (headAt_mem a1).1
   have hi : i < n.heads.length := (List.getElem?_eq_some_iff.1 a0).1
   have hsn := openH_snoc hx a1
   obtain ⟨O, hO⟩ : ∃ O, openH n.heads (l.take k) = O := ⟨_, rfl⟩
   have hO5 : heads500 O := by rw [← hO]; exact openH_500 hF _
   have hOl : O.length ≤ 20 := by rw [← hO]; exact Nat.le_trans openH_len (by simp; omega)
   rw [hO] at hH hsn
   have hT := @addV_snoc n O y
   have h51 : heads500 (O ++ [y]) := fun h hm => by
    rcases List.mem_append.1 hm with hm | hm
    ·exact hO5 h hm
    ·simp at hm; subst hm; exact hyf.1.2.1
   have hTb : ∀ (j : Nat) (z : Int), (flowD n (O ++ [y]))[j]? = some z → z ≤ 20000 := fun j z hz => by
    have hj : j < n.pipes.length := by have := (List.getElem?_eq_some_iff.1 hz).1; rwa [flowD_len] at this
    rw [flowD_get hj] at hz; cases hz
    have b1 := flowAt_bnd (ps := n.pipes) (j := j + 1) h51
    have b2 := needs_bnd h51
    simp at b2
    omega
   have hcast : ((y.node.toNat : Nat) : Int) = y.node := by omega
   repeat' (first | ((fail_if_success (with_reducible refine AW_at (id := 7) ?_)); with_reducible refine sk ?_; intro K hK) | ((first | (with_reducible first | refine rg (md := { base := 0, own := [7, 12] }) (h := ?_) | refine rgS [7] (md := { base := 0, own := [7, 12] }) (h := ?_) | refine nx ?_) | refine pK (hat x) ?_); try simp (disch := omega) only [h1, h2, h5, h6, hH, hx, a0, a2, hi, cNet, cHead,go_sem, simprocAttr]) | (with_reducible refine bk ?_) | ((with_reducible refine' cE ?hv ?_ ?_); (case hv => first | rfl | (simp only [h1, h2, h5, h6, hH, hx, a0, a2, hi, cNet, cHead,go_sem, simprocAttr]; rfl)); all_goals (intro hc; (try simp only [go_sem, simprocAttr] at hc); try (exfalso; omega))) | ((with_reducible refine fe ?_); refine ⟨_, (by simp only [Try.f55, h1, h2, h5, h6, hH, hx, a0, a2, hi, cNet, cHead,go_sem, simprocAttr]; rfl), ?_⟩; first | rfl | (try simp only [h1, h2, h5, h6, hH, hx, a0, a2, hi, cNet, cHead,go_sem, simprocAttr, seval])) | with_reducible intro (ep : Nat → Nat) | with_reducible apply_assumption -exfalso -symm only [*])
   refine AW_block (AW_loop (fun j f H => j ≤ n.pipes.length ∧ (f 1 = .lst 1 (ints l) ∧ f 2 = .pim (cNet n) ∧ f 6 = .int .i64 k ∧ f 8 = .int .i64 j ∧ f 5 = .gr 12 e n.pipes.length) ∧ (∃ e7, f 7 = .ptr 7 e7 8 0 0 ∧ H 7 = some (e7, .arr 8 [cHead y])) ∧ ∃ G, H 12 = some (e, .arr 1 (ints G)) ∧ G.length = n.pipes.length ∧ (∀ x ∈ G, 0 ≤ x) ∧ (addV n.pipes j y.need (0 :: G)).drop 1 = flowD n (O ++ [y])) y.node.toNat
    ⟨by omega, by (and_intros <;> first | rfl | (simp only [h1, h2, h5, h6, hcast, cNet, go_sem, simprocAttr]; done) | (simp only [h1, h2, h5, h6, hcast, cNet, go_sem, simprocAttr]; rfl)), ⟨_, by (first | rfl | (simp only [go_sem, simprocAttr]; done) | (simp only [go_sem, simprocAttr]; rfl)), by (first | rfl | (simp only [cHead, go_sem, simprocAttr]; done) | (simp only [cHead, go_sem, simprocAttr]; rfl))⟩, flowD n O, by (first | rfl | (simp only [hH, go_sem, simprocAttr]; done) | (simp only [hH, go_sem, simprocAttr]; rfl)), flowD_len, fun x hx => by
     obtain ⟨j, hj⟩ := List.mem_iff_getElem?.1 hx
     have hjn : j < n.pipes.length := by have := (List.getElem?_eq_some_iff.1 hj).1; rwa [flowD_len] at this
     rw [flowD_get hjn] at hj; cases hj
     exact (flowAt_bnd (ps := n.pipes) (j := j + 1) hO5).1, hT⟩ ?_)
   clear h1 h2 h5 h6 hH
   rintro j f H ⟨hj, ⟨h1, h2, h6, h8, h5⟩, ⟨e7, h7, hH7⟩, G, hH, hGl, hG0, hGT⟩
   refine AW_keep [7, 12] ?_
   by_cases hz : j = 0
   ·subst hz
    have hG : G = flowD n (O ++ [y]) := by
     rw [← hGT, addV_zero hF.falls (x := 0) (by simp)]; rfl
    repeat' (first | (with_reducible refine sk ?_; intro K hK) | ((with_reducible first | refine rg (md := { base := 0, own := [7, 12] }) (h := ?_) | refine rgS [7] (md := { base := 0, own := [7, 12] }) (h := ?_) | refine nx ?_); try simp (disch := omega) only [h1, h2, h5, h6, h7, h8, hH7, hH,go_sem, simprocAttr]) | (with_reducible refine bk ?_) | ((with_reducible refine' cE ?hv ?_ ?_); (case hv => first | rfl | (simp only [h1, h2, h5, h6, h7, h8, hH7, hH,go_sem, simprocAttr]; rfl)); all_goals (intro hc; (try simp only [go_sem, simprocAttr] at hc); try (exfalso; omega))) | with_reducible intro (ep : Nat → Nat) | with_reducible apply_assumption -exfalso -symm only [*])
    exact ⟨l.length - (k + 1), by omega, k + 1, rfl, by omega, by (and_intros <;> first | rfl | (simp only [h1, h2, h6, go_sem, simprocAttr]; done) | (simp only [h1, h2, h6, go_sem, simprocAttr]; rfl)), by rw [hsn, ← hG]; exact ⟨_, rfl, rfl⟩⟩
   ·obtain ⟨i, rfl⟩ : ∃ i, j = i + 1 := ⟨j - 1, by omega⟩
    obtain ⟨p, hp⟩ : ∃ p, n.pipes[i]? = some p := ⟨_, List.getElem?_eq_getElem (by omega)⟩
    obtain ⟨x, hx'⟩ : ∃ x, G[i]? = some x := ⟨_, List.getElem?_eq_getElem (by omega)⟩
    obtain ⟨z, hz'⟩ : ∃ z, (flowD n (O ++ [y]))[i]? = some z := ⟨_, flowD_get (by omega)⟩
    have hxz := addV_le (by omega : 0 ≤ y.need) hx' (by rw [hGT]; exact hz')
    have hzb := hTb i z hz'
    have hx0 := hG0 x (List.mem_of_getElem? hx')
    have hst := addV_step hF.falls (k := i + 1) (by omega) (need := y.need) (F := 0 :: G) (x := x) (by simpa using hx')
    rw [hst, List.set_cons_succ] at hGT
    have hfe : frmOf n.pipes (i + 1) = p.frm.toNat := frmOf_get hp
    have hpf := hF.pipe i p hp
    have hfr : p.frm = ((frmOf n.pipes (i + 1) : Nat) : Int) := by omega
    have hlt' := frmOf_lt hF.falls (k := i + 1) (by omega)
    have hkp : (0 : Int) < ((i + 1 : Nat) : Int) := by omega
    have hil : i < n.pipes.length := by omega
    repeat' (first | (with_reducible refine sk ?_; intro K hK) | ((with_reducible first | refine rg (md := { base := 0, own := [7, 12] }) (h := ?_) | refine rgS [7] (md := { base := 0, own := [7, 12] }) (h := ?_) | refine nx ?_); try simp (disch := omega) only [h1, h2, h5, h6, h7, h8, hH7, hH, hp, hx', hkp, hil, hGl, hfr, cNet, cPipe, cHead,go_sem, simprocAttr]) | (with_reducible refine bk ?_) | ((with_reducible refine' cE ?hv ?_ ?_); (case hv => first | rfl | (simp only [h1, h2, h5, h6, h7, h8, hH7, hH, hp, hx', hkp, hil, hGl, hfr, cNet, cPipe, cHead,go_sem, simprocAttr]; rfl)); all_goals (intro hc; (try simp only [go_sem, simprocAttr] at hc); try (exfalso; omega))) | with_reducible intro (ep : Nat → Nat) | with_reducible apply_assumption -exfalso -symm only [*])
    exact ⟨frmOf n.pipes (i + 1), hlt', by omega, by (and_intros <;> first | rfl | (simp only [h1, h2, h5, h6, cNet, go_sem, simprocAttr]; done) | (simp only [h1, h2, h5, h6, cNet, go_sem, simprocAttr]; rfl)), ⟨_, rfl, rfl⟩, G.set i (x + y.need), by (first | rfl | (simp only [ints_set, go_sem, simprocAttr]; done) | (simp only [ints_set, go_sem, simprocAttr]; rfl)), by simpa using hGl, fun w hw => by
     rcases List.mem_or_eq_of_mem_set hw with h | h
     ·exact hG0 w h
     ·omega, hGT⟩
 ·repeat' (first | (with_reducible refine sk ?_; intro K hK) | ((with_reducible first | refine rg (md := { base := 0, own := [7, 12] }) (h := ?_) | refine rgS [7] (md := { base := 0, own := [7, 12] }) (h := ?_) | refine nx ?_); try simp (disch := omega) only [h1, h2, h5, h6,go_sem, simprocAttr]) | (with_reducible refine bk ?_) | ((with_reducible refine' cE ?hv ?_ ?_); (case hv => first | rfl | (simp only [h1, h2, h5, h6,go_sem, simprocAttr]; rfl)); all_goals (intro hc; (try simp only [go_sem, simprocAttr] at hc); try (exfalso; omega))) | with_reducible intro (ep : Nat → Nat) | with_reducible apply_assumption -exfalso -symm only [*])
  rw [List.take_of_length_le (by omega)] at hH
  refine FnP_frz 12 (Or.inl rfl) hH ⟨_, (by simp only [Try.f55, go_sem, simprocAttr]; rfl), ?_⟩
  simp only [go_sem, simprocAttr, flowD_len]
theorem rpumps_ok (n : NetT) (hF : NetF n) (flow : Int) (hfl : 0 ≤ flow ∧ flow ≤ 10000) (out : List Int) (hno : outOK n out = true) (best : Bool) : PureC Try.prog 90 [encNet n, .int .i64 flow, .lst 1 (ints out), .bool best] (.int .i64 (pumpsF best (shareS n flow out) out n.pumps 0 200000)) := by
 obtain ⟨o1, o2, o3⟩ := out_facts hno
 have ho4 := hF.out
 have hpq := hF.pumps
 have hsb := share_bnd (n := n) (flow := flow) (out := out) (by omega) (by omega)
 have hq : (flow + ((n.pumps.length : Int) - out.length) - 1).tdiv ((n.pumps.length : Int) - out.length) = shareS n flow out := tdiv_up (by omega) (by omega)
 have hwz : ¬ (n.pumps.length : Int) - out.length = 0 := by omega
 obtain ⟨sh, hsh⟩ : ∃ sh, shareS n flow out = sh := ⟨_, rfl⟩
 rw [hsh] at hsb hq ⊢
 have hhas := fun a => rhas_ok out (by omega) a
 refine PureC_of (fn := Try.f90) tabOK (by kernel_rfl) rfl (by kernel_rfl) (by simp [Try.f90]) (by simp [noids, noid, noidss, go_sem, encNet, cNet]) (by first | rfl | simp [noids, noid, noidss, go_sem, encNet, cNet]) ?_
 intro X hX0 hXs
 repeat' (first | (with_reducible refine sk ?_; intro K hK) | ((with_reducible first | refine rg (h := ?_) | refine nx ?_); try simp (disch := omega) only [encNet, cNet, hq, hwz,go_sem, simprocAttr]) | (with_reducible refine bk ?_) | ((with_reducible refine' cE ?hv ?_ ?_); (case hv => first | rfl | (simp only [encNet, cNet, hq, hwz,go_sem, simprocAttr]; rfl)); all_goals (intro hc; (try simp only [go_sem, simprocAttr] at hc); try (exfalso; omega))) | ((with_reducible refine fe ?_); refine ⟨_, (by simp only [Try.f90, encNet, cNet, hq, hwz,go_sem, simprocAttr]; rfl), ?_⟩; first | rfl | (try simp only [encNet, cNet, hq, hwz,go_sem, simprocAttr, seval])) | with_reducible intro (ep : Nat → Nat) | with_reducible apply_assumption -exfalso -symm only [*])
 refine AW_block (AW_loop (fun m f H => ∃ k : Nat, m = n.pumps.length - k ∧ k ≤ n.pumps.length ∧ (f 2 = .lst 1 (ints out) ∧ f 3 = .bool best ∧ f 4 = .pim (cNet n) ∧ f 10 = .int .i64 sh ∧ f 12 = .int .i64 k) ∧ ∃ a, f 11 = .int .i64 a ∧ -1000000 ≤ a ∧ a ≤ 200000 ∧ pumpsF best sh out n.pumps 0 200000 = pumpsF best sh out (n.pumps.drop k) k a) n.pumps.length
  ⟨0, by simp, Nat.zero_le _, by (and_intros <;> first | rfl | (simp only [cNet, go_sem, simprocAttr]; done) | (simp only [cNet, go_sem, simprocAttr]; rfl)), _, by (first | rfl | (simp only [go_sem, simprocAttr]; done) | (simp only [go_sem, simprocAttr]; rfl)), by omega, by omega, by simp⟩ ?_)
 rintro m f H ⟨k, rfl, hk, ⟨h2, h3, h4, h10, h12⟩, a, h11, ha1, ha2, hr⟩
 by_cases hlt : k < n.pumps.length
 ·obtain ⟨p, hp⟩ : ∃ p, n.pumps[k]? = some p := ⟨_, List.getElem?_eq_getElem hlt⟩
  have hpf := hF.pump p (List.mem_of_getElem? hp)
  have hfe := fullE_bnd hpf.1 best
  have q1 : p.slope * sh ≤ 100 * sh := Int.mul_le_mul_of_nonneg_right hpf.2.2 hsb.1
  have q2 : 0 ≤ p.slope * sh := Int.mul_nonneg hpf.2.1 hsb.1
  rw [drop_cons hp] at hr
  simp only [pumpsF] at hr
  have hh := hhas (k : Int)
  have hmin : -1000000 ≤ min a (fullE best p - p.slope * sh) ∧ min a (fullE best p - p.slope * sh) ≤ 200000 := by omega
  refine AW_keep [] ?_
  cases hc0 : out.contains (k : Int) with
  | true =>
   rw [hc0] at hh hr
   repeat' (first | (with_reducible refine sk ?_; intro K hK) | ((first | (with_reducible first | refine rg (h := ?_) | refine nx ?_) | refine pK (hh) ?_); try simp (disch := omega) only [h2, h3, h4, h10, h11, h12, cNet,go_sem, simprocAttr]) | (with_reducible refine bk ?_) | ((with_reducible refine' cE ?hv ?_ ?_); (case hv => first | rfl | (simp only [h2, h3, h4, h10, h11, h12, cNet,go_sem, simprocAttr]; rfl)); all_goals (intro hc; (try simp only [go_sem, simprocAttr] at hc); try (exfalso; omega))) | ((with_reducible refine fe ?_); refine ⟨_, (by simp only [Try.f90, h2, h3, h4, h10, h11, h12, cNet,go_sem, simprocAttr]; rfl), ?_⟩; first | rfl | (try simp only [h2, h3, h4, h10, h11, h12, cNet,go_sem, simprocAttr, seval])) | with_reducible intro (ep : Nat → Nat) | with_reducible apply_assumption -exfalso -symm only [*])
   exact ⟨n.pumps.length - (k + 1), by omega, k + 1, rfl, by omega, by (and_intros <;> first | rfl | (simp only [h2, h3, h4, h10, h11, h12, cNet, go_sem, simprocAttr]; done) | (simp only [h2, h3, h4, h10, h11, h12, cNet, go_sem, simprocAttr]; rfl)), a, by (first | rfl | (simp only [h11, go_sem, simprocAttr]; done) | (simp only [h11, go_sem, simprocAttr]; rfl)), ha1, ha2, hr⟩
  | false =>
   rw [hc0] at hh hr
   cases best with
   | true =>
    repeat' (first | (with_reducible refine sk ?_; intro K hK) | ((first | (with_reducible first | refine rg (h := ?_) | refine nx ?_) | refine pK (hh) ?_); try simp (disch := omega) only [h2, h3, h4, h10, h11, h12, hp, cNet, cPump,go_sem, simprocAttr]) | (with_reducible refine bk ?_) | ((with_reducible refine' cE ?hv ?_ ?_); (case hv => first | rfl | (simp only [h2, h3, h4, h10, h11, h12, hp, cNet, cPump,go_sem, simprocAttr]; rfl)); all_goals (intro hc; (try simp only [go_sem, simprocAttr] at hc); try (exfalso; omega))) | ((with_reducible refine fe ?_); refine ⟨_, (by simp only [Try.f90, h2, h3, h4, h10, h11, h12, hp, cNet, cPump,go_sem, simprocAttr]; rfl), ?_⟩; first | rfl | (try simp only [h2, h3, h4, h10, h11, h12, hp, cNet, cPump,go_sem, simprocAttr, seval])) | with_reducible intro (ep : Nat → Nat) | with_reducible apply_assumption -exfalso -symm only [*])
    exact ⟨n.pumps.length - (k + 1), by omega, k + 1, rfl, by omega, by (and_intros <;> first | rfl | (simp only [h2, h3, h4, h10, h11, h12, cNet, go_sem, simprocAttr]; done) | (simp only [h2, h3, h4, h10, h11, h12, cNet, go_sem, simprocAttr]; rfl)), _, by (first | rfl | (simp only [go_sem, simprocAttr]; done) | (simp only [go_sem, simprocAttr]; rfl)), hmin.1, hmin.2, hr⟩
   | false =>
    repeat' (first | (with_reducible refine sk ?_; intro K hK) | ((first | (with_reducible first | refine rg (h := ?_) | refine nx ?_) | refine pK (hh) ?_); try simp (disch := omega) only [h2, h3, h4, h10, h11, h12, hp, cNet, cPump,go_sem, simprocAttr]) | (with_reducible refine bk ?_) | ((with_reducible refine' cE ?hv ?_ ?_); (case hv => first | rfl | (simp only [h2, h3, h4, h10, h11, h12, hp, cNet, cPump,go_sem, simprocAttr]; rfl)); all_goals (intro hc; (try simp only [go_sem, simprocAttr] at hc); try (exfalso; omega))) | ((with_reducible refine fe ?_); refine ⟨_, (by simp only [Try.f90, h2, h3, h4, h10, h11, h12, hp, cNet, cPump,go_sem, simprocAttr]; rfl), ?_⟩; first | rfl | (try simp only [h2, h3, h4, h10, h11, h12, hp, cNet, cPump,go_sem, simprocAttr, seval])) | with_reducible intro (ep : Nat → Nat) | with_reducible apply_assumption -exfalso -symm only [*])
    exact ⟨n.pumps.length - (k + 1), by omega, k + 1, rfl, by omega, by (and_intros <;> first | rfl | (simp only [h2, h3, h4, h10, h11, h12, cNet, go_sem, simprocAttr]; done) | (simp only [h2, h3, h4, h10, h11, h12, cNet, go_sem, simprocAttr]; rfl)), _, by (first | rfl | (simp only [go_sem, simprocAttr]; done) | (simp only [go_sem, simprocAttr]; rfl)), hmin.1, hmin.2, hr⟩
 ·rw [drop_none (by omega)] at hr
  simp only [pumpsF] at hr
  repeat' (first | (with_reducible refine sk ?_; intro K hK) | ((with_reducible first | refine rg (h := ?_) | refine nx ?_); try simp (disch := omega) only [h2, h3, h4, h10, h11, h12, cNet,go_sem, simprocAttr]) | (with_reducible refine bk ?_) | ((with_reducible refine' cE ?hv ?_ ?_); (case hv => first | rfl | (simp only [h2, h3, h4, h10, h11, h12, cNet,go_sem, simprocAttr]; rfl)); all_goals (intro hc; (try simp only [go_sem, simprocAttr] at hc); try (exfalso; omega))) | ((with_reducible refine fe ?_); refine ⟨_, (by simp only [Try.f90, h2, h3, h4, h10, h11, h12, cNet,go_sem, simprocAttr]; rfl), ?_⟩; first | rfl | (try simp only [h2, h3, h4, h10, h11, h12, cNet,go_sem, simprocAttr, seval])) | with_reducible intro (ep : Nat → Nat) | with_reducible apply_assumption -exfalso -symm only [*])
  rw [hr]
end Cp
namespace Cp
open Go Go.Proofs
set_option maxRecDepth 10000
set_option maxHeartbeats 1000000
theorem sup_ok (a b : Int) (ha : 0 ≤ a ∧ a ≤ 1000000000000) (hb : 1 ≤ b ∧ b ≤ 1000000) : PureC Try.prog 89 [.int .i64 a, .int .i64 b] (.int .i64 (upD a b)) := by
 have hz : ¬ b = 0 := by omega
 have ht := tdiv_up (a := a) (b := b) ha.1 (by omega)
 have hub := upD_bnd (a := a) (b := b) ha.1 (by omega)
 refine PureC_of (fn := Try.f89) tabOK (by kernel_rfl) rfl (by kernel_rfl) (by simp [Try.f89]) (by simp [noids, noid, noidss, go_sem]) (by first | rfl | simp [noids, noid, noidss, go_sem]) ?_
 intro X hX0 hXs
 repeat' (first | (with_reducible refine sk ?_; intro K hK) | ((with_reducible first | refine rg (h := ?_) | refine nx ?_); try simp (disch := omega) only [hz, ht,go_sem, simprocAttr]) | (with_reducible refine bk ?_) | ((with_reducible refine' cE ?hv ?_ ?_); (case hv => first | rfl | (simp only [hz, ht,go_sem, simprocAttr]; rfl)); all_goals (intro hc; (try simp only [go_sem, simprocAttr] at hc); try (exfalso; omega))) | ((with_reducible refine fe ?_); refine ⟨_, (by simp only [Try.f89, hz, ht,go_sem, simprocAttr]; rfl), ?_⟩; first | rfl | (try simp only [hz, ht,go_sem, simprocAttr, seval])) | with_reducible intro (ep : Nat → Nat) | with_reducible apply_assumption -exfalso -symm only [*])
theorem least_ok (a b : Int) : PureC Try.prog 102 [.int .i64 a, .lst 1 [[.int .i64 b]]] (.int .i64 (min a b)) := by
 refine PureC_of (fn := Try.f102) tabOK (by kernel_rfl) rfl (by kernel_rfl) (by simp [Try.f102]) (by simp [noids, noid, noidss, go_sem]) (by first | rfl | simp [noids, noid, noidss, go_sem]) ?_
 intro X hX0 hXs
 repeat' (first | (with_reducible refine sk ?_; intro K hK) | ((with_reducible first | refine rg (h := ?_) | refine nx ?_); try simp (disch := omega) only [go_sem, simprocAttr]) | (with_reducible refine bk ?_) | ((with_reducible refine' cE ?hv ?_ ?_); (case hv => first | rfl | (simp only [go_sem, simprocAttr]; rfl)); all_goals (intro hc; (try simp only [go_sem, simprocAttr] at hc); try (exfalso; omega))) | ((with_reducible refine fe ?_); refine ⟨_, (by simp only [Try.f102, go_sem, simprocAttr]; rfl), ?_⟩; first | rfl | (try simp only [go_sem, simprocAttr, seval])) | with_reducible intro (ep : Nat → Nat) | with_reducible apply_assumption -exfalso -symm only [*])
 refine AW_range tabOK 1 (fun k f H => f 7 = .lst 1 [[.int .i64 b]] ∧ f 0 = .int .i64 (if k = 0 then a else min a b)) (by omega) (by rw [hXs]; decide) (by decide) (by (first | rfl | (simp only [go_sem, simprocAttr]; done) | (simp only [go_sem, simprocAttr]; rfl))) (by (first | rfl | (simp only [go_sem, simprocAttr]; done) | (simp only [go_sem, simprocAttr]; rfl))) ⟨by (first | rfl | (simp only [go_sem, simprocAttr]; done) | (simp only [go_sem, simprocAttr]; rfl)), by (first | rfl | (simp only [go_sem, simprocAttr]; done) | (simp only [go_sem, simprocAttr]; rfl))⟩ ?_ ?_
 ·rintro k f H hk h9 h8 ⟨h7, h0⟩
  obtain rfl : k = 0 := by omega
  simp only [if_true] at h0
  repeat' (first | (with_reducible refine sk ?_; intro K hK) | ((with_reducible first | refine rg (h := ?_) | refine nx ?_); try simp (disch := omega) only [h0, h7, h8, h9,go_sem, simprocAttr]) | (with_reducible refine bk ?_) | ((with_reducible refine' cE ?hv ?_ ?_); (case hv => first | rfl | (simp only [h0, h7, h8, h9,go_sem, simprocAttr]; rfl)); all_goals (intro hc; (try simp only [go_sem, simprocAttr] at hc); try (exfalso; omega))) | ((with_reducible refine fe ?_); refine ⟨_, (by simp only [Try.f102, h0, h7, h8, h9,go_sem, simprocAttr]; rfl), ?_⟩; first | rfl | (try simp only [h0, h7, h8, h9,go_sem, simprocAttr, seval])) | with_reducible intro (ep : Nat → Nat) | with_reducible apply_assumption -exfalso -symm only [*])
 ·rintro f H h9 h8 ⟨h7, h0⟩
  repeat' (first | (with_reducible refine sk ?_; intro K hK) | ((with_reducible first | refine rg (h := ?_) | refine nx ?_); try simp (disch := omega) only [h0,go_sem, simprocAttr]) | (with_reducible refine bk ?_) | ((with_reducible refine' cE ?hv ?_ ?_); (case hv => first | rfl | (simp only [h0,go_sem, simprocAttr]; rfl)); all_goals (intro hc; (try simp only [go_sem, simprocAttr] at hc); try (exfalso; omega))) | ((with_reducible refine fe ?_); refine ⟨_, (by simp only [Try.f102, h0,go_sem, simprocAttr]; rfl), ?_⟩; first | rfl | (try simp only [h0,go_sem, simprocAttr, seval])) | with_reducible intro (ep : Nat → Nat) | with_reducible apply_assumption -exfalso -symm only [*])
theorem low_ok (s : Span) : PureC Try.prog 86 [encSpan s] (.int .i64 s.lo) := by
 refine PureC_of (fn := Try.f86) tabOK (by kernel_rfl) rfl (by kernel_rfl) (by simp [Try.f86]) (by simp [noids, noid, noidss, go_sem, encSpan]) (by first | rfl | simp [noids, noid, noidss, go_sem, encSpan]) ?_
 intro X hX0 hXs
 repeat' (first | (with_reducible refine sk ?_; intro K hK) | ((with_reducible first | refine rg (h := ?_) | refine nx ?_); try simp (disch := omega) only [encSpan,go_sem, simprocAttr]) | (with_reducible refine bk ?_) | ((with_reducible refine' cE ?hv ?_ ?_); (case hv => first | rfl | (simp only [encSpan,go_sem, simprocAttr]; rfl)); all_goals (intro hc; (try simp only [go_sem, simprocAttr] at hc); try (exfalso; omega))) | ((with_reducible refine fe ?_); refine ⟨_, (by simp only [Try.f86, encSpan,go_sem, simprocAttr]; rfl), ?_⟩; first | rfl | (try simp only [encSpan,go_sem, simprocAttr, seval])) | with_reducible intro (ep : Nat → Nat) | with_reducible apply_assumption -exfalso -symm only [*])
theorem high_ok (s : Span) : PureC Try.prog 87 [encSpan s] (.int .i64 s.hi) := by
 refine PureC_of (fn := Try.f87) tabOK (by kernel_rfl) rfl (by kernel_rfl) (by simp [Try.f87]) (by simp [noids, noid, noidss, go_sem, encSpan]) (by first | rfl | simp [noids, noid, noidss, go_sem, encSpan]) ?_
 intro X hX0 hXs
 repeat' (first | (with_reducible refine sk ?_; intro K hK) | ((with_reducible first | refine rg (h := ?_) | refine nx ?_); try simp (disch := omega) only [encSpan,go_sem, simprocAttr]) | (with_reducible refine bk ?_) | ((with_reducible refine' cE ?hv ?_ ?_); (case hv => first | rfl | (simp only [encSpan,go_sem, simprocAttr]; rfl)); all_goals (intro hc; (try simp only [go_sem, simprocAttr] at hc); try (exfalso; omega))) | ((with_reducible refine fe ?_); refine ⟨_, (by simp only [Try.f87, encSpan,go_sem, simprocAttr]; rfl), ?_⟩; first | rfl | (try simp only [encSpan,go_sem, simprocAttr, seval])) | with_reducible intro (ep : Nat → Nat) | with_reducible apply_assumption -exfalso -symm only [*])
def sgF (best : Bool) : FuncId := if best = true then 87 else 86
def endV (best : Bool) : Val := .agg [.fn (sgF best) [], .fn (sgF (!best)) []]
theorem sg_ok (best : Bool) (s : Span) : PureC Try.prog (sgF best) [encSpan s] (.int .i64 (if best then s.hi else s.lo)) := by
 cases best
 ·exact low_ok s
 ·exact high_ok s
theorem ends_ok : PureC Try.prog 60 [] (.agg [.fn (sgF false) [], .fn (sgF true) [], .fn (sgF true) [], .fn (sgF false) []]) := by
 refine PureC_of (fn := Try.f60) tabOK (by kernel_rfl) rfl (by kernel_rfl) (by simp [Try.f60]) (by simp [noids, noid, noidss, go_sem]) (by first | rfl | simp [noids, noid, noidss, go_sem]) ?_
 intro X hX0 hXs
 repeat' (first | (with_reducible refine sk ?_; intro K hK) | ((with_reducible first | refine rg (h := ?_) | refine rgS [0] (h := ?_) | refine nx ?_); try simp (disch := omega) only [go_sem, simprocAttr]) | (with_reducible refine bk ?_) | ((with_reducible refine' cE ?hv ?_ ?_); (case hv => first | rfl | (simp only [go_sem, simprocAttr]; rfl)); all_goals (intro hc; (try simp only [go_sem, simprocAttr] at hc); try (exfalso; omega))) | ((with_reducible refine fe ?_); refine ⟨_, (by simp only [Try.f60, go_sem, simprocAttr]; rfl), ?_⟩; first | rfl | (try simp only [go_sem, simprocAttr, seval])) | with_reducible intro (ep : Nat → Nat) | with_reducible apply_assumption -exfalso -symm only [*])
structure PlH (n : NetT) (hs : List HeadT) (out : List Int) (e36 e33 e34 : Nat) (H : Hp) : Prop where
 h36 : frz1 (H 436) = some (e36, .fro 10 [cPlant n hs e33 e34 (n.pipes.length + 1)])
 h33 : frz1 (H 433) = some (e33, .fro 1 (ints (flowL n.pipes (n.pipes.length + 1) hs)))
 h34 : ∃ ver, frz1 (H 434) = some (e34, .frm ver (imap .i64 (offM out)))
@[go_sem] theorem xfind_off {i : Int} {l : List (Int × Val)} : xfind tab 3 (.int .i64 i) (imap .i64 l) 0 = some (findI i l 0) := xfind_imap tab_3 _ _
theorem findI_off {out : List Int} {i : Int} : ∀ {s : Nat}, (out.contains i = true ∧ ∃ j, findI i (offM out) s = some (j, .bool true)) ∨ (out.contains i = false ∧ findI i (offM out) s = none) := by
 induction out with
 | nil => intro s; exact .inr ⟨rfl, rfl⟩
 | cons a out ih =>
  intro s
  simp only [offM, List.map_cons, findI, List.contains_cons]
  by_cases h : i = a
  ·subst h; exact .inl ⟨by simp, s, by simp⟩
  ·have hb : (i == a) = false := by simpa using h
   rw [if_neg h, hb, Bool.false_or]
   exact ih (s := s + 1)
theorem pumps_look (n : NetT) (hF : NetF n) (hs : List HeadT) (h5 : heads500 hs) (hsl : hs.length ≤ 20) (out : List Int) (ho : outOK n out = true) (best : Bool) (e36 e33 e34 : Nat) (H : Hp) (hP : PlH n hs out e36 e33 e34 H) (hroom : H 1208 = none) :
  LookC Try.prog 88 [.ptr 436 e36 10 0 0, endV best] H (.int .i64 (pumpsS n hs out best)) := by
 obtain ⟨h36, h33, ver, h34⟩ := hP
 have hr : frz1 (H 1208) = none := by rw [hroom]; rfl
 obtain ⟨o1, o2, o3⟩ := out_facts ho
 have hno := hF.out
 have hnp := hF.pumps
 have hnb := needs_bnd h5
 have hsb := share_bnd (n := n) (flow := needs hs) (out := out) (by omega) (by omega)
 have hfl : (flowL n.pipes (n.pipes.length + 1) hs)[0]? = some (needs hs) := by rw [flowL_get (by omega), flowAt_zero]
 have hup := sup_ok (needs hs) ((n.pumps.length : Int) - out.length) (by omega) (by omega)
 have hshe : upD (needs hs) ((n.pumps.length : Int) - out.length) = shareS n (needs hs) out := rfl
 rw [hshe] at hup
 rw [← pumpsS_eq hF ho h5 best]
 obtain ⟨sh, hsh⟩ : ∃ sh, shareS n (needs hs) out = sh := ⟨_, rfl⟩
 rw [hsh] at hsb hup ⊢
 refine LookC_of (fn := Try.f88) tabOK (by kernel_rfl) rfl (by kernel_rfl) (by simp [Try.f88]) rfl ?_
 intro X hX0 hXs
 have hlp : 0 < n.pipes.length + 1 := by omega
 repeat' (first | ((fail_if_success (with_reducible refine AW_at (id := 3) ?_)); with_reducible refine sk ?_; intro K hK) | ((first | (with_reducible first | refine rg (md := { base := 1200, own := [] }) (h := ?_) | refine rgS [8] (md := { base := 1200, own := [] }) (h := ?_) | refine nx ?_) | refine pK (hup) ?_); try simp (disch := omega) only [h36, h33, h34, hr, hfl, hlp, flowL_len, offM_len, cPlant, endV,go_sem, simprocAttr]) | (with_reducible refine bk ?_) | ((with_reducible refine' cE ?hv ?_ ?_); (case hv => first | rfl | (simp only [h36, h33, h34, hr, hfl, hlp, flowL_len, offM_len, cPlant, endV,go_sem, simprocAttr]; rfl)); all_goals (intro hc; (try simp only [go_sem, simprocAttr] at hc); try (exfalso; omega))) | ((with_reducible refine fe ?_); refine ⟨_, (by simp only [Try.f88, h36, h33, h34, hr, hfl, hlp, flowL_len, offM_len, cPlant, endV,go_sem, simprocAttr]; rfl), ?_⟩; first | rfl | (try simp only [h36, h33, h34, hr, hfl, hlp, flowL_len, offM_len, cPlant, endV,go_sem, simprocAttr, seval])) | with_reducible intro (ep : Nat → Nat) | with_reducible apply_assumption -exfalso -symm only [*])
 repeat' (first | (with_reducible refine sk ?_; intro K hK) | ((with_reducible first | refine rg (md := { base := 1200, own := [] }) (h := ?_) | refine rgS [8] (md := { base := 1200, own := [] }) (h := ?_) | refine nx ?_); try simp (disch := omega) only [h36, h33, h34, hr, cPlant,go_sem, simprocAttr]) | (with_reducible refine bk ?_) | ((with_reducible refine' cE ?hv ?_ ?_); (case hv => first | rfl | (simp only [h36, h33, h34, hr, cPlant,go_sem, simprocAttr]; rfl)); all_goals (intro hc; (try simp only [go_sem, simprocAttr] at hc); try (exfalso; omega))) | ((with_reducible refine fe ?_); refine ⟨_, (by simp only [Try.f88, h36, h33, h34, hr, cPlant,go_sem, simprocAttr]; rfl), ?_⟩; first | rfl | (try simp only [h36, h33, h34, hr, cPlant,go_sem, simprocAttr, seval])) | with_reducible intro (ep : Nat → Nat) | with_reducible apply_assumption -exfalso -symm only [*])
 refine AW_range tabOK n.pumps.length (fun k f H => (f 0 = .ptr 436 e36 10 0 0 ∧ f 3 = .pim [.fn (sgF best) [], .fn (sgF (!best)) []] ∧ f 5 = .int .i64 sh ∧ f 32 = .lst 3 (n.pumps.map cPump)) ∧ (H 436 = some (e36, .fro 10 [cPlant n hs e33 e34 (n.pipes.length + 1)]) ∧ H 434 = some (e34, .frm ver (imap .i64 (offM out)))) ∧
   ∃ a, f 6 = .int .i64 a ∧ -1000000 ≤ a ∧ a ≤ 1099511627776 ∧ pumpsF best sh out n.pumps 0 1099511627776 = pumpsF best sh out (n.pumps.drop k) k a) (by omega) (by rw [hXs]; decide) (by decide) (by (first | rfl | (simp only [h36, go_sem, simprocAttr]; done) | (simp only [h36, go_sem, simprocAttr]; rfl))) (by (first | rfl | (simp only [h36, go_sem, simprocAttr]; done) | (simp only [h36, go_sem, simprocAttr]; rfl)))
  ⟨by (and_intros <;> first | rfl | (simp only [endV, h36, go_sem, simprocAttr]; done) | (simp only [endV, h36, go_sem, simprocAttr]; rfl)), by (and_intros <;> first | rfl | (simp only [h36, h34, cPlant, go_sem, simprocAttr]; done) | (simp only [h36, h34, cPlant, go_sem, simprocAttr]; rfl)), _, by (first | rfl | (simp only [go_sem, simprocAttr]; done) | (simp only [go_sem, simprocAttr]; rfl)), by omega, by omega, by simp⟩ ?_ ?_
 ·rintro k f H hk hi34 hi33 ⟨⟨h0, h3, h5', h32⟩, ⟨g36, g34⟩, a, h6, ha1, ha2, hr2⟩
  obtain ⟨p, hp⟩ : ∃ p, n.pumps[k]? = some p := ⟨_, List.getElem?_eq_getElem hk⟩
  have hpf := hF.pump p (List.mem_of_getElem? hp)
  have hfe := fullE_bnd hpf.1 best
  have q1 : p.slope * sh ≤ 100 * sh := Int.mul_le_mul_of_nonneg_right hpf.2.2 hsb.1
  have q2 : 0 ≤ p.slope * sh := Int.mul_nonneg hpf.2.1 hsb.1
  rw [drop_cons hp] at hr2
  simp only [pumpsF] at hr2
  have hsg := sg_ok best p.full
  have hfd : (if best = true then p.full.hi else p.full.lo) = fullE best p := rfl
  rw [hfd] at hsg
  simp only [encSpan] at hsg
  refine AW_keep [436, 434] ?_
  rcases @findI_off out (k : Int) 0 with ⟨c1, j, c2⟩ | ⟨c1, c2⟩
  ·rw [if_pos c1] at hr2
   repeat' (first | (with_reducible refine sk ?_; intro K hK) | ((with_reducible first | refine rg (md := { base := 1200, own := [] }) (h := ?_) | refine rgS [8] (md := { base := 1200, own := [] }) (h := ?_) | refine nx ?_); try simp (disch := omega) only [h0, h3, h5', h6, h32, hi33, hi34, g36, g34, hp, c2, cPump, cPlant,go_sem, simprocAttr]) | (with_reducible refine bk ?_) | ((with_reducible refine' cE ?hv ?_ ?_); (case hv => first | rfl | (simp only [h0, h3, h5', h6, h32, hi33, hi34, g36, g34, hp, c2, cPump, cPlant,go_sem, simprocAttr]; rfl)); all_goals (intro hc; (try simp only [go_sem, simprocAttr] at hc); try (exfalso; omega))) | ((with_reducible refine fe ?_); refine ⟨_, (by simp only [Try.f88, h0, h3, h5', h6, h32, hi33, hi34, g36, g34, hp, c2, cPump, cPlant,go_sem, simprocAttr]; rfl), ?_⟩; first | rfl | (try simp only [h0, h3, h5', h6, h32, hi33, hi34, g36, g34, hp, c2, cPump, cPlant,go_sem, simprocAttr, seval])) | with_reducible intro (ep : Nat → Nat) | with_reducible apply_assumption -exfalso -symm only [*])
   exact ⟨a, rfl, ha1, ha2, hr2⟩
  ·rw [c1] at hr2
   simp only [Bool.false_eq_true, if_false] at hr2
   repeat' (first | (with_reducible refine sk ?_; intro K hK) | ((first | (with_reducible first | refine rg (md := { base := 1200, own := [] }) (h := ?_) | refine rgS [8] (md := { base := 1200, own := [] }) (h := ?_) | refine nx ?_) | refine pK (hsg) ?_ | refine pK (least_ok _ _) ?_); try simp (disch := omega) only [h0, h3, h5', h6, h32, hi33, hi34, g36, g34, hp, c2, cPump, cPlant,go_sem, simprocAttr]) | (with_reducible refine bk ?_) | ((with_reducible refine' cE ?hv ?_ ?_); (case hv => first | rfl | (simp only [h0, h3, h5', h6, h32, hi33, hi34, g36, g34, hp, c2, cPump, cPlant,go_sem, simprocAttr]; rfl)); all_goals (intro hc; (try simp only [go_sem, simprocAttr] at hc); try (exfalso; omega))) | ((with_reducible refine fe ?_); refine ⟨_, (by simp only [Try.f88, h0, h3, h5', h6, h32, hi33, hi34, g36, g34, hp, c2, cPump, cPlant,go_sem, simprocAttr]; rfl), ?_⟩; first | rfl | (try simp only [h0, h3, h5', h6, h32, hi33, hi34, g36, g34, hp, c2, cPump, cPlant,go_sem, simprocAttr, seval])) | with_reducible intro (ep : Nat → Nat) | with_reducible apply_assumption -exfalso -symm only [*])
   exact ⟨min a (fullE best p - p.slope * sh), rfl, by omega, by omega, hr2⟩
 ·rintro f H hi34 hi33 ⟨⟨h0, h3, h5', h32⟩, ⟨g36, g34⟩, a, h6, ha1, ha2, hr2⟩
  rw [drop_none (Nat.le_refl _)] at hr2
  simp only [pumpsF] at hr2
  repeat' (first | (with_reducible refine sk ?_; intro K hK) | ((with_reducible first | refine rg (md := { base := 1200, own := [] }) (h := ?_) | refine rgS [8] (md := { base := 1200, own := [] }) (h := ?_) | refine nx ?_); try simp (disch := omega) only [h6,go_sem, simprocAttr]) | (with_reducible refine bk ?_) | ((with_reducible refine' cE ?hv ?_ ?_); (case hv => first | rfl | (simp only [h6,go_sem, simprocAttr]; rfl)); all_goals (intro hc; (try simp only [go_sem, simprocAttr] at hc); try (exfalso; omega))) | ((with_reducible refine fe ?_); refine ⟨_, (by simp only [Try.f88, h6,go_sem, simprocAttr]; rfl), ?_⟩; first | rfl | (try simp only [h6,go_sem, simprocAttr, seval])) | with_reducible intro (ep : Nat → Nat) | with_reducible apply_assumption -exfalso -symm only [*])
  rw [hr2]
end Cp
namespace Cp
open Go Go.Proofs
set_option maxRecDepth 10000
set_option maxHeartbeats 1000000
theorem PlH.frz {n : NetT} {hs : List HeadT} {out : List Int} {e36 e33 e34 : Nat} {H : Hp} (h : PlH n hs out e36 e33 e34 H) : PlH n hs out e36 e33 e34 (frzH H) := by
 obtain ⟨h1, h2, ver, h3⟩ := h
 exact ⟨by simp only [frzH, frz1_idem]; exact h1, by simp only [frzH, frz1_idem]; exact h2, ver, by simp only [frzH, frz1_idem]; exact h3⟩
theorem foul_neg (best : Bool) (p : PipeT) : (if (!best) = true then p.foul.hi else p.foul.lo) = foulE best p := by cases best <;> rfl
theorem pumpsS_bnd {n : NetT} (hF : NetF n) {hs : List HeadT} (h5 : heads500 hs) (hsl : hs.length ≤ 20) {out : List Int} (ho : outOK n out = true) (best : Bool) : -1000000 ≤ pumpsS n hs out best ∧ pumpsS n hs out best ≤ 200000 := by
 obtain ⟨o1, o2, o3⟩ := out_facts ho
 have hno := hF.out
 have hnb := needs_bnd h5
 have hsb := share_bnd (n := n) (flow := needs hs) (out := out) (by omega) (by omega)
 exact pumpsF_bnd ⟨hsb.1, by omega⟩ hF.pump (by omega)
theorem pressure_look (n : NetT) (hF : NetF n) (hs : List HeadT) (h5 : heads500 hs) (hsl : hs.length ≤ 20) (out : List Int) (ho : outOK n out = true) (best : Bool) (h : HeadT) (hnd : 1 ≤ h.node ∧ h.node ≤ n.pipes.length) (e36 e33 e34 : Nat) (H : Hp) (hP : PlH n hs out e36 e33 e34 H) (hroom : H 1208 = none) :
  LookC Try.prog 61 [.ptr 436 e36 10 0 0, encHead h, endV best] H (.int .i64 (pressS n hs out best h)) := by
 have hpm := pumps_look n hF hs h5 hsl out ho best e36 e33 e34 (frzH H) hP.frz (by simp only [frzH, hroom]; rfl)
 obtain ⟨h36, h33, ver, h34⟩ := hP
 have hnb := needs_bnd h5
 have hpl := hF.pipes
 have hpb := pumpsS_bnd hF h5 hsl ho best
 obtain ⟨pm, hpme⟩ : ∃ pm, pumpsS n hs out best = pm := ⟨_, rfl⟩
 unfold pressS
 rw [hpme] at hpm hpb ⊢
 simp only [endV] at hpm
 refine LookC_of (fn := Try.f61) tabOK (by kernel_rfl) rfl (by kernel_rfl) (by simp [Try.f61]) rfl ?_
 intro X hX0 hXs
 have hcast : ((h.node.toNat : Nat) : Int) = h.node := by omega
 repeat' (first | ((fail_if_success (with_reducible refine AW_at (id := 3) ?_)); with_reducible refine sk ?_; intro K hK) | ((first | (with_reducible first | refine rgL [] [11] (md := { base := 1300, own := [] }) (h := ?_) | refine nx ?_) | refine pK (hpm) ?_ | refine lK (hpm) ?_); try simp (disch := omega) only [h36, h33, h34, encHead, cHead, endV,go_sem, simprocAttr]) | (with_reducible refine bk ?_) | ((with_reducible refine' cE ?hv ?_ ?_); (case hv => first | rfl | (simp only [h36, h33, h34, encHead, cHead, endV,go_sem, simprocAttr]; rfl)); all_goals (intro hc; (try simp only [go_sem, simprocAttr] at hc); try (exfalso; omega))) | ((with_reducible refine fe ?_); refine ⟨_, (by simp only [Try.f61, h36, h33, h34, encHead, cHead, endV,go_sem, simprocAttr]; rfl), ?_⟩; first | rfl | (try simp only [h36, h33, h34, encHead, cHead, endV,go_sem, simprocAttr, seval])) | with_reducible intro (ep : Nat → Nat) | with_reducible apply_assumption -exfalso -symm only [*])
 refine AW_block (AW_loop (fun j f H => j ≤ n.pipes.length ∧ (f 0 = .ptr 436 e36 10 0 0 ∧ f 5 = .pim [.fn (sgF best) [], .fn (sgF (!best)) []] ∧ f 8 = .int .i64 j) ∧ (H 436 = some (e36, .fro 10 [cPlant n hs e33 e34 (n.pipes.length + 1)]) ∧ H 433 = some (e33, .fro 1 (ints (flowL n.pipes (n.pipes.length + 1) hs)))) ∧
   ∃ bar, f 7 = .int .i64 bar ∧ bar - lossL n.pipes hs best (path n.pipes j) = pm - lossL n.pipes hs best (path n.pipes h.node.toNat) ∧ -1000000 - 100000001 * ((n.pipes.length : Int) - j) ≤ bar ∧ bar ≤ 200000) h.node.toNat
  ⟨by omega, by (and_intros <;> first | rfl | (simp only [h36, hcast, go_sem, simprocAttr]; done) | (simp only [h36, hcast, go_sem, simprocAttr]; rfl)), by (and_intros <;> first | rfl | (simp only [h36, h33, cPlant, go_sem, simprocAttr]; done) | (simp only [h36, h33, cPlant, go_sem, simprocAttr]; rfl)), pm, by (first | rfl | (simp only [go_sem, simprocAttr]; done) | (simp only [go_sem, simprocAttr]; rfl)), rfl, by omega, by omega⟩ ?_)
 rintro j f H ⟨hj, ⟨h0, h5', h8⟩, ⟨g36, g33⟩, bar, h7, hr, hb1, hb2⟩
 refine AW_keep [436, 433] ?_
 by_cases hz : j = 0
 ·subst hz
  rw [path_zero, lossL, Int.sub_zero] at hr
  repeat' (first | (with_reducible refine sk ?_; intro K hK) | ((with_reducible first | refine rgL [] [11] (md := { base := 1300, own := [] }) (h := ?_) | refine nx ?_); try simp (disch := omega) only [h0, h5', h7, h8, g36, g33,go_sem, simprocAttr]) | (with_reducible refine bk ?_) | ((with_reducible refine' cE ?hv ?_ ?_); (case hv => first | rfl | (simp only [h0, h5', h7, h8, g36, g33,go_sem, simprocAttr]; rfl)); all_goals (intro hc; (try simp only [go_sem, simprocAttr] at hc); try (exfalso; omega))) | ((with_reducible refine fe ?_); refine ⟨_, (by simp only [Try.f61, h0, h5', h7, h8, g36, g33,go_sem, simprocAttr]; rfl), ?_⟩; first | rfl | (try simp only [h0, h5', h7, h8, g36, g33,go_sem, simprocAttr, seval])) | with_reducible intro (ep : Nat → Nat) | with_reducible apply_assumption -exfalso -symm only [*])
  all_goals rw [hr]
 ·obtain ⟨i, rfl⟩ : ∃ i, j = i + 1 := ⟨j - 1, by omega⟩
  obtain ⟨p, hp⟩ : ∃ p, n.pipes[i]? = some p := ⟨_, List.getElem?_eq_getElem (by omega)⟩
  have hpf := hF.pipe i p hp
  have hfb := foulE_bnd hpf.2.2 best
  have hfl := flowAt_bnd (ps := n.pipes) (j := i + 1) h5
  have hfg : (flowL n.pipes (n.pipes.length + 1) hs)[i + 1]? = some (flowAt n.pipes (i + 1) hs) := flowL_get (by omega)
  have hlb := loss_bnd hfb (x := flowAt n.pipes (i + 1) hs) (by omega)
  have hup := sup_ok (foulE best p * flowAt n.pipes (i + 1) hs * flowAt n.pipes (i + 1) hs) 1000 (by omega) (by omega)
  have hub := upD_bnd (a := foulE best p * flowAt n.pipes (i + 1) hs * flowAt n.pipes (i + 1) hs) (b := 1000) hlb.1 (by omega)
  have hub2 : upD (foulE best p * flowAt n.pipes (i + 1) hs * flowAt n.pipes (i + 1) hs) 1000 ≤ 100000001 := by unfold upD; omega
  have hmm : 0 ≤ foulE best p * flowAt n.pipes (i + 1) hs ∧ foulE best p * flowAt n.pipes (i + 1) hs ≤ 10000000 := ⟨Int.mul_nonneg hfb.1 hfl.1, Int.le_trans (Int.mul_le_mul hfb.2 (by omega : flowAt n.pipes (i + 1) hs ≤ 10000) hfl.1 (by omega)) (by omega)⟩
  have hst := path_step hF.falls (k := i + 1) (by omega)
  have hfe : frmOf n.pipes (i + 1) = p.frm.toNat := frmOf_get hp
  rw [hst, lossL] at hr
  have hla : lossAt n.pipes hs best (i + 1) = upD (foulE best p * flowAt n.pipes (i + 1) hs * flowAt n.pipes (i + 1) hs) 1000 := by unfold lossAt; rw [Nat.add_sub_cancel, hp]
  rw [hla] at hr
  have hsg := sg_ok (!best) p.foul
  rw [foul_neg] at hsg
  simp only [encSpan] at hsg
  have hkp : (0 : Int) < ((i + 1 : Nat) : Int) := by omega
  have hil : i + 1 < n.pipes.length + 1 := by omega
  have hfr : p.frm = ((frmOf n.pipes (i + 1) : Nat) : Int) := by omega
  have hlt := frmOf_lt hF.falls (k := i + 1) (by omega)
  obtain ⟨fl, hfle⟩ : ∃ fl, flowAt n.pipes (i + 1) hs = fl := ⟨_, rfl⟩
  obtain ⟨up, hupe⟩ : ∃ up, upD (foulE best p * fl * fl) 1000 = up := ⟨_, rfl⟩
  rw [hfle] at hfg hup hub hub2 hmm hr hlb
  rw [hupe] at hup hub hub2 hr
  repeat' (first | (with_reducible refine sk ?_; intro K hK) | ((first | (with_reducible first | refine rgL [] [11] (md := { base := 1300, own := [] }) (h := ?_) | refine nx ?_) | refine pK (hsg) ?_ | refine pK (hup) ?_ | refine lK (hsg) ?_ | refine lK (hup) ?_); try simp (disch := omega) only [h0, h5', h7, h8, g36, g33, hp, hfg, hkp, hil, flowL_len, hfr, cPlant, cPipe, encSpan,go_sem, simprocAttr]) | (with_reducible refine bk ?_) | ((with_reducible refine' cE ?hv ?_ ?_); (case hv => first | rfl | (simp only [h0, h5', h7, h8, g36, g33, hp, hfg, hkp, hil, flowL_len, hfr, cPlant, cPipe, encSpan,go_sem, simprocAttr]; rfl)); all_goals (intro hc; (try simp only [go_sem, simprocAttr] at hc); try (exfalso; omega))) | ((with_reducible refine fe ?_); refine ⟨_, (by simp only [Try.f61, h0, h5', h7, h8, g36, g33, hp, hfg, hkp, hil, flowL_len, hfr, cPlant, cPipe, encSpan,go_sem, simprocAttr]; rfl), ?_⟩; first | rfl | (try simp only [h0, h5', h7, h8, g36, g33, hp, hfg, hkp, hil, flowL_len, hfr, cPlant, cPipe, encSpan,go_sem, simprocAttr, seval])) | with_reducible intro (ep : Nat → Nat) | with_reducible apply_assumption -exfalso -symm only [*])
  exact ⟨frmOf n.pipes (i + 1), hlt, by omega, rfl, bar - up, rfl, by omega, by omega, by omega⟩
theorem findI_end {i : Int} {v : Val} : ∀ {l : List (Int × Val)} {s : Nat}, (∀ p ∈ l, ¬ p.1 = i) → findI i l s = none
 | [], s, _ => rfl
 | p :: l, s, h => by
  simp only [findI]
  rw [if_neg (fun e => h p (by simp) e.symm)]
  exact findI_end (v := v) fun q hq => h q (by simp [hq])
theorem offM_snoc {l : List Int} {a : Int} : imap .i64 (offM l) ++ [(.int .i64 a, .bool true)] = imap .i64 (offM (l ++ [a])) := by simp [imap, offM]
theorem without_ok (n : NetT) (hs : List HeadT) (e36 e33 e34 ver : Nat) (out : List Int) (hlo : out.length ≤ 100000) (hp : out.Pairwise (· < ·)) (g : FuncId) (caps : List Val) (hnc : caps.length ≤ 3) (H0 : Hp)
  (h36 : H0 436 = some (e36, .arr 10 [cPlant n hs e33 e34 (n.pipes.length + 1)])) (h34 : H0 434 = some (e34, .map ver [])) (R : Hp → Prop)
  (hg : ∀ (ver' : Nat) (H : Hp), (∀ j, ¬ j = 434 → H j = H0 j) → H 434 = some (e34, .map ver' (imap .i64 (offM out))) → ACall Try.prog g caps H fun v H' => v = .tup [] ∧ H' 436 = H 436 ∧ (∃ ver2, H' 434 = some (e34, .map ver2 (imap .i64 (offM out)))) ∧ R H') :
  ACall Try.prog 58 [.ptr 436 e36 10 0 0, .lst 1 (ints out), .fn g caps] H0 fun v H' => v = .tup [] ∧ ∃ H2 ver2, R H2 ∧ (∀ j, ¬ j = 434 → H' j = H2 j) ∧ H' 434 = some (e34, .map ver2 []) := by
 refine ACall_of (fn := Try.f58) tabOK (by kernel_rfl) rfl (by kernel_rfl) (by simp [Try.f58]) ?_
 intro X hX0 hXs
 repeat' (first | ((fail_if_success (with_reducible refine AW_at (id := 0) ?_)); with_reducible refine sk ?_; intro K hK) | ((with_reducible first | refine rg (md := { base := 1400, own := [], imp := [23] }) (h := ?_) | refine nx ?_); try simp (disch := omega) only [go_sem, simprocAttr]) | (with_reducible refine bk ?_) | ((with_reducible refine' cE ?hv ?_ ?_); (case hv => first | rfl | (simp only [go_sem, simprocAttr]; rfl)); all_goals (intro hc; (try simp only [go_sem, simprocAttr] at hc); try (exfalso; omega))) | ((with_reducible refine fe ?_); refine ⟨_, (by simp only [Try.f58, go_sem, simprocAttr]; rfl), ?_⟩; first | rfl | (try simp only [go_sem, simprocAttr, seval])) | with_reducible intro (ep : Nat → Nat) | with_reducible apply_assumption -exfalso -symm only [*])
 have hcut : ∀ f H, (f 0 = .ptr 436 e36 10 0 0 ∧ f 1 = .lst 1 (ints out) ∧ f 2 = .fn g caps) ∧ (∀ j, ¬ j = 434 → H j = H0 j) ∧ (∃ ver', H 434 = some (e34, .map ver' (imap .i64 (offM out)))) → K f H := by
  rintro f H ⟨⟨h0, h1, h2⟩, hlow, ver', hm⟩
  refine hK f H ?_
  clear hK
  have k36 : H 436 = some (e36, .arr 10 [cPlant n hs e33 e34 (n.pipes.length + 1)]) := by rw [hlow _ (by decide), h36]
  repeat' (first | ((fail_if_success (with_reducible refine AW_at (id := 6) ?_)); with_reducible refine sk ?_; intro K hK) | ((first | (with_reducible first | refine rg (md := { base := 1400, own := [], imp := [23] }) (h := ?_) | refine nx ?_) | refine pK (hg ver' H hlow hm) ?_); try simp (disch := omega) only [h0, h1, h2,go_sem, simprocAttr]) | (with_reducible refine bk ?_) | ((with_reducible refine' cE ?hv ?_ ?_); (case hv => first | rfl | (simp only [h0, h1, h2,go_sem, simprocAttr]; rfl)); all_goals (intro hc; (try simp only [go_sem, simprocAttr] at hc); try (exfalso; omega))) | (first | refine iK (hg ver' H hlow hm) ?_) | ((with_reducible refine fe ?_); refine ⟨_, (by simp only [Try.f58, h0, h1, h2,go_sem, simprocAttr]; rfl), ?_⟩; first | rfl | (try simp only [h0, h1, h2,go_sem, simprocAttr, seval])) | with_reducible intro (ep : Nat → Nat) | with_reducible apply_assumption -exfalso -symm only [*])
  rintro v H2 ⟨rfl, k36', ⟨ver2, hm2⟩, hR⟩
  rw [k36] at k36'
  simp only [go_sem, simprocAttr]
  repeat' (first | (with_reducible refine sk ?_; intro K hK) | ((with_reducible first | refine rg (md := { base := 1400, own := [], imp := [23] }) (h := ?_) | refine nx ?_); try simp (disch := omega) only [h0, h1,go_sem, simprocAttr]) | (with_reducible refine bk ?_) | ((with_reducible refine' cE ?hv ?_ ?_); (case hv => first | rfl | (simp only [h0, h1,go_sem, simprocAttr]; rfl)); all_goals (intro hc; (try simp only [go_sem, simprocAttr] at hc); try (exfalso; omega))) | with_reducible intro (ep : Nat → Nat) | with_reducible apply_assumption -exfalso -symm only [*])
  refine AW_range tabOK out.length (fun k f H => (f 0 = .ptr 436 e36 10 0 0 ∧ f 24 = .lst 1 (ints out)) ∧ (∀ j, ¬ j = 434 → H j = H2 j) ∧ ∃ v, H 434 = some (e34, .map v (imap .i64 (offM (out.drop k))))) (by omega) (by rw [hXs]; decide) (by decide) (by (first | rfl | (simp only [go_sem, simprocAttr]; done) | (simp only [go_sem, simprocAttr]; rfl))) (by (first | rfl | (simp only [go_sem, simprocAttr]; done) | (simp only [go_sem, simprocAttr]; rfl)))
   ⟨by (and_intros <;> first | rfl | (simp only [h0, h1, go_sem, simprocAttr]; done) | (simp only [h0, h1, go_sem, simprocAttr]; rfl)), fun j _ => rfl, ver2, by rw [List.drop_zero]; exact hm2⟩ ?_ ?_
  ·clear h0 h1 h2 hm
   rintro k f H3 hk h26 h25 ⟨⟨h0, h24⟩, hlow3, v, hm⟩
   obtain ⟨x, hx⟩ : ∃ x, out[k]? = some x := ⟨_, List.getElem?_eq_getElem hk⟩
   have q36 : H3 436 = some (e36, .arr 10 [cPlant n hs e33 e34 (n.pipes.length + 1)]) := by rw [hlow3 _ (by decide), k36']
   rw [drop_cons hx] at hm
   have hf : findI x (offM (x :: out.drop (k + 1))) 0 = some (0, .bool true) := by simp [offM, findI]
   have he : (imap .i64 (offM (x :: out.drop (k + 1)))).eraseIdx 0 = imap .i64 (offM (out.drop (k + 1))) := by simp [imap, offM]
   repeat' (first | (with_reducible refine sk ?_; intro K hK) | ((with_reducible first | refine rg (md := { base := 1400, own := [], imp := [23] }) (h := ?_) | refine nx ?_); try simp (disch := omega) only [h0, h24, h25, h26, hx, q36, hm, hf, he, cPlant,go_sem, simprocAttr]) | (with_reducible refine bk ?_) | ((with_reducible refine' cE ?hv ?_ ?_); (case hv => first | rfl | (simp only [h0, h24, h25, h26, hx, q36, hm, hf, he, cPlant,go_sem, simprocAttr]; rfl)); all_goals (intro hc; (try simp only [go_sem, simprocAttr] at hc); try (exfalso; omega))) | with_reducible intro (ep : Nat → Nat) | with_reducible apply_assumption -exfalso -symm only [*])
   exact ⟨fun j hj => by rw [if_neg hj]; exact hlow3 j hj, _, rfl⟩
  ·clear h0 h1 h2 hm
   rintro f H3 h26 h25 ⟨⟨h0, h24⟩, hlow3, v, hm⟩
   rw [drop_none (Nat.le_refl _)] at hm
   refine FnQ_end (Or.inr rfl) (.refl _) (by simp only [Try.f58, go_sem, simprocAttr]; rfl) ?_
   exact ⟨rfl, H2, v, hR, hlow3, hm⟩
 clear hK
 repeat' (first | (with_reducible refine sk ?_; intro K hK) | ((with_reducible first | refine rg (md := { base := 1400, own := [], imp := [23] }) (h := ?_) | refine nx ?_); try simp (disch := omega) only [go_sem, simprocAttr]) | (with_reducible refine bk ?_) | ((with_reducible refine' cE ?hv ?_ ?_); (case hv => first | rfl | (simp only [go_sem, simprocAttr]; rfl)); all_goals (intro hc; (try simp only [go_sem, simprocAttr] at hc); try (exfalso; omega))) | with_reducible intro (ep : Nat → Nat) | with_reducible apply_assumption -exfalso -symm only [*])
 refine AW_range tabOK out.length (fun k f H => (f 0 = .ptr 436 e36 10 0 0 ∧ f 1 = .lst 1 (ints out) ∧ f 2 = .fn g caps ∧ f 10 = .lst 1 (ints out)) ∧ (∀ j, ¬ j = 434 → H j = H0 j) ∧ ∃ v, H 434 = some (e34, .map v (imap .i64 (offM (out.take k))))) (by omega) (by rw [hXs]; decide) (by decide) (by (first | rfl | (simp only [go_sem, simprocAttr]; done) | (simp only [go_sem, simprocAttr]; rfl))) (by (first | rfl | (simp only [go_sem, simprocAttr]; done) | (simp only [go_sem, simprocAttr]; rfl)))
  ⟨by (and_intros <;> first | rfl | (simp only [go_sem, simprocAttr]; done) | (simp only [go_sem, simprocAttr]; rfl)), fun j _ => rfl, ver, by rw [List.take_zero]; exact h34⟩ ?_ ?_
 ·clear hcut
  rintro k f H3 hk h12 h11 ⟨⟨h0, h1, h2, h10⟩, hlow3, v, hm⟩
  obtain ⟨x, hx⟩ : ∃ x, out[k]? = some x := ⟨_, List.getElem?_eq_getElem hk⟩
  have q36 : H3 436 = some (e36, .arr 10 [cPlant n hs e33 e34 (n.pipes.length + 1)]) := by rw [hlow3 _ (by decide), h36]
  have hf : findI x (offM (out.take k)) 0 = none := findI_end (v := .any) fun p hq => by
   obtain ⟨y, hy, rfl⟩ := List.mem_map.1 hq
   obtain ⟨i, hi⟩ := List.mem_iff_getElem?.1 hy
   have hik : i < k := by have := (List.getElem?_eq_some_iff.1 hi).1; simp at this; omega
   rw [List.getElem?_take_of_lt hik] at hi
   obtain ⟨z1, rfl⟩ := List.getElem?_eq_some_iff.1 hi
   obtain ⟨z2, rfl⟩ := List.getElem?_eq_some_iff.1 hx
   have := List.pairwise_iff_getElem.1 hp i k z1 z2 hik
   simp only; omega
  repeat' (first | (with_reducible refine sk ?_; intro K hK) | ((with_reducible first | refine rg (md := { base := 1400, own := [], imp := [23] }) (h := ?_) | refine nx ?_); try simp (disch := omega) only [h0, h1, h2, h10, h11, h12, hx, q36, hm, hf, cPlant,go_sem, simprocAttr]) | (with_reducible refine bk ?_) | ((with_reducible refine' cE ?hv ?_ ?_); (case hv => first | rfl | (simp only [h0, h1, h2, h10, h11, h12, hx, q36, hm, hf, cPlant,go_sem, simprocAttr]; rfl)); all_goals (intro hc; (try simp only [go_sem, simprocAttr] at hc); try (exfalso; omega))) | with_reducible intro (ep : Nat → Nat) | with_reducible apply_assumption -exfalso -symm only [*])
  exact ⟨fun j hj => by rw [if_neg hj]; exact hlow3 j hj, _, by rw [offM_snoc, take_snoc' hx]⟩
 ·rintro f H3 h12 h11 ⟨⟨h0, h1, h2, h10⟩, hlow3, v, hm⟩
  rw [List.take_of_length_le (Nat.le_refl _)] at hm
  repeat' (first | (with_reducible refine sk ?_; intro K hK) | ((with_reducible first | refine rg (md := { base := 1400, own := [], imp := [23] }) (h := ?_) | refine nx ?_); try simp (disch := omega) only [h0, h1, h2,go_sem, simprocAttr]) | (with_reducible refine bk ?_) | ((with_reducible refine' cE ?hv ?_ ?_); (case hv => first | rfl | (simp only [h0, h1, h2,go_sem, simprocAttr]; rfl)); all_goals (intro hc; (try simp only [go_sem, simprocAttr] at hc); try (exfalso; omega))) | with_reducible intro (ep : Nat → Nat) | with_reducible apply_assumption -exfalso -symm only [*])
  exact ⟨by (and_intros <;> first | rfl | (simp only [h0, h1, h2, go_sem, simprocAttr]; done) | (simp only [h0, h1, h2, go_sem, simprocAttr]; rfl)), hlow3, v, hm⟩
end Cp
namespace Cp
open Go Go.Proofs
set_option maxRecDepth 10000
set_option maxHeartbeats 1000000
def flowsT (n : NetT) (l : List Int) : Val := if netOK n = true then (if openOK n.heads l = true then .tup [.lst 1 (ints ((flowL n.pipes (n.pipes.length + 1) (openH n.heads l)).drop 1)), .int .i64 0] else .tup [.nils, .int .i64 2]) else .tup [.nils, .int .i64 50]
theorem Flows_ok (n : NetT) (hs : NetS n) (l : List Int) (hl : l.length ≤ 100000) : PureC Try.prog 17 [encNet n, .lst 1 (ints l)] (flowsT n l) := by
 have hnoid : noid (flowsT n l) = true := by unfold flowsT; split <;> (try split) <;> (simp only [noid, noids, noidss, go_sem, simprocAttr]; rfl)
 have hop := fun H0 => opened_ok n hs l hl H0
 unfold openR at hop
 have hpl := hs.pipes
 simp only [encNet, cNet] at hop
 refine PureC_of (fn := Try.f17) tabOK (by kernel_rfl) rfl (by kernel_rfl) (by simp [Try.f17]) (by simp [noids, noid, noidss, go_sem, encNet, cNet, hnoid]) (by first | rfl | simp [noids, noid, noidss, go_sem, encNet, cNet, hnoid]) ?_
 intro X hX0 hXs
 unfold flowsT
 cases hN : netOK n with
 | false =>
  simp only [hN, Bool.false_eq_true, if_false] at hop
  repeat' (first | (with_reducible refine sk ?_; intro K hK) | ((first | (with_reducible first | refine rg (md := { base := 0, own := [], imp := [11] }) (h := ?_) | refine nx ?_) | refine pK (hop _) ?_); try simp (disch := omega) only [encNet, cNet,go_sem, simprocAttr]) | (with_reducible refine bk ?_) | ((with_reducible refine' cE ?hv ?_ ?_); (case hv => first | rfl | (simp only [encNet, cNet,go_sem, simprocAttr]; rfl)); all_goals (intro hc; (try simp only [go_sem, simprocAttr] at hc); try (exfalso; omega))) | (first | refine iK (hop _) ?_) | ((with_reducible refine fe ?_); refine ⟨_, (by simp only [Try.f17, encNet, cNet,go_sem, simprocAttr]; rfl), ?_⟩; first | rfl | (try simp only [encNet, cNet,go_sem, simprocAttr, seval])) | with_reducible intro (ep : Nat → Nat) | with_reducible apply_assumption -exfalso -symm only [*])
  rintro v H3 ⟨-, rfl⟩
  simp only [go_sem, simprocAttr]
  repeat' (first | (with_reducible refine sk ?_; intro K hK) | ((with_reducible first | refine rg (md := { base := 0, own := [], imp := [11] }) (h := ?_) | refine nx ?_); try simp (disch := omega) only [go_sem, simprocAttr]) | (with_reducible refine bk ?_) | ((with_reducible refine' cE ?hv ?_ ?_); (case hv => first | rfl | (simp only [go_sem, simprocAttr]; rfl)); all_goals (intro hc; (try simp only [go_sem, simprocAttr] at hc); try (exfalso; omega))) | ((with_reducible refine fe ?_); refine ⟨_, (by simp only [Try.f17, go_sem, simprocAttr]; rfl), ?_⟩; first | rfl | (try simp only [go_sem, simprocAttr, seval])) | with_reducible intro (ep : Nat → Nat) | with_reducible apply_assumption -exfalso -symm only [*])
 | true =>
  cases hO : openOK n.heads l with
  | false =>
   simp only [hN, hO, Bool.false_eq_true, if_false, if_true] at hop
   repeat' (first | (with_reducible refine sk ?_; intro K hK) | ((first | (with_reducible first | refine rg (md := { base := 0, own := [], imp := [11] }) (h := ?_) | refine nx ?_) | refine pK (hop _) ?_); try simp (disch := omega) only [encNet, cNet,go_sem, simprocAttr]) | (with_reducible refine bk ?_) | ((with_reducible refine' cE ?hv ?_ ?_); (case hv => first | rfl | (simp only [encNet, cNet,go_sem, simprocAttr]; rfl)); all_goals (intro hc; (try simp only [go_sem, simprocAttr] at hc); try (exfalso; omega))) | (first | refine iK (hop _) ?_) | ((with_reducible refine fe ?_); refine ⟨_, (by simp only [Try.f17, encNet, cNet,go_sem, simprocAttr]; rfl), ?_⟩; first | rfl | (try simp only [encNet, cNet,go_sem, simprocAttr, seval])) | with_reducible intro (ep : Nat → Nat) | with_reducible apply_assumption -exfalso -symm only [*])
   rintro v H3 ⟨-, rfl⟩
   simp only [go_sem, simprocAttr]
   repeat' (first | (with_reducible refine sk ?_; intro K hK) | ((with_reducible first | refine rg (md := { base := 0, own := [], imp := [11] }) (h := ?_) | refine nx ?_); try simp (disch := omega) only [go_sem, simprocAttr]) | (with_reducible refine bk ?_) | ((with_reducible refine' cE ?hv ?_ ?_); (case hv => first | rfl | (simp only [go_sem, simprocAttr]; rfl)); all_goals (intro hc; (try simp only [go_sem, simprocAttr] at hc); try (exfalso; omega))) | ((with_reducible refine fe ?_); refine ⟨_, (by simp only [Try.f17, go_sem, simprocAttr]; rfl), ?_⟩; first | rfl | (try simp only [go_sem, simprocAttr, seval])) | with_reducible intro (ep : Nat → Nat) | with_reducible apply_assumption -exfalso -symm only [*])
  | true =>
   simp only [hN, hO, if_true] at hop
   repeat' (first | (with_reducible refine sk ?_; intro K hK) | ((first | (with_reducible first | refine rg (md := { base := 0, own := [], imp := [11] }) (h := ?_) | refine nx ?_) | refine pK (hop _) ?_); try simp (disch := omega) only [encNet, cNet,go_sem, simprocAttr]) | (with_reducible refine bk ?_) | ((with_reducible refine' cE ?hv ?_ ?_); (case hv => first | rfl | (simp only [encNet, cNet,go_sem, simprocAttr]; rfl)); all_goals (intro hc; (try simp only [go_sem, simprocAttr] at hc); try (exfalso; omega))) | (first | refine iK (hop _) ?_) | ((with_reducible refine fe ?_); refine ⟨_, (by simp only [Try.f17, encNet, cNet,go_sem, simprocAttr]; rfl), ?_⟩; first | rfl | (try simp only [encNet, cNet,go_sem, simprocAttr, seval])) | with_reducible intro (ep : Nat → Nat) | with_reducible apply_assumption -exfalso -symm only [*])
   rintro v H3 ⟨-, e36, e33, e34, ver, rfl, h36, h33, h34⟩
   simp only [go_sem, simprocAttr]
   repeat' (first | ((fail_if_success (with_reducible refine AW_at (id := 4) ?_)); with_reducible refine sk ?_; intro K hK) | ((with_reducible first | refine rg (md := { base := 0, own := [], imp := [11] }) (h := ?_) | refine nx ?_); try simp (disch := omega) only [h36, h33,go_sem, simprocAttr]) | (with_reducible refine bk ?_) | ((with_reducible refine' cE ?hv ?_ ?_); (case hv => first | rfl | (simp only [h36, h33,go_sem, simprocAttr]; rfl)); all_goals (intro hc; (try simp only [go_sem, simprocAttr] at hc); try (exfalso; omega))) | ((with_reducible refine fe ?_); refine ⟨_, (by simp only [Try.f17, h36, h33,go_sem, simprocAttr]; rfl), ?_⟩; first | rfl | (try simp only [h36, h33,go_sem, simprocAttr, seval])) | with_reducible intro (ep : Nat → Nat) | with_reducible apply_assumption -exfalso -symm only [*])
   refine AW_freeze 433 h33 ?_
   have hc1 : (1 : Int) ≤ ((n.pipes.length + 1 : Nat) : Int) := by omega
   have htk : List.drop 1 (List.take (n.pipes.length + 1) (ints (flowL n.pipes (n.pipes.length + 1) (openH n.heads l)))) = ints ((flowL n.pipes (n.pipes.length + 1) (openH n.heads l)).drop 1) := by
    rw [List.take_of_length_le (by rw [ints_len, flowL_len]; exact Nat.le_refl _)]; simp [ints, List.map_drop]
   repeat' (first | (with_reducible refine sk ?_; intro K hK) | ((with_reducible first | refine rg (md := { base := 0, own := [], imp := [11] }) (h := ?_) | refine nx ?_); try simp (disch := omega) only [h36, hc1, htk, Int.le_refl, cPlant, flowL_len,go_sem, simprocAttr]) | (with_reducible refine bk ?_) | ((with_reducible refine' cE ?hv ?_ ?_); (case hv => first | rfl | (simp only [h36, hc1, htk, Int.le_refl, cPlant, flowL_len,go_sem, simprocAttr]; rfl)); all_goals (intro hc; (try simp only [go_sem, simprocAttr] at hc); try (exfalso; omega))) | ((with_reducible refine fe ?_); refine ⟨_, (by simp only [Try.f17, h36, hc1, htk, Int.le_refl, cPlant, flowL_len,go_sem, simprocAttr]; rfl), ?_⟩; first | rfl | (try simp only [h36, hc1, htk, Int.le_refl, cPlant, flowL_len,go_sem, simprocAttr, seval])) | with_reducible intro (ep : Nat → Nat) | with_reducible apply_assumption -exfalso -symm only [*])
end Cp
namespace Cp
open Go Go.Proofs
set_option maxRecDepth 10000
set_option maxHeartbeats 1000000
theorem press1_ok (j : Int) (h : PumpT) : PureC Try.prog 57 [.int .i64 j, .agg (cPump h)] (.int .i64 j) := by
 refine PureC_of (fn := Try.f57) tabOK (by kernel_rfl) rfl (by kernel_rfl) (by simp [Try.f57]) (by simp [noids, noid, noidss, go_sem, cPump]) (by first | rfl | simp [noids, noid, noidss, go_sem, cPump]) ?_
 intro X hX0 hXs
 repeat' (first | (with_reducible refine sk ?_; intro K hK) | ((with_reducible first | refine rg (h := ?_) | refine nx ?_); try simp (disch := omega) only [cPump,go_sem, simprocAttr]) | (with_reducible refine bk ?_) | ((with_reducible refine' cE ?hv ?_ ?_); (case hv => first | rfl | (simp only [cPump,go_sem, simprocAttr]; rfl)); all_goals (intro hc; (try simp only [go_sem, simprocAttr] at hc); try (exfalso; omega))) | ((with_reducible refine fe ?_); refine ⟨_, (by simp only [Try.f57, cPump,go_sem, simprocAttr]; rfl), ?_⟩; first | rfl | (try simp only [cPump,go_sem, simprocAttr, seval])) | with_reducible intro (ep : Nat → Nat) | with_reducible apply_assumption -exfalso -symm only [*])
def isPm (ps : List PumpT) (i : Int) : Bool := decide (0 ≤ i ∧ i < ps.length)
def outP (ps : List PumpT) (l : List Int) : List PumpT := l.filterMap fun i => ps[i.toNat]?
theorem outP_snoc {ps : List PumpT} {l : List Int} {k : Nat} {n : Int} {x : PumpT} (hk : l[k]? = some n) (hx : ps[n.toNat]? = some x) : outP ps (l.take (k + 1)) = outP ps (l.take k) ++ [x] := by
 unfold outP; rw [take_snoc' hk, List.filterMap_append]; simp [hx]
theorem isPm_at (ps : List PumpT) (x : Int) : (isPm ps x = false ∧ lastI (fun j => decide ((j : Int) = x)) ps.length = -1) ∨ ∃ (i : Nat) (y : PumpT), ps[i]? = some y ∧ isPm ps x = true ∧ lastI (fun j => decide ((j : Int) = x)) ps.length = i ∧ ps[x.toNat]? = some y := by
 rw [lastI_self]
 by_cases h : 0 ≤ x ∧ x < ps.length
 ·refine .inr ⟨x.toNat, ps[x.toNat]'(by omega), List.getElem?_eq_getElem _, decide_eq_true h, by rw [if_pos h]; omega, List.getElem?_eq_getElem _⟩
 ·exact .inl ⟨decide_eq_false h, by rw [if_neg h]⟩
def listedPT (ps : List PumpT) (l : List Int) : Val := if okL (isPm ps) none l = true then .tup [.lst 3 ((outP ps l).map cPump), .bool true] else .tup [.nils, .bool false]
theorem listedP_ok (ps : List PumpT) (hh : ps.length ≤ 100000) (l : List Int) (hl : l.length ≤ 100000) :
  PureC Try.prog 56 [.lst 3 (ps.map cPump), .lst 1 (ints l), .fn 57 []] (listedPT ps l) := by
 have hnoid : noid (listedPT ps l) = true := by unfold listedPT; split <;> (simp only [noid, noids, noidss, go_sem, simprocAttr, cPump_noid]; rfl)
 refine PureC_of (fn := Try.f56) tabOK (by kernel_rfl) rfl (by kernel_rfl) (by simp [Try.f56]) (by simp [noids, noid, noidss, go_sem, hnoid]) (by first | rfl | simp [noids, noid, noidss, go_sem, hnoid]) ?_
 intro X hX0 hXs
 repeat' (first | (with_reducible refine sk ?_; intro K hK) | ((with_reducible first | refine rg (id := 14) (md := { base := 0, own := [57] }) (h := ?_) | refine rgS (id := 14) [13] (md := { base := 0, own := [57] }) (h := ?_) | refine rg (md := { base := 0, own := [8, 57] }) (h := ?_) | refine rgS [13] (md := { base := 0, own := [8, 57] }) (h := ?_) | refine nx ?_); try simp (disch := omega) only [go_sem, simprocAttr]) | (with_reducible refine bk ?_) | ((with_reducible refine' cE ?hv ?_ ?_); (case hv => first | rfl | (simp only [go_sem, simprocAttr]; rfl)); all_goals (intro hc; (try simp only [go_sem, simprocAttr] at hc); try (exfalso; omega))) | ((with_reducible first | refine grdS_split ?_ ?_ | refine lkG_split ?_ ?_) <;> intro hg <;> (try simp (disch := omega) only [hg, go_sem, simprocAttr]) <;> (try simp only [go_sem, simprocAttr] at hg) <;> (try (exfalso; omega))) | ((with_reducible refine fe ?_); refine ⟨_, (by simp only [Try.f56, go_sem, simprocAttr]; rfl), ?_⟩; first | rfl | (try simp only [go_sem, simprocAttr, seval])) | with_reducible intro (ep : Nat → Nat) | with_reducible apply_assumption -exfalso -symm only [*])
 refine AW_range tabOK l.length (fun k f H => (f 0 = .lst 3 (ps.map cPump) ∧ f 1 = .lst 1 (ints l) ∧ f 2 = .fn 57 [] ∧ f 14 = .lst 1 (ints l)) ∧ (∃ e, f 8 = .gr 8 e (outP ps (l.take k)).length ∧ H 8 = some (e, .arr 3 ((outP ps (l.take k)).map cPump)) ∧ (outP ps (l.take k)).length ≤ k) ∧
   ∃ prev, okL (isPm ps) none l = okL (isPm ps) prev (l.drop k) ∧ (k = 0 ∧ prev = none ∨ ∃ (j : Nat) (y : Int), k = j + 1 ∧ l[j]? = some y ∧ prev = some y)) (by omega) (by rw [hXs]; decide) (by decide) (by (first | rfl | (simp only [go_sem, simprocAttr]; done) | (simp only [go_sem, simprocAttr]; rfl))) (by (first | rfl | (simp only [go_sem, simprocAttr]; done) | (simp only [go_sem, simprocAttr]; rfl)))
  ⟨by (and_intros <;> first | rfl | (simp only [go_sem, simprocAttr]; done) | (simp only [go_sem, simprocAttr]; rfl)), ⟨_, by (first | rfl | (simp only [List.take_zero, outP, List.filterMap_nil, go_sem, simprocAttr]; done) | (simp only [List.take_zero, outP, List.filterMap_nil, go_sem, simprocAttr]; rfl)), by (first | rfl | (simp only [List.take_zero, outP, List.filterMap_nil, go_sem, simprocAttr]; done) | (simp only [List.take_zero, outP, List.filterMap_nil, go_sem, simprocAttr]; rfl)), by simp [outP]⟩, none, by simp, .inl ⟨rfl, rfl⟩⟩ ?_ ?_
 ·rintro k f H hk h16 h15 ⟨⟨h0, h1, h2, h14⟩, ⟨e, h8, hH8, hLk⟩, prev, hr, hp⟩
  obtain ⟨x, hx⟩ : ∃ x, l[k]? = some x := ⟨_, List.getElem?_eq_getElem hk⟩
  rw [drop_cons hx, okL_step] at hr
  refine AW_keep [8] ?_
  repeat' (first | ((fail_if_success (with_reducible refine AW_at (id := 6) ?_)); with_reducible refine sk ?_; intro K hK) | ((with_reducible first | refine rg (id := 14) (md := { base := 0, own := [57] }) (h := ?_) | refine rgS (id := 14) [13] (md := { base := 0, own := [57] }) (h := ?_) | refine rg (md := { base := 0, own := [8, 57] }) (h := ?_) | refine rgS [13] (md := { base := 0, own := [8, 57] }) (h := ?_) | refine nx ?_); try simp (disch := omega) only [h0, h1, h2, h8, h14, h15, h16, hH8, hx,go_sem, simprocAttr]) | (with_reducible refine bk ?_) | ((with_reducible refine' cE ?hv ?_ ?_); (case hv => first | rfl | (simp only [h0, h1, h2, h8, h14, h15, h16, hH8, hx,go_sem, simprocAttr]; rfl)); all_goals (intro hc; (try simp only [go_sem, simprocAttr] at hc); try (exfalso; omega))) | ((with_reducible first | refine grdS_split ?_ ?_ | refine lkG_split ?_ ?_) <;> intro hg <;> (try simp (disch := omega) only [hg, h0, h1, h2, h8, h14, h15, h16, hH8, hx,go_sem, simprocAttr]) <;> (try simp only [go_sem, simprocAttr] at hg) <;> (try (exfalso; omega))) | ((with_reducible refine fe ?_); refine ⟨_, (by simp only [Try.f56, h0, h1, h2, h8, h14, h15, h16, hH8, hx,go_sem, simprocAttr]; rfl), ?_⟩; first | rfl | (try simp only [h0, h1, h2, h8, h14, h15, h16, hH8, hx,go_sem, simprocAttr, seval])) | with_reducible intro (ep : Nat → Nat) | with_reducible apply_assumption -exfalso -symm only [*])
  have hcut : ∀ f H, (f 0 = .lst 3 (ps.map cPump) ∧ f 1 = .lst 1 (ints l) ∧ f 2 = .fn 57 [] ∧ f 14 = .lst 1 (ints l) ∧ f 15 = .int .i64 l.length ∧ f 16 = .int .i64 k ∧ f 8 = .gr 8 e (outP ps (l.take k)).length ∧ f 9 = .int .i64 k ∧ f 10 = .int .i64 x ∧ f 11 = .int .i64 (lastI (fun j => decide ((j : Int) = x)) ps.length)) ∧ H 8 = some (e, .arr 3 ((outP ps (l.take k)).map cPump)) → K f H := by
   clear h0 h1 h2 h8 h14 h15 h16 hH8
   rintro f H ⟨⟨h0, h1, h2, h14, h15, h16, h8, h9, h10, h11⟩, hH8⟩
   refine hK f H ?_
   clear hK
   refine AW_keep [8] ?_
   obtain ⟨L, hLe⟩ : ∃ L, outP ps (l.take k) = L := ⟨_, rfl⟩
   have hsn : ∀ y, ps[x.toNat]? = some y → outP ps (l.take (k + 1)) = L ++ [y] := fun y hy => by rw [← hLe]; exact outP_snoc hx hy
   rw [hLe] at h8 hH8 hLk
   have hL2 : L.length ≤ 1073741823 := by omega
   rcases isPm_at ps x with ⟨a1, a2⟩ | ⟨i, y, a0, a1, a2, a4⟩
   ·rw [a1] at hr
    rw [a2] at h11
    have hres : listedPT ps l = .tup [.nils, .bool false] := by unfold listedPT; rw [hr]; rfl
    rw [hres]
    rcases hp with ⟨rfl, rfl⟩ | ⟨j, z, rfl, hz, rfl⟩
    ·repeat' (first | (with_reducible refine sk ?_; intro K hK) | ((with_reducible first | refine rg (id := 14) (md := { base := 0, own := [57] }) (h := ?_) | refine rgS (id := 14) [13] (md := { base := 0, own := [57] }) (h := ?_) | refine rg (md := { base := 0, own := [8, 57] }) (h := ?_) | refine rgS [13] (md := { base := 0, own := [8, 57] }) (h := ?_) | refine nx ?_); try simp (disch := omega) only [h0, h1, h2, h8, h9, h10, h11, h14, h15, h16, hH8,go_sem, simprocAttr]) | (with_reducible refine bk ?_) | ((with_reducible refine' cE ?hv ?_ ?_); (case hv => first | rfl | (simp only [h0, h1, h2, h8, h9, h10, h11, h14, h15, h16, hH8,go_sem, simprocAttr]; rfl)); all_goals (intro hc; (try simp only [go_sem, simprocAttr] at hc); try (exfalso; omega))) | ((with_reducible first | refine grdS_split ?_ ?_ | refine lkG_split ?_ ?_) <;> intro hg <;> (try simp (disch := omega) only [hg, h0, h1, h2, h8, h9, h10, h11, h14, h15, h16, hH8,go_sem, simprocAttr]) <;> (try simp only [go_sem, simprocAttr] at hg) <;> (try (exfalso; omega))) | ((with_reducible refine fe ?_); refine ⟨_, (by simp only [Try.f56, h0, h1, h2, h8, h9, h10, h11, h14, h15, h16, hH8,go_sem, simprocAttr]; rfl), ?_⟩; first | rfl | (try simp only [h0, h1, h2, h8, h9, h10, h11, h14, h15, h16, hH8,go_sem, simprocAttr, seval])) | with_reducible intro (ep : Nat → Nat) | with_reducible apply_assumption -exfalso -symm only [*])
    ·repeat' (first | (with_reducible refine sk ?_; intro K hK) | ((with_reducible first | refine rg (id := 14) (md := { base := 0, own := [57] }) (h := ?_) | refine rgS (id := 14) [13] (md := { base := 0, own := [57] }) (h := ?_) | refine rg (md := { base := 0, own := [8, 57] }) (h := ?_) | refine rgS [13] (md := { base := 0, own := [8, 57] }) (h := ?_) | refine nx ?_); try simp (disch := omega) only [h0, h1, h2, h8, h9, h10, h11, h14, h15, h16, hH8, hz,go_sem, simprocAttr]) | (with_reducible refine bk ?_) | ((with_reducible refine' cE ?hv ?_ ?_); (case hv => first | rfl | (simp only [h0, h1, h2, h8, h9, h10, h11, h14, h15, h16, hH8, hz,go_sem, simprocAttr]; rfl)); all_goals (intro hc; (try simp only [go_sem, simprocAttr] at hc); try (exfalso; omega))) | ((with_reducible first | refine grdS_split ?_ ?_ | refine lkG_split ?_ ?_) <;> intro hg <;> (try simp (disch := omega) only [hg, h0, h1, h2, h8, h9, h10, h11, h14, h15, h16, hH8, hz,go_sem, simprocAttr]) <;> (try simp only [go_sem, simprocAttr] at hg) <;> (try (exfalso; omega))) | ((with_reducible refine fe ?_); refine ⟨_, (by simp only [Try.f56, h0, h1, h2, h8, h9, h10, h11, h14, h15, h16, hH8, hz,go_sem, simprocAttr]; rfl), ?_⟩; first | rfl | (try simp only [h0, h1, h2, h8, h9, h10, h11, h14, h15, h16, hH8, hz,go_sem, simprocAttr, seval])) | with_reducible intro (ep : Nat → Nat) | with_reducible apply_assumption -exfalso -symm only [*])
   ·rw [a1] at hr
    rw [a2] at h11
    have hi : i < ps.length := (List.getElem?_eq_some_iff.1 a0).1
    have a3 : ¬ (i : Int) < 0 := by omega
    rcases hp with ⟨rfl, rfl⟩ | ⟨j, z, rfl, hz, rfl⟩
    ·replace hsn := hsn y a4
     repeat' (first | (with_reducible refine sk ?_; intro K hK) | ((with_reducible first | refine rg (id := 14) (md := { base := 0, own := [57] }) (h := ?_) | refine rgS (id := 14) [13] (md := { base := 0, own := [57] }) (h := ?_) | refine rg (md := { base := 0, own := [8, 57] }) (h := ?_) | refine rgS [13] (md := { base := 0, own := [8, 57] }) (h := ?_) | refine nx ?_); try simp (disch := omega) only [h0, h1, h2, h8, h9, h10, h11, h14, h15, h16, hH8, a0, a3, hi, hL2, cPump,go_sem, simprocAttr]) | (with_reducible refine bk ?_) | ((with_reducible refine' cE ?hv ?_ ?_); (case hv => first | rfl | (simp only [h0, h1, h2, h8, h9, h10, h11, h14, h15, h16, hH8, a0, a3, hi, hL2, cPump,go_sem, simprocAttr]; rfl)); all_goals (intro hc; (try simp only [go_sem, simprocAttr] at hc); try (exfalso; omega))) | ((with_reducible first | refine grdS_split ?_ ?_ | refine lkG_split ?_ ?_) <;> intro hg <;> (try simp (disch := omega) only [hg, h0, h1, h2, h8, h9, h10, h11, h14, h15, h16, hH8, a0, a3, hi, hL2, cPump,go_sem, simprocAttr]) <;> (try simp only [go_sem, simprocAttr] at hg) <;> (try (exfalso; omega))) | ((with_reducible refine fe ?_); refine ⟨_, (by simp only [Try.f56, h0, h1, h2, h8, h9, h10, h11, h14, h15, h16, hH8, a0, a3, hi, hL2, cPump,go_sem, simprocAttr]; rfl), ?_⟩; first | rfl | (try simp only [h0, h1, h2, h8, h9, h10, h11, h14, h15, h16, hH8, a0, a3, hi, hL2, cPump,go_sem, simprocAttr, seval])) | with_reducible intro (ep : Nat → Nat) | with_reducible apply_assumption -exfalso -symm only [*])
     exact ⟨⟨_, by rw [hsn, List.length_append]; rfl, by rw [hsn, List.map_append]; rfl, by rw [hsn]; simp only [List.length_append, List.length_cons, List.length_nil]; omega⟩, some x, by rw [hr]; simp, .inr ⟨0, x, rfl, hx, rfl⟩⟩
    ·have hj : j < l.length := by omega
     by_cases hle : x ≤ z
     ·have hres : listedPT ps l = .tup [.nils, .bool false] := by
       have : okL (isPm ps) none l = false := by rw [hr]; simp; omega
       unfold listedPT; rw [this]; rfl
      rw [hres]
      repeat' (first | (with_reducible refine sk ?_; intro K hK) | ((with_reducible first | refine rg (id := 14) (md := { base := 0, own := [57] }) (h := ?_) | refine rgS (id := 14) [13] (md := { base := 0, own := [57] }) (h := ?_) | refine rg (md := { base := 0, own := [8, 57] }) (h := ?_) | refine rgS [13] (md := { base := 0, own := [8, 57] }) (h := ?_) | refine nx ?_); try simp (disch := omega) only [h0, h1, h2, h8, h9, h10, h11, h14, h15, h16, hH8, a0, a3, hi, hL2, hz, hj, hle, cPump,go_sem, simprocAttr]) | (with_reducible refine bk ?_) | ((with_reducible refine' cE ?hv ?_ ?_); (case hv => first | rfl | (simp only [h0, h1, h2, h8, h9, h10, h11, h14, h15, h16, hH8, a0, a3, hi, hL2, hz, hj, hle, cPump,go_sem, simprocAttr]; rfl)); all_goals (intro hc; (try simp only [go_sem, simprocAttr] at hc); try (exfalso; omega))) | ((with_reducible first | refine grdS_split ?_ ?_ | refine lkG_split ?_ ?_) <;> intro hg <;> (try simp (disch := omega) only [hg, h0, h1, h2, h8, h9, h10, h11, h14, h15, h16, hH8, a0, a3, hi, hL2, hz, hj, hle, cPump,go_sem, simprocAttr]) <;> (try simp only [go_sem, simprocAttr] at hg) <;> (try (exfalso; omega))) | ((with_reducible refine fe ?_); refine ⟨_, (by simp only [Try.f56, h0, h1, h2, h8, h9, h10, h11, h14, h15, h16, hH8, a0, a3, hi, hL2, hz, hj, hle, cPump,go_sem, simprocAttr]; rfl), ?_⟩; first | rfl | (try simp only [h0, h1, h2, h8, h9, h10, h11, h14, h15, h16, hH8, a0, a3, hi, hL2, hz, hj, hle, cPump,go_sem, simprocAttr, seval])) | with_reducible intro (ep : Nat → Nat) | with_reducible apply_assumption -exfalso -symm only [*])
     ·replace hsn := hsn y a4
      repeat' (first | (with_reducible refine sk ?_; intro K hK) | ((with_reducible first | refine rg (id := 14) (md := { base := 0, own := [57] }) (h := ?_) | refine rgS (id := 14) [13] (md := { base := 0, own := [57] }) (h := ?_) | refine rg (md := { base := 0, own := [8, 57] }) (h := ?_) | refine rgS [13] (md := { base := 0, own := [8, 57] }) (h := ?_) | refine nx ?_); try simp (disch := omega) only [h0, h1, h2, h8, h9, h10, h11, h14, h15, h16, hH8, a0, a3, hi, hL2, hz, hj, hle, cPump,go_sem, simprocAttr]) | (with_reducible refine bk ?_) | ((with_reducible refine' cE ?hv ?_ ?_); (case hv => first | rfl | (simp only [h0, h1, h2, h8, h9, h10, h11, h14, h15, h16, hH8, a0, a3, hi, hL2, hz, hj, hle, cPump,go_sem, simprocAttr]; rfl)); all_goals (intro hc; (try simp only [go_sem, simprocAttr] at hc); try (exfalso; omega))) | ((with_reducible first | refine grdS_split ?_ ?_ | refine lkG_split ?_ ?_) <;> intro hg <;> (try simp (disch := omega) only [hg, h0, h1, h2, h8, h9, h10, h11, h14, h15, h16, hH8, a0, a3, hi, hL2, hz, hj, hle, cPump,go_sem, simprocAttr]) <;> (try simp only [go_sem, simprocAttr] at hg) <;> (try (exfalso; omega))) | ((with_reducible refine fe ?_); refine ⟨_, (by simp only [Try.f56, h0, h1, h2, h8, h9, h10, h11, h14, h15, h16, hH8, a0, a3, hi, hL2, hz, hj, hle, cPump,go_sem, simprocAttr]; rfl), ?_⟩; first | rfl | (try simp only [h0, h1, h2, h8, h9, h10, h11, h14, h15, h16, hH8, a0, a3, hi, hL2, hz, hj, hle, cPump,go_sem, simprocAttr, seval])) | with_reducible intro (ep : Nat → Nat) | with_reducible apply_assumption -exfalso -symm only [*])
      exact ⟨⟨_, by rw [hsn, List.length_append]; rfl, by rw [hsn, List.map_append]; rfl, by rw [hsn]; simp only [List.length_append, List.length_cons, List.length_nil]; omega⟩, some x, by rw [hr]; simp; intro h; omega, .inr ⟨j + 1, x, rfl, hx, rfl⟩⟩
  clear hK
  repeat' (first | (with_reducible refine sk ?_; intro K hK) | ((with_reducible first | refine rg (id := 14) (md := { base := 0, own := [57] }) (h := ?_) | refine rgS (id := 14) [13] (md := { base := 0, own := [57] }) (h := ?_) | refine rg (md := { base := 0, own := [8, 57] }) (h := ?_) | refine rgS [13] (md := { base := 0, own := [8, 57] }) (h := ?_) | refine nx ?_); try simp (disch := omega) only [h0, h1, h2, h8, h14, h15, h16, hH8,go_sem, simprocAttr]) | (with_reducible refine bk ?_) | ((with_reducible refine' cE ?hv ?_ ?_); (case hv => first | rfl | (simp only [h0, h1, h2, h8, h14, h15, h16, hH8,go_sem, simprocAttr]; rfl)); all_goals (intro hc; (try simp only [go_sem, simprocAttr] at hc); try (exfalso; omega))) | ((with_reducible first | refine grdS_split ?_ ?_ | refine lkG_split ?_ ?_) <;> intro hg <;> (try simp (disch := omega) only [hg, h0, h1, h2, h8, h14, h15, h16, hH8,go_sem, simprocAttr]) <;> (try simp only [go_sem, simprocAttr] at hg) <;> (try (exfalso; omega))) | ((with_reducible refine fe ?_); refine ⟨_, (by simp only [Try.f56, h0, h1, h2, h8, h14, h15, h16, hH8,go_sem, simprocAttr]; rfl), ?_⟩; first | rfl | (try simp only [h0, h1, h2, h8, h14, h15, h16, hH8,go_sem, simprocAttr, seval])) | with_reducible intro (ep : Nat → Nat) | with_reducible apply_assumption -exfalso -symm only [*])
  refine AW_range tabOK ps.length (fun i f H => (f 0 = .lst 3 (ps.map cPump) ∧ f 1 = .lst 1 (ints l) ∧ f 2 = .fn 57 [] ∧ f 14 = .lst 1 (ints l) ∧ f 15 = .int .i64 l.length ∧ f 16 = .int .i64 k ∧ f 8 = .gr 8 e (outP ps (l.take k)).length ∧ f 9 = .int .i64 k ∧ f 10 = .int .i64 x ∧ f 21 = .lst 3 (ps.map cPump) ∧ f 11 = .int .i64 (lastI (fun j => decide ((j : Int) = x)) i)) ∧ H 8 = some (e, .arr 3 ((outP ps (l.take k)).map cPump))) (by omega) (by rw [hXs]; decide) (by decide) (by (first | rfl | (simp only [go_sem, simprocAttr]; done) | (simp only [go_sem, simprocAttr]; rfl))) (by (first | rfl | (simp only [go_sem, simprocAttr]; done) | (simp only [go_sem, simprocAttr]; rfl)))
   ⟨by (and_intros <;> first | rfl | (simp only [h0, h1, h2, h8, h14, h15, h16, go_sem, simprocAttr]; done) | (simp only [h0, h1, h2, h8, h14, h15, h16, go_sem, simprocAttr]; rfl)), by (first | rfl | (simp only [hH8, go_sem, simprocAttr]; done) | (simp only [hH8, go_sem, simprocAttr]; rfl))⟩ ?_ ?_
  ·clear h0 h1 h2 h8 h14 h15 h16 hH8 hcut
   rintro i f H hi h23 h22 ⟨⟨h0, h1, h2, h14, h15, h16, h8, h9, h10, h21, h11⟩, hH8⟩
   obtain ⟨y, hy⟩ : ∃ y, ps[i]? = some y := ⟨_, List.getElem?_eq_getElem hi⟩
   have hst : lastI (fun j => decide ((j : Int) = x)) (i + 1) = if (i : Int) = x then (i : Int) else lastI (fun j => decide ((j : Int) = x)) i := by
    simp only [lastI, decide_eq_true_eq]
   have hcl := press1_ok i y
   simp only [cPump] at hcl
   refine AW_keep [8] ?_
   by_cases he : (i : Int) = x
   ·rw [if_pos he] at hst
    rw [hst]
    subst he
    repeat' (first | (with_reducible refine sk ?_; intro K hK) | ((first | (with_reducible first | refine rg (id := 14) (md := { base := 0, own := [57] }) (h := ?_) | refine rgS (id := 14) [13] (md := { base := 0, own := [57] }) (h := ?_) | refine rg (md := { base := 0, own := [8, 57] }) (h := ?_) | refine rgS [13] (md := { base := 0, own := [8, 57] }) (h := ?_) | refine nx ?_) | refine pK (hcl) ?_); try simp (disch := omega) only [h0, h1, h2, h8, h9, h10, h11, h14, h15, h16, h21, h22, h23, hH8, hy, cPump,go_sem, simprocAttr]) | (with_reducible refine bk ?_) | ((with_reducible refine' cE ?hv ?_ ?_); (case hv => first | rfl | (simp only [h0, h1, h2, h8, h9, h10, h11, h14, h15, h16, h21, h22, h23, hH8, hy, cPump,go_sem, simprocAttr]; rfl)); all_goals (intro hc; (try simp only [go_sem, simprocAttr] at hc); try (exfalso; omega))) | ((with_reducible first | refine grdS_split ?_ ?_ | refine lkG_split ?_ ?_) <;> intro hg <;> (try simp (disch := omega) only [hg, h0, h1, h2, h8, h9, h10, h11, h14, h15, h16, h21, h22, h23, hH8, hy, cPump,go_sem, simprocAttr]) <;> (try simp only [go_sem, simprocAttr] at hg) <;> (try (exfalso; omega))) | ((with_reducible refine fe ?_); refine ⟨_, (by simp only [Try.f56, h0, h1, h2, h8, h9, h10, h11, h14, h15, h16, h21, h22, h23, hH8, hy, cPump,go_sem, simprocAttr]; rfl), ?_⟩; first | rfl | (try simp only [h0, h1, h2, h8, h9, h10, h11, h14, h15, h16, h21, h22, h23, hH8, hy, cPump,go_sem, simprocAttr, seval])) | with_reducible intro (ep : Nat → Nat) | with_reducible apply_assumption -exfalso -symm only [*])
   ·rw [if_neg he] at hst
    rw [hst]
    repeat' (first | (with_reducible refine sk ?_; intro K hK) | ((first | (with_reducible first | refine rg (id := 14) (md := { base := 0, own := [57] }) (h := ?_) | refine rgS (id := 14) [13] (md := { base := 0, own := [57] }) (h := ?_) | refine rg (md := { base := 0, own := [8, 57] }) (h := ?_) | refine rgS [13] (md := { base := 0, own := [8, 57] }) (h := ?_) | refine nx ?_) | refine pK (hcl) ?_); try simp (disch := omega) only [h0, h1, h2, h8, h9, h10, h11, h14, h15, h16, h21, h22, h23, hH8, hy, he, cPump,go_sem, simprocAttr]) | (with_reducible refine bk ?_) | ((with_reducible refine' cE ?hv ?_ ?_); (case hv => first | rfl | (simp only [h0, h1, h2, h8, h9, h10, h11, h14, h15, h16, h21, h22, h23, hH8, hy, he, cPump,go_sem, simprocAttr]; rfl)); all_goals (intro hc; (try simp only [go_sem, simprocAttr] at hc); try (exfalso; omega))) | ((with_reducible first | refine grdS_split ?_ ?_ | refine lkG_split ?_ ?_) <;> intro hg <;> (try simp (disch := omega) only [hg, h0, h1, h2, h8, h9, h10, h11, h14, h15, h16, h21, h22, h23, hH8, hy, he, cPump,go_sem, simprocAttr]) <;> (try simp only [go_sem, simprocAttr] at hg) <;> (try (exfalso; omega))) | ((with_reducible refine fe ?_); refine ⟨_, (by simp only [Try.f56, h0, h1, h2, h8, h9, h10, h11, h14, h15, h16, h21, h22, h23, hH8, hy, he, cPump,go_sem, simprocAttr]; rfl), ?_⟩; first | rfl | (try simp only [h0, h1, h2, h8, h9, h10, h11, h14, h15, h16, h21, h22, h23, hH8, hy, he, cPump,go_sem, simprocAttr, seval])) | with_reducible intro (ep : Nat → Nat) | with_reducible apply_assumption -exfalso -symm only [*])
  ·clear h0 h1 h2 h8 h14 h15 h16 hH8
   rintro f H h23 h22 ⟨⟨h0, h1, h2, h14, h15, h16, h8, h9, h10, h21, h11⟩, hH8⟩
   repeat' (first | (with_reducible refine sk ?_; intro K hK) | ((with_reducible first | refine rg (id := 14) (md := { base := 0, own := [57] }) (h := ?_) | refine rgS (id := 14) [13] (md := { base := 0, own := [57] }) (h := ?_) | refine rg (md := { base := 0, own := [8, 57] }) (h := ?_) | refine rgS [13] (md := { base := 0, own := [8, 57] }) (h := ?_) | refine nx ?_); try simp (disch := omega) only [h0, h1, h2, h8, h9, h10, h11, h14, h15, h16, hH8,go_sem, simprocAttr]) | (with_reducible refine bk ?_) | ((with_reducible refine' cE ?hv ?_ ?_); (case hv => first | rfl | (simp only [h0, h1, h2, h8, h9, h10, h11, h14, h15, h16, hH8,go_sem, simprocAttr]; rfl)); all_goals (intro hc; (try simp only [go_sem, simprocAttr] at hc); try (exfalso; omega))) | ((with_reducible first | refine grdS_split ?_ ?_ | refine lkG_split ?_ ?_) <;> intro hg <;> (try simp (disch := omega) only [hg, h0, h1, h2, h8, h9, h10, h11, h14, h15, h16, hH8,go_sem, simprocAttr]) <;> (try simp only [go_sem, simprocAttr] at hg) <;> (try (exfalso; omega))) | ((with_reducible refine fe ?_); refine ⟨_, (by simp only [Try.f56, h0, h1, h2, h8, h9, h10, h11, h14, h15, h16, hH8,go_sem, simprocAttr]; rfl), ?_⟩; first | rfl | (try simp only [h0, h1, h2, h8, h9, h10, h11, h14, h15, h16, hH8,go_sem, simprocAttr, seval])) | with_reducible intro (ep : Nat → Nat) | with_reducible apply_assumption -exfalso -symm only [*])
   exact ⟨by (and_intros <;> first | rfl | (simp only [h0, h1, h2, h8, h9, h10, h11, h14, h15, h16, go_sem, simprocAttr]; done) | (simp only [h0, h1, h2, h8, h9, h10, h11, h14, h15, h16, go_sem, simprocAttr]; rfl)), by (first | rfl | (simp only [hH8, go_sem, simprocAttr]; done) | (simp only [hH8, go_sem, simprocAttr]; rfl))⟩
 ·rintro f H h16 h15 ⟨⟨h0, h1, h2, h14⟩, ⟨e, h8, hH8, hLk⟩, prev, hr, hp⟩
  rw [drop_none (by omega)] at hr
  rw [List.take_of_length_le (Nat.le_refl _)] at h8 hH8
  have hok : okL (isPm ps) none l = true := by rw [hr]; cases prev <;> rfl
  have hres : listedPT ps l = .tup [.lst 3 ((outP ps l).map cPump), .bool true] := by unfold listedPT; rw [if_pos hok]
  repeat' (first | (with_reducible refine sk ?_; intro K hK) | ((with_reducible first | refine rg (id := 14) (md := { base := 0, own := [57] }) (h := ?_) | refine rgS (id := 14) [13] (md := { base := 0, own := [57] }) (h := ?_) | refine rg (md := { base := 0, own := [8, 57] }) (h := ?_) | refine rgS [13] (md := { base := 0, own := [8, 57] }) (h := ?_) | refine nx ?_); try simp (disch := omega) only [h0, h8, hH8,go_sem, simprocAttr]) | (with_reducible refine bk ?_) | ((with_reducible refine' cE ?hv ?_ ?_); (case hv => first | rfl | (simp only [h0, h8, hH8,go_sem, simprocAttr]; rfl)); all_goals (intro hc; (try simp only [go_sem, simprocAttr] at hc); try (exfalso; omega))) | ((with_reducible first | refine grdS_split ?_ ?_ | refine lkG_split ?_ ?_) <;> intro hg <;> (try simp (disch := omega) only [hg, h0, h8, hH8,go_sem, simprocAttr]) <;> (try simp only [go_sem, simprocAttr] at hg) <;> (try (exfalso; omega))) | with_reducible intro (ep : Nat → Nat) | with_reducible apply_assumption -exfalso -symm only [*])
  refine FnP_frz 8 (Or.inl rfl) hH8 ⟨_, (by simp only [Try.f56, go_sem, simprocAttr]; rfl), ?_⟩
  rw [hres]; simp only [go_sem, simprocAttr]
end Cp
namespace Cp
open Go Go.Proofs
set_option maxRecDepth 10000
set_option maxHeartbeats 1000000
def spanS (n : NetT) (hs : List HeadT) (out : List Int) (h : HeadT) : Span := ⟨pressS n hs out false h, pressS n hs out true h⟩
def AllS (k a e : Nat) (l : List Span) (H : Hp) : Prop := (l = [] ∧ H k = some (e, .arr 1 [[.nils]])) ∨ l ≠ [] ∧ ∃ ea, H k = some (e, .arr 1 [[.gr a ea l.length]]) ∧ H a = some (ea, .arr 2 (l.map cSpan))
theorem AllS.same {k a e : Nat} {l : List Span} {H H' : Hp} (h : AllS k a e l H) (h1 : H' k = H k) (h2 : H' a = H a) : AllS k a e l H' := by
 unfold AllS; rw [h1, h2]; exact h
theorem map_snoc {α β : Type} {g : α → β} {l : List α} {k : Nat} {x : α} (h : l[k]? = some x) : (l.take (k + 1)).map g = (l.take k).map g ++ [g x] := by rw [take_snoc' h, List.map_append]; rfl
theorem press2_ok (n : NetT) (hF : NetF n) (hs : List HeadT) (h5 : heads500 hs) (hsl : hs.length ≤ 12) (hnd : ∀ h ∈ hs, 1 ≤ h.node ∧ h.node ≤ n.pipes.length) (out : List Int) (ho : outOK n out = true) (e8 e12 e36 e33 e34 ver : Nat) (H0 : Hp)
  (g8 : H0 8 = some (e8, .arr 1 [[.ptr 436 e36 10 0 0]])) (g12 : H0 12 = some (e12, .arr 1 [[.nils]])) (g36 : H0 436 = some (e36, .arr 10 [cPlant n hs e33 e34 (n.pipes.length + 1)]))
  (g33 : H0 433 = some (e33, .arr 1 (ints (flowL n.pipes (n.pipes.length + 1) hs)))) (g34 : H0 434 = some (e34, .map ver (imap .i64 (offM out)))) :
  ACall Try.prog 59 [.ptr 8 e8 1 0 0, .ptr 12 e12 1 0 0] H0 fun v H' => v = .tup [] ∧ H' 436 = H0 436 ∧ (∃ ver2, H' 434 = some (e34, .map ver2 (imap .i64 (offM out)))) ∧ AllS 12 1528 e12 (hs.map (spanS n hs out)) H' := by
 refine ACall_of (fn := Try.f59) tabOK (by kernel_rfl) rfl (by kernel_rfl) (by simp [Try.f59]) ?_
 intro X hX0 hXs
 refine AW_keep [8, 12, 436, 433, 434] ?_
 repeat' (first | (with_reducible refine sk ?_; intro K hK) | ((first | (with_reducible first | refine rgL [] [20, 25] (md := { base := 1500, own := [2, 4, 28] }) (h := ?_) | refine rgL [2, 4] [20, 25] (md := { base := 1500, own := [2, 4, 28] }) (h := ?_) | refine nx ?_) | refine pK (ends_ok) ?_ | refine lK (ends_ok) ?_); try simp (disch := omega) only [g8, g36, cPlant,go_sem, simprocAttr]) | (with_reducible refine bk ?_) | ((with_reducible refine' cE ?hv ?_ ?_); (case hv => first | rfl | (simp only [g8, g36, cPlant,go_sem, simprocAttr]; rfl)); all_goals (intro hc; (try simp only [go_sem, simprocAttr] at hc); try (exfalso; omega))) | with_reducible intro (ep : Nat → Nat) | with_reducible apply_assumption -exfalso -symm only [*])
 refine AW_range tabOK hs.length (fun k f H => (f 0 = .ptr 8 e8 1 0 0 ∧ f 1 = .ptr 12 e12 1 0 0 ∧ f 9 = .lst 8 (hs.map cHead)) ∧
   (H 8 = some (e8, .arr 1 [[.ptr 436 e36 10 0 0]]) ∧ H 436 = some (e36, .arr 10 [cPlant n hs e33 e34 (n.pipes.length + 1)]) ∧ H 433 = some (e33, .arr 1 (ints (flowL n.pipes (n.pipes.length + 1) hs))) ∧ H 434 = some (e34, .map ver (imap .i64 (offM out)))) ∧
   (∃ e2, f 2 = .ptr 1502 e2 4 0 0 ∧ H 1502 = some (e2, .arr 4 [[.fn (sgF false) [], .fn (sgF true) [], .fn (sgF true) [], .fn (sgF false) []]])) ∧ AllS 12 1528 e12 ((hs.take k).map (spanS n hs out)) H) (by omega) (by rw [hXs]; decide) (by decide) (by (first | rfl | (simp only [go_sem, simprocAttr]; done) | (simp only [go_sem, simprocAttr]; rfl))) (by (first | rfl | (simp only [go_sem, simprocAttr]; done) | (simp only [go_sem, simprocAttr]; rfl)))
  ⟨by (and_intros <;> first | rfl | (simp only [go_sem, simprocAttr]; done) | (simp only [go_sem, simprocAttr]; rfl)), by (and_intros <;> first | rfl | (simp only [g8, g36, g33, g34, cPlant, go_sem, simprocAttr]; done) | (simp only [g8, g36, g33, g34, cPlant, go_sem, simprocAttr]; rfl)), ⟨_, by (first | rfl | (simp only [go_sem, simprocAttr]; done) | (simp only [go_sem, simprocAttr]; rfl)), by (first | rfl | (simp only [go_sem, simprocAttr]; done) | (simp only [go_sem, simprocAttr]; rfl))⟩, .inl ⟨rfl, by (first | rfl | (simp only [g12, go_sem, simprocAttr]; done) | (simp only [g12, go_sem, simprocAttr]; rfl))⟩⟩ ?_ ?_
 ·clear g8 g12 g33 g34
  rintro k f H hk h11 h10 ⟨⟨h0, h1, h9⟩, ⟨g8, g36', g33, g34⟩, ⟨e2, h2, g2⟩, hA⟩
  obtain ⟨x, hx⟩ : ∃ x, hs[k]? = some x := ⟨_, List.getElem?_eq_getElem hk⟩
  rw [map_snoc hx]
  have hLk : ((hs.take k).map (spanS n hs out)).length = k := by simp; omega
  obtain ⟨L, hL⟩ : ∃ L, (hs.take k).map (spanS n hs out) = L := ⟨_, rfl⟩
  rw [hL] at hA hLk ⊢
  have hkb : k + 1 ≤ 1073741824 := by omega
  refine AW_keep [8, 12, 436, 433, 434, 1502, 1528] ?_
  have hA' : AllS 12 1528 e12 L (keep H [8, 12, 436, 433, 434, 1502, 1528]) := hA
  have k8 : keep H [8, 12, 436, 433, 434, 1502, 1528] 8 = some (e8, .arr 1 [[.ptr 436 e36 10 0 0]]) := g8
  have k36 : keep H [8, 12, 436, 433, 434, 1502, 1528] 436 = some (e36, .arr 10 [cPlant n hs e33 e34 (n.pipes.length + 1)]) := g36'
  have k33 : keep H [8, 12, 436, 433, 434, 1502, 1528] 433 = some (e33, .arr 1 (ints (flowL n.pipes (n.pipes.length + 1) hs))) := g33
  have k34 : keep H [8, 12, 436, 433, 434, 1502, 1528] 434 = some (e34, .map ver (imap .i64 (offM out))) := g34
  have k2 : keep H [8, 12, 436, 433, 434, 1502, 1528] 1502 = some (e2, .arr 4 [[.fn (sgF false) [], .fn (sgF true) [], .fn (sgF true) [], .fn (sgF false) []]]) := g2
  have k4 : keep H [8, 12, 436, 433, 434, 1502, 1528] 1504 = none := rfl
  have k08 : keep H [8, 12, 436, 433, 434, 1502, 1528] 1208 = none := rfl
  clear hA g8 g36' g33 g34 g2
  obtain ⟨H2, hH2⟩ : ∃ H2, keep H [8, 12, 436, 433, 434, 1502, 1528] = H2 := ⟨_, rfl⟩
  rw [hH2] at hA' k8 k36 k33 k34 k2 k4 k08 ⊢
  clear hH2
  refine sk ?_
  intro K hK
  have hcut : ∀ f H, ((f 0 = .ptr 8 e8 1 0 0 ∧ f 1 = .ptr 12 e12 1 0 0 ∧ f 9 = .lst 8 (hs.map cHead) ∧ f 2 = .ptr 1502 e2 4 0 0 ∧ f 11 = .int .i64 k ∧ f 10 = .int .i64 hs.length) ∧ (H 8 = some (e8, .arr 1 [[.ptr 436 e36 10 0 0]]) ∧ H 436 = some (e36, .arr 10 [cPlant n hs e33 e34 (n.pipes.length + 1)]) ∧ H 433 = some (e33, .arr 1 (ints (flowL n.pipes (n.pipes.length + 1) hs))) ∧ H 434 = some (e34, .map ver (imap .i64 (offM out))) ∧ H 1502 = some (e2, .arr 4 [[.fn (sgF false) [], .fn (sgF true) [], .fn (sgF true) [], .fn (sgF false) []]]) ∧ H 1208 = none) ∧ AllS 12 1528 e12 L H ∧ ∃ e4, f 4 = .ptr 1504 e4 8 0 0 ∧ H 1504 = some (e4, .arr 8 [cHead x])) → K f H := by
   clear h0 h1 h2 h9 h10 h11 k8 k36 k33 k34 k2 k4 k08 hA'
   rintro f H ⟨⟨h0, h1, h9, h2, h11, h10⟩, ⟨k8, k36, k33, k34, k2, k08⟩, hA, e4, h4, k4⟩
   refine hK f H ?_
   clear hK
   have hP : PlH n hs out e36 e33 e34 H := ⟨by rw [k36]; rfl, by rw [k33]; rfl, ver, by rw [k34]; rfl⟩
   have hxm := List.mem_of_getElem? hx
   have hp0 := pressure_look n hF hs h5 (by omega) out ho false x (hnd x hxm) e36 e33 e34 H hP k08
   have hp1 := pressure_look n hF hs h5 (by omega) out ho true x (hnd x hxm) e36 e33 e34 H hP k08
   simp only [encHead, cHead, endV, Bool.not_false, Bool.not_true] at hp0 hp1
   have hsp : cSpan (spanS n hs out x) = [.int .i64 (pressS n hs out false x), .int .i64 (pressS n hs out true x)] := rfl
   rcases hA with ⟨hLn, hA⟩ | ⟨hLn, ea, hA1, hA2⟩
   ·subst hLn
    simp only [List.length_nil] at hLk
    repeat' (first | (with_reducible refine sk ?_; intro K hK) | ((first | (with_reducible first | refine rgL [] [20, 25] (md := { base := 1500, own := [2, 4, 28] }) (h := ?_) | refine rgL [2, 4] [20, 25] (md := { base := 1500, own := [2, 4, 28] }) (h := ?_) | refine nx ?_) | refine pK (hp0) ?_ | refine pK (hp1) ?_ | refine lK (hp0) ?_ | refine lK (hp1) ?_); try simp (disch := omega) only [h0, h1, h2, h4, h9, h10, h11, k8, k2, k4, hA, cHead,go_sem, simprocAttr]) | (with_reducible refine bk ?_) | ((with_reducible refine' cE ?hv ?_ ?_); (case hv => first | rfl | (simp only [h0, h1, h2, h4, h9, h10, h11, k8, k2, k4, hA, cHead,go_sem, simprocAttr]; rfl)); all_goals (intro hc; (try simp only [go_sem, simprocAttr] at hc); try (exfalso; omega))) | with_reducible intro (ep : Nat → Nat) | with_reducible apply_assumption -exfalso -symm only [*])
    exact ⟨⟨k36, k33, k34⟩, ⟨_, rfl, rfl⟩, .inr ⟨by simp, _, by simp only [go_sem, simprocAttr]; rfl, by simp only [go_sem, simprocAttr]; rfl⟩⟩
   ·have hlb : L.length ≤ 1073741823 := by omega
    repeat' (first | (with_reducible refine sk ?_; intro K hK) | ((first | (with_reducible first | refine rgL [] [20, 25] (md := { base := 1500, own := [2, 4, 28] }) (h := ?_) | refine rgL [2, 4] [20, 25] (md := { base := 1500, own := [2, 4, 28] }) (h := ?_) | refine nx ?_) | refine pK (hp0) ?_ | refine pK (hp1) ?_ | refine lK (hp0) ?_ | refine lK (hp1) ?_); try simp (disch := omega) only [h0, h1, h2, h4, h9, h10, h11, k8, k2, k4, hA1, hA2, hlb, cHead,go_sem, simprocAttr]) | (with_reducible refine bk ?_) | ((with_reducible refine' cE ?hv ?_ ?_); (case hv => first | rfl | (simp only [h0, h1, h2, h4, h9, h10, h11, k8, k2, k4, hA1, hA2, hlb, cHead,go_sem, simprocAttr]; rfl)); all_goals (intro hc; (try simp only [go_sem, simprocAttr] at hc); try (exfalso; omega))) | with_reducible intro (ep : Nat → Nat) | with_reducible apply_assumption -exfalso -symm only [*])
    exact ⟨⟨k36, k33, k34⟩, ⟨_, rfl, rfl⟩, .inr ⟨by simp, _, by simp only [go_sem, simprocAttr, List.length_append]; rfl, by simp only [go_sem, simprocAttr, List.map_append]; rfl⟩⟩
  clear hK
  repeat' (first | (with_reducible refine sk ?_; intro K hK) | ((with_reducible first | refine rgL [] [20, 25] (md := { base := 1500, own := [2, 4, 28] }) (h := ?_) | refine rgL [2, 4] [20, 25] (md := { base := 1500, own := [2, 4, 28] }) (h := ?_) | refine nx ?_); try simp (disch := omega) only [h0, h1, h2, h9, h10, h11, hx, k4, cHead,go_sem, simprocAttr]) | (with_reducible refine bk ?_) | ((with_reducible refine' cE ?hv ?_ ?_); (case hv => first | rfl | (simp only [h0, h1, h2, h9, h10, h11, hx, k4, cHead,go_sem, simprocAttr]; rfl)); all_goals (intro hc; (try simp only [go_sem, simprocAttr] at hc); try (exfalso; omega))) | with_reducible intro (ep : Nat → Nat) | with_reducible apply_assumption -exfalso -symm only [*])
  exact ⟨by (and_intros <;> first | rfl | (simp only [h0, h1, h2, h9, h10, h11, go_sem, simprocAttr]; done) | (simp only [h0, h1, h2, h9, h10, h11, go_sem, simprocAttr]; rfl)), by (and_intros <;> first | rfl | (simp only [k8, k36, k33, k34, k2, k08, go_sem, simprocAttr]; done) | (simp only [k8, k36, k33, k34, k2, k08, go_sem, simprocAttr]; rfl)), hA'.same (by simp only [go_sem, simprocAttr]) (by simp only [go_sem, simprocAttr]), _, by (first | rfl | (simp only [go_sem, simprocAttr]; done) | (simp only [go_sem, simprocAttr]; rfl)), by (first | rfl | (simp only [cHead, go_sem, simprocAttr]; done) | (simp only [cHead, go_sem, simprocAttr]; rfl))⟩
 ·clear g8 g12 g33 g34
  rintro f H h11 h10 ⟨⟨h0, h1, h9⟩, ⟨g8, g36', g33, g34⟩, ⟨e2, h2, g2⟩, hA⟩
  rw [List.take_of_length_le (Nat.le_refl _)] at hA
  refine FnQ_end (Or.inr rfl) (.refl _) (by simp only [Try.f59, go_sem, simprocAttr]; rfl) ?_
  exact ⟨by simp only [go_sem, simprocAttr], by rw [g36', g36], ⟨ver, g34⟩, hA⟩
end Cp
namespace Cp
open Go Go.Proofs
set_option maxRecDepth 10000
set_option maxHeartbeats 1000000
def spansV (L : List Span) : Val := if L = [] then .nils else .lst 2 (L.map cSpan)
def pressV (g : List Span → Val) (n : NetT) (l out : List Int) : Val := if netOK n = true then (if openOK n.heads l = true ∧ outOK n out = true then .tup [g ((openH n.heads l).map (spanS n (openH n.heads l) out)), .int .i64 0] else .tup [.nils, .int .i64 2]) else .tup [.nils, .int .i64 50]
def pressT (n : NetT) (l out : List Int) : Val := pressV (fun L => .lst 2 (L.map cSpan)) n l out
theorem outOK_eq {n : NetT} {out : List Int} : outOK n out = (okL (isPm n.pumps) none out && decide ((out.length : Int) ≤ n.out)) := rfl
theorem Press_ok0 (n : NetT) (hs : NetS n) (l : List Int) (hl : l.length ≤ 100000) (out : List Int) (hol : out.length ≤ 100000) : PureC Try.prog 19 [encNet n, .lst 1 (ints l), .lst 1 (ints out)] (pressV spansV n l out) := by
 have hnoid : noid (pressV spansV n l out) = true := by unfold pressV spansV; split <;> (try split) <;> (try split) <;> (simp only [noid, noids, noidss, go_sem, simprocAttr, cSpan_noid]; rfl)
 have hop := fun H0 => opened_ok n hs l hl H0
 unfold openR at hop
 have hpl := hs.pipes
 have hpq := hs.pumps
 have hli := listedP_ok n.pumps (by omega) out hol
 unfold listedPT at hli
 simp only [encNet, cNet] at hop
 refine PureC_of (fn := Try.f19) tabOK (by kernel_rfl) rfl (by kernel_rfl) (by simp [Try.f19]) (by simp [noids, noid, noidss, go_sem, encNet, cNet, hnoid]) (by first | rfl | simp [noids, noid, noidss, go_sem, encNet, cNet, hnoid]) ?_
 intro X hX0 hXs
 unfold pressV
 cases hN : netOK n with
 | false =>
  simp only [hN, Bool.false_eq_true, if_false] at hop
  repeat' (first | (with_reducible refine sk ?_; intro K hK) | ((first | (with_reducible first | refine rg (md := { base := 0, own := [8, 12], imp := [16, 41] }) (h := ?_) | refine rgS [8, 12] (md := { base := 0, own := [8, 12], imp := [16, 41] }) (h := ?_) | refine nx ?_) | refine pK (hop _) ?_); try simp (disch := omega) only [encNet, cNet,go_sem, simprocAttr]) | (with_reducible refine bk ?_) | ((with_reducible refine' cE ?hv ?_ ?_); (case hv => first | rfl | (simp only [encNet, cNet,go_sem, simprocAttr]; rfl)); all_goals (intro hc; (try simp only [go_sem, simprocAttr] at hc); try (exfalso; omega))) | ((with_reducible first | refine grdS_split ?_ ?_ | refine lkG_split ?_ ?_) <;> intro hg <;> (try simp (disch := omega) only [hg, encNet, cNet,go_sem, simprocAttr]) <;> (try simp only [go_sem, simprocAttr] at hg) <;> (try (exfalso; omega))) | (first | refine iK (hop _) ?_) | ((with_reducible refine fe ?_); refine ⟨_, (by simp only [Try.f19, encNet, cNet,go_sem, simprocAttr]; rfl), ?_⟩; first | rfl | (try simp only [encNet, cNet,go_sem, simprocAttr, seval])) | with_reducible intro (ep : Nat → Nat) | with_reducible apply_assumption -exfalso -symm only [*])
  rintro v H3 ⟨hlow, rfl⟩
  have g8 : H3 8 = none := hlow 8 (by decide)
  have g12 : H3 12 = none := hlow 12 (by decide)
  simp only [go_sem, simprocAttr, g8]
  repeat' (first | (with_reducible refine sk ?_; intro K hK) | ((with_reducible first | refine rg (md := { base := 0, own := [8, 12], imp := [16, 41] }) (h := ?_) | refine rgS [8, 12] (md := { base := 0, own := [8, 12], imp := [16, 41] }) (h := ?_) | refine nx ?_); try simp (disch := omega) only [g8, g12,go_sem, simprocAttr]) | (with_reducible refine bk ?_) | ((with_reducible refine' cE ?hv ?_ ?_); (case hv => first | rfl | (simp only [g8, g12,go_sem, simprocAttr]; rfl)); all_goals (intro hc; (try simp only [go_sem, simprocAttr] at hc); try (exfalso; omega))) | ((with_reducible first | refine grdS_split ?_ ?_ | refine lkG_split ?_ ?_) <;> intro hg <;> (try simp (disch := omega) only [hg, g8, g12,go_sem, simprocAttr]) <;> (try simp only [go_sem, simprocAttr] at hg) <;> (try (exfalso; omega))) | ((with_reducible refine fe ?_); refine ⟨_, (by simp only [Try.f19, g8, g12,go_sem, simprocAttr]; rfl), ?_⟩; first | rfl | (try simp only [g8, g12,go_sem, simprocAttr, seval])) | with_reducible intro (ep : Nat → Nat) | with_reducible apply_assumption -exfalso -symm only [*])
 | true =>
  have hF := net_facts hN
  cases hO : openOK n.heads l with
  | false =>
   simp only [hN, hO, Bool.false_eq_true, if_false, if_true, false_and] at hop ⊢
   repeat' (first | (with_reducible refine sk ?_; intro K hK) | ((first | (with_reducible first | refine rg (md := { base := 0, own := [8, 12], imp := [16, 41] }) (h := ?_) | refine rgS [8, 12] (md := { base := 0, own := [8, 12], imp := [16, 41] }) (h := ?_) | refine nx ?_) | refine pK (hop _) ?_); try simp (disch := omega) only [encNet, cNet,go_sem, simprocAttr]) | (with_reducible refine bk ?_) | ((with_reducible refine' cE ?hv ?_ ?_); (case hv => first | rfl | (simp only [encNet, cNet,go_sem, simprocAttr]; rfl)); all_goals (intro hc; (try simp only [go_sem, simprocAttr] at hc); try (exfalso; omega))) | ((with_reducible first | refine grdS_split ?_ ?_ | refine lkG_split ?_ ?_) <;> intro hg <;> (try simp (disch := omega) only [hg, encNet, cNet,go_sem, simprocAttr]) <;> (try simp only [go_sem, simprocAttr] at hg) <;> (try (exfalso; omega))) | (first | refine iK (hop _) ?_) | ((with_reducible refine fe ?_); refine ⟨_, (by simp only [Try.f19, encNet, cNet,go_sem, simprocAttr]; rfl), ?_⟩; first | rfl | (try simp only [encNet, cNet,go_sem, simprocAttr, seval])) | with_reducible intro (ep : Nat → Nat) | with_reducible apply_assumption -exfalso -symm only [*])
   rintro v H3 ⟨hlow, rfl⟩
   have g8 : H3 8 = none := hlow 8 (by decide)
   have g12 : H3 12 = none := hlow 12 (by decide)
   simp only [go_sem, simprocAttr, g8]
   repeat' (first | (with_reducible refine sk ?_; intro K hK) | ((with_reducible first | refine rg (md := { base := 0, own := [8, 12], imp := [16, 41] }) (h := ?_) | refine rgS [8, 12] (md := { base := 0, own := [8, 12], imp := [16, 41] }) (h := ?_) | refine nx ?_); try simp (disch := omega) only [g8, g12,go_sem, simprocAttr]) | (with_reducible refine bk ?_) | ((with_reducible refine' cE ?hv ?_ ?_); (case hv => first | rfl | (simp only [g8, g12,go_sem, simprocAttr]; rfl)); all_goals (intro hc; (try simp only [go_sem, simprocAttr] at hc); try (exfalso; omega))) | ((with_reducible first | refine grdS_split ?_ ?_ | refine lkG_split ?_ ?_) <;> intro hg <;> (try simp (disch := omega) only [hg, g8, g12,go_sem, simprocAttr]) <;> (try simp only [go_sem, simprocAttr] at hg) <;> (try (exfalso; omega))) | ((with_reducible refine fe ?_); refine ⟨_, (by simp only [Try.f19, g8, g12,go_sem, simprocAttr]; rfl), ?_⟩; first | rfl | (try simp only [g8, g12,go_sem, simprocAttr, seval])) | with_reducible intro (ep : Nat → Nat) | with_reducible apply_assumption -exfalso -symm only [*])
  | true =>
   cases hno : outOK n out with
   | false =>
    simp only [hN, hO, if_true, true_and, Bool.false_eq_true, if_false] at hop ⊢
    repeat' (first | (with_reducible refine sk ?_; intro K hK) | ((first | (with_reducible first | refine rg (md := { base := 0, own := [8, 12], imp := [16, 41] }) (h := ?_) | refine rgS [8, 12] (md := { base := 0, own := [8, 12], imp := [16, 41] }) (h := ?_) | refine nx ?_) | refine pK (hop _) ?_); try simp (disch := omega) only [encNet, cNet,go_sem, simprocAttr]) | (with_reducible refine bk ?_) | ((with_reducible refine' cE ?hv ?_ ?_); (case hv => first | rfl | (simp only [encNet, cNet,go_sem, simprocAttr]; rfl)); all_goals (intro hc; (try simp only [go_sem, simprocAttr] at hc); try (exfalso; omega))) | ((with_reducible first | refine grdS_split ?_ ?_ | refine lkG_split ?_ ?_) <;> intro hg <;> (try simp (disch := omega) only [hg, encNet, cNet,go_sem, simprocAttr]) <;> (try simp only [go_sem, simprocAttr] at hg) <;> (try (exfalso; omega))) | (first | refine iK (hop _) ?_) | ((with_reducible refine fe ?_); refine ⟨_, (by simp only [Try.f19, encNet, cNet,go_sem, simprocAttr]; rfl), ?_⟩; first | rfl | (try simp only [encNet, cNet,go_sem, simprocAttr, seval])) | with_reducible intro (ep : Nat → Nat) | with_reducible apply_assumption -exfalso -symm only [*])
    rintro v H3 ⟨hlow, e36, e33, e34, ver, rfl, h36, h33, h34⟩
    have g8 : H3 8 = none := hlow 8 (by decide)
    have g12 : H3 12 = none := hlow 12 (by decide)
    clear hlow
    simp only [go_sem, simprocAttr, g8]
    cases hP : okL (isPm n.pumps) none out with
    | false =>
     rw [hP] at hli
     repeat' (first | (with_reducible refine sk ?_; intro K hK) | ((first | (with_reducible first | refine rg (md := { base := 0, own := [8, 12], imp := [16, 41] }) (h := ?_) | refine rgS [8, 12] (md := { base := 0, own := [8, 12], imp := [16, 41] }) (h := ?_) | refine nx ?_) | refine pK (hli) ?_); try simp (disch := omega) only [g8, g12, h36, cNet,go_sem, simprocAttr]) | (with_reducible refine bk ?_) | ((with_reducible refine' cE ?hv ?_ ?_); (case hv => first | rfl | (simp only [g8, g12, h36, cNet,go_sem, simprocAttr]; rfl)); all_goals (intro hc; (try simp only [go_sem, simprocAttr] at hc); try (exfalso; omega))) | ((with_reducible first | refine grdS_split ?_ ?_ | refine lkG_split ?_ ?_) <;> intro hg <;> (try simp (disch := omega) only [hg, g8, g12, h36, cNet,go_sem, simprocAttr]) <;> (try simp only [go_sem, simprocAttr] at hg) <;> (try (exfalso; omega))) | (first | refine iK (hli) ?_) | ((with_reducible refine fe ?_); refine ⟨_, (by simp only [Try.f19, g8, g12, h36, cNet,go_sem, simprocAttr]; rfl), ?_⟩; first | rfl | (try simp only [g8, g12, h36, cNet,go_sem, simprocAttr, seval])) | with_reducible intro (ep : Nat → Nat) | with_reducible apply_assumption -exfalso -symm only [*])
    | true =>
     rw [hP] at hli
     have hlo2 : n.out < (out.length : Int) := by
      rw [outOK_eq, hP] at hno
      simpa using hno
     repeat' (first | (with_reducible refine sk ?_; intro K hK) | ((first | (with_reducible first | refine rg (md := { base := 0, own := [8, 12], imp := [16, 41] }) (h := ?_) | refine rgS [8, 12] (md := { base := 0, own := [8, 12], imp := [16, 41] }) (h := ?_) | refine nx ?_) | refine pK (hli) ?_); try simp (disch := omega) only [g8, g12, h36, hlo2, cNet,go_sem, simprocAttr]) | (with_reducible refine bk ?_) | ((with_reducible refine' cE ?hv ?_ ?_); (case hv => first | rfl | (simp only [g8, g12, h36, hlo2, cNet,go_sem, simprocAttr]; rfl)); all_goals (intro hc; (try simp only [go_sem, simprocAttr] at hc); try (exfalso; omega))) | ((with_reducible first | refine grdS_split ?_ ?_ | refine lkG_split ?_ ?_) <;> intro hg <;> (try simp (disch := omega) only [hg, g8, g12, h36, hlo2, cNet,go_sem, simprocAttr]) <;> (try simp only [go_sem, simprocAttr] at hg) <;> (try (exfalso; omega))) | (first | refine iK (hli) ?_) | ((with_reducible refine fe ?_); refine ⟨_, (by simp only [Try.f19, g8, g12, h36, hlo2, cNet,go_sem, simprocAttr]; rfl), ?_⟩; first | rfl | (try simp only [g8, g12, h36, hlo2, cNet,go_sem, simprocAttr, seval])) | with_reducible intro (ep : Nat → Nat) | with_reducible apply_assumption -exfalso -symm only [*])
   | true =>
    simp only [hN, hO, if_true, and_self] at hop ⊢
    obtain ⟨o1, o2, o3⟩ := out_facts hno
    have hno' := hno
    rw [outOK_eq, Bool.and_eq_true] at hno'
    rw [hno'.1] at hli
    have hlo2 : ¬ n.out < (out.length : Int) := by omega
    have h5 := openH_500 hF l
    have hLn := fun h hm => openH_node hF (l := l) (h := h) hm
    have hLl := open_le hF.ids hO
    have hLl2 := @openH_len n.heads l
    have hhl := hF.heads
    obtain ⟨L, hL⟩ : ∃ L, openH n.heads l = L := ⟨_, rfl⟩
    rw [hL] at h5 hLn hLl2 ⊢
    simp only [hL] at hop
    obtain ⟨S, hS⟩ : ∃ S, L.map (spanS n L out) = S := ⟨_, rfl⟩
    rw [hS]
    repeat' (first | (with_reducible refine sk ?_; intro K hK) | ((first | (with_reducible first | refine rg (md := { base := 0, own := [8, 12], imp := [16, 41] }) (h := ?_) | refine rgS [8, 12] (md := { base := 0, own := [8, 12], imp := [16, 41] }) (h := ?_) | refine nx ?_) | refine pK (hop _) ?_); try simp (disch := omega) only [encNet, cNet,go_sem, simprocAttr]) | (with_reducible refine bk ?_) | ((with_reducible refine' cE ?hv ?_ ?_); (case hv => first | rfl | (simp only [encNet, cNet,go_sem, simprocAttr]; rfl)); all_goals (intro hc; (try simp only [go_sem, simprocAttr] at hc); try (exfalso; omega))) | ((with_reducible first | refine grdS_split ?_ ?_ | refine lkG_split ?_ ?_) <;> intro hg <;> (try simp (disch := omega) only [hg, encNet, cNet,go_sem, simprocAttr]) <;> (try simp only [go_sem, simprocAttr] at hg) <;> (try (exfalso; omega))) | (first | refine iK (hop _) ?_) | ((with_reducible refine fe ?_); refine ⟨_, (by simp only [Try.f19, encNet, cNet,go_sem, simprocAttr]; rfl), ?_⟩; first | rfl | (try simp only [encNet, cNet,go_sem, simprocAttr, seval])) | with_reducible intro (ep : Nat → Nat) | with_reducible apply_assumption -exfalso -symm only [*])
    rintro v H3 ⟨hlow, e36, e33, e34, ver, rfl, h36, h33, h34⟩
    have g8 : H3 8 = none := hlow 8 (by decide)
    have g12 : H3 12 = none := hlow 12 (by decide)
    clear hlow
    simp only [go_sem, simprocAttr, g8]
    repeat' (first | (with_reducible refine sk ?_; intro K hK) | ((first | (with_reducible first | refine rg (md := { base := 0, own := [8, 12], imp := [16, 41] }) (h := ?_) | refine rgS [8, 12] (md := { base := 0, own := [8, 12], imp := [16, 41] }) (h := ?_) | refine nx ?_) | refine pK (hli) ?_); try simp (disch := omega) only [g8, g12, h36, h33, h34, hlo2, cNet,go_sem, simprocAttr]) | (with_reducible refine bk ?_) | ((with_reducible refine' cE ?hv ?_ ?_); (case hv => first | rfl | (simp only [g8, g12, h36, h33, h34, hlo2, cNet,go_sem, simprocAttr]; rfl)); all_goals (intro hc; (try simp only [go_sem, simprocAttr] at hc); try (exfalso; omega))) | ((with_reducible first | refine grdS_split ?_ ?_ | refine lkG_split ?_ ?_) <;> intro hg <;> (try simp (disch := omega) only [hg, g8, g12, h36, h33, h34, hlo2, cNet,go_sem, simprocAttr]) <;> (try simp only [go_sem, simprocAttr] at hg) <;> (try (exfalso; omega))) | (first | refine iK (hli) ?_) | ((with_reducible refine fe ?_); refine ⟨_, (by simp only [Try.f19, g8, g12, h36, h33, h34, hlo2, cNet,go_sem, simprocAttr]; rfl), ?_⟩; first | rfl | (try simp only [g8, g12, h36, h33, h34, hlo2, cNet,go_sem, simprocAttr, seval])) | with_reducible intro (ep : Nat → Nat) | with_reducible apply_assumption -exfalso -symm only [*])
    refine iK (without_ok n L _ _ _ _ out hol o2 _ _ (by simp) _ (by (first | rfl | (simp only [h36, go_sem, simprocAttr]; done) | (simp only [h36, go_sem, simprocAttr]; rfl))) (by (first | rfl | (simp only [h34, go_sem, simprocAttr]; done) | (simp only [h34, go_sem, simprocAttr]; rfl))) (AllS 12 1528 _ S) (fun ver' H hlow hm => hS ▸ press2_ok n hF L h5 (by omega) hLn out hno _ _ _ _ _ ver' H (by rw [hlow _ (by decide)]; (first | rfl | (simp only [go_sem, simprocAttr]; done) | (simp only [go_sem, simprocAttr]; rfl))) (by rw [hlow _ (by decide)]; (first | rfl | (simp only [go_sem, simprocAttr]; done) | (simp only [go_sem, simprocAttr]; rfl))) (by rw [hlow _ (by decide)]; (first | rfl | (simp only [h36, go_sem, simprocAttr]; done) | (simp only [h36, go_sem, simprocAttr]; rfl))) (by rw [hlow _ (by decide)]; (first | rfl | (simp only [h33, go_sem, simprocAttr]; done) | (simp only [h33, go_sem, simprocAttr]; rfl))) hm)) ?_
    rintro v H4 ⟨rfl, H5, ver2, hA, hsame, hm⟩
    rcases hA with ⟨hSn, h12⟩ | ⟨hSn, ea, h12, h28⟩
    ·have q12 := (hsame 12 (by decide)).trans h12
     have hV : spansV S = .nils := by unfold spansV; rw [if_pos hSn]
     rw [hV] at hK
     simp only [go_sem, simprocAttr]
     repeat' (first | (with_reducible refine sk ?_; intro K hK) | ((with_reducible first | refine rg (md := { base := 0, own := [8, 12], imp := [16, 41] }) (h := ?_) | refine rgS [8, 12] (md := { base := 0, own := [8, 12], imp := [16, 41] }) (h := ?_) | refine nx ?_); try simp (disch := omega) only [q12,go_sem, simprocAttr]) | (with_reducible refine bk ?_) | ((with_reducible refine' cE ?hv ?_ ?_); (case hv => first | rfl | (simp only [q12,go_sem, simprocAttr]; rfl)); all_goals (intro hc; (try simp only [go_sem, simprocAttr] at hc); try (exfalso; omega))) | ((with_reducible first | refine grdS_split ?_ ?_ | refine lkG_split ?_ ?_) <;> intro hg <;> (try simp (disch := omega) only [hg, q12,go_sem, simprocAttr]) <;> (try simp only [go_sem, simprocAttr] at hg) <;> (try (exfalso; omega))) | ((with_reducible refine fe ?_); refine ⟨_, (by simp only [Try.f19, q12,go_sem, simprocAttr]; rfl), ?_⟩; first | rfl | (try simp only [q12,go_sem, simprocAttr, seval])) | with_reducible intro (ep : Nat → Nat) | with_reducible apply_assumption -exfalso -symm only [*])
    ·have q12 := (hsame 12 (by decide)).trans h12
     have q28 := (hsame 1528 (by decide)).trans h28
     have hV : spansV S = .lst 2 (S.map cSpan) := by unfold spansV; rw [if_neg hSn]
     rw [hV] at hK
     simp only [go_sem, simprocAttr]
     repeat' (first | (with_reducible refine sk ?_; intro K hK) | ((with_reducible first | refine rg (md := { base := 0, own := [8, 12], imp := [16, 41] }) (h := ?_) | refine rgS [8, 12] (md := { base := 0, own := [8, 12], imp := [16, 41] }) (h := ?_) | refine nx ?_); try simp (disch := omega) only [q12,go_sem, simprocAttr]) | (with_reducible refine bk ?_) | ((with_reducible refine' cE ?hv ?_ ?_); (case hv => first | rfl | (simp only [q12,go_sem, simprocAttr]; rfl)); all_goals (intro hc; (try simp only [go_sem, simprocAttr] at hc); try (exfalso; omega))) | ((with_reducible first | refine grdS_split ?_ ?_ | refine lkG_split ?_ ?_) <;> intro hg <;> (try simp (disch := omega) only [hg, q12,go_sem, simprocAttr]) <;> (try simp only [go_sem, simprocAttr] at hg) <;> (try (exfalso; omega))) | with_reducible intro (ep : Nat → Nat) | with_reducible apply_assumption -exfalso -symm only [*])
     refine FnP_frz 1528 (Or.inl rfl) (by (first | rfl | (simp only [q28, go_sem, simprocAttr]; done) | (simp only [q28, go_sem, simprocAttr]; rfl))) ⟨_, (by simp only [Try.f19, go_sem, simprocAttr]; rfl), ?_⟩
     simp only [go_sem, simprocAttr, q28, List.length_map]
theorem Press_ok (n : NetT) (hs : NetS n) (l : List Int) (hl : l.length ≤ 100000) (out : List Int) (hol : out.length ≤ 100000) : PureC Try.prog 19 [encNet n, .lst 1 (ints l), .lst 1 (ints out)] (pressT n l out) := by
 have h := Press_ok0 n hs l hl out hol
 unfold pressT
 unfold pressV at h ⊢
 split
 ·rename_i hN
  rw [if_pos hN] at h
  split
  ·rename_i hO
   rw [if_pos hO] at h
   unfold spansV at h
   split at h
   ·rename_i he
    rw [he]
    exact h.weak rfl fun G w x hx => hx.tup_nils
   ·exact h
  ·rename_i hO
   rw [if_neg hO] at h
   exact h
 ·rename_i hN
  rw [if_neg hN] at h
  exact h
end Cp
