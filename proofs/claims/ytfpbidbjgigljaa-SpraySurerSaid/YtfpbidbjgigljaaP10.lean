/- Rules, facts and contracts that the statement's proof leans on. Conditions: none. -/
import Derived.Test.YtfpbidbjgigljaaP9
set_option linter.unusedVariables false
set_option linter.unusedSimpArgs false
set_option linter.unusedSectionVars false
namespace Cp
open Go Go.Proofs
set_option maxRecDepth 10000
set_option maxHeartbeats 1000000
def lackN : Val := .agg [.int .u8 0, .int .i64 0, .nils]
def lackZ : LackT := ⟨0, 0, []⟩
def getsD (z : Val) (n : NetT) (l : List Int) : Val := if netOK n = true then (if openOK n.heads l = true then .tup [lackV (getsS n (openH n.heads l)), .int .i64 0] else .tup [z, .int .i64 2]) else .tup [z, .int .i64 50]
theorem lackV_noid {t : LackT} : noid (lackV t) = true := by simp only [lackV, noid, noids, noid_ints]; rfl
theorem Gets_ok0 (n : NetT) (hs : NetS n) (l : List Int) (hl : l.length ≤ 100000) : PureC Try.prog 26 [encNet n, .lst 1 (ints l)] (getsD lackN n l) := by
 have hnoid : noid (getsD lackN n l) = true := by unfold getsD; split <;> (try split) <;> (simp only [noid, noids, noidss, lackN, lackV_noid, go_sem, simprocAttr]; rfl)
 have hop := fun H0 => opened_ok n hs l hl H0
 unfold openR at hop
 have hpl := hs.pipes
 simp only [encNet, cNet] at hop
 refine PureC_of (fn := Try.f26) tabOK (by kernel_rfl) rfl (by kernel_rfl) (by simp [Try.f26]) (by simp [noids, noid, noidss, go_sem, encNet, cNet, hnoid]) (by first | rfl | simp [noids, noid, noidss, go_sem, encNet, cNet, hnoid]) ?_
 intro X hX0 hXs
 unfold getsD
 cases hN : netOK n with
 | false =>
  simp only [hN, Bool.false_eq_true, if_false] at hop
  repeat' (first | (with_reducible refine sk ?_; intro K hK) | ((first | (with_reducible first | refine rg (md := { base := 0, own := [4], imp := [11, 19] }) (h := ?_) | refine rgS [4] (md := { base := 0, own := [4], imp := [11, 19] }) (h := ?_) | refine nx ?_) | refine pK (hop _) ?_); try simp (disch := omega) only [encNet, cNet,go_sem, simprocAttr]) | (with_reducible refine bk ?_) | ((with_reducible refine' cE ?hv ?_ ?_); (case hv => first | rfl | (simp only [encNet, cNet,go_sem, simprocAttr]; rfl)); all_goals (intro hc; (try simp only [go_sem, simprocAttr] at hc); try (exfalso; omega))) | (first | refine iK (hop _) ?_) | ((with_reducible refine fe ?_); refine ⟨_, (by simp only [Try.f26, encNet, cNet,go_sem, simprocAttr]; rfl), ?_⟩; first | rfl | (try simp only [encNet, cNet,go_sem, simprocAttr, seval])) | with_reducible intro (ep : Nat → Nat) | with_reducible apply_assumption -exfalso -symm only [*])
  rintro v H3 ⟨hlow, rfl⟩
  have g4 := hlow 4 (by decide)
  simp only [go_sem, simprocAttr] at g4
  simp only [go_sem, simprocAttr]
  repeat' (first | (with_reducible refine sk ?_; intro K hK) | ((with_reducible first | refine rg (md := { base := 0, own := [4], imp := [11, 19] }) (h := ?_) | refine rgS [4] (md := { base := 0, own := [4], imp := [11, 19] }) (h := ?_) | refine nx ?_); try simp (disch := omega) only [g4, lackN,go_sem, simprocAttr]) | (with_reducible refine bk ?_) | ((with_reducible refine' cE ?hv ?_ ?_); (case hv => first | rfl | (simp only [g4, lackN,go_sem, simprocAttr]; rfl)); all_goals (intro hc; (try simp only [go_sem, simprocAttr] at hc); try (exfalso; omega))) | ((with_reducible refine fe ?_); refine ⟨_, (by simp only [Try.f26, g4, lackN,go_sem, simprocAttr]; rfl), ?_⟩; first | rfl | (try simp only [g4, lackN,go_sem, simprocAttr, seval])) | with_reducible intro (ep : Nat → Nat) | with_reducible apply_assumption -exfalso -symm only [*])
 | true =>
  have hF := net_facts hN
  cases hO : openOK n.heads l with
  | false =>
   simp only [hN, hO, Bool.false_eq_true, if_false, if_true] at hop
   repeat' (first | (with_reducible refine sk ?_; intro K hK) | ((first | (with_reducible first | refine rg (md := { base := 0, own := [4], imp := [11, 19] }) (h := ?_) | refine rgS [4] (md := { base := 0, own := [4], imp := [11, 19] }) (h := ?_) | refine nx ?_) | refine pK (hop _) ?_); try simp (disch := omega) only [encNet, cNet,go_sem, simprocAttr]) | (with_reducible refine bk ?_) | ((with_reducible refine' cE ?hv ?_ ?_); (case hv => first | rfl | (simp only [encNet, cNet,go_sem, simprocAttr]; rfl)); all_goals (intro hc; (try simp only [go_sem, simprocAttr] at hc); try (exfalso; omega))) | (first | refine iK (hop _) ?_) | ((with_reducible refine fe ?_); refine ⟨_, (by simp only [Try.f26, encNet, cNet,go_sem, simprocAttr]; rfl), ?_⟩; first | rfl | (try simp only [encNet, cNet,go_sem, simprocAttr, seval])) | with_reducible intro (ep : Nat → Nat) | with_reducible apply_assumption -exfalso -symm only [*])
   rintro v H3 ⟨hlow, rfl⟩
   have g4 := hlow 4 (by decide)
   simp only [go_sem, simprocAttr] at g4
   simp only [go_sem, simprocAttr]
   repeat' (first | (with_reducible refine sk ?_; intro K hK) | ((with_reducible first | refine rg (md := { base := 0, own := [4], imp := [11, 19] }) (h := ?_) | refine rgS [4] (md := { base := 0, own := [4], imp := [11, 19] }) (h := ?_) | refine nx ?_); try simp (disch := omega) only [g4, lackN,go_sem, simprocAttr]) | (with_reducible refine bk ?_) | ((with_reducible refine' cE ?hv ?_ ?_); (case hv => first | rfl | (simp only [g4, lackN,go_sem, simprocAttr]; rfl)); all_goals (intro hc; (try simp only [go_sem, simprocAttr] at hc); try (exfalso; omega))) | ((with_reducible refine fe ?_); refine ⟨_, (by simp only [Try.f26, g4, lackN,go_sem, simprocAttr]; rfl), ?_⟩; first | rfl | (try simp only [g4, lackN,go_sem, simprocAttr, seval])) | with_reducible intro (ep : Nat → Nat) | with_reducible apply_assumption -exfalso -symm only [*])
  | true =>
   simp only [hN, hO, if_true] at hop
   repeat' (first | (with_reducible refine sk ?_; intro K hK) | ((first | (with_reducible first | refine rg (md := { base := 0, own := [4], imp := [11, 19] }) (h := ?_) | refine rgS [4] (md := { base := 0, own := [4], imp := [11, 19] }) (h := ?_) | refine nx ?_) | refine pK (hop _) ?_); try simp (disch := omega) only [encNet, cNet,go_sem, simprocAttr]) | (with_reducible refine bk ?_) | ((with_reducible refine' cE ?hv ?_ ?_); (case hv => first | rfl | (simp only [encNet, cNet,go_sem, simprocAttr]; rfl)); all_goals (intro hc; (try simp only [go_sem, simprocAttr] at hc); try (exfalso; omega))) | (first | refine iK (hop _) ?_) | ((with_reducible refine fe ?_); refine ⟨_, (by simp only [Try.f26, encNet, cNet,go_sem, simprocAttr]; rfl), ?_⟩; first | rfl | (try simp only [encNet, cNet,go_sem, simprocAttr, seval])) | with_reducible intro (ep : Nat → Nat) | with_reducible apply_assumption -exfalso -symm only [*])
   rintro v H3 ⟨hlow, e36, e33, e34, ver, rfl, h36, h33, h34⟩
   have g4 := hlow 4 (by decide)
   simp only [go_sem, simprocAttr] at g4
   simp only [go_sem, simprocAttr]
   repeat' (first | ((fail_if_success (with_reducible refine AW_at (id := 4) ?_)); with_reducible refine sk ?_; intro K hK) | ((with_reducible first | refine rg (md := { base := 0, own := [4], imp := [11, 19] }) (h := ?_) | refine rgS [4] (md := { base := 0, own := [4], imp := [11, 19] }) (h := ?_) | refine nx ?_); try simp (disch := omega) only [h36, h33, h34, g4,go_sem, simprocAttr]) | (with_reducible refine bk ?_) | ((with_reducible refine' cE ?hv ?_ ?_); (case hv => first | rfl | (simp only [h36, h33, h34, g4,go_sem, simprocAttr]; rfl)); all_goals (intro hc; (try simp only [go_sem, simprocAttr] at hc); try (exfalso; omega))) | ((with_reducible refine fe ?_); refine ⟨_, (by simp only [Try.f26, h36, h33, h34, g4,go_sem, simprocAttr]; rfl), ?_⟩; first | rfl | (try simp only [h36, h33, h34, g4,go_sem, simprocAttr, seval])) | with_reducible intro (ep : Nat → Nat) | with_reducible apply_assumption -exfalso -symm only [*])
   refine AW_freeze 436 h36 ?_
   refine AW_keep [4, 433, 434, 436] ?_
   obtain ⟨H4, hH4⟩ : ∃ H4, keep (upd H3 436 (some (e36, .fro 10 [cPlant n (openH n.heads l) e33 e34 (n.pipes.length + 1)]))) [4, 433, 434, 436] = H4 := ⟨_, rfl⟩
   have k36 : H4 436 = some (e36, .fro 10 [cPlant n (openH n.heads l) e33 e34 (n.pipes.length + 1)]) := by rw [← hH4]; rfl
   have k33 : H4 433 = some (e33, .arr 1 (ints (flowL n.pipes (n.pipes.length + 1) (openH n.heads l)))) := by rw [← hH4]; exact h33
   have k34 : H4 434 = some (e34, .map ver []) := by rw [← hH4]; exact h34
   have k4 := (congrFun hH4 4).symm.trans g4
   have kr : ∀ j, 600 ≤ j → H4 j = none := fun j hj => by
    rw [← hH4]; unfold keep; rw [if_neg]; simp; omega
   have k100 : H4 100 = none := by rw [← hH4]; rfl
   rw [hH4]
   clear hH4 h36 h33 h34 g4 hlow hop
   have hgo := getsV_ok n hF _ (openH_500 hF l) (by have := open_le hF.ids hO; have := @openH_len n.heads l; have := hF.heads; omega) (fun h hm => openH_node hF hm) e36 e33 e34 ver H4 k36 k33 k34 kr k100
   repeat' (first | (with_reducible refine sk ?_; intro K hK) | ((first | (with_reducible first | refine rg (md := { base := 0, own := [4], imp := [11, 19] }) (h := ?_) | refine rgS [4] (md := { base := 0, own := [4], imp := [11, 19] }) (h := ?_) | refine nx ?_) | refine pK (hgo) ?_); try simp (disch := omega) only [k36, k4,go_sem, simprocAttr]) | (with_reducible refine bk ?_) | ((with_reducible refine' cE ?hv ?_ ?_); (case hv => first | rfl | (simp only [k36, k4,go_sem, simprocAttr]; rfl)); all_goals (intro hc; (try simp only [go_sem, simprocAttr] at hc); try (exfalso; omega))) | (first | refine iK (hgo) ?_) | with_reducible intro (ep : Nat → Nat) | with_reducible apply_assumption -exfalso -symm only [*])
   rintro v H5 ⟨rfl, hlow⟩
   have g4 := (hlow 4 (by decide)).trans k4
   simp only [go_sem, simprocAttr, lackV, g4]
   repeat' (first | (with_reducible refine sk ?_; intro K hK) | ((with_reducible first | refine rg (md := { base := 0, own := [4], imp := [11, 19] }) (h := ?_) | refine rgS [4] (md := { base := 0, own := [4], imp := [11, 19] }) (h := ?_) | refine nx ?_); try simp (disch := omega) only [g4, lackV,go_sem, simprocAttr]) | (with_reducible refine bk ?_) | ((with_reducible refine' cE ?hv ?_ ?_); (case hv => first | rfl | (simp only [g4, lackV,go_sem, simprocAttr]; rfl)); all_goals (intro hc; (try simp only [go_sem, simprocAttr] at hc); try (exfalso; omega))) | ((with_reducible refine fe ?_); refine ⟨_, (by simp only [Try.f26, g4, lackV,go_sem, simprocAttr]; rfl), ?_⟩; first | rfl | (try simp only [g4, lackV,go_sem, simprocAttr, seval])) | with_reducible intro (ep : Nat → Nat) | with_reducible apply_assumption -exfalso -symm only [*])
theorem Gets_ok (n : NetT) (hs : NetS n) (l : List Int) (hl : l.length ≤ 100000) : PureC Try.prog 26 [encNet n, .lst 1 (ints l)] (getsD (lackV lackZ) n l) := by
 refine (Gets_ok0 n hs l hl).weak ?_ fun G w x h => ?_
 ·unfold getsD; split <;> (try split) <;> (simp only [noid, noids, noidss, lackV_noid, go_sem, simprocAttr]; rfl)
 ·have key : ∀ e, VR G w (.tup [lackN, .int .i64 e]) x → VR G w (.tup [lackV lackZ, .int .i64 e]) x := fun e h => by
   refine VR.tup_imp (vs := [lackN, .int .i64 e]) rfl (fun i v v' h1 h2 y hy => ?_) h
   match i, h1, h2 with
   | 0, h1, h2 => cases h1; cases h2; exact hy.agg3_nils
   | 1, h1, h2 => cases h1; cases h2; exact hy
  unfold getsD at h ⊢
  split
  ·rename_i hN
   rw [if_pos hN] at h
   split
   ·rename_i hO
    rw [if_pos hO] at h
    exact h
   ·rename_i hO
    rw [if_neg hO] at h
    exact key _ h
  ·rename_i hN
   rw [if_neg hN] at h
   exact key _ h
end Cp
namespace Cp
open Go Go.Proofs
set_option maxRecDepth 10000
set_option maxHeartbeats 4000000
end Cp
namespace Cp
open Go
end Cp
namespace Cp
open Go Go.Proofs
set_option maxRecDepth 10000
set_option maxHeartbeats 4000000
end Cp
namespace Cp
open Go
structure Bet (n n' : NetT) : Prop where
 np : n'.pipes.length = n.pipes.length
 pipe : ∀ (i : Nat) (p p' : PipeT), n.pipes[i]? = some p → n'.pipes[i]? = some p' → p'.frm = p.frm ∧ p'.foul.lo ≤ p.foul.lo ∧ p'.foul.hi ≤ p.foul.hi
 nq : n'.pumps.length = n.pumps.length
 pump : ∀ (i : Nat) (p p' : PumpT), n.pumps[i]? = some p → n'.pumps[i]? = some p' → p.full.lo ≤ p'.full.lo ∧ p.full.hi ≤ p'.full.hi ∧ p'.slope ≤ p.slope
 heads : n'.heads = n.heads
 tlo : n.tank.lo ≤ n'.tank.lo
 thi : n.tank.hi ≤ n'.tank.hi
 mins : n'.mins = n.mins
theorem Bet.refl (n : NetT) : Bet n n := ⟨rfl, fun i p p' h1 h2 => by rw [h1] at h2; cases h2; simp, rfl, fun i p p' h1 h2 => by rw [h1] at h2; cases h2; simp, rfl, Int.le_refl _, Int.le_refl _, rfl⟩
theorem Bet.frm {n n' : NetT} (h : Bet n n') (k : Nat) : frmOf n'.pipes k = frmOf n.pipes k := by
 unfold frmOf
 have hl := h.np
 cases h1 : n.pipes[k - 1]? with
 | none =>
  have : n'.pipes[k - 1]? = none := by rw [List.getElem?_eq_none_iff] at h1 ⊢; omega
  rw [this]
 | some p =>
  obtain ⟨p', h2⟩ : ∃ x, n'.pipes[k - 1]? = some x := ⟨_, List.getElem?_eq_getElem (by have := (List.getElem?_eq_some_iff.1 h1).1; omega)⟩
  rw [h2]
  simp only [(h.pipe _ p p' h1 h2).1]
theorem Bet.upN {n n' : NetT} (h : Bet n n') : ∀ (f k : Nat), upN n'.pipes f k = upN n.pipes f k
 | 0, k => rfl
 | f + 1, k => by simp only [Cp.upN, h.frm, h.upN f]
theorem Bet.path {n n' : NetT} (h : Bet n n') (k : Nat) : path n'.pipes k = path n.pipes k := h.upN k k
theorem Bet.via {n n' : NetT} (h : Bet n n') (k j : Nat) : via n'.pipes k j = via n.pipes k j := by unfold Cp.via; rw [h.path]
theorem Bet.flow {n n' : NetT} (h : Bet n n') (j : Nat) : ∀ (l : List HeadT), flowAt n'.pipes j l = flowAt n.pipes j l
 | [] => rfl
 | x :: l => by simp only [flowAt, h.via, h.flow j l]
theorem flow_sub {ps : List PipeT} {j : Nat} : ∀ {M L : List HeadT}, M.Sublist L → heads500 L → flowAt ps j M ≤ flowAt ps j L
 | _, _, .slnil, _ => Int.le_refl _
 | _, _, .cons (l₂ := L) x h, h5 => by
  have h1 := flow_sub (ps := ps) (j := j) h fun y hy => h5 y (by simp [hy])
  have h2 := h5 x (by simp)
  simp only [flowAt]; split <;> omega
 | _, _, .cons_cons x h, h5 => by
  have h1 := flow_sub (ps := ps) (j := j) h fun y hy => h5 y (by simp [hy])
  simp only [flowAt]; omega
theorem needs_sub : ∀ {M L : List HeadT}, M.Sublist L → heads500 L → needs M ≤ needs L
 | _, _, .slnil, _ => Int.le_refl _
 | _, _, .cons (l₂ := L) x h, h5 => by
  have h1 := needs_sub h fun y hy => h5 y (by simp [hy])
  have h2 := h5 x (by simp)
  simp only [needs]; omega
 | _, _, .cons_cons x h, h5 => by
  have h1 := needs_sub h fun y hy => h5 y (by simp [hy])
  simp only [needs]; omega
theorem sub500 {M L : List HeadT} (h : M.Sublist L) (h5 : heads500 L) : heads500 M := fun x hx => h5 x (h.subset hx)
theorem pumpsF_mono {best : Bool} {s s' : Int} (h0 : 0 ≤ s') (hs : s' ≤ s) {out : List Int} : ∀ {l l' : List PumpT} {i : Nat} {a a' : Int}, l'.length = l.length →
  (∀ (j : Nat) (p p' : PumpT), l[j]? = some p → l'[j]? = some p' → p.full.lo ≤ p'.full.lo ∧ p.full.hi ≤ p'.full.hi ∧ p'.slope ≤ p.slope ∧ 0 ≤ p'.slope) → a ≤ a' → pumpsF best s out l i a ≤ pumpsF best s' out l' i a'
 | [], [], _, _, _, _, _, ha => ha
 | p :: l, p' :: l', i, a, a', hl, hp, ha => by
  obtain ⟨h1, h2, h3, h4⟩ := hp 0 p p' rfl rfl
  have e1 : p'.slope * s' ≤ p.slope * s := Int.mul_le_mul h3 hs h0 (by omega)
  have e2 : fullE best p ≤ fullE best p' := by unfold fullE; split <;> assumption
  simp only [pumpsF]
  refine pumpsF_mono h0 hs (by simpa using hl) (fun j q q' hq hq' => hp (j + 1) q q' (by simpa using hq) (by simpa using hq')) ?_
  split <;> omega
theorem loss_mono {n n' : NetT} (h : Bet n n') (hF' : NetF n') {M L : List HeadT} (hs : M.Sublist L) (h5 : heads500 L) (best : Bool) (k : Nat) : lossAt n'.pipes M best k ≤ lossAt n.pipes L best k := by
 unfold lossAt
 have hl := h.np
 rw [h.flow]
 cases h1 : n.pipes[k - 1]? with
 | none =>
  have : n'.pipes[k - 1]? = none := by rw [List.getElem?_eq_none_iff] at h1 ⊢; omega
  rw [this]; exact Int.le_refl _
 | some p =>
  obtain ⟨p', h2⟩ : ∃ x, n'.pipes[k - 1]? = some x := ⟨_, List.getElem?_eq_getElem (by have := (List.getElem?_eq_some_iff.1 h1).1; omega)⟩
  rw [h2]
  obtain ⟨_, h3, h4⟩ := h.pipe _ p p' h1 h2
  have hb := foulE_bnd (hF'.pipe _ p' h2).2.2 best
  have e2 : foulE best p' ≤ foulE best p := by unfold foulE; split <;> assumption
  have f0 := (flowAt_bnd (ps := n.pipes) (j := k) (sub500 hs h5)).1
  have f1 := flow_sub (ps := n.pipes) (j := k) hs h5
  simp only
  refine upD_mono ?_ (by omega)
  refine Int.mul_le_mul (Int.mul_le_mul e2 f1 f0 (by omega)) f1 f0 ?_
  exact Int.mul_nonneg (by omega) (by omega)
theorem lossL_mono {n n' : NetT} (h : Bet n n') (hF' : NetF n') {M L : List HeadT} (hs : M.Sublist L) (h5 : heads500 L) (best : Bool) : ∀ (l : List Nat), lossL n'.pipes M best l ≤ lossL n.pipes L best l
 | [] => Int.le_refl _
 | k :: l => by
  have h1 := loss_mono h hF' hs h5 best k
  have h2 := lossL_mono h hF' hs h5 best l
  simp only [lossL]; omega
theorem press_mono {n n' : NetT} (h : Bet n n') (hF : NetF n) (hF' : NetF n') {M L : List HeadT} (hs : M.Sublist L) (h5 : heads500 L) {out : List Int} (ho : outOK n out = true) (best : Bool) (x : HeadT) : pressS n L out best x ≤ pressS n' M out best x := by
 have hoF := out_facts ho
 have hlo := hF.out
 have n0 := (needs_bnd (sub500 hs h5)).1
 have hn0 : 0 ≤ needs M := by omega
 have hsh : shareS n' (needs M) out ≤ shareS n (needs L) out := by
  unfold shareS
  rw [h.nq]
  exact upD_mono (needs_sub hs h5) (by omega)
 have hs0 : 0 ≤ shareS n' (needs M) out := (upD_bnd hn0 (by rw [h.nq]; omega)).1
 have e1 : pumpsS n L out best ≤ pumpsS n' M out best := by
  unfold pumpsS
  refine pumpsF_mono hs0 hsh h.nq (fun j p p' h1 h2 => ?_) (Int.le_refl _)
  obtain ⟨a, b, c⟩ := h.pump j p p' h1 h2
  exact ⟨a, b, c, (hF'.pump p' (List.mem_of_getElem? h2)).2.1⟩
 have e2 := lossL_mono h hF' hs h5 best (path n.pipes x.node.toNat)
 unfold pressS
 rw [h.path]
 omega
theorem lack_mono {n n' : NetT} (h : Bet n n') (hF : NetF n) (hF' : NetF n') {M L : List HeadT} (hs : M.Sublist L) (h5 : heads500 L) {out : List Int} (ho : outOK n out = true) (best : Bool) (hl : (lackS n L out best).2 = false) : (lackS n' M out best).2 = false := by
 obtain ⟨h1, h2⟩ := lackS_false.1 hl
 refine lackS_false.2 ⟨fun x hx => Int.le_trans (h1 x (hs.subset hx)) (press_mono h hF hF' hs h5 ho best x), ?_⟩
 have e1 : tankH n best ≤ tankH n' best := by unfold tankH; split; exact h.thi; exact h.tlo
 have e2 : needs M * n'.mins ≤ needs L * n.mins := by
  rw [h.mins]
  exact Int.mul_le_mul_of_nonneg_right (needs_sub hs h5) hF.mins.1
 omega
theorem sure_mono {n n' : NetT} (h : Bet n n') (hF : NetF n) (hF' : NetF n') (ho : ∀ o, outOK n' o = true → outOK n o = true) {M L : List HeadT} (hs : M.Sublist L) (h5 : heads500 L) (hk : (getsS n L).known = 2) : (getsS n' M).known = 2 := by
 have g1 := gets_facts hF.out.1 L
 have g2 := gets_facts hF'.out.1 M
 refine Decidable.byContradiction fun hne => ?_
 obtain ⟨q1, q2, _⟩ := g2.bad hne
 have h1 : (lackS n L (getsS n' M).out false).2 = false := (g1.yes hk).2.2 _ (ho _ q1)
 have h2 : (lackS n' M (getsS n' M).out false).2 = true := q2
 rw [lack_mono h hF hF' hs h5 (ho _ q1) false h1] at h2
 cases h2
theorem known_mono {n n' : NetT} (h : Bet n n') (hF : NetF n) (hF' : NetF n') (ho : ∀ o, outOK n' o = outOK n o) {M L : List HeadT} (hs : M.Sublist L) (h5 : heads500 L) : (getsS n L).known ≤ (getsS n' M).known := by
 have g1 := gets_facts hF.out.1 L
 have g2 := gets_facts hF'.out.1 M
 rcases g1.kn with hk | hk | hk
 ·have := g2.kn; omega
 ·obtain ⟨o, q1, q2⟩ := g1.op hk
  have h3 : (lackS n L o true).2 = false := by unfold goodO at q2; simpa using q2
  have h4 := lack_mono h hF hF' hs h5 q1 true h3
  have : ¬ (getsS n' M).known = 0 := fun h0 => by
   have := g2.no h0 o (by rw [ho]; exact q1)
   unfold goodO at this
   rw [h4] at this
   cases this
  have := g2.kn; omega
 ·have := sure_mono h hF hF' (fun o h => by rw [← ho]; exact h) hs h5 hk
  omega
end Cp
namespace Cp
open Go Go.Proofs
set_option maxRecDepth 10000
set_option maxHeartbeats 4000000
theorem bitI_nat (x i : Nat) : bitI (x : Int) i = x.testBit i := by
 unfold bitI
 rw [Nat.testBit_eq_decide_div_mod_eq]
 have e : (x : Int).fdiv (2 ^ i) = ((x / 2 ^ i : Nat) : Int) := by
  have h2 : (2 : Int) ^ i = ((2 ^ i : Nat) : Int) := by simp
  rw [h2, Int.fdiv_eq_ediv_of_nonneg _ (Int.natCast_nonneg _)]; rfl
 rw [e]
 refine dec_congr ?_
 omega
end Cp
namespace Cp
open Go
theorem ids_open {n : NetT} (hF : NetF n) {l : List Int} (h : l.Sublist (n.heads.map (·.id))) : openOK n.heads l = true := by
 refine okL_of (fun a ha => ?_) ?_ (fun c hc => by cases hc)
 ·obtain ⟨x, hx, rfl⟩ := List.mem_map.1 (h.subset ha)
  rw [headAt_of hF.ids hx]; rfl
 ·have : (n.heads.map (·.id)).Pairwise (· < ·) := by rw [List.pairwise_map]; exact hF.ids
  exact this.sublist h
def LstG (k : Nat) (L : List Int) (v : Val) (H : Hp) : Prop := (L = [] ∧ v = .nils) ∨ (¬ L = [] ∧ ∃ ea, v = .gr k ea L.length ∧ H k = some (ea, .arr 1 (ints L)))
theorem LstG.same {k : Nat} {L : List Int} {v : Val} {H H' : Hp} (h : LstG k L v H) (e : H' k = H k) : LstG k L v H' := by
 rcases h with h | ⟨h1, ea, h2, h3⟩
 ·exact .inl h
 ·exact .inr ⟨h1, ea, h2, by rw [e]; exact h3⟩
theorem LstG.snoc {k ea : Nat} {L : List Int} {x : Int} {H : Hp} (h : H k = some (ea, .arr 1 (ints L ++ [[.int .i64 x]]))) : LstG k (L ++ [x]) (.gr k ea (L.length + 1)) H :=
 .inr ⟨by simp, ea, by simp, by rw [h]; simp [ints]⟩
theorem LstG.one {k ea : Nat} {x : Int} {H : Hp} (h : H k = some (ea, .arr 1 [[.int .i64 x]])) : LstG k ([] ++ [x]) (.gr k ea 1) H := LstG.snoc (L := []) h
section
variable {P : Program} {ro : Option Nat} {X : Cx} {Q : Exit → Fr → Hp → Prop} {f : Fr} {H : Hp} {c : Code}
theorem AW_nils (t n : Nat) (hv : f t = .nils) (h : AW P ro X c Q (upd f t (.lst n [])) H) : AW P ro X c Q f H := fun G a w s => by
 refine h G a w ⟨s.tr, s.rel, fun t' => ?_, s.size, s.dfr⟩
 by_cases ht : t' = t
 ·subst ht
  rw [upd_same]
  have := s.fr t'
  rw [hv] at this
  exact this.nils_lst n
 ·rw [upd_ne _ _ ht]; exact s.fr t'
theorem AW_lstG {t k : Nat} {L : List Int} (h : LstG k L (f t) H) (hc : ∀ f' H', f' t = .lst 1 (ints L) → (∀ j, ¬ j = t → f' j = f j) → (∀ j, ¬ j = k → H' j = H j) → AW P ro X c Q f' H') : AW P ro X c Q f H := by
 rcases h with ⟨rfl, h⟩ | ⟨_, ea, h, hk⟩
 ·exact AW_nils t 1 h (hc _ _ (upd_same _ _ _) (fun j hj => upd_ne _ _ hj) fun _ _ => rfl)
 ·refine AW_freeze k hk ?_
  refine AW_retell t 6 ?_
  refine hc _ _ ?_ (fun j hj => upd_ne _ _ hj) fun j hj => upd_ne _ _ hj
  rw [upd_same, h]
  exact thawI rfl (upd_same _ _ _)
end
end Cp
namespace Cp
end Cp
namespace Cp
open Go
theorem fit_map {α : Type} {c : α → List Val} : ∀ {xss : List (List Val)}, (∀ es ∈ xss, ∃ x, es = c x) → ∃ l : List α, xss = l.map c
 | [], _ => ⟨[], rfl⟩
 | es :: xss, h => by
  obtain ⟨x, rfl⟩ := h es (by simp)
  obtain ⟨l, rfl⟩ := fit_map fun es he => h es (List.mem_cons_of_mem _ he)
  exact ⟨x :: l, rfl⟩
theorem fit_slice {T : Tab} {n : Nat} {t e sz : Nat} {vs : List Val} {b b2 s1 : Nat} {z z2 : Val} {p p2 : Bool} {k2 : TK} {α : Type} {c : α → List Val} (ht : T t = some { kind := .slice e, sz := s1, bytes := b, zero := z, plain := p })
  (he : T e = some { kind := k2, sz := sz, bytes := b2, zero := z2, plain := p2 }) (h : Fit T (n + 1) t vs) (hc : ∀ es, Fit T n e es → ∃ x, es = c x) : ∃ l : List α, vs = [.lst sz (l.map c)] := by
 simp only [Fit, ht] at h
 obtain ⟨sz', xss, rfl, hs, _, hx⟩ := h
 rw [he] at hs
 cases hs
 obtain ⟨l, rfl⟩ := fit_map (c := c) fun es hes => hc es (hx es hes).2
 exact ⟨l, rfl⟩
theorem fit_struct {T : Tab} {n : Nat} {t sz : Nat} {vs : List Val} {b : Nat} {z : Val} {p : Bool} {fs : List (Nat × Nat)} (ht : T t = some { kind := .struct fs, sz := sz, bytes := b, zero := z, plain := p }) (h : Fit T (n + 1) t vs) :
  vs.length = sz ∧ ∀ q ∈ fs, ∃ fi, T q.2 = some fi ∧ Fit T n q.2 ((vs.drop q.1).take fi.sz) := by
 simp only [Fit, ht] at h
 exact h
theorem fit_int {T : Tab} {n : Nat} {t : Nat} {vs : List Val} {s b : Nat} {z : Val} {p : Bool} {k : IntKind} (ht : T t = some { kind := .int k, sz := s, bytes := b, zero := z, plain := p }) (h : Fit T (n + 1) t vs) : ∃ m, vs = [.int k m] ∧ (Lit.int k m).wf = true := by
 simp only [Fit, ht] at h
 exact h
theorem fit3 {n : Nat} {vs : List Val} (h : Fit tab (n + 1) 3 vs) : ∃ m, vs = [.int .i64 m] := by
 obtain ⟨m, h, _⟩ := fit_int tab_3 h; exact ⟨m, h⟩
theorem fit_two {n : Nat} {vs : List Val} {t b : Nat} {z : Val} {p : Bool} (ht : tab t = some { kind := .struct [(0, 3), (1, 3)], sz := 2, bytes := b, zero := z, plain := p }) (h : Fit tab (n + 2) t vs) : ∃ x y : Int, vs = [.int .i64 x, .int .i64 y] := by
 obtain ⟨hl, hq⟩ := fit_struct ht h
 match vs, hl with
 | [a, b], _ =>
  obtain ⟨fi, e, h0⟩ := hq (0, 3) (by simp)
  rw [tab_3] at e; cases e
  obtain ⟨fi, e, h1⟩ := hq (1, 3) (by simp)
  rw [tab_3] at e; cases e
  obtain ⟨x, hx⟩ := fit3 h0
  obtain ⟨y, hy⟩ := fit3 h1
  simp at hx hy
  exact ⟨x, y, by rw [hx, hy]⟩
theorem fit_span {n : Nat} {vs : List Val} (h : Fit tab (n + 2) 26 vs) : ∃ s : Span, vs = [.int .i64 s.lo, .int .i64 s.hi] := by
 obtain ⟨x, y, h⟩ := fit_two tab_26 h; exact ⟨⟨x, y⟩, h⟩
theorem fit_map2 {α : Type} {c : α → List Val} {p : α → Prop} : ∀ {xss : List (List Val)}, (∀ es ∈ xss, ∃ x, es = c x ∧ p x) → ∃ l : List α, xss = l.map c ∧ ∀ x ∈ l, p x
 | [], _ => ⟨[], rfl, fun x h => by simp at h⟩
 | es :: xss, h => by
  obtain ⟨x, rfl, hp⟩ := h es (by simp)
  obtain ⟨l, rfl, hl⟩ := fit_map2 fun es he => h es (List.mem_cons_of_mem _ he)
  exact ⟨x :: l, rfl, fun y hy => by rcases List.mem_cons.1 hy with rfl | hy; exact hp; exact hl y hy⟩
theorem fit_pipe {n : Nat} {vs : List Val} (h : Fit tab (n + 3) 89 vs) : ∃ x : PipeT, vs = cPipe x := by
 obtain ⟨hl, hq⟩ := fit_struct tab_89 h
 match vs, hl with
 | [a0, a1, a2, a3], _ =>
  obtain ⟨fi, e0, h0⟩ := hq (0, 3) (by simp)
  rw [tab_3] at e0; cases e0
  obtain ⟨fi, e1, h1⟩ := hq (1, 3) (by simp)
  rw [tab_3] at e1; cases e1
  obtain ⟨fi, e2, h2⟩ := hq (2, 26) (by simp)
  rw [tab_26] at e2; cases e2
  obtain ⟨x0, h0⟩ := fit3 h0
  obtain ⟨x1, h1⟩ := fit3 h1
  obtain ⟨x2, h2⟩ := fit_span h2
  simp at h0 h1 h2
  obtain ⟨h2, h2'⟩ := h2
  exact ⟨⟨x0, x1, x2⟩, by rw [h0, h1, h2, h2']; rfl⟩
theorem fit_head {n : Nat} {vs : List Val} (h : Fit tab (n + 3) 61 vs) : ∃ x : HeadT, vs = cHead x := by
 obtain ⟨hl, hq⟩ := fit_struct tab_61 h
 match vs, hl with
 | [a0, a1, a2, a3, a4, a5, a6, a7], _ =>
  obtain ⟨fi, e0, h0⟩ := hq (0, 3) (by simp)
  rw [tab_3] at e0; cases e0
  obtain ⟨fi, e1, h1⟩ := hq (1, 3) (by simp)
  rw [tab_3] at e1; cases e1
  obtain ⟨fi, e2, h2⟩ := hq (2, 3) (by simp)
  rw [tab_3] at e2; cases e2
  obtain ⟨fi, e3, h3⟩ := hq (3, 3) (by simp)
  rw [tab_3] at e3; cases e3
  obtain ⟨fi, e4, h4⟩ := hq (4, 26) (by simp)
  rw [tab_26] at e4; cases e4
  obtain ⟨fi, e5, h5⟩ := hq (6, 26) (by simp)
  rw [tab_26] at e5; cases e5
  obtain ⟨x0, h0⟩ := fit3 h0
  obtain ⟨x1, h1⟩ := fit3 h1
  obtain ⟨x2, h2⟩ := fit3 h2
  obtain ⟨x3, h3⟩ := fit3 h3
  obtain ⟨x4, h4⟩ := fit_span h4
  obtain ⟨x5, h5⟩ := fit_span h5
  simp at h0 h1 h2 h3 h4 h5
  obtain ⟨h4, h4'⟩ := h4
  obtain ⟨h5, h5'⟩ := h5
  exact ⟨⟨x0, x1, x2, x3, x4, x5⟩, by rw [h0, h1, h2, h3, h4, h4', h5, h5']; rfl⟩
theorem fit_pump {n : Nat} {vs : List Val} (h : Fit tab (n + 3) 94 vs) : ∃ x : PumpT, vs = cPump x := by
 obtain ⟨hl, hq⟩ := fit_struct tab_94 h
 match vs, hl with
 | [a0, a1, a2], _ =>
  obtain ⟨fi, e0, h0⟩ := hq (0, 26) (by simp)
  rw [tab_26] at e0; cases e0
  obtain ⟨fi, e1, h1⟩ := hq (2, 3) (by simp)
  rw [tab_3] at e1; cases e1
  obtain ⟨x0, h0⟩ := fit_span h0
  obtain ⟨x1, h1⟩ := fit3 h1
  simp at h0 h1
  obtain ⟨h0, h0'⟩ := h0
  exact ⟨⟨x0, x1⟩, by rw [h0, h0', h1]; rfl⟩
theorem fit_net {n : Nat} {vs : List Val} (h : Fit tab (n + 5) 28 vs) : ∃ x : NetT, vs = cNet x := by
 obtain ⟨hl, hq⟩ := fit_struct tab_28 h
 match vs, hl with
 | [a0, a1, a2, a3, a4, a5, a6], _ =>
  obtain ⟨fi, e0, h0⟩ := hq (0, 22) (by simp)
  rw [tab_22] at e0; cases e0
  obtain ⟨fi, e1, h1⟩ := hq (1, 23) (by simp)
  rw [tab_23] at e1; cases e1
  obtain ⟨fi, e2, h2⟩ := hq (2, 24) (by simp)
  rw [tab_24] at e2; cases e2
  obtain ⟨fi, e3, h3⟩ := hq (3, 3) (by simp)
  rw [tab_3] at e3; cases e3
  obtain ⟨fi, e4, h4⟩ := hq (4, 26) (by simp)
  rw [tab_26] at e4; cases e4
  obtain ⟨fi, e5, h5⟩ := hq (6, 3) (by simp)
  rw [tab_3] at e5; cases e5
  obtain ⟨x0, h0⟩ := fit_slice tab_22 tab_89 h0 fun es he => fit_pipe he
  obtain ⟨x1, h1⟩ := fit_slice tab_23 tab_61 h1 fun es he => fit_head he
  obtain ⟨x2, h2⟩ := fit_slice tab_24 tab_94 h2 fun es he => fit_pump he
  obtain ⟨x3, h3⟩ := fit3 h3
  obtain ⟨x4, h4⟩ := fit_span h4
  obtain ⟨x5, h5⟩ := fit3 h5
  simp at h0 h1 h2 h3 h4 h5
  obtain ⟨h4, h4'⟩ := h4
  exact ⟨⟨x0, x1, x2, x3, x4, x5⟩, by rw [h0, h1, h2, h3, h4, h4', h5]; rfl⟩
theorem arg_byte {a : Val} (h : FitV tab 8 5 a) : ∃ m, a = .int .u8 m ∧ 0 ≤ m ∧ m ≤ 255 := by
 obtain ⟨ti, cs, e, h, _, rfl⟩ := h
 obtain ⟨m, rfl, hw⟩ := fit_int tab_5 h
 rw [tab_5] at e; cases e
 simp [Lit.wf, IntKind.min, IntKind.max, IntKind.signed, IntKind.bits] at hw
 exact ⟨m, rfl, by omega, by omega⟩
theorem arg_by {a : Val} (h : FitV tab 8 72 a) : ∃ l : List Int, a = .lst 1 (l.map c32) ∧ By l ∧ l.length ≤ maxLen := by
 obtain ⟨ti, cs, e, h, _, rfl⟩ := h
 have hk : ∀ n, Fit tab (n + 1) 72 cs → ∃ sz xss, cs = [.lst sz xss] ∧ (tab 90).map (·.sz) = some sz ∧ xss.length ≤ maxLen ∧ ∀ es ∈ xss, es.length = sz ∧ Fit tab n 90 es := fun n h => by
  simp only [Fit, tab_72] at h; exact h
 obtain ⟨sz, xss, rfl, hs, hln, hx⟩ := hk 7 h
 rw [tab_90] at hs; cases hs
 obtain ⟨l, rfl, hl⟩ := fit_map2 (c := c32) (p := fun m => 0 ≤ m ∧ m ≤ 4294967295) fun es hes => by
  obtain ⟨m, rfl, hw⟩ := fit_int tab_90 (hx es hes).2
  simp [Lit.wf, IntKind.min, IntKind.max, IntKind.signed, IntKind.bits] at hw
  exact ⟨m, rfl, by omega, by omega⟩
 rw [tab_72] at e; cases e; exact ⟨l, rfl, hl, by simpa using hln⟩
theorem arg_net {a : Val} (h : FitV tab 8 28 a) : ∃ x : NetT, a = encNet x := by
 obtain ⟨ti, cs, e, h, _, rfl⟩ := h
 obtain ⟨l, rfl⟩ := fit_net h
 rw [tab_28] at e; cases e; exact ⟨l, rfl⟩
end Cp
namespace Cp
open Go Go.Proofs
set_option maxRecDepth 10000
set_option maxHeartbeats 4000000
end Cp
namespace Cp
open Go Go.Proofs
set_option maxRecDepth 10000
set_option maxHeartbeats 4000000
end Cp
namespace Cp
open Go
def cmpL : List Int → List Int → Int
 | [], [] => 0
 | [], _ :: _ => -1
 | _ :: _, [] => 1
 | a :: l, b :: m => if a < b then -1 else if b < a then 1 else cmpL l m
theorem cmpL_lex : ∀ {a b : List Int}, a.length = b.length → (cmpL a b < 0 ↔ lexB a b)
 | [], [], _ => by simp [cmpL, lexB]
 | a :: l, b :: m, h => by
  have ih := cmpL_lex (a := l) (b := m) (by simpa using h)
  simp only [cmpL, lexB]
  by_cases h1 : a < b
  ·simp [h1]
  ·by_cases h2 : b < a
   ·have : ¬ a = b := by omega
    simp [h1, h2, this]
   ·have : a = b := by omega
    simp [this, ih]
def setF (s : Nat) : List HeadT → Nat → List Int
 | [], _ => []
 | h :: l, i => (if s.testBit i = true then [h.id] else []) ++ setF s l (i + 1)
def setL (hs : List HeadT) (s : Nat) : List Int := setF s hs 0
theorem setF_snoc {s : Nat} : ∀ {l : List HeadT} {i k : Nat} {x : HeadT}, l[k]? = some x → setF s (l.take (k + 1)) i = setF s (l.take k) i ++ (if s.testBit (i + k) = true then [x.id] else [])
 | [], _, _, _, h => by simp at h
 | a :: l, i, 0, x, h => by simp at h; subst h; simp [setF]
 | a :: l, i, k + 1, x, h => by
  have := setF_snoc (s := s) (l := l) (i := i + 1) (k := k) (by simpa using h)
  simp only [List.take_succ_cons, setF, List.append_assoc]
  rw [this, show i + 1 + k = i + (k + 1) by omega]
theorem setF_sub {s : Nat} : ∀ (l : List HeadT) (i : Nat), (setF s l i).Sublist (l.map (·.id))
 | [], _ => by simp [setF]
 | h :: l, i => by
  have := setF_sub (s := s) l (i + 1)
  simp only [setF, List.map_cons]
  split
  ·exact this.cons_cons _
  ·exact this.cons _
theorem setF_all : ∀ (l : List HeadT) (i : Nat) {o : List Int}, o.Sublist (l.map (·.id)) → ∃ s, s < 2 ^ l.length ∧ setF (s * 2 ^ i) l i = o
 | [], i, o, h => by
  simp at h; subst h
  exact ⟨0, by simp, rfl⟩
 | x :: l, i, o, h => by
  have key : ∀ (t c : Nat), c < 2 → setF ((2 * t + c) * 2 ^ i) l (i + 1) = setF (t * 2 ^ (i + 1)) l (i + 1) := fun t c hc => by
   have gen : ∀ (l : List HeadT) (j : Nat), i + 1 ≤ j → setF ((2 * t + c) * 2 ^ i) l j = setF (t * 2 ^ (i + 1)) l j := by
    intro l
    induction l with
    | nil => intro j _; rfl
    | cons y l ih =>
     intro j hj
     simp only [setF]
     rw [ih (j + 1) (by omega)]
     have e1 : ((2 * t + c) * 2 ^ i).testBit j = t.testBit (j - (i + 1)) := by
      rw [Nat.testBit_mul_two_pow]
      have : i ≤ j := by omega
      simp only [this, decide_true, Bool.true_and]
      have h2 : j - i = (j - (i + 1)) + 1 := by omega
      rw [h2, Nat.testBit_succ]
      congr 1; omega
     have e2 : (t * 2 ^ (i + 1)).testBit j = t.testBit (j - (i + 1)) := by
      rw [Nat.testBit_mul_two_pow]
      simp [hj]
     rw [e1, e2]
   exact gen l (i + 1) (Nat.le_refl _)
  have hb : ∀ (t c : Nat), c < 2 → ((2 * t + c) * 2 ^ i).testBit i = decide (c = 1) := fun t c hc => by
   rw [Nat.testBit_mul_two_pow]
   simp only [Nat.le_refl, decide_true, Bool.true_and, Nat.sub_self, Nat.testBit_zero]
   refine dec_congr ?_; omega
  cases h with
  | cons _ h =>
   obtain ⟨t, h1, h2⟩ := setF_all l (i + 1) h
   refine ⟨2 * t + 0, by simp only [List.length_cons, Nat.pow_succ]; omega, ?_⟩
   simp only [setF]
   rw [hb t 0 (by omega), key t 0 (by omega), h2]; rfl
  | cons_cons _ h =>
   obtain ⟨t, h1, h2⟩ := setF_all l (i + 1) h
   refine ⟨2 * t + 1, by simp only [List.length_cons, Nat.pow_succ]; omega, ?_⟩
   simp only [setF]
   rw [hb t 1 (by omega), key t 1 (by omega), h2]; rfl
theorem setL_all {hs : List HeadT} {o : List Int} (h : o.Sublist (hs.map (·.id))) : ∃ s, s < 2 ^ hs.length ∧ setL hs s = o := by
 obtain ⟨s, h1, h2⟩ := setF_all hs 0 h
 exact ⟨s, h1, by simpa [setL] using h2⟩
theorem open_sub {n : NetT} (hF : NetF n) {l : List Int} (h : openOK n.heads l = true) : l.Sublist (n.heads.map (·.id)) := by
 obtain ⟨h1, h2⟩ := okL_none h
 refine sub_of_pair (by rw [List.pairwise_map]; exact hF.ids) h2 fun a ha => ?_
 obtain ⟨x, hx⟩ := Option.isSome_iff_exists.1 (h1 a ha)
 exact List.mem_map.2 ⟨x, (headAt_mem hx).1, (headAt_mem hx).2⟩
def badM (n : NetT) (o : List Int) : Bool := decide (¬ (getsS n (openH n.heads o)).known = 2)
def mostStep (n : NetT) (s : Int × List Int) (o : List Int) : Int × List Int :=
 if (s.1 < (o.length : Int) - 1) ∨ ((o.length : Int) - 1 = s.1 ∧ 0 ≤ cmpL o s.2) then s else if badM n o = true then ((o.length : Int) - 1, o) else s
def mostF (n : NetT) : Nat → Int × List Int
 | 0 => ((n.heads.length : Int), [])
 | k + 1 => mostStep n (mostF n k) (setL n.heads k)
def mostS (n : NetT) : Int × List Int := mostF n (2 ^ n.heads.length)
structure MostF (n : NetT) (s : Int × List Int) : Prop where
 cases : (s.1 = n.heads.length ∧ s.2 = []) ∨ (openOK n.heads s.2 = true ∧ badM n s.2 = true ∧ s.1 = (s.2.length : Int) - 1 ∧ ¬ s.2 = [])
 least : ∀ o, openOK n.heads o = true → badM n o = true → ¬ s.2 = [] ∧ (o = s.2 ∨ befO s.2 o)
theorem bad_nil {n : NetT} (hF : NetF n) : badM n [] = false := by
 unfold badM
 have hg := gets_facts hF.out.1 (openH n.heads [])
 have h0 : (getsS n (openH n.heads [])).known = 2 := by
  refine Decidable.byContradiction fun hne => ?_
  obtain ⟨_, q, _⟩ := hg.bad hne
  have : (lackS n (openH n.heads []) (getsS n (openH n.heads [])).out false).2 = false := lackS_false.2 ⟨fun h hm => by simp [openH] at hm, by
   have : tankH n false = n.tank.lo := rfl
   have := hF.tank
   simp [openH, needs]; omega⟩
  unfold badO at q
  rw [this] at q; cases q
 simp [h0]
theorem lex_trans : ∀ {a b c : List Int}, lexB a b → lexB b c → lexB a c
 | [], b, c, h1, _ => by cases b <;> exact h1.elim
 | a :: l, [], c, h1, _ => h1.elim
 | a :: l, b :: m, [], _, h2 => h2.elim
 | a :: l, b :: m, c :: k, h1, h2 => by
  rcases h1 with h1 | ⟨rfl, h1⟩ <;> rcases h2 with h2 | ⟨rfl, h2⟩
  ·exact .inl (by omega)
  ·exact .inl h1
  ·exact .inl h2
  ·exact .inr ⟨rfl, lex_trans h1 h2⟩
theorem lex_total : ∀ {a b : List Int}, a.length = b.length → a = b ∨ lexB a b ∨ lexB b a
 | [], [], _ => .inl rfl
 | a :: l, b :: m, h => by
  rcases Int.lt_trichotomy a b with h1 | h1 | h1
  ·exact .inr (.inl (.inl h1))
  ·subst h1
   rcases lex_total (a := l) (b := m) (by simpa using h) with h2 | h2 | h2
   ·exact .inl (by rw [h2])
   ·exact .inr (.inl (.inr ⟨rfl, h2⟩))
   ·exact .inr (.inr (.inr ⟨rfl, h2⟩))
  ·exact .inr (.inr (.inl h1))
theorem bef_trans {a b c : List Int} (h1 : befO a b) (h2 : befO b c) : befO a c := by
 rcases h1 with h1 | ⟨e1, h1⟩ <;> rcases h2 with h2 | ⟨e2, h2⟩
 ·exact .inl (by omega)
 ·exact .inl (by omega)
 ·exact .inl (by omega)
 ·exact .inr ⟨by omega, lex_trans h1 h2⟩
theorem setL_open {n : NetT} (hF : NetF n) (s : Nat) : openOK n.heads (setL n.heads s) = true := ids_open hF (setF_sub n.heads 0)
theorem most_inv {n : NetT} (hF : NetF n) : ∀ k, ((mostF n k).1 = n.heads.length ∧ (mostF n k).2 = [] ∧ ∀ j, j < k → badM n (setL n.heads j) = false) ∨
  ((openOK n.heads (mostF n k).2 = true ∧ badM n (mostF n k).2 = true ∧ (mostF n k).1 = ((mostF n k).2.length : Int) - 1 ∧ ¬ (mostF n k).2 = []) ∧ ∀ j, j < k → badM n (setL n.heads j) = true → setL n.heads j = (mostF n k).2 ∨ befO (mostF n k).2 (setL n.heads j))
 | 0 => .inl ⟨rfl, rfl, fun j hj => by omega⟩
 | k + 1 => by
  have ih := most_inv hF k
  have hle : (setL n.heads k).length ≤ n.heads.length := by have := (setF_sub (s := k) n.heads 0).length_le; simpa [setL] using this
  simp only [mostF]
  obtain ⟨o, ho⟩ : ∃ o, setL n.heads k = o := ⟨_, rfl⟩
  obtain ⟨⟨m, l⟩, hs⟩ : ∃ s, mostF n k = s := ⟨_, rfl⟩
  have hoo := setL_open hF k
  rw [hs] at ih
  rw [ho] at hle hoo ⊢
  rw [hs]
  have hne : ∀ o, badM n o = true → ¬ o = [] := fun o hb e => by subst e; rw [bad_nil hF] at hb; cases hb
  simp only [mostStep] at ih ⊢
  rcases ih with ⟨rfl, rfl, h3⟩ | ⟨⟨h1, h2, rfl, h4⟩, h5⟩
  ·rw [if_neg (by omega)]
   cases hb : badM n o with
   | false =>
    refine .inl ⟨rfl, rfl, fun j hj => ?_⟩
    by_cases e : j = k
    ·subst e; rw [ho]; exact hb
    ·exact h3 j (by omega)
   | true =>
    refine .inr ⟨⟨hoo, hb, rfl, hne o hb⟩, fun j hj hbj => ?_⟩
    by_cases e : j = k
    ·subst e; exact .inl ho
    ·rw [h3 j (by omega)] at hbj; cases hbj
  ·split
   ·rename_i hc
    refine .inr ⟨⟨h1, h2, rfl, h4⟩, fun j hj hbj => ?_⟩
    by_cases e : j = k
    ·subst e
     rw [ho]
     rcases hc with hc | ⟨hc1, hc2⟩
     ·exact .inr (.inl (show l.length < o.length by omega))
     ·have hlen : o.length = l.length := by omega
      rcases lex_total hlen with h6 | h6 | h6
      ·exact .inl h6
      ·have := (cmpL_lex hlen).2 h6; omega
      ·exact .inr (.inr ⟨hlen.symm, h6⟩)
    ·exact h5 j (by omega) hbj
   ·rename_i hc
    cases hb : badM n o with
    | false =>
     simp only [Bool.false_eq_true, if_false]
     refine .inr ⟨⟨h1, h2, by simp, h4⟩, fun j hj hbj => ?_⟩
     by_cases e : j = k
     ·subst e; rw [ho, hb] at hbj; cases hbj
     ·exact h5 j (by omega) hbj
    | true =>
     simp only [if_true]
     have hbef : befO o l := by
      simp only [not_or, not_and] at hc
      by_cases hlt : o.length < l.length
      ·exact .inl hlt
      ·have hlen : o.length = l.length := by omega
       exact .inr ⟨hlen, (cmpL_lex hlen).1 (by have := hc.2 (by omega); omega)⟩
     refine .inr ⟨⟨hoo, hb, by simp, hne o hb⟩, fun j hj hbj => ?_⟩
     by_cases e : j = k
     ·subst e; exact .inl ho
     ·rcases h5 j (by omega) hbj with h6 | h6
      ·rw [h6]; exact .inr hbef
      ·exact .inr (bef_trans hbef h6)
theorem most_facts {n : NetT} (hF : NetF n) : MostF n (mostS n) := by
 have h := most_inv hF (2 ^ n.heads.length)
 unfold mostS
 refine ⟨?_, fun o ho hb => ?_⟩
 ·rcases h with ⟨h1, h2, _⟩ | ⟨h1, _⟩
  ·exact .inl ⟨h1, h2⟩
  ·exact .inr h1
 ·obtain ⟨s, h1, h2⟩ := setL_all (open_sub hF ho)
  rcases h with ⟨_, _, h3⟩ | ⟨⟨_, _, _, h4⟩, h5⟩
  ·have := h3 s h1; rw [h2, hb] at this; cases this
  ·refine ⟨h4, ?_⟩
   have := h5 s h1 (by rw [h2]; exact hb)
   rwa [h2] at this
end Cp
namespace Cp
open Go Go.Proofs
set_option maxRecDepth 10000
set_option maxHeartbeats 4000000
theorem cmpL_nil {b : List Int} : cmpL [] b = if b = [] then 0 else -1 := by cases b <;> simp [cmpL]
theorem cmpL_end {a : Int} {l : List Int} : cmpL (a :: l) [] = 1 := rfl
theorem cmpL_ne {a b : Int} {l m : List Int} (h : ¬ a = b) : cmpL (a :: l) (b :: m) = cmpI a b := by
 simp only [cmpL, cmpI]
 split
 ·rfl
 ·split
  ·rfl
  ·omega
theorem cmpL_same {a : Int} {l m : List Int} : cmpL (a :: l) (a :: m) = cmpL l m := by simp [cmpL]
theorem compareL_ok (a b : List Int) (ha : a.length ≤ 100000) : PureC Try.prog 71 [.lst 1 (ints a), .lst 1 (ints b)] (.int .i64 (cmpL a b)) := by
 refine PureC_of (fn := Try.f71) tabOK (by kernel_rfl) rfl (by kernel_rfl) (by simp [Try.f71]) (by simp [noids, noid, noidss, go_sem]) (by first | rfl | simp [noids, noid, noidss, go_sem]) ?_
 intro X hX0 hXs
 repeat' (first | ((fail_if_success (with_reducible refine AW_at (id := 1) ?_)); with_reducible refine sk ?_; intro K hK) | ((with_reducible first | refine rg (h := ?_) | refine nx ?_); try simp (disch := omega) only [go_sem, simprocAttr]) | (with_reducible refine bk ?_) | ((with_reducible refine' cE ?hv ?_ ?_); (case hv => first | rfl | (simp only [go_sem, simprocAttr]; rfl)); all_goals (intro hc; (try simp only [go_sem, simprocAttr] at hc); try (exfalso; omega))) | ((with_reducible refine fe ?_); refine ⟨_, (by simp only [Try.f71, go_sem, simprocAttr]; rfl), ?_⟩; first | rfl | (try simp only [go_sem, simprocAttr, seval])) | with_reducible intro (ep : Nat → Nat) | with_reducible apply_assumption -exfalso -symm only [*])
 have hcut : ∀ f H, f 0 = .lst 1 (ints a) ∧ f 1 = .lst 1 (ints b) ∧ cmpL a b = cmpL [] (b.drop a.length) → K f H := by
  rintro f H ⟨h0, h1, hr⟩
  refine hK f H ?_
  clear hK
  rw [hr]
  by_cases hl : (a.length : Int) < (b.length : Int)
  ·have : cmpL [] (b.drop a.length) = -1 := by
    rw [cmpL_nil, if_neg]
    intro e
    have := congrArg List.length e
    simp at this; omega
   rw [this]
   repeat' (first | (with_reducible refine sk ?_; intro K hK) | ((with_reducible first | refine rg (h := ?_) | refine nx ?_); try simp (disch := omega) only [h0, h1, hl,go_sem, simprocAttr]) | (with_reducible refine bk ?_) | ((with_reducible refine' cE ?hv ?_ ?_); (case hv => first | rfl | (simp only [h0, h1, hl,go_sem, simprocAttr]; rfl)); all_goals (intro hc; (try simp only [go_sem, simprocAttr] at hc); try (exfalso; omega))) | ((with_reducible refine fe ?_); refine ⟨_, (by simp only [Try.f71, h0, h1, hl,go_sem, simprocAttr]; rfl), ?_⟩; first | rfl | (try simp only [h0, h1, hl,go_sem, simprocAttr, seval])) | with_reducible intro (ep : Nat → Nat) | with_reducible apply_assumption -exfalso -symm only [*])
  ·have : cmpL [] (b.drop a.length) = 0 := by
    rw [cmpL_nil, if_pos]
    exact List.drop_eq_nil_of_le (by omega)
   rw [this]
   repeat' (first | (with_reducible refine sk ?_; intro K hK) | ((with_reducible first | refine rg (h := ?_) | refine nx ?_); try simp (disch := omega) only [h0, h1, hl,go_sem, simprocAttr]) | (with_reducible refine bk ?_) | ((with_reducible refine' cE ?hv ?_ ?_); (case hv => first | rfl | (simp only [h0, h1, hl,go_sem, simprocAttr]; rfl)); all_goals (intro hc; (try simp only [go_sem, simprocAttr] at hc); try (exfalso; omega))) | ((with_reducible refine fe ?_); refine ⟨_, (by simp only [Try.f71, h0, h1, hl,go_sem, simprocAttr]; rfl), ?_⟩; first | rfl | (try simp only [h0, h1, hl,go_sem, simprocAttr, seval])) | with_reducible intro (ep : Nat → Nat) | with_reducible apply_assumption -exfalso -symm only [*])
 clear hK
 repeat' (first | (with_reducible refine sk ?_; intro K hK) | ((with_reducible first | refine rg (h := ?_) | refine nx ?_); try simp (disch := omega) only [go_sem, simprocAttr]) | (with_reducible refine bk ?_) | ((with_reducible refine' cE ?hv ?_ ?_); (case hv => first | rfl | (simp only [go_sem, simprocAttr]; rfl)); all_goals (intro hc; (try simp only [go_sem, simprocAttr] at hc); try (exfalso; omega))) | with_reducible intro (ep : Nat → Nat) | with_reducible apply_assumption -exfalso -symm only [*])
 refine AW_range tabOK a.length (fun k f H => (f 0 = .lst 1 (ints a) ∧ f 1 = .lst 1 (ints b) ∧ f 9 = .lst 1 (ints a)) ∧ cmpL a b = cmpL (a.drop k) (b.drop k)) (by omega) (by rw [hXs]; decide) (by decide) (by (first | rfl | (simp only [go_sem, simprocAttr]; done) | (simp only [go_sem, simprocAttr]; rfl))) (by (first | rfl | (simp only [go_sem, simprocAttr]; done) | (simp only [go_sem, simprocAttr]; rfl)))
  ⟨by (and_intros <;> first | rfl | (simp only [go_sem, simprocAttr]; done) | (simp only [go_sem, simprocAttr]; rfl)), by simp⟩ ?_ ?_
 ·clear hcut
  rintro k f H hk h11 h10 ⟨⟨h0, h1, h9⟩, hr⟩
  obtain ⟨x, hx⟩ : ∃ x, a[k]? = some x := ⟨_, List.getElem?_eq_getElem hk⟩
  rw [drop_cons hx] at hr
  by_cases hb : (b.length : Int) ≤ (k : Int)
  ·rw [drop_none (l := b) (by omega), cmpL_end] at hr
   rw [hr]
   repeat' (first | (with_reducible refine sk ?_; intro K hK) | ((with_reducible first | refine rg (h := ?_) | refine nx ?_); try simp (disch := omega) only [h0, h1, h9, h10, h11, hx, hb,go_sem, simprocAttr]) | (with_reducible refine bk ?_) | ((with_reducible refine' cE ?hv ?_ ?_); (case hv => first | rfl | (simp only [h0, h1, h9, h10, h11, hx, hb,go_sem, simprocAttr]; rfl)); all_goals (intro hc; (try simp only [go_sem, simprocAttr] at hc); try (exfalso; omega))) | ((with_reducible refine fe ?_); refine ⟨_, (by simp only [Try.f71, h0, h1, h9, h10, h11, hx, hb,go_sem, simprocAttr]; rfl), ?_⟩; first | rfl | (try simp only [h0, h1, h9, h10, h11, hx, hb,go_sem, simprocAttr, seval])) | with_reducible intro (ep : Nat → Nat) | with_reducible apply_assumption -exfalso -symm only [*])
  ·obtain ⟨y, hy⟩ : ∃ y, b[k]? = some y := ⟨_, List.getElem?_eq_getElem (by omega)⟩
   rw [drop_cons hy] at hr
   have hcm := compare_ok x y
   by_cases hxy : x = y
   ·subst hxy
    rw [cmpL_same] at hr
    have h0' : cmpI x x = 0 := by simp [cmpI]
    rw [h0'] at hcm
    repeat' (first | (with_reducible refine sk ?_; intro K hK) | ((first | (with_reducible first | refine rg (h := ?_) | refine nx ?_) | refine pK (hcm) ?_); try simp (disch := omega) only [h0, h1, h9, h10, h11, hx, hy, hb,go_sem, simprocAttr]) | (with_reducible refine bk ?_) | ((with_reducible refine' cE ?hv ?_ ?_); (case hv => first | rfl | (simp only [h0, h1, h9, h10, h11, hx, hy, hb,go_sem, simprocAttr]; rfl)); all_goals (intro hc; (try simp only [go_sem, simprocAttr] at hc); try (exfalso; omega))) | with_reducible intro (ep : Nat → Nat) | with_reducible apply_assumption -exfalso -symm only [*])
   ·rw [cmpL_ne hxy] at hr
    have hn0 : ¬ cmpI x y = 0 := by unfold cmpI; split <;> (try split) <;> omega
    rw [hr]
    repeat' (first | (with_reducible refine sk ?_; intro K hK) | ((first | (with_reducible first | refine rg (h := ?_) | refine nx ?_) | refine pK (hcm) ?_); try simp (disch := omega) only [h0, h1, h9, h10, h11, hx, hy, hb, hn0,go_sem, simprocAttr]) | (with_reducible refine bk ?_) | ((with_reducible refine' cE ?hv ?_ ?_); (case hv => first | rfl | (simp only [h0, h1, h9, h10, h11, hx, hy, hb, hn0,go_sem, simprocAttr]; rfl)); all_goals (intro hc; (try simp only [go_sem, simprocAttr] at hc); try (exfalso; omega))) | ((with_reducible refine fe ?_); refine ⟨_, (by simp only [Try.f71, h0, h1, h9, h10, h11, hx, hy, hb, hn0,go_sem, simprocAttr]; rfl), ?_⟩; first | rfl | (try simp only [h0, h1, h9, h10, h11, hx, hy, hb, hn0,go_sem, simprocAttr, seval])) | with_reducible intro (ep : Nat → Nat) | with_reducible apply_assumption -exfalso -symm only [*])
 ·rintro f H h11 h10 ⟨⟨h0, h1, h9⟩, hr⟩
  rw [List.drop_length] at hr
  exact hcut _ _ ⟨by (first | rfl | (simp only [h0, go_sem, simprocAttr]; done) | (simp only [h0, go_sem, simprocAttr]; rfl)), by (first | rfl | (simp only [h1, go_sem, simprocAttr]; done) | (simp only [h1, go_sem, simprocAttr]; rfl)), hr⟩
end Cp
namespace Cp
open Go Go.Proofs
set_option maxRecDepth 10000
set_option maxHeartbeats 4000000
def mostD (z1 : Val) (n : NetT) : Val := if netOK n = true then .tup [.int .i64 (mostS n).1, .lst 1 (ints (mostS n).2), .int .i64 0] else .tup [.int .i64 0, z1, .int .i64 50]
theorem and_one64 {a : Int} (h : 0 ≤ a ∧ a ≤ 255) : andI .i64 a 1 = a % 2 := by
 obtain ⟨n, rfl⟩ : ∃ n : Nat, a = n := ⟨a.toNat, by omega⟩
 have hn : n < 256 := by omega
 have : ∀ m : Fin 256, andI .i64 ((m.1 : Nat) : Int) 1 = ((m.1 : Nat) : Int) % 2 := by decide +kernel
 exact this ⟨n, hn⟩
theorem setL_sub {n : NetT} (s : Nat) : (setL n.heads s).Sublist (n.heads.map (·.id)) := setF_sub n.heads 0
theorem mostF_len {n : NetT} (hF : NetF n) (k : Nat) : (mostF n k).2.length ≤ n.heads.length := by
 rcases most_inv hF k with ⟨_, h, _⟩ | ⟨⟨h, _⟩, _⟩
 ·rw [h]; simp
 ·exact open_le hF.ids h
theorem Most_ok0 (n : NetT) (hs : NetS n) : PureC Try.prog 28 [encNet n] (mostD .nils n) := by
 have hnoid : noid (mostD .nils n) = true := by unfold mostD; split <;> (simp only [noid, noids, noidss, go_sem, simprocAttr]; rfl)
 have hck := check_ok n (by have := hs.pipes; omega) (by have := hs.heads; omega) (by have := hs.pumps; omega)
 unfold checkN at hck
 simp only [encNet, cNet] at hck
 refine PureC_of (fn := Try.f28) tabOK (by kernel_rfl) rfl (by kernel_rfl) (by simp [Try.f28]) (by simp [noids, noid, noidss, go_sem, encNet, cNet, hnoid]) (by first | rfl | simp [noids, noid, noidss, go_sem, encNet, cNet, hnoid]) ?_
 intro X hX0 hXs
 unfold mostD
 cases hN : netOK n with
 | false =>
  simp only [hN, Bool.false_eq_true, if_false] at hck
  repeat' (first | (with_reducible refine sk ?_; intro K hK) | ((first | (with_reducible first | refine rg (md := { base := 0, own := [9, 11, 45] }) (h := ?_) | refine rgS [9, 11] (md := { base := 0, own := [9, 11, 45] }) (h := ?_) | refine nx ?_) | refine pK (hck) ?_); try simp (disch := omega) only [encNet, cNet,go_sem, simprocAttr]) | (with_reducible refine bk ?_) | ((with_reducible refine' cE ?hv ?_ ?_); (case hv => first | rfl | (simp only [encNet, cNet,go_sem, simprocAttr]; rfl)); all_goals (intro hc; (try simp only [go_sem, simprocAttr] at hc); try (exfalso; omega))) | ((with_reducible first | refine grdS_split ?_ ?_ | refine lkG_split ?_ ?_) <;> intro hg <;> (try simp (disch := omega) only [hg, encNet, cNet,go_sem, simprocAttr]) <;> (try simp only [go_sem, simprocAttr] at hg) <;> (try (exfalso; omega))) | ((with_reducible refine fe ?_); refine ⟨_, (by simp only [Try.f28, encNet, cNet,go_sem, simprocAttr]; rfl), ?_⟩; first | rfl | (try simp only [encNet, cNet,go_sem, simprocAttr, seval])) | with_reducible intro (ep : Nat → Nat) | with_reducible apply_assumption -exfalso -symm only [*])
 | true =>
  simp only [hN, if_true] at hck
  have hF := net_facts hN
  have hhl := hF.heads
  have hp : 2 ^ n.heads.length ≤ 256 := by
   have : n.heads.length = 1 ∨ n.heads.length = 2 ∨ n.heads.length = 3 ∨ n.heads.length = 4 ∨ n.heads.length = 5 ∨ n.heads.length = 6 ∨ n.heads.length = 7 ∨ n.heads.length = 8 := by omega
   rcases this with h | h | h | h | h | h | h | h <;> rw [h] <;> decide
  have hmin : min n.heads.length 64 = n.heads.length := by omega
  have hpe : (2 : Int) ^ n.heads.length = ((2 ^ n.heads.length : Nat) : Int) := by simp
  have hmS : mostS n = mostF n (2 ^ n.heads.length) := rfl
  obtain ⟨N, hNn⟩ : ∃ N, 2 ^ n.heads.length = N := ⟨_, rfl⟩
  rw [hNn] at hp hpe hmS
  simp only [if_true]
  repeat' (first | ((fail_if_success (with_reducible refine AW_at (id := 5) ?_)); with_reducible refine sk ?_; intro K hK) | ((first | (with_reducible first | refine rg (md := { base := 0, own := [9, 11, 45] }) (h := ?_) | refine rgS [9, 11] (md := { base := 0, own := [9, 11, 45] }) (h := ?_) | refine nx ?_) | refine pK (hck) ?_); try simp (disch := omega) only [encNet, cNet,go_sem, simprocAttr]) | (with_reducible refine bk ?_) | ((with_reducible refine' cE ?hv ?_ ?_); (case hv => first | rfl | (simp only [encNet, cNet,go_sem, simprocAttr]; rfl)); all_goals (intro hc; (try simp only [go_sem, simprocAttr] at hc); try (exfalso; omega))) | ((with_reducible first | refine grdS_split ?_ ?_ | refine lkG_split ?_ ?_) <;> intro hg <;> (try simp (disch := omega) only [hg, encNet, cNet,go_sem, simprocAttr]) <;> (try simp only [go_sem, simprocAttr] at hg) <;> (try (exfalso; omega))) | with_reducible intro (ep : Nat → Nat) | with_reducible apply_assumption -exfalso -symm only [*])
  have hcut : ∀ f H, (f 2 = .int .i64 (mostS n).1 ∧ f 3 = .lst 1 (ints (mostS n).2)) → K f H := by
   rintro f H ⟨h2, h3⟩
   refine hK f H ?_
   clear hK
   repeat' (first | (with_reducible refine sk ?_; intro K hK) | ((with_reducible first | refine rg (md := { base := 0, own := [9, 11, 45] }) (h := ?_) | refine rgS [9, 11] (md := { base := 0, own := [9, 11, 45] }) (h := ?_) | refine nx ?_); try simp (disch := omega) only [h2, h3,go_sem, simprocAttr]) | (with_reducible refine bk ?_) | ((with_reducible refine' cE ?hv ?_ ?_); (case hv => first | rfl | (simp only [h2, h3,go_sem, simprocAttr]; rfl)); all_goals (intro hc; (try simp only [go_sem, simprocAttr] at hc); try (exfalso; omega))) | ((with_reducible first | refine grdS_split ?_ ?_ | refine lkG_split ?_ ?_) <;> intro hg <;> (try simp (disch := omega) only [hg, h2, h3,go_sem, simprocAttr]) <;> (try simp only [go_sem, simprocAttr] at hg) <;> (try (exfalso; omega))) | ((with_reducible refine fe ?_); refine ⟨_, (by simp only [Try.f28, h2, h3,go_sem, simprocAttr]; rfl), ?_⟩; first | rfl | (try simp only [h2, h3,go_sem, simprocAttr, seval])) | with_reducible intro (ep : Nat → Nat) | with_reducible apply_assumption -exfalso -symm only [*])
  clear hK
  have hln : ¬ (n.heads.length : Int) < 0 := by omega
  repeat' (first | (with_reducible refine sk ?_; intro K hK) | ((with_reducible first | refine rg (md := { base := 0, own := [9, 11, 45] }) (h := ?_) | refine rgS [9, 11] (md := { base := 0, own := [9, 11, 45] }) (h := ?_) | refine nx ?_); try simp (disch := omega) only [hmin, hpe, hp, hln, Int.one_mul,go_sem, simprocAttr]) | (with_reducible refine bk ?_) | ((with_reducible refine' cE ?hv ?_ ?_); (case hv => first | rfl | (simp only [hmin, hpe, hp, hln, Int.one_mul,go_sem, simprocAttr]; rfl)); all_goals (intro hc; (try simp only [go_sem, simprocAttr] at hc); try (exfalso; omega))) | ((with_reducible first | refine grdS_split ?_ ?_ | refine lkG_split ?_ ?_) <;> intro hg <;> (try simp (disch := omega) only [hg, hmin, hpe, hp, hln, Int.one_mul,go_sem, simprocAttr]) <;> (try simp only [go_sem, simprocAttr] at hg) <;> (try (exfalso; omega))) | with_reducible intro (ep : Nat → Nat) | with_reducible apply_assumption -exfalso -symm only [*])
  have hm0 : mostF n 0 = ((n.heads.length : Int), []) := rfl
  refine AW_nils 3 1 (by (first | rfl | (simp only [go_sem, simprocAttr]; done) | (simp only [go_sem, simprocAttr]; rfl))) ?_
  refine AW_range tabOK N (fun s f H => f 1 = .pim (cNet n) ∧ f 2 = .int .i64 (mostF n s).1 ∧ f 3 = .lst 1 (ints (mostF n s).2)) (by omega) (by rw [hXs]; decide) (by decide) (by (first | rfl | (simp only [go_sem, simprocAttr]; done) | (simp only [go_sem, simprocAttr]; rfl))) (by (first | rfl | (simp only [go_sem, simprocAttr]; done) | (simp only [go_sem, simprocAttr]; rfl)))
   ⟨by (first | rfl | (simp only [cNet, go_sem, simprocAttr]; done) | (simp only [cNet, go_sem, simprocAttr]; rfl)), by (first | rfl | (simp only [hm0, go_sem, simprocAttr]; done) | (simp only [hm0, go_sem, simprocAttr]; rfl)), by (first | rfl | (simp only [hm0, go_sem, simprocAttr]; done) | (simp only [hm0, go_sem, simprocAttr]; rfl))⟩ ?_ ?_
  ·clear hcut
   rintro s f H hsk h25 h24 ⟨h1, h2, h3⟩
   have hsn : mostF n (s + 1) = mostStep n (mostF n s) (setL n.heads s) := rfl
   have hml := mostF_len hF s
   obtain ⟨⟨m, l⟩, hms⟩ : ∃ x, mostF n s = x := ⟨_, rfl⟩
   rw [hms] at h2 h3 hml hsn
   simp only at h2 h3 hml
   refine AW_keep [] ?_
   repeat' (first | ((fail_if_success (with_reducible refine AW_at (id := 9) ?_)); with_reducible refine sk ?_; intro K hK) | ((with_reducible first | refine rg (md := { base := 0, own := [9, 11, 45] }) (h := ?_) | refine rgS [9, 11] (md := { base := 0, own := [9, 11, 45] }) (h := ?_) | refine nx ?_); try simp (disch := omega) only [h1, h2, h3, h24, h25,go_sem, simprocAttr]) | (with_reducible refine bk ?_) | ((with_reducible refine' cE ?hv ?_ ?_); (case hv => first | rfl | (simp only [h1, h2, h3, h24, h25,go_sem, simprocAttr]; rfl)); all_goals (intro hc; (try simp only [go_sem, simprocAttr] at hc); try (exfalso; omega))) | ((with_reducible first | refine grdS_split ?_ ?_ | refine lkG_split ?_ ?_) <;> intro hg <;> (try simp (disch := omega) only [hg, h1, h2, h3, h24, h25,go_sem, simprocAttr]) <;> (try simp only [go_sem, simprocAttr] at hg) <;> (try (exfalso; omega))) | ((with_reducible refine fe ?_); refine ⟨_, (by simp only [Try.f28, h1, h2, h3, h24, h25,go_sem, simprocAttr]; rfl), ?_⟩; first | rfl | (try simp only [h1, h2, h3, h24, h25,go_sem, simprocAttr, seval])) | with_reducible intro (ep : Nat → Nat) | with_reducible apply_assumption -exfalso -symm only [*])
   have hsl := setL_sub (n := n) s
   have hsll := hsl.length_le
   rw [List.length_map] at hsll
   have hsop := setL_open hF s
   have hcutB : ∀ f H, (f 1 = .pim (cNet n) ∧ f 2 = .int .i64 m ∧ f 3 = .lst 1 (ints l) ∧ f 6 = .int .i64 s ∧ f 24 = .int .i64 N ∧ f 25 = .int .i64 s) ∧ LstG 45 (setL n.heads s) (f 7) H → K f H := by
    rintro f H ⟨⟨h1, h2, h3, h6, h24, h25⟩, g7⟩
    refine hK f H ?_
    clear hK
    refine AW_lstG g7 fun f2 H2 f7 fs Hs => ?_
    have w1 := (fs 1 (by decide)).trans h1
    have w2 := (fs 2 (by decide)).trans h2
    have w3 := (fs 3 (by decide)).trans h3
    have w24 := (fs 24 (by decide)).trans h24
    have w25 := (fs 25 (by decide)).trans h25
    clear fs Hs h1 h2 h3 h6 h24 h25 g7
    refine AW_keep [] ?_
    have hgt := Gets_ok n hs (setL n.heads s) (by omega)
    unfold getsD at hgt
    rw [if_pos hN, if_pos hsop] at hgt
    have hcm := compareL_ok (setL n.heads s) l (by omega)
    have hbe : badM n (setL n.heads s) = decide (¬ (getsS n (openH n.heads (setL n.heads s))).known = 2) := rfl
    have hkn := (gets_facts hF.out.1 (openH n.heads (setL n.heads s))).kn
    obtain ⟨⟨kn, hd, ou⟩, hG⟩ : ∃ G, getsS n (openH n.heads (setL n.heads s)) = G := ⟨_, rfl⟩
    rw [hG] at hgt hbe hkn
    simp only at hkn hbe
    simp only [encNet, cNet, lackV] at hgt
    generalize setL n.heads s = O at *
    simp only [mostStep] at hsn
    have hnil2 : ∀ m' l', mostF n (s + 1) = (m', l') → (mostF n (s + 1)).1 = m' ∧ (mostF n (s + 1)).2 = l' := fun m' l' e => by rw [e]; exact ⟨rfl, rfl⟩
    by_cases c1 : m < (O.length : Int) - 1
    ·rw [if_pos (.inl c1)] at hsn
     obtain ⟨e1, e2⟩ := hnil2 _ _ hsn
     repeat' (first | (with_reducible refine sk ?_; intro K hK) | ((with_reducible first | refine rg (md := { base := 0, own := [9, 11, 45] }) (h := ?_) | refine rgS [9, 11] (md := { base := 0, own := [9, 11, 45] }) (h := ?_) | refine nx ?_); try simp (disch := omega) only [w1, w2, w3, w24, w25, f7, c1, e1, e2, cNet,go_sem, simprocAttr]) | (with_reducible refine bk ?_) | ((with_reducible refine' cE ?hv ?_ ?_); (case hv => first | rfl | (simp only [w1, w2, w3, w24, w25, f7, c1, e1, e2, cNet,go_sem, simprocAttr]; rfl)); all_goals (intro hc; (try simp only [go_sem, simprocAttr] at hc); try (exfalso; omega))) | ((with_reducible first | refine grdS_split ?_ ?_ | refine lkG_split ?_ ?_) <;> intro hg <;> (try simp (disch := omega) only [hg, w1, w2, w3, w24, w25, f7, c1, e1, e2, cNet,go_sem, simprocAttr]) <;> (try simp only [go_sem, simprocAttr] at hg) <;> (try (exfalso; omega))) | with_reducible intro (ep : Nat → Nat) | with_reducible apply_assumption -exfalso -symm only [*])
    ·by_cases c2 : (O.length : Int) - 1 = m
     ·by_cases c3 : 0 ≤ cmpL O l
      ·rw [if_pos (.inr ⟨c2, c3⟩)] at hsn
       obtain ⟨e1, e2⟩ := hnil2 _ _ hsn
       repeat' (first | (with_reducible refine sk ?_; intro K hK) | ((first | (with_reducible first | refine rg (md := { base := 0, own := [9, 11, 45] }) (h := ?_) | refine rgS [9, 11] (md := { base := 0, own := [9, 11, 45] }) (h := ?_) | refine nx ?_) | refine pK (hcm) ?_); try simp (disch := omega) only [w1, w2, w3, w24, w25, f7, c1, c2, c3, e1, e2, cNet,go_sem, simprocAttr]) | (with_reducible refine bk ?_) | ((with_reducible refine' cE ?hv ?_ ?_); (case hv => first | rfl | (simp only [w1, w2, w3, w24, w25, f7, c1, c2, c3, e1, e2, cNet,go_sem, simprocAttr]; rfl)); all_goals (intro hc; (try simp only [go_sem, simprocAttr] at hc); try (exfalso; omega))) | ((with_reducible first | refine grdS_split ?_ ?_ | refine lkG_split ?_ ?_) <;> intro hg <;> (try simp (disch := omega) only [hg, w1, w2, w3, w24, w25, f7, c1, c2, c3, e1, e2, cNet,go_sem, simprocAttr]) <;> (try simp only [go_sem, simprocAttr] at hg) <;> (try (exfalso; omega))) | with_reducible intro (ep : Nat → Nat) | with_reducible apply_assumption -exfalso -symm only [*])
      ·rw [if_neg (fun h => by rcases h with h | h; exact c1 h; exact c3 h.2)] at hsn
       by_cases c4 : kn = 2
       ·rw [hbe, decide_eq_false (fun h => h c4), if_neg (by simp)] at hsn
        obtain ⟨e1, e2⟩ := hnil2 _ _ hsn
        repeat' (first | (with_reducible refine sk ?_; intro K hK) | ((first | (with_reducible first | refine rg (md := { base := 0, own := [9, 11, 45] }) (h := ?_) | refine rgS [9, 11] (md := { base := 0, own := [9, 11, 45] }) (h := ?_) | refine nx ?_) | refine pK (hcm) ?_ | refine pK (hgt) ?_); try simp (disch := omega) only [w1, w2, w3, w24, w25, f7, c1, c2, c3, c4, e1, e2, cNet,go_sem, simprocAttr]) | (with_reducible refine bk ?_) | ((with_reducible refine' cE ?hv ?_ ?_); (case hv => first | rfl | (simp only [w1, w2, w3, w24, w25, f7, c1, c2, c3, c4, e1, e2, cNet,go_sem, simprocAttr]; rfl)); all_goals (intro hc; (try simp only [go_sem, simprocAttr] at hc); try (exfalso; omega))) | ((with_reducible first | refine grdS_split ?_ ?_ | refine lkG_split ?_ ?_) <;> intro hg <;> (try simp (disch := omega) only [hg, w1, w2, w3, w24, w25, f7, c1, c2, c3, c4, e1, e2, cNet,go_sem, simprocAttr]) <;> (try simp only [go_sem, simprocAttr] at hg) <;> (try (exfalso; omega))) | with_reducible intro (ep : Nat → Nat) | with_reducible apply_assumption -exfalso -symm only [*])
       ·rw [hbe, decide_eq_true c4, if_pos rfl] at hsn
        obtain ⟨e1, e2⟩ := hnil2 _ _ hsn
        repeat' (first | (with_reducible refine sk ?_; intro K hK) | ((first | (with_reducible first | refine rg (md := { base := 0, own := [9, 11, 45] }) (h := ?_) | refine rgS [9, 11] (md := { base := 0, own := [9, 11, 45] }) (h := ?_) | refine nx ?_) | refine pK (hcm) ?_ | refine pK (hgt) ?_); try simp (disch := omega) only [w1, w2, w3, w24, w25, f7, c1, c2, c3, c4, e1, e2, cNet,go_sem, simprocAttr]) | (with_reducible refine bk ?_) | ((with_reducible refine' cE ?hv ?_ ?_); (case hv => first | rfl | (simp only [w1, w2, w3, w24, w25, f7, c1, c2, c3, c4, e1, e2, cNet,go_sem, simprocAttr]; rfl)); all_goals (intro hc; (try simp only [go_sem, simprocAttr] at hc); try (exfalso; omega))) | ((with_reducible first | refine grdS_split ?_ ?_ | refine lkG_split ?_ ?_) <;> intro hg <;> (try simp (disch := omega) only [hg, w1, w2, w3, w24, w25, f7, c1, c2, c3, c4, e1, e2, cNet,go_sem, simprocAttr]) <;> (try simp only [go_sem, simprocAttr] at hg) <;> (try (exfalso; omega))) | with_reducible intro (ep : Nat → Nat) | with_reducible apply_assumption -exfalso -symm only [*])
     ·rw [if_neg (fun h => by rcases h with h | h; exact c1 h; exact c2 h.1)] at hsn
      by_cases c4 : kn = 2
      ·rw [hbe, decide_eq_false (fun h => h c4), if_neg (by simp)] at hsn
       obtain ⟨e1, e2⟩ := hnil2 _ _ hsn
       repeat' (first | (with_reducible refine sk ?_; intro K hK) | ((first | (with_reducible first | refine rg (md := { base := 0, own := [9, 11, 45] }) (h := ?_) | refine rgS [9, 11] (md := { base := 0, own := [9, 11, 45] }) (h := ?_) | refine nx ?_) | refine pK (hcm) ?_ | refine pK (hgt) ?_); try simp (disch := omega) only [w1, w2, w3, w24, w25, f7, c1, c2, c4, e1, e2, cNet,go_sem, simprocAttr]) | (with_reducible refine bk ?_) | ((with_reducible refine' cE ?hv ?_ ?_); (case hv => first | rfl | (simp only [w1, w2, w3, w24, w25, f7, c1, c2, c4, e1, e2, cNet,go_sem, simprocAttr]; rfl)); all_goals (intro hc; (try simp only [go_sem, simprocAttr] at hc); try (exfalso; omega))) | ((with_reducible first | refine grdS_split ?_ ?_ | refine lkG_split ?_ ?_) <;> intro hg <;> (try simp (disch := omega) only [hg, w1, w2, w3, w24, w25, f7, c1, c2, c4, e1, e2, cNet,go_sem, simprocAttr]) <;> (try simp only [go_sem, simprocAttr] at hg) <;> (try (exfalso; omega))) | with_reducible intro (ep : Nat → Nat) | with_reducible apply_assumption -exfalso -symm only [*])
      ·rw [hbe, decide_eq_true c4, if_pos rfl] at hsn
       obtain ⟨e1, e2⟩ := hnil2 _ _ hsn
       repeat' (first | (with_reducible refine sk ?_; intro K hK) | ((first | (with_reducible first | refine rg (md := { base := 0, own := [9, 11, 45] }) (h := ?_) | refine rgS [9, 11] (md := { base := 0, own := [9, 11, 45] }) (h := ?_) | refine nx ?_) | refine pK (hcm) ?_ | refine pK (hgt) ?_); try simp (disch := omega) only [w1, w2, w3, w24, w25, f7, c1, c2, c4, e1, e2, cNet,go_sem, simprocAttr]) | (with_reducible refine bk ?_) | ((with_reducible refine' cE ?hv ?_ ?_); (case hv => first | rfl | (simp only [w1, w2, w3, w24, w25, f7, c1, c2, c4, e1, e2, cNet,go_sem, simprocAttr]; rfl)); all_goals (intro hc; (try simp only [go_sem, simprocAttr] at hc); try (exfalso; omega))) | ((with_reducible first | refine grdS_split ?_ ?_ | refine lkG_split ?_ ?_) <;> intro hg <;> (try simp (disch := omega) only [hg, w1, w2, w3, w24, w25, f7, c1, c2, c4, e1, e2, cNet,go_sem, simprocAttr]) <;> (try simp only [go_sem, simprocAttr] at hg) <;> (try (exfalso; omega))) | with_reducible intro (ep : Nat → Nat) | with_reducible apply_assumption -exfalso -symm only [*])
   clear hK
   repeat' (first | (with_reducible refine sk ?_; intro K hK) | ((with_reducible first | refine rg (md := { base := 0, own := [9, 11, 45] }) (h := ?_) | refine rgS [9, 11] (md := { base := 0, own := [9, 11, 45] }) (h := ?_) | refine nx ?_); try simp (disch := omega) only [h1, h2, h3, h24, h25, cNet,go_sem, simprocAttr]) | (with_reducible refine bk ?_) | ((with_reducible refine' cE ?hv ?_ ?_); (case hv => first | rfl | (simp only [h1, h2, h3, h24, h25, cNet,go_sem, simprocAttr]; rfl)); all_goals (intro hc; (try simp only [go_sem, simprocAttr] at hc); try (exfalso; omega))) | ((with_reducible first | refine grdS_split ?_ ?_ | refine lkG_split ?_ ?_) <;> intro hg <;> (try simp (disch := omega) only [hg, h1, h2, h3, h24, h25, cNet,go_sem, simprocAttr]) <;> (try simp only [go_sem, simprocAttr] at hg) <;> (try (exfalso; omega))) | with_reducible intro (ep : Nat → Nat) | with_reducible apply_assumption -exfalso -symm only [*])
   refine AW_range tabOK n.heads.length (fun k f H => (f 1 = .pim (cNet n) ∧ f 2 = .int .i64 m ∧ f 3 = .lst 1 (ints l) ∧ f 6 = .int .i64 s ∧ f 24 = .int .i64 N ∧ f 25 = .int .i64 s ∧ f 29 = .lst 8 (n.heads.map cHead)) ∧ LstG 45 (setF s (n.heads.take k) 0) (f 7) H) (by omega) (by rw [hXs]; decide) (by decide) (by (first | rfl | (simp only [go_sem, simprocAttr]; done) | (simp only [go_sem, simprocAttr]; rfl))) (by (first | rfl | (simp only [h1, cNet, go_sem, simprocAttr]; done) | (simp only [h1, cNet, go_sem, simprocAttr]; rfl)))
    ⟨by (and_intros <;> first | rfl | (simp only [h1, h2, h3, h24, h25, cNet, go_sem, simprocAttr]; done) | (simp only [h1, h2, h3, h24, h25, cNet, go_sem, simprocAttr]; rfl)), .inl ⟨rfl, rfl⟩⟩ ?_ ?_
   ·clear hcutB h1 h2 h3 h24 h25
    rintro k f H hk h31 h30 ⟨⟨h1, h2, h3, h6, h24, h25, h29⟩, g7⟩
    obtain ⟨x, hx⟩ : ∃ x, n.heads[k]? = some x := ⟨_, List.getElem?_eq_getElem hk⟩
    have hss := setF_snoc (s := s) (i := 0) hx
    rw [Nat.zero_add] at hss
    have hsb := bitI_nat s k
    have hfd : 0 ≤ (s : Int).fdiv (2 ^ k) ∧ (s : Int).fdiv (2 ^ k) ≤ 255 := by
     have hp : (1 : Int) ≤ 2 ^ k := by have := Int.pow_pos (n := 2) (m := k) (by omega); omega
     rw [Int.fdiv_eq_ediv_of_nonneg _ (by omega)]
     exact ⟨Int.ediv_nonneg (by omega) (by omega), Int.le_trans (Int.ediv_le_self _ (by omega)) (by omega)⟩
    have hand := and_one64 hfd
    have hmk : min k 64 = k := by omega
    have hnn : ¬ (k : Int) < 0 := by omega
    have hol : (setF s (n.heads.take k) 0).length ≤ 100000 := by
     have h1 := (setF_sub (s := s) (n.heads.take k) 0).length_le
     simp only [List.length_map, List.length_take] at h1; omega
    generalize setF s (n.heads.take k) 0 = ok at *
    have hxc : cHead x = [.int .i64 x.id, .int .i64 x.node, .int .i64 x.need, .int .i64 x.least, .int .i64 x.bulb.lo, .int .i64 x.bulb.hi, .int .i64 x.slow.lo, .int .i64 x.slow.hi] := rfl
    refine AW_keep [45] ?_
    have k9 : keep H [45] 9 = none := rfl
    have k7 : LstG 45 ok (f 7) (keep H [45]) := g7.same rfl
    generalize keep H [45] = H2 at k9 k7 ⊢
    clear g7
    cases hbt : s.testBit k with
    | true =>
     rw [hbt] at hss hsb
     have hb1 : (s : Int).fdiv (2 ^ k) % 2 = 1 := by simpa [bitI] using hsb
     rw [hb1] at hand
     simp only [if_true] at hss
     rcases k7 with ⟨rfl, h7⟩ | ⟨hne, ea, h7, k45⟩
     ·refine AW_lose 45 fun H3 g45 hs3 => ?_
      have q9 := (hs3 9 (by decide)).trans k9
      clear hs3 k9
      repeat' (first | (with_reducible refine sk ?_; intro K hK) | ((with_reducible first | refine rg (md := { base := 0, own := [9, 11, 45] }) (h := ?_) | refine rgS [9, 11] (md := { base := 0, own := [9, 11, 45] }) (h := ?_) | refine nx ?_); try simp (disch := omega) only [h1, h2, h3, h6, h7, h24, h25, h29, h30, h31, q9, g45, hx, hmk, hnn, hand, hxc,go_sem, simprocAttr]) | (with_reducible refine bk ?_) | ((with_reducible refine' cE ?hv ?_ ?_); (case hv => first | rfl | (simp only [h1, h2, h3, h6, h7, h24, h25, h29, h30, h31, q9, g45, hx, hmk, hnn, hand, hxc,go_sem, simprocAttr]; rfl)); all_goals (intro hc; (try simp only [go_sem, simprocAttr] at hc); try (exfalso; omega))) | ((with_reducible first | refine grdS_split ?_ ?_ | refine lkG_split ?_ ?_) <;> intro hg <;> (try simp (disch := omega) only [hg, h1, h2, h3, h6, h7, h24, h25, h29, h30, h31, q9, g45, hx, hmk, hnn, hand, hxc,go_sem, simprocAttr]) <;> (try simp only [go_sem, simprocAttr] at hg) <;> (try (exfalso; omega))) | with_reducible intro (ep : Nat → Nat) | with_reducible apply_assumption -exfalso -symm only [*])
      rw [hss]; exact .one (by (first | rfl | (simp only [go_sem, simprocAttr]; done) | (simp only [go_sem, simprocAttr]; rfl)))
     ·have hkb : ok.length ≤ 1073741823 := by omega
      repeat' (first | (with_reducible refine sk ?_; intro K hK) | ((with_reducible first | refine rg (md := { base := 0, own := [9, 11, 45] }) (h := ?_) | refine rgS [9, 11] (md := { base := 0, own := [9, 11, 45] }) (h := ?_) | refine nx ?_); try simp (disch := omega) only [h1, h2, h3, h6, h7, h24, h25, h29, h30, h31, k9, k45, hx, hmk, hnn, hand, hkb, hxc,go_sem, simprocAttr]) | (with_reducible refine bk ?_) | ((with_reducible refine' cE ?hv ?_ ?_); (case hv => first | rfl | (simp only [h1, h2, h3, h6, h7, h24, h25, h29, h30, h31, k9, k45, hx, hmk, hnn, hand, hkb, hxc,go_sem, simprocAttr]; rfl)); all_goals (intro hc; (try simp only [go_sem, simprocAttr] at hc); try (exfalso; omega))) | ((with_reducible first | refine grdS_split ?_ ?_ | refine lkG_split ?_ ?_) <;> intro hg <;> (try simp (disch := omega) only [hg, h1, h2, h3, h6, h7, h24, h25, h29, h30, h31, k9, k45, hx, hmk, hnn, hand, hkb, hxc,go_sem, simprocAttr]) <;> (try simp only [go_sem, simprocAttr] at hg) <;> (try (exfalso; omega))) | with_reducible intro (ep : Nat → Nat) | with_reducible apply_assumption -exfalso -symm only [*])
      rw [hss]; exact .snoc (by (first | rfl | (simp only [go_sem, simprocAttr]; done) | (simp only [go_sem, simprocAttr]; rfl)))
    | false =>
     rw [hbt] at hss hsb
     have hb0 : ¬ (s : Int).fdiv (2 ^ k) % 2 = 1 := by simpa [bitI] using hsb
     have hb1 : (s : Int).fdiv (2 ^ k) % 2 = 0 := by omega
     rw [hb1] at hand
     simp only [Bool.false_eq_true, if_false, List.append_nil] at hss
     repeat' (first | (with_reducible refine sk ?_; intro K hK) | ((with_reducible first | refine rg (md := { base := 0, own := [9, 11, 45] }) (h := ?_) | refine rgS [9, 11] (md := { base := 0, own := [9, 11, 45] }) (h := ?_) | refine nx ?_); try simp (disch := omega) only [h1, h2, h3, h6, h24, h25, h29, h30, h31, k9, hx, hmk, hnn, hand, hxc,go_sem, simprocAttr]) | (with_reducible refine bk ?_) | ((with_reducible refine' cE ?hv ?_ ?_); (case hv => first | rfl | (simp only [h1, h2, h3, h6, h24, h25, h29, h30, h31, k9, hx, hmk, hnn, hand, hxc,go_sem, simprocAttr]; rfl)); all_goals (intro hc; (try simp only [go_sem, simprocAttr] at hc); try (exfalso; omega))) | ((with_reducible first | refine grdS_split ?_ ?_ | refine lkG_split ?_ ?_) <;> intro hg <;> (try simp (disch := omega) only [hg, h1, h2, h3, h6, h24, h25, h29, h30, h31, k9, hx, hmk, hnn, hand, hxc,go_sem, simprocAttr]) <;> (try simp only [go_sem, simprocAttr] at hg) <;> (try (exfalso; omega))) | with_reducible intro (ep : Nat → Nat) | with_reducible apply_assumption -exfalso -symm only [*])
     rw [hss]; exact k7.same (by (first | rfl | (simp only [go_sem, simprocAttr]; done) | (simp only [go_sem, simprocAttr]; rfl)))
   ·rintro f H h31 h30 ⟨⟨h1, h2, h3, h6, h24, h25, h29⟩, g7⟩
    rw [List.take_length] at g7
    exact hcutB _ _ ⟨by (and_intros <;> first | rfl | (simp only [h1, h2, h3, h6, h24, h25, go_sem, simprocAttr]; done) | (simp only [h1, h2, h3, h6, h24, h25, go_sem, simprocAttr]; rfl)), by exact g7⟩
  ·rintro f H h25 h24 ⟨h1, h2, h3⟩
   exact hcut _ _ ⟨by rw [hmS]; (first | rfl | (simp only [h2, go_sem, simprocAttr]; done) | (simp only [h2, go_sem, simprocAttr]; rfl)), by rw [hmS]; (first | rfl | (simp only [h3, go_sem, simprocAttr]; done) | (simp only [h3, go_sem, simprocAttr]; rfl))⟩
end Cp
namespace Cp
open Go Go.Proofs
set_option maxRecDepth 10000
set_option maxHeartbeats 4000000
theorem Most_ok (n : NetT) (hs : NetS n) : PureC Try.prog 28 [encNet n] (mostD (.lst 1 []) n) := by
 refine (Most_ok0 n hs).weak ?_ fun G w x h => ?_
 ·unfold mostD; split <;> (simp only [noid, noids, noidss, go_sem, simprocAttr]; rfl)
 ·unfold mostD at h ⊢
  split
  ·rename_i hN
   rw [if_pos hN] at h
   exact h
  ·rename_i hN
   rw [if_neg hN] at h
   refine VR.tup_imp (vs := [.int .i64 0, .nils, .int .i64 50]) rfl (fun i v v' h1 h2 y hy => ?_) h
   match i, h1, h2 with
   | 0, h1, h2 => cases h1; cases h2; exact hy
   | 1, h1, h2 => cases h1; cases h2; exact hy.nils_lst 1
   | 2, h1, h2 => cases h1; cases h2; exact hy
end Cp
namespace Cp
open Go
theorem pipesFrom_of : ∀ {l : List PipeT} {i : Int}, (∀ (j : Nat) (p : PipeT), l[j]? = some p → pipeOK (i + j) p = true) → pipesFrom i l = true
 | [], _, _ => rfl
 | p :: l, i, h => by
  simp only [pipesFrom, Bool.and_eq_true]
  refine ⟨by simpa using h 0 p rfl, pipesFrom_of fun j q hq => ?_⟩
  have := h (j + 1) q (by simpa using hq)
  have e : i + 1 + (j : Int) = i + ((j + 1 : Nat) : Int) := by omega
  rwa [e]
theorem headsFrom_of {nodes : Int} : ∀ {l : List HeadT} {last : Int}, (∀ h ∈ l, last < h.id ∧ madeOK h nodes = true) → (l.Pairwise fun a b => a.id < b.id) → headsFrom nodes last l = true
 | [], _, _, _ => rfl
 | x :: l, last, h, hp => by
  obtain ⟨h1, h2⟩ := List.pairwise_cons.1 hp
  simp only [headsFrom, Bool.and_eq_true, decide_eq_true_eq]
  exact ⟨h x (by simp), headsFrom_of (fun y hy => ⟨h1 y hy, (h y (by simp [hy])).2⟩) h2⟩
theorem netOK_of {n : NetT} (h : NetF n) : netOK n = true := by
 simp only [netOK, sizesOK, Bool.and_eq_true, decide_eq_true_eq]
 refine ⟨⟨⟨⟨h.pipes, h.heads, h.pumps, h.out, h.tank, h.mins⟩, pipesFrom_of fun j p hp => ?_⟩, headsFrom_of (fun x hx => ?_) h.ids⟩, List.all_eq_true.2 fun p hp => ?_⟩
 ·have := h.pipe j p hp
  simpa [pipeOK] using this
 ·have := h.head x hx
  refine ⟨by omega, ?_⟩
  simp only [madeOK, bulbOK, Bool.and_eq_true, decide_eq_true_eq]
  exact ⟨this.2, this.1⟩
 ·have := h.pump p hp
  simpa [pumpOK] using this
structure BetP (p p' : PipeT) : Prop where
 frm : p'.frm = p.frm
 to : p'.to = p.to
 foul : 0 ≤ p'.foul.lo ∧ p'.foul.lo ≤ p.foul.lo ∧ p'.foul.lo ≤ p'.foul.hi ∧ p'.foul.hi ≤ p.foul.hi
structure BetQ (p p' : PumpT) : Prop where
 full : p.full.lo ≤ p'.full.lo ∧ p'.full.lo ≤ p'.full.hi ∧ p.full.hi ≤ p'.full.hi ∧ p'.full.hi ≤ 100000
 slope : 0 ≤ p'.slope ∧ p'.slope ≤ p.slope
theorem bet_net {n : NetT} (hF : NetF n) {S : List PipeT} {T : List PumpT} {o th : Int} (hS : S.length = n.pipes.length) (hT : T.length = n.pumps.length)
  (hp : ∀ (i : Nat) (p p' : PipeT), n.pipes[i]? = some p → S[i]? = some p' → BetP p p') (hq : ∀ (i : Nat) (p p' : PumpT), n.pumps[i]? = some p → T[i]? = some p' → BetQ p p')
  (ho : 0 ≤ o ∧ o ≤ n.out) (ht : n.tank.hi ≤ th ∧ th ≤ 1000000) : NetF ⟨S, n.heads, T, o, ⟨n.tank.lo, th⟩, n.mins⟩ ∧ Bet n ⟨S, n.heads, T, o, ⟨n.tank.lo, th⟩, n.mins⟩ := by
 have h1 := hF.pipes
 have h2 := hF.pumps
 have h3 := hF.out
 have h4 := hF.tank
 refine ⟨⟨by simp only; omega, hF.heads, by simp only; omega, by simp only; omega, by simp only; omega, hF.mins, fun i p' hi => ?_, fun x hx => ?_, hF.ids, fun p' hm => ?_⟩, ⟨hS, fun i p p' a b => ?_, hT, fun i p p' a b => ?_, rfl, Int.le_refl _, ht.1, rfl⟩⟩
 ·have hlt := (List.getElem?_eq_some_iff.1 hi).1
  simp only at hlt hi
  obtain ⟨p, hpp⟩ : ∃ x, n.pipes[i]? = some x := ⟨_, List.getElem?_eq_getElem (by omega)⟩
  have hb := hp i p p' hpp hi
  have := hF.pipe i p hpp
  have e1 := hb.frm
  have e2 := hb.to
  have e3 := hb.foul
  omega
 ·have := hF.head x hx
  simp only at hx ⊢
  rw [hS]
  exact this
 ·simp only at hm
  obtain ⟨i, hi⟩ := List.mem_iff_getElem?.1 hm
  have hlt := (List.getElem?_eq_some_iff.1 hi).1
  obtain ⟨p, hpp⟩ : ∃ x, n.pumps[i]? = some x := ⟨_, List.getElem?_eq_getElem (by omega)⟩
  have hb := hq i p p' hpp hi
  have := hF.pump p (List.mem_of_getElem? hpp)
  have e1 := hb.full
  have e2 := hb.slope
  omega
 ·have hb := hp i p p' a b
  exact ⟨hb.frm, hb.foul.2.1, hb.foul.2.2.2⟩
 ·have hb := hq i p p' a b
  exact ⟨hb.full.1, hb.full.2.2.1, hb.slope.2⟩
theorem bet_out {n n' : NetT} (h : Bet n n') (ho : n'.out ≤ n.out) {o : List Int} (hk : outOK n' o = true) : outOK n o = true := by
 have e : isPump n' = isPump n := by funext i; unfold isPump; rw [h.nq]
 unfold outOK at hk ⊢
 rw [e, Bool.and_eq_true] at hk
 rw [hk.1]
 have := hk.2
 simp only [decide_eq_true_eq] at this
 simp only [Bool.true_and, decide_eq_true_eq]; omega
theorem bet_outE {n n' : NetT} (h : Bet n n') (ho : n'.out = n.out) (o : List Int) : outOK n' o = outOK n o := by
 have e : isPump n' = isPump n := by funext i; unfold isPump; rw [h.nq]
 unfold outOK
 rw [e, ho]
theorem most_mono {n n' : NetT} (h : Bet n n') (hF : NetF n) (hF' : NetF n') (ho : n'.out ≤ n.out) : (mostS n).1 ≤ (mostS n').1 := by
 have m1 := most_facts hF
 have m2 := most_facts hF'
 obtain ⟨⟨m, l⟩, e1⟩ : ∃ s, mostS n = s := ⟨_, rfl⟩
 obtain ⟨⟨m', l'⟩, e2⟩ : ∃ s, mostS n' = s := ⟨_, rfl⟩
 rw [e1] at m1 ⊢
 rw [e2] at m2 ⊢
 rcases m2.cases with ⟨h1, h2⟩ | ⟨h1, h2, h3, h4⟩
 ·simp only at h1 h2 ⊢
  rw [h.heads] at h1
  rcases m1.cases with ⟨q1, q2⟩ | ⟨q1, q2, q3, q4⟩
  ·simp only at q1; omega
  ·simp only at q1 q3
   have := open_le hF.ids q1
   omega
 ·simp only at h1 h2 h3 h4 ⊢
  rw [h.heads] at h1
  have hb : badM n l' = true := by
   unfold badM at h2 ⊢
   rw [decide_eq_true_eq] at h2 ⊢
   intro hk
   rw [h.heads] at h2
   exact h2 (sure_mono h hF hF' (fun o => bet_out h ho) (List.Sublist.refl _) (openH_500 hF l') hk)
  obtain ⟨q1, q2⟩ := m1.least l' h1 hb
  simp only at q1 q2
  rcases m1.cases with ⟨r1, r2⟩ | ⟨r1, r2, r3, r4⟩
  ·exact (q1 r2).elim
  ·simp only at r3
   have hle : l.length ≤ l'.length := by
    rcases q2 with rfl | h | ⟨h, _⟩
    ·omega
    ·omega
    ·omega
   omega
end Cp
namespace Cp
open Go Go.Proofs
set_option maxRecDepth 10000
set_option maxHeartbeats 4000000
theorem fzG_arr {H : Hp} {n k e e' m sz : Nat} {xss : List (List Val)} : fzG H n k e m (some (e', .arr sz xss)) = .gr k e m := rfl
theorem thawP {k ea m n : Nat} {S : List PipeT} {H2 : Hp} (hl : S.length = m) (h : H2 k = some (ea, .fro 4 (S.map cPipe))) : fzd H2 (n + 2) (.gr k ea m) = .lst 4 (S.map cPipe) := by
 simp only [fzd, h, List.length_map, hl, and_self, if_true]
 exact congrArg _ fzd_cPipe
theorem thawQ {k ea m n : Nat} {S : List PumpT} {H2 : Hp} (hl : S.length = m) (h : H2 k = some (ea, .fro 3 (S.map cPump))) : fzd H2 (n + 2) (.gr k ea m) = .lst 3 (S.map cPump) := by
 simp only [fzd, h, List.length_map, hl, and_self, if_true]
 exact congrArg _ fzd_cPump
theorem twinA_ok (n : NetT) (hF : NetF n) (H0 : Hp) : ACall Try.prog 16 [encNet n] H0 (fun v H' => (∀ j, j < 600 → H' j = H0 j) ∧
  ∃ e6 e16, v = .agg [.gr 606 e6 n.pipes.length, .lst 8 (n.heads.map cHead), .gr 616 e16 n.pumps.length, .int .i64 n.out, .int .i64 n.tank.lo, .int .i64 n.tank.hi, .int .i64 n.mins] ∧ H' 606 = some (e6, .arr 4 (n.pipes.map cPipe)) ∧ H' 616 = some (e16, .arr 3 (n.pumps.map cPump))) := by
 refine ACall_of (fn := Try.f16) tabOK (by kernel_rfl) rfl (by kernel_rfl) (by simp [Try.f16]) ?_
 intro X hX0 hXs
 refine AW_cut 600 fun H1 hlow hnone => ?_
 have g1 := hnone 601 (by decide)
 have g2 := hnone 602 (by decide)
 have g6 := hnone 606 (by decide)
 have g16 := hnone 616 (by decide)
 have h1 := hF.pipes
 have h2 := hF.heads
 have h3 := hF.pumps
 have hp0 : ¬ n.pipes.length = 0 := by omega
 have hp1 : ¬ n.heads.length = 0 := by omega
 have hp2 : ¬ n.pumps.length = 0 := by omega
 have hq0 : n.pipes.length ≤ 1073741824 := by omega
 have hq1 : n.heads.length ≤ 1073741824 := by omega
 have hq2 : n.pumps.length ≤ 1073741824 := by omega
 repeat' (first | (with_reducible refine sk ?_; intro K hK) | ((with_reducible first | refine rg (md := { base := 600, own := [1, 2, 6, 16] }) (h := ?_) | refine rgS [2] (md := { base := 600, own := [1, 2, 6, 16] }) (h := ?_) | refine nx ?_); try simp (disch := omega) only [encNet, cNet, hp0, hp1, hp2, hq0, hq1, hq2, g1, g2, g6, g16,go_sem, simprocAttr]) | (with_reducible refine bk ?_) | ((with_reducible refine' cE ?hv ?_ ?_); (case hv => first | rfl | (simp only [encNet, cNet, hp0, hp1, hp2, hq0, hq1, hq2, g1, g2, g6, g16,go_sem, simprocAttr]; rfl)); all_goals (intro hc; (try simp only [go_sem, simprocAttr] at hc); try (exfalso; omega))) | with_reducible intro (ep : Nat → Nat) | with_reducible apply_assumption -exfalso -symm only [*])
 refine FnQ_end (Or.inl rfl) (.refl _) (by simp only [Try.f16, go_sem, simprocAttr]; rfl) ?_
 refine ⟨fun j hj => ?_, _, _, by simp only [go_sem, simprocAttr]; rfl, by (first | rfl | (simp only [go_sem, simprocAttr]; done) | (simp only [go_sem, simprocAttr]; rfl)), by (first | rfl | (simp only [go_sem, simprocAttr]; done) | (simp only [go_sem, simprocAttr]; rfl))⟩
 (repeat rw [upd_ne _ _ (by omega)]); exact hlow j hj
end Cp
namespace Cp
open Go Go.Proofs
set_option maxRecDepth 10000
set_option maxHeartbeats 4000000
theorem set_get {α : Type} {l : List α} {k : Nat} {x y : α} (h : l[k]? = some x) : (l.set k y)[k]? = some y := List.getElem?_set_self (List.getElem?_eq_some_iff.1 h).1
def goodC (n : NetT) (e6 e16 : Nat) : List Val := [.gr 606 e6 n.pipes.length, .lst 8 (n.heads.map cHead), .gr 616 e16 n.pumps.length, .int .i64 n.out, .int .i64 n.tank.lo, .int .i64 n.tank.hi, .int .i64 n.mins]
def SurP (n : NetT) (b : Int) (by1 : List Int) (e8 : Nat) (f : Fr) : Prop := f 1 = .int .u8 b ∧ f 2 = .lst 1 (by1.map c32) ∧ f 3 = .pim (cNet n) ∧ f 7 = .bool true ∧ f 8 = .ptr 8 e8 7 0 0
theorem surer_law (n : NetT) (b : Int) (b0 : 0 ≤ b) (b1 : b ≤ 255) (by1 : List Int) (hby : By by1) (_ : by1.length ≤ maxLen) : PureC Try.prog 10 [encNet n, .int .u8 b, .lst 1 (by1.map c32)] (.bool true) := by
 have hrd := ready_ok n
 simp only [encNet, cNet] at hrd
 by_cases hr : (!greatN n && netOK n) = true
 ·have hr2 : greatN n = false ∧ netOK n = true := by simpa using hr
  have hs := great_small hr2.1
  have hF := net_facts hr2.2
  have hpq := hF.pumps
  have hpl := hF.pipes
  have hhl := hF.heads
  rw [hr] at hrd
  have hch := fun i hi => choose_ok by1 i hi
  have hcb := fun i => chI_bnd hby i
  have htw := fun H0 => twinA_ok n hF H0
  simp only [encNet, cNet] at htw
  refine PureC_of (fn := Try.f10) tabOK (by kernel_rfl) rfl (by kernel_rfl) (by simp [Try.f10]) (by simp [noids, noid, noidss, go_sem, encNet, cNet]) (by first | rfl | simp [noids, noid, noidss, go_sem, encNet, cNet]) ?_
  intro X hX0 hXs
  repeat' (first | (with_reducible refine sk ?_; intro K hK) | ((first | (with_reducible first | refine rg (md := { base := 0, own := [8, 14, 16], imp := [32] }) (h := ?_) | refine rgS [8, 14, 16] (md := { base := 0, own := [8, 14, 16], imp := [32] }) (h := ?_) | refine nx ?_) | refine pK (alive_run) ?_ | refine pK (hrd) ?_ | refine pK (htw _) ?_); try simp (disch := omega) only [encNet, cNet,go_sem, simprocAttr]) | (with_reducible refine bk ?_) | ((with_reducible refine' cE ?hv ?_ ?_); (case hv => first | rfl | (simp only [encNet, cNet,go_sem, simprocAttr]; rfl)); all_goals (intro hc; (try simp only [go_sem, simprocAttr] at hc); try (exfalso; omega))) | ((with_reducible first | refine grdS_split ?_ ?_ | refine lkG_split ?_ ?_) <;> intro hg <;> (try simp (disch := omega) only [hg, encNet, cNet,go_sem, simprocAttr]) <;> (try simp only [go_sem, simprocAttr] at hg) <;> (try (exfalso; omega))) | (first | refine iK (alive_run) ?_ | refine iK (hrd) ?_ | refine iK (htw _) ?_) | with_reducible intro (ep : Nat → Nat) | with_reducible apply_assumption -exfalso -symm only [*])
  rintro v H3 ⟨hlow, e6, e16, rfl, g6, g16⟩
  have g8 := hlow 8 (by decide)
  have g14 := hlow 14 (by decide)
  have g16' := hlow 16 (by decide)
  simp only [go_sem, simprocAttr] at g8 g14 g16'
  clear hlow
  simp only [go_sem, simprocAttr, g8]
  repeat' (first | ((fail_if_success (with_reducible refine AW_at (id := 7) ?_)); with_reducible refine sk ?_; intro K hK) | ((with_reducible first | refine rg (md := { base := 0, own := [8, 14, 16], imp := [32] }) (h := ?_) | refine rgS [8, 14, 16] (md := { base := 0, own := [8, 14, 16], imp := [32] }) (h := ?_) | refine nx ?_); try simp (disch := omega) only [g8,go_sem, simprocAttr]) | (with_reducible refine bk ?_) | ((with_reducible refine' cE ?hv ?_ ?_); (case hv => first | rfl | (simp only [g8,go_sem, simprocAttr]; rfl)); all_goals (intro hc; (try simp only [go_sem, simprocAttr] at hc); try (exfalso; omega))) | ((with_reducible first | refine grdS_split ?_ ?_ | refine lkG_split ?_ ?_) <;> intro hg <;> (try simp (disch := omega) only [hg, g8,go_sem, simprocAttr]) <;> (try simp only [go_sem, simprocAttr] at hg) <;> (try (exfalso; omega))) | with_reducible intro (ep : Nat → Nat) | with_reducible apply_assumption -exfalso -symm only [*])
  have hcut7 : ∀ f H, (∃ (e8 : Nat) (S : List PipeT), SurP n b by1 e8 f ∧ H 8 = some (e8, .arr 7 [goodC n e6 e16]) ∧ H 14 = none ∧ H 16 = none ∧ H 606 = some (e6, .arr 4 (S.map cPipe)) ∧ H 616 = some (e16, .arr 3 (n.pumps.map cPump)) ∧ S.length = n.pipes.length ∧ ∀ (i : Nat) (p p' : PipeT), n.pipes[i]? = some p → S[i]? = some p' → BetP p p') → K f H := by
   rintro f H ⟨e8, S, ⟨h1, h2, h3, h7, h8⟩, k8, k14, k16, k6, k616, hSl, hSb⟩
   refine hK f H ?_
   clear hK g6 g16 g8 g14 g16'
   repeat' (first | ((fail_if_success (with_reducible refine AW_at (id := 14) ?_)); with_reducible refine sk ?_; intro K hK) | ((with_reducible first | refine rg (md := { base := 0, own := [8, 14, 16], imp := [32] }) (h := ?_) | refine rgS [8, 14, 16] (md := { base := 0, own := [8, 14, 16], imp := [32] }) (h := ?_) | refine nx ?_); try simp (disch := omega) only [h1, h2, h3, h7, h8,go_sem, simprocAttr]) | (with_reducible refine bk ?_) | ((with_reducible refine' cE ?hv ?_ ?_); (case hv => first | rfl | (simp only [h1, h2, h3, h7, h8,go_sem, simprocAttr]; rfl)); all_goals (intro hc; (try simp only [go_sem, simprocAttr] at hc); try (exfalso; omega))) | ((with_reducible first | refine grdS_split ?_ ?_ | refine lkG_split ?_ ?_) <;> intro hg <;> (try simp (disch := omega) only [hg, h1, h2, h3, h7, h8,go_sem, simprocAttr]) <;> (try simp only [go_sem, simprocAttr] at hg) <;> (try (exfalso; omega))) | with_reducible intro (ep : Nat → Nat) | with_reducible apply_assumption -exfalso -symm only [*])
   have hcut14 : ∀ f H, (∃ (e8 : Nat) (T : List PumpT), SurP n b by1 e8 f ∧ H 8 = some (e8, .arr 7 [goodC n e6 e16]) ∧ H 14 = none ∧ H 16 = none ∧ H 606 = some (e6, .arr 4 (S.map cPipe)) ∧ H 616 = some (e16, .arr 3 (T.map cPump)) ∧ T.length = n.pumps.length ∧ ∀ (i : Nat) (p p' : PumpT), n.pumps[i]? = some p → T[i]? = some p' → BetQ p p') → K f H := by
    clear h1 h2 h3 h7 h8 k8 k14 k16 k6 k616
    rintro f H ⟨e8, T, ⟨h1, h2, h3, h7, h8⟩, k8, k14, k16, k6, k616, hTl, hTb⟩
    refine hK f H ?_
    clear hK
    refine AW_thaw (k := 606) (j := 8) (n := 6) (by decide) k6 k8 fun H2 j8 hs2 => ?_
    have j14 := (hs2 14 (by decide) (by decide)).trans k14
    have j16 := (hs2 16 (by decide) (by decide)).trans k16
    have j616 := (hs2 616 (by decide) (by decide)).trans k616
    simp only [goodC, List.map_cons, List.map_nil, thawP hSl (upd_same _ _ _), fzd_lst, fzd_cHead, fzd_int, fzd_gr, upd_ne _ _ (show ¬ 616 = 606 by decide), k616, fzG_arr] at j8
    clear hs2 k8 k14 k16 k616 k6
    refine AW_thaw (k := 616) (j := 8) (n := 6) (by decide) j616 j8 fun H3 k8 hs2 => ?_
    have k14 := (hs2 14 (by decide) (by decide)).trans j14
    have k16 := (hs2 16 (by decide) (by decide)).trans j16
    simp only [List.map_cons, List.map_nil, thawQ hTl (upd_same _ _ _), fzd_lst, fzd_cHead, fzd_cPipe, fzd_int] at k8
    clear hs2 j8 j14 j16 j616
    refine AW_keep [8] ?_
    have q8 : keep H3 [8] 8 = _ := k8
    have q14 : keep H3 [8] 14 = none := rfl
    have q16 : keep H3 [8] 16 = none := rfl
    generalize keep H3 [8] = H4 at q8 q14 q16 ⊢
    clear k8 k14 k16 htw
    have c5 := hcb 5
    have c6 := hcb 6
    have hk5 := hch 5 (by omega)
    have hk6 := hch 6 (by omega)
    obtain ⟨a5, ha5⟩ : ∃ a, chI by1 5 = a := ⟨_, rfl⟩
    obtain ⟨a6, ha6⟩ : ∃ a, chI by1 6 = a := ⟨_, rfl⟩
    rw [ha5] at c5 hk5
    rw [ha6] at c6 hk6
    clear hch hcb
    have htk := hF.tank
    have hou := hF.out
    have z5 : ¬ 1000000 - n.tank.hi + 1 = 0 := by omega
    have d0 : 0 ≤ a5.tmod (1000000 - n.tank.hi + 1) := Int.tmod_nonneg _ c5.1
    have d1 : a5.tmod (1000000 - n.tank.hi + 1) < 1000000 - n.tank.hi + 1 := Int.tmod_lt_of_pos _ (by omega)
    obtain ⟨u, hu⟩ : ∃ d, a5.tmod (1000000 - n.tank.hi + 1) = d := ⟨_, rfl⟩
    rw [hu] at d0 d1
    have z6 : ¬ n.out + 1 = 0 := by omega
    have d2 : 0 ≤ a6.tmod (n.out + 1) := Int.tmod_nonneg _ c6.1
    have d3 : a6.tmod (n.out + 1) < n.out + 1 := Int.tmod_lt_of_pos _ (by omega)
    obtain ⟨v, hv⟩ : ∃ d, a6.tmod (n.out + 1) = d := ⟨_, rfl⟩
    rw [hv] at d2 d3
    obtain ⟨hF', hB⟩ := bet_net hF hSl hTl hSb hTb (o := n.out - v) (th := n.tank.hi + u) (by omega) (by omega)
    have hmm := most_mono hB hF hF' (by show n.out - v ≤ n.out; omega)
    have hsm := fun L h5 => sure_mono hB hF hF' (fun o => bet_out hB (by show n.out - v ≤ n.out; omega)) (List.Sublist.refl L) h5
    have hkm := fun (e : n.out - v = n.out) L h5 => known_mono hB hF hF' (bet_outE hB e) (List.Sublist.refl L) h5
    have hN' := netOK_of hF'
    have hs' := hF'.s
    have hso := some_ok n (by omega) b ⟨b0, b1⟩
    have hopen := some_ok' hF b
    have hol : (someL n.heads b).length ≤ n.heads.length := someF_len
    have hg1 := Gets_ok n hs (someL n.heads b) (by omega)
    have hg2 := Gets_ok _ hs' (someL n.heads b) (by omega)
    unfold getsD at hg1 hg2
    rw [if_pos hr2.2, if_pos hopen] at hg1
    rw [if_pos hN'] at hg2
    simp only [hopen, if_true] at hg2
    have hm1 := Most_ok n hs
    have hm2 := Most_ok _ hs'
    unfold mostD at hm1 hm2
    rw [if_pos hr2.2] at hm1
    rw [if_pos hN'] at hm2
    have h5 := openH_500 hF (someL n.heads b)
    have hk1 := (gets_facts hF.out.1 (openH n.heads (someL n.heads b))).kn
    have hk2 := (gets_facts hF'.out.1 (openH n.heads (someL n.heads b))).kn
    have hsm' := hsm _ h5
    have hkm' := fun e => hkm e _ h5
    simp only [encNet, cNet] at hg1 hg2 hm1 hm2 hso
    obtain ⟨n', hn'⟩ : ∃ n', (⟨S, n.heads, T, n.out - v, ⟨n.tank.lo, n.tank.hi + u⟩, n.mins⟩ : NetT) = n' := ⟨_, rfl⟩
    rw [hn'] at hmm hg2 hm2 hk2 hsm' hkm'
    generalize someL n.heads b = O at *
    obtain ⟨⟨kn, hd, ou⟩, hG1⟩ : ∃ G, getsS n (openH n.heads O) = G := ⟨_, rfl⟩
    obtain ⟨⟨km, hd2, ov⟩, hG2⟩ : ∃ G, getsS n' (openH n.heads O) = G := ⟨_, rfl⟩
    obtain ⟨⟨m1, l1⟩, hM1⟩ : ∃ G, mostS n = G := ⟨_, rfl⟩
    obtain ⟨⟨m2, l2⟩, hM2⟩ : ∃ G, mostS n' = G := ⟨_, rfl⟩
    rw [hG1] at hk1 hg1 hsm' hkm'
    rw [hG2] at hk2 hg2 hsm' hkm'
    rw [hM1] at hmm hm1
    rw [hM2] at hmm hm2
    simp only at hk1 hk2 hsm' hkm' hmm
    simp only [lackV] at hg1 hg2
    have hmm' : ¬ m2 < m1 := by omega
    clear hsm hkm hB hF' hN' hs' hn' hmm hG1 hG2 hM1 hM2 hSb hTb hSl hTl
    repeat' (first | ((fail_if_success (with_reducible refine AW_at (id := 29) ?_)); with_reducible refine sk ?_; intro K hK) | ((first | (with_reducible first | refine rg (md := { base := 0, own := [8, 14, 16], imp := [32] }) (h := ?_) | refine rgS [8, 14, 16] (md := { base := 0, own := [8, 14, 16], imp := [32] }) (h := ?_) | refine nx ?_) | refine pK (hk5) ?_ | refine pK (hk6) ?_ | refine pK (hso) ?_ | refine pK (hg1) ?_ | refine pK (hg2) ?_ | refine pK (hm1) ?_ | refine pK (hm2) ?_); try simp (disch := omega) only [h1, h2, h3, h7, h8, q8, q14, q16, hu, hv, z5, z6, cNet,go_sem, simprocAttr]) | (with_reducible refine bk ?_) | ((with_reducible refine' cE ?hv ?_ ?_); (case hv => first | rfl | (simp only [h1, h2, h3, h7, h8, q8, q14, q16, hu, hv, z5, z6, cNet,go_sem, simprocAttr]; rfl)); all_goals (intro hc; (try simp only [go_sem, simprocAttr] at hc); try (exfalso; omega))) | ((with_reducible first | refine grdS_split ?_ ?_ | refine lkG_split ?_ ?_) <;> intro hg <;> (try simp (disch := omega) only [hg, h1, h2, h3, h7, h8, q8, q14, q16, hu, hv, z5, z6, cNet,go_sem, simprocAttr]) <;> (try simp only [go_sem, simprocAttr] at hg) <;> (try (exfalso; omega))) | (first | refine iK (hk5) ?_ | refine iK (hk6) ?_ | refine iK (hso) ?_ | refine iK (hg1) ?_ | refine iK (hg2) ?_ | refine iK (hm1) ?_ | refine iK (hm2) ?_) | ((with_reducible refine fe ?_); refine ⟨_, (by simp only [Try.f10, h1, h2, h3, h7, h8, q8, q14, q16, hu, hv, z5, z6, cNet,go_sem, simprocAttr]; rfl), ?_⟩; first | rfl | (try simp only [h1, h2, h3, h7, h8, q8, q14, q16, hu, hv, z5, z6, cNet,go_sem, simprocAttr, seval])) | with_reducible intro (ep : Nat → Nat) | with_reducible apply_assumption -exfalso -symm only [*])
    by_cases hvo : n.out - v = n.out
    ·have hkk := hkm' hvo
     rcases hk1 with rfl | rfl | rfl <;> rcases hk2 with rfl | rfl | rfl
     all_goals (try (exfalso; omega))
     all_goals
      repeat' (first | (with_reducible refine sk ?_; intro K hK) | ((with_reducible first | refine rg (md := { base := 0, own := [8, 14, 16], imp := [32] }) (h := ?_) | refine rgS [8, 14, 16] (md := { base := 0, own := [8, 14, 16], imp := [32] }) (h := ?_) | refine nx ?_); try simp (disch := omega) only [h1, h2, h3, h7, h8, q8, q14, q16, hmm', hvo, cNet,go_sem, simprocAttr]) | (with_reducible refine bk ?_) | ((with_reducible refine' cE ?hv ?_ ?_); (case hv => first | rfl | (simp only [h1, h2, h3, h7, h8, q8, q14, q16, hmm', hvo, cNet,go_sem, simprocAttr]; rfl)); all_goals (intro hc; (try simp only [go_sem, simprocAttr] at hc); try (exfalso; omega))) | ((with_reducible first | refine grdS_split ?_ ?_ | refine lkG_split ?_ ?_) <;> intro hg <;> (try simp (disch := omega) only [hg, h1, h2, h3, h7, h8, q8, q14, q16, hmm', hvo, cNet,go_sem, simprocAttr]) <;> (try simp only [go_sem, simprocAttr] at hg) <;> (try (exfalso; omega))) | ((with_reducible refine fe ?_); refine ⟨_, (by simp only [Try.f10, h1, h2, h3, h7, h8, q8, q14, q16, hmm', hvo, cNet,go_sem, simprocAttr]; rfl), ?_⟩; first | rfl | (try simp only [h1, h2, h3, h7, h8, q8, q14, q16, hmm', hvo, cNet,go_sem, simprocAttr, seval])) | with_reducible intro (ep : Nat → Nat) | with_reducible apply_assumption -exfalso -symm only [*])
    ·rcases hk1 with rfl | rfl | rfl <;> rcases hk2 with rfl | rfl | rfl
     all_goals (try (exfalso; have := hsm' rfl; omega))
     all_goals
      repeat' (first | (with_reducible refine sk ?_; intro K hK) | ((with_reducible first | refine rg (md := { base := 0, own := [8, 14, 16], imp := [32] }) (h := ?_) | refine rgS [8, 14, 16] (md := { base := 0, own := [8, 14, 16], imp := [32] }) (h := ?_) | refine nx ?_); try simp (disch := omega) only [h1, h2, h3, h7, h8, q8, q14, q16, hmm', hvo, cNet,go_sem, simprocAttr]) | (with_reducible refine bk ?_) | ((with_reducible refine' cE ?hv ?_ ?_); (case hv => first | rfl | (simp only [h1, h2, h3, h7, h8, q8, q14, q16, hmm', hvo, cNet,go_sem, simprocAttr]; rfl)); all_goals (intro hc; (try simp only [go_sem, simprocAttr] at hc); try (exfalso; omega))) | ((with_reducible first | refine grdS_split ?_ ?_ | refine lkG_split ?_ ?_) <;> intro hg <;> (try simp (disch := omega) only [hg, h1, h2, h3, h7, h8, q8, q14, q16, hmm', hvo, cNet,go_sem, simprocAttr]) <;> (try simp only [go_sem, simprocAttr] at hg) <;> (try (exfalso; omega))) | ((with_reducible refine fe ?_); refine ⟨_, (by simp only [Try.f10, h1, h2, h3, h7, h8, q8, q14, q16, hmm', hvo, cNet,go_sem, simprocAttr]; rfl), ?_⟩; first | rfl | (try simp only [h1, h2, h3, h7, h8, q8, q14, q16, hmm', hvo, cNet,go_sem, simprocAttr, seval])) | with_reducible intro (ep : Nat → Nat) | with_reducible apply_assumption -exfalso -symm only [*])
   clear hK
   simp only [goodC] at k8
   repeat' (first | (with_reducible refine sk ?_; intro K hK) | ((with_reducible first | refine rg (md := { base := 0, own := [8, 14, 16], imp := [32] }) (h := ?_) | refine rgS [8, 14, 16] (md := { base := 0, own := [8, 14, 16], imp := [32] }) (h := ?_) | refine nx ?_); try simp (disch := omega) only [h1, h2, h3, h7, h8, k8, k616,go_sem, simprocAttr]) | (with_reducible refine bk ?_) | ((with_reducible refine' cE ?hv ?_ ?_); (case hv => first | rfl | (simp only [h1, h2, h3, h7, h8, k8, k616,go_sem, simprocAttr]; rfl)); all_goals (intro hc; (try simp only [go_sem, simprocAttr] at hc); try (exfalso; omega))) | ((with_reducible first | refine grdS_split ?_ ?_ | refine lkG_split ?_ ?_) <;> intro hg <;> (try simp (disch := omega) only [hg, h1, h2, h3, h7, h8, k8, k616,go_sem, simprocAttr]) <;> (try simp only [go_sem, simprocAttr] at hg) <;> (try (exfalso; omega))) | with_reducible intro (ep : Nat → Nat) | with_reducible apply_assumption -exfalso -symm only [*])
   refine AW_range tabOK n.pumps.length (fun k f H => ∃ e8, SurP n b by1 e8 f ∧ H 8 = some (e8, .arr 7 [goodC n e6 e16]) ∧ H 14 = none ∧ H 16 = none ∧ H 606 = some (e6, .arr 4 (S.map cPipe)) ∧ ∃ T : List PumpT, H 616 = some (e16, .arr 3 (T.map cPump)) ∧ T.length = n.pumps.length ∧ (∀ (i : Nat) (p p' : PumpT), i < k → n.pumps[i]? = some p → T[i]? = some p' → BetQ p p') ∧ ∀ i, k ≤ i → T[i]? = n.pumps[i]?) (by omega) (by rw [hXs]; decide) (by decide) (by (first | rfl | (simp only [go_sem, simprocAttr]; done) | (simp only [go_sem, simprocAttr]; rfl))) (by (first | rfl | (simp only [k616, go_sem, simprocAttr]; done) | (simp only [k616, go_sem, simprocAttr]; rfl)))
    ⟨_, ⟨by (first | rfl | (simp only [h1, go_sem, simprocAttr]; done) | (simp only [h1, go_sem, simprocAttr]; rfl)), by (first | rfl | (simp only [h2, go_sem, simprocAttr]; done) | (simp only [h2, go_sem, simprocAttr]; rfl)), by (first | rfl | (simp only [h3, go_sem, simprocAttr]; done) | (simp only [h3, go_sem, simprocAttr]; rfl)), by (first | rfl | (simp only [h7, go_sem, simprocAttr]; done) | (simp only [h7, go_sem, simprocAttr]; rfl)), by (first | rfl | (simp only [h8, go_sem, simprocAttr]; done) | (simp only [h8, go_sem, simprocAttr]; rfl))⟩, by (first | rfl | (simp only [k8, goodC, go_sem, simprocAttr]; done) | (simp only [k8, goodC, go_sem, simprocAttr]; rfl)), by (first | rfl | (simp only [k14, go_sem, simprocAttr]; done) | (simp only [k14, go_sem, simprocAttr]; rfl)), by (first | rfl | (simp only [k16, go_sem, simprocAttr]; done) | (simp only [k16, go_sem, simprocAttr]; rfl)), by (first | rfl | (simp only [k6, go_sem, simprocAttr]; done) | (simp only [k6, go_sem, simprocAttr]; rfl)), n.pumps, by (first | rfl | (simp only [k616, go_sem, simprocAttr]; done) | (simp only [k616, go_sem, simprocAttr]; rfl)), rfl, fun i p p' h => by omega, fun i _ => rfl⟩ ?_ ?_
   ·clear hcut14 h1 h2 h3 h7 h8 k8 k14 k16 k6 k616
    rintro k f H hk h88 h87 ⟨e8, ⟨h1, h2, h3, h7, h8⟩, k8, k14, k16, k6, T, k616, hTl, hTa, hTb2⟩
    obtain ⟨p, hp⟩ : ∃ x, n.pumps[k]? = some x := ⟨_, List.getElem?_eq_getElem hk⟩
    have hTk : T[k]? = some p := by rw [hTb2 k (Nat.le_refl _)]; exact hp
    have hpb := hF.pump p (List.mem_of_getElem? hp)
    have c0 := hcb ((k + 2 : Nat) : Int)
    have c1 := hcb ((k + 3 : Nat) : Int)
    have c2 := hcb ((k + 4 : Nat) : Int)
    have hk0 := hch ((k + 2 : Nat) : Int) (by omega)
    have hk1 := hch ((k + 3 : Nat) : Int) (by omega)
    have hk2 := hch ((k + 4 : Nat) : Int) (by omega)
    have y0 : (k : Int) + 2 = ((k + 2 : Nat) : Int) := rfl
    have y1 : (k : Int) + 3 = ((k + 3 : Nat) : Int) := rfl
    have y2 : (k : Int) + 4 = ((k + 4 : Nat) : Int) := rfl
    obtain ⟨a0, ha0⟩ : ∃ a, chI by1 ((k + 2 : Nat) : Int) = a := ⟨_, rfl⟩
    obtain ⟨a1, ha1⟩ : ∃ a, chI by1 ((k + 3 : Nat) : Int) = a := ⟨_, rfl⟩
    obtain ⟨a2, ha2⟩ : ∃ a, chI by1 ((k + 4 : Nat) : Int) = a := ⟨_, rfl⟩
    rw [ha0] at c0 hk0
    rw [ha1] at c1 hk1
    rw [ha2] at c2 hk2
    have z0 : ¬ 100000 - p.full.hi + 1 = 0 := by omega
    have d0 : 0 ≤ a0.tmod (100000 - p.full.hi + 1) := Int.tmod_nonneg _ c0.1
    have d1 : a0.tmod (100000 - p.full.hi + 1) < 100000 - p.full.hi + 1 := Int.tmod_lt_of_pos _ (by omega)
    obtain ⟨u, hu⟩ : ∃ d, a0.tmod (100000 - p.full.hi + 1) = d := ⟨_, rfl⟩
    rw [hu] at d0 d1
    have z1 : ¬ p.full.hi + u - p.full.lo + 1 = 0 := by omega
    have d2 : 0 ≤ a1.tmod (p.full.hi + u - p.full.lo + 1) := Int.tmod_nonneg _ c1.1
    have d3 : a1.tmod (p.full.hi + u - p.full.lo + 1) < p.full.hi + u - p.full.lo + 1 := Int.tmod_lt_of_pos _ (by omega)
    obtain ⟨v, hv⟩ : ∃ d, a1.tmod (p.full.hi + u - p.full.lo + 1) = d := ⟨_, rfl⟩
    rw [hv] at d2 d3
    have z2 : ¬ p.slope + 1 = 0 := by omega
    have d4 : 0 ≤ a2.tmod (p.slope + 1) := Int.tmod_nonneg _ c2.1
    have d5 : a2.tmod (p.slope + 1) < p.slope + 1 := Int.tmod_lt_of_pos _ (by omega)
    obtain ⟨w, hw⟩ : ∃ d, a2.tmod (p.slope + 1) = d := ⟨_, rfl⟩
    rw [hw] at d4 d5
    simp only [goodC] at k8
    have hkS : k < T.length := by omega
    repeat' (first | ((fail_if_success (with_reducible refine AW_at (id := 18) ?_)); with_reducible refine sk ?_; intro K hK) | ((with_reducible first | refine rg (md := { base := 0, own := [8, 14, 16], imp := [32] }) (h := ?_) | refine rgS [8, 14, 16] (md := { base := 0, own := [8, 14, 16], imp := [32] }) (h := ?_) | refine nx ?_); try simp (disch := omega) only [h1, h2, h3, h7, h8, h87, h88, k8, k616, hTk, hTl, hk, cPump,go_sem, simprocAttr]) | (with_reducible refine bk ?_) | ((with_reducible refine' cE ?hv ?_ ?_); (case hv => first | rfl | (simp only [h1, h2, h3, h7, h8, h87, h88, k8, k616, hTk, hTl, hk, cPump,go_sem, simprocAttr]; rfl)); all_goals (intro hc; (try simp only [go_sem, simprocAttr] at hc); try (exfalso; omega))) | ((with_reducible first | refine grdS_split ?_ ?_ | refine lkG_split ?_ ?_) <;> intro hg <;> (try simp (disch := omega) only [hg, h1, h2, h3, h7, h8, h87, h88, k8, k616, hTk, hTl, hk, cPump,go_sem, simprocAttr]) <;> (try simp only [go_sem, simprocAttr] at hg) <;> (try (exfalso; omega))) | with_reducible intro (ep : Nat → Nat) | with_reducible apply_assumption -exfalso -symm only [*])
    refine sk ?_; intro K hK
    have hcutA : ∀ f H, (SurP n b by1 e8 f ∧ f 11 = .int .i64 k ∧ f 12 = .ptr 616 e16 3 k 0 ∧ f 87 = .int .i64 n.pumps.length ∧ f 88 = .int .i64 k) ∧ H 8 = some (e8, .arr 7 [goodC n e6 e16]) ∧ H 14 = none ∧ H 16 = none ∧ H 606 = some (e6, .arr 4 (S.map cPipe)) ∧ H 616 = some (e16, .arr 3 ((T.map cPump).set k [.int .i64 (p.full.lo), .int .i64 (p.full.hi + u), .int .i64 (p.slope)])) → K f H := by
     clear h1 h2 h3 h7 h8 h87 h88 k8 k14 k16 k616 k6
     rintro f H ⟨⟨⟨h1, h2, h3, h7, h8⟩, h11, h12, h87, h88⟩, k8, k14, k16, k6, k616⟩
     refine hK f H ?_
     clear hK
     have hS' : (((T).map cPump).set k [.int .i64 (p.full.lo), .int .i64 (p.full.hi + u), .int .i64 (p.slope)]) = ((T).set k ⟨⟨p.full.lo, p.full.hi + u⟩, p.slope⟩).map cPump := by rw [List.map_set]; rfl
     rw [hS'] at k616
     have hg : ((T).set k ⟨⟨p.full.lo, p.full.hi + u⟩, p.slope⟩)[k]? = some ⟨⟨p.full.lo, p.full.hi + u⟩, p.slope⟩ := set_get hTk
     have hgl : ((T).set k ⟨⟨p.full.lo, p.full.hi + u⟩, p.slope⟩).length = n.pumps.length := by simp [hTl]
     obtain ⟨T1, hT1⟩ : ∃ S1, (T).set k ⟨⟨p.full.lo, p.full.hi + u⟩, p.slope⟩ = S1 := ⟨_, rfl⟩
     rw [hT1] at k616 hg hgl
     have hgk : k < T1.length := by omega
     refine sk ?_; intro K hK
     have hcutB : ∀ f H, (SurP n b by1 e8 f ∧ f 11 = .int .i64 k ∧ f 12 = .ptr 616 e16 3 k 0 ∧ f 87 = .int .i64 n.pumps.length ∧ f 88 = .int .i64 k) ∧ H 8 = some (e8, .arr 7 [goodC n e6 e16]) ∧ H 14 = none ∧ H 16 = none ∧ H 606 = some (e6, .arr 4 (S.map cPipe)) ∧ H 616 = some (e16, .arr 3 ((T1.map cPump).set k [.int .i64 (p.full.lo + v), .int .i64 (p.full.hi + u), .int .i64 (p.slope)])) → K f H := by
      clear h1 h2 h3 h7 h8 h11 h12 h87 h88 k8 k14 k16 k616 k6
      rintro f H ⟨⟨⟨h1, h2, h3, h7, h8⟩, h11, h12, h87, h88⟩, k8, k14, k16, k6, k616⟩
      refine hK f H ?_
      clear hK
      have hTk := hg
      have hTl := hgl
      clear hg hgl hgk hS'
      have hS' : (((T1).map cPump).set k [.int .i64 (p.full.lo + v), .int .i64 (p.full.hi + u), .int .i64 (p.slope)]) = ((T1).set k ⟨⟨p.full.lo + v, p.full.hi + u⟩, p.slope⟩).map cPump := by rw [List.map_set]; rfl
      rw [hS'] at k616
      have hg : ((T1).set k ⟨⟨p.full.lo + v, p.full.hi + u⟩, p.slope⟩)[k]? = some ⟨⟨p.full.lo + v, p.full.hi + u⟩, p.slope⟩ := set_get hTk
      have hgl : ((T1).set k ⟨⟨p.full.lo + v, p.full.hi + u⟩, p.slope⟩).length = n.pumps.length := by simp [hTl]
      obtain ⟨T2, hT2⟩ : ∃ S1, (T1).set k ⟨⟨p.full.lo + v, p.full.hi + u⟩, p.slope⟩ = S1 := ⟨_, rfl⟩
      rw [hT2] at k616 hg hgl
      have hgk : k < T2.length := by omega
      repeat' (first | (with_reducible refine sk ?_; intro K hK) | ((first | (with_reducible first | refine rg (md := { base := 0, own := [8, 14, 16], imp := [32] }) (h := ?_) | refine rgS [8, 14, 16] (md := { base := 0, own := [8, 14, 16], imp := [32] }) (h := ?_) | refine nx ?_) | refine pK (hk2) ?_); try simp (disch := omega) only [h1, h2, h3, h7, h8, h11, h12, h87, h88, k8, k616, hg, hgl, hgk, hk, hw, y2, z2, cPump,go_sem, simprocAttr]) | (with_reducible refine bk ?_) | ((with_reducible refine' cE ?hv ?_ ?_); (case hv => first | rfl | (simp only [h1, h2, h3, h7, h8, h11, h12, h87, h88, k8, k616, hg, hgl, hgk, hk, hw, y2, z2, cPump,go_sem, simprocAttr]; rfl)); all_goals (intro hc; (try simp only [go_sem, simprocAttr] at hc); try (exfalso; omega))) | ((with_reducible first | refine grdS_split ?_ ?_ | refine lkG_split ?_ ?_) <;> intro hg <;> (try simp (disch := omega) only [hg, h1, h2, h3, h7, h8, h11, h12, h87, h88, k8, k616, hg, hgl, hgk, hk, hw, y2, z2, cPump,go_sem, simprocAttr]) <;> (try simp only [go_sem, simprocAttr] at hg) <;> (try (exfalso; omega))) | (first | refine iK (hk2) ?_) | with_reducible intro (ep : Nat → Nat) | with_reducible apply_assumption -exfalso -symm only [*])
      refine ⟨e8, ⟨by (first | rfl | (simp only [h1, go_sem, simprocAttr]; done) | (simp only [h1, go_sem, simprocAttr]; rfl)), by (first | rfl | (simp only [h2, go_sem, simprocAttr]; done) | (simp only [h2, go_sem, simprocAttr]; rfl)), by (first | rfl | (simp only [h3, go_sem, simprocAttr]; done) | (simp only [h3, go_sem, simprocAttr]; rfl)), by (first | rfl | (simp only [h7, go_sem, simprocAttr]; done) | (simp only [h7, go_sem, simprocAttr]; rfl)), by (first | rfl | (simp only [h8, go_sem, simprocAttr]; done) | (simp only [h8, go_sem, simprocAttr]; rfl))⟩, by (first | rfl | (simp only [k8, go_sem, simprocAttr]; done) | (simp only [k8, go_sem, simprocAttr]; rfl)), by (first | rfl | (simp only [k14, go_sem, simprocAttr]; done) | (simp only [k14, go_sem, simprocAttr]; rfl)), by (first | rfl | (simp only [k16, go_sem, simprocAttr]; done) | (simp only [k16, go_sem, simprocAttr]; rfl)), by (first | rfl | (simp only [k6, go_sem, simprocAttr]; done) | (simp only [k6, go_sem, simprocAttr]; rfl)), T2.set k ⟨⟨p.full.lo + v, p.full.hi + u⟩, p.slope - w⟩, by rw [List.map_set]; (first | rfl | (simp only [go_sem, simprocAttr]; done) | (simp only [go_sem, simprocAttr]; rfl)), by simp [hgl], fun i q q' hi hq hq' => ?_, fun i hi => ?_⟩
      ·by_cases hik : i = k
       ·subst hik
        rw [List.getElem?_set_self (by omega)] at hq'
        rw [hp] at hq; cases hq; cases hq'
        exact ⟨by simp only; omega, by simp only; omega⟩
       ·rw [List.getElem?_set_ne (by omega), ← hT2, List.getElem?_set_ne (by omega), ← hT1, List.getElem?_set_ne (by omega)] at hq'
        exact hTa i q q' (by omega) hq hq'
      ·rw [List.getElem?_set_ne (by omega), ← hT2, List.getElem?_set_ne (by omega), ← hT1, List.getElem?_set_ne (by omega)]
       exact hTb2 i (by omega)
     clear hK
     simp only [goodC] at k8
     repeat' (first | (with_reducible refine sk ?_; intro K hK) | ((first | (with_reducible first | refine rg (md := { base := 0, own := [8, 14, 16], imp := [32] }) (h := ?_) | refine rgS [8, 14, 16] (md := { base := 0, own := [8, 14, 16], imp := [32] }) (h := ?_) | refine nx ?_) | refine pK (hk1) ?_); try simp (disch := omega) only [h1, h2, h3, h7, h8, h11, h12, h87, h88, k8, k616, hg, hgl, hgk, hk, hv, y1, z1, cPump,go_sem, simprocAttr]) | (with_reducible refine bk ?_) | ((with_reducible refine' cE ?hv ?_ ?_); (case hv => first | rfl | (simp only [h1, h2, h3, h7, h8, h11, h12, h87, h88, k8, k616, hg, hgl, hgk, hk, hv, y1, z1, cPump,go_sem, simprocAttr]; rfl)); all_goals (intro hc; (try simp only [go_sem, simprocAttr] at hc); try (exfalso; omega))) | ((with_reducible first | refine grdS_split ?_ ?_ | refine lkG_split ?_ ?_) <;> intro hg <;> (try simp (disch := omega) only [hg, h1, h2, h3, h7, h8, h11, h12, h87, h88, k8, k616, hg, hgl, hgk, hk, hv, y1, z1, cPump,go_sem, simprocAttr]) <;> (try simp only [go_sem, simprocAttr] at hg) <;> (try (exfalso; omega))) | (first | refine iK (hk1) ?_) | with_reducible intro (ep : Nat → Nat) | with_reducible apply_assumption -exfalso -symm only [*])
     exact ⟨⟨⟨by (first | rfl | (simp only [h1, go_sem, simprocAttr]; done) | (simp only [h1, go_sem, simprocAttr]; rfl)), by (first | rfl | (simp only [h2, go_sem, simprocAttr]; done) | (simp only [h2, go_sem, simprocAttr]; rfl)), by (first | rfl | (simp only [h3, go_sem, simprocAttr]; done) | (simp only [h3, go_sem, simprocAttr]; rfl)), by (first | rfl | (simp only [h7, go_sem, simprocAttr]; done) | (simp only [h7, go_sem, simprocAttr]; rfl)), by (first | rfl | (simp only [h8, go_sem, simprocAttr]; done) | (simp only [h8, go_sem, simprocAttr]; rfl))⟩, by (and_intros <;> first | rfl | (simp only [h11, h12, h87, h88, go_sem, simprocAttr]; done) | (simp only [h11, h12, h87, h88, go_sem, simprocAttr]; rfl))⟩, by (first | rfl | (simp only [k8, goodC, go_sem, simprocAttr]; done) | (simp only [k8, goodC, go_sem, simprocAttr]; rfl)), by (first | rfl | (simp only [k14, go_sem, simprocAttr]; done) | (simp only [k14, go_sem, simprocAttr]; rfl)), by (first | rfl | (simp only [k16, go_sem, simprocAttr]; done) | (simp only [k16, go_sem, simprocAttr]; rfl)), by (first | rfl | (simp only [k6, go_sem, simprocAttr]; done) | (simp only [k6, go_sem, simprocAttr]; rfl)), by (first | rfl | (simp only [go_sem, simprocAttr]; done) | (simp only [go_sem, simprocAttr]; rfl))⟩
    clear hK
    repeat' (first | (with_reducible refine sk ?_; intro K hK) | ((first | (with_reducible first | refine rg (md := { base := 0, own := [8, 14, 16], imp := [32] }) (h := ?_) | refine rgS [8, 14, 16] (md := { base := 0, own := [8, 14, 16], imp := [32] }) (h := ?_) | refine nx ?_) | refine pK (hk0) ?_); try simp (disch := omega) only [h1, h2, h3, h7, h8, h87, h88, k8, k616, hTk, hTl, hkS, hk, hu, y0, z0, cPump,go_sem, simprocAttr]) | (with_reducible refine bk ?_) | ((with_reducible refine' cE ?hv ?_ ?_); (case hv => first | rfl | (simp only [h1, h2, h3, h7, h8, h87, h88, k8, k616, hTk, hTl, hkS, hk, hu, y0, z0, cPump,go_sem, simprocAttr]; rfl)); all_goals (intro hc; (try simp only [go_sem, simprocAttr] at hc); try (exfalso; omega))) | ((with_reducible first | refine grdS_split ?_ ?_ | refine lkG_split ?_ ?_) <;> intro hg <;> (try simp (disch := omega) only [hg, h1, h2, h3, h7, h8, h87, h88, k8, k616, hTk, hTl, hkS, hk, hu, y0, z0, cPump,go_sem, simprocAttr]) <;> (try simp only [go_sem, simprocAttr] at hg) <;> (try (exfalso; omega))) | (first | refine iK (hk0) ?_) | with_reducible intro (ep : Nat → Nat) | with_reducible apply_assumption -exfalso -symm only [*])
    exact ⟨⟨⟨by (first | rfl | (simp only [h1, go_sem, simprocAttr]; done) | (simp only [h1, go_sem, simprocAttr]; rfl)), by (first | rfl | (simp only [h2, go_sem, simprocAttr]; done) | (simp only [h2, go_sem, simprocAttr]; rfl)), by (first | rfl | (simp only [h3, go_sem, simprocAttr]; done) | (simp only [h3, go_sem, simprocAttr]; rfl)), by (first | rfl | (simp only [h7, go_sem, simprocAttr]; done) | (simp only [h7, go_sem, simprocAttr]; rfl)), by (first | rfl | (simp only [h8, go_sem, simprocAttr]; done) | (simp only [h8, go_sem, simprocAttr]; rfl))⟩, by (and_intros <;> first | rfl | (simp only [h87, h88, go_sem, simprocAttr]; done) | (simp only [h87, h88, go_sem, simprocAttr]; rfl))⟩, by (first | rfl | (simp only [k8, goodC, go_sem, simprocAttr]; done) | (simp only [k8, goodC, go_sem, simprocAttr]; rfl)), by (first | rfl | (simp only [k14, go_sem, simprocAttr]; done) | (simp only [k14, go_sem, simprocAttr]; rfl)), by (first | rfl | (simp only [k16, go_sem, simprocAttr]; done) | (simp only [k16, go_sem, simprocAttr]; rfl)), by (first | rfl | (simp only [k6, go_sem, simprocAttr]; done) | (simp only [k6, go_sem, simprocAttr]; rfl)), by (first | rfl | (simp only [go_sem, simprocAttr]; done) | (simp only [go_sem, simprocAttr]; rfl))⟩
   ·rintro f H h88 h87 ⟨e8, hP, k8, k14, k16, k6, T, k616, hTl, hT1, hT2⟩
    exact hcut14 _ _ ⟨e8, T, ⟨by (first | rfl | (simp only [hP.1, go_sem, simprocAttr]; done) | (simp only [hP.1, go_sem, simprocAttr]; rfl)), by (first | rfl | (simp only [hP.2.1, go_sem, simprocAttr]; done) | (simp only [hP.2.1, go_sem, simprocAttr]; rfl)), by (first | rfl | (simp only [hP.2.2.1, go_sem, simprocAttr]; done) | (simp only [hP.2.2.1, go_sem, simprocAttr]; rfl)), by (first | rfl | (simp only [hP.2.2.2.1, go_sem, simprocAttr]; done) | (simp only [hP.2.2.2.1, go_sem, simprocAttr]; rfl)), by (first | rfl | (simp only [hP.2.2.2.2, go_sem, simprocAttr]; done) | (simp only [hP.2.2.2.2, go_sem, simprocAttr]; rfl))⟩, k8, k14, k16, k6, k616, hTl, fun i p p' h1 h2 => hT1 i p p' (by have := (List.getElem?_eq_some_iff.1 h1).1; omega) h1 h2⟩
  clear hK
  have hgc : [Val.gr 606 e6 n.pipes.length, .lst 8 (n.heads.map cHead), .gr 616 e16 n.pumps.length, .int .i64 n.out, .int .i64 n.tank.lo, .int .i64 n.tank.hi, .int .i64 n.mins] = goodC n e6 e16 := rfl
  repeat' (first | (with_reducible refine sk ?_; intro K hK) | ((with_reducible first | refine rg (md := { base := 0, own := [8, 14, 16], imp := [32] }) (h := ?_) | refine rgS [8, 14, 16] (md := { base := 0, own := [8, 14, 16], imp := [32] }) (h := ?_) | refine nx ?_); try simp (disch := omega) only [g6, g8,go_sem, simprocAttr]) | (with_reducible refine bk ?_) | ((with_reducible refine' cE ?hv ?_ ?_); (case hv => first | rfl | (simp only [g6, g8,go_sem, simprocAttr]; rfl)); all_goals (intro hc; (try simp only [go_sem, simprocAttr] at hc); try (exfalso; omega))) | ((with_reducible first | refine grdS_split ?_ ?_ | refine lkG_split ?_ ?_) <;> intro hg <;> (try simp (disch := omega) only [hg, g6, g8,go_sem, simprocAttr]) <;> (try simp only [go_sem, simprocAttr] at hg) <;> (try (exfalso; omega))) | with_reducible intro (ep : Nat → Nat) | with_reducible apply_assumption -exfalso -symm only [*])
  refine AW_range tabOK n.pipes.length (fun k f H => ∃ e8, SurP n b by1 e8 f ∧ H 8 = some (e8, .arr 7 [goodC n e6 e16]) ∧ H 14 = none ∧ H 16 = none ∧ H 616 = some (e16, .arr 3 (n.pumps.map cPump)) ∧ ∃ S : List PipeT, H 606 = some (e6, .arr 4 (S.map cPipe)) ∧ S.length = n.pipes.length ∧ (∀ (i : Nat) (p p' : PipeT), i < k → n.pipes[i]? = some p → S[i]? = some p' → BetP p p') ∧ ∀ i, k ≤ i → S[i]? = n.pipes[i]?) (by omega) (by rw [hXs]; decide) (by decide) (by (first | rfl | (simp only [go_sem, simprocAttr]; done) | (simp only [go_sem, simprocAttr]; rfl))) (by (first | rfl | (simp only [g6, go_sem, simprocAttr]; done) | (simp only [g6, go_sem, simprocAttr]; rfl)))
   ⟨_, ⟨by (first | rfl | (simp only [go_sem, simprocAttr]; done) | (simp only [go_sem, simprocAttr]; rfl)), by (first | rfl | (simp only [go_sem, simprocAttr]; done) | (simp only [go_sem, simprocAttr]; rfl)), by (first | rfl | (simp only [cNet, go_sem, simprocAttr]; done) | (simp only [cNet, go_sem, simprocAttr]; rfl)), by (first | rfl | (simp only [go_sem, simprocAttr]; done) | (simp only [go_sem, simprocAttr]; rfl)), by (first | rfl | (simp only [go_sem, simprocAttr]; done) | (simp only [go_sem, simprocAttr]; rfl))⟩, by (first | rfl | (simp only [goodC, go_sem, simprocAttr]; done) | (simp only [goodC, go_sem, simprocAttr]; rfl)), by (first | rfl | (simp only [g14, go_sem, simprocAttr]; done) | (simp only [g14, go_sem, simprocAttr]; rfl)), by (first | rfl | (simp only [g16', go_sem, simprocAttr]; done) | (simp only [g16', go_sem, simprocAttr]; rfl)), by (first | rfl | (simp only [g16, go_sem, simprocAttr]; done) | (simp only [g16, go_sem, simprocAttr]; rfl)), n.pipes, by (first | rfl | (simp only [g6, go_sem, simprocAttr]; done) | (simp only [g6, go_sem, simprocAttr]; rfl)), rfl, fun i p p' h => by omega, fun i _ => rfl⟩ ?_ ?_
  ·clear hcut7 g6 g16 g8 g14 g16'
   rintro k f H hk h36 h35 ⟨e8, ⟨h1, h2, h3, h7, h8⟩, k8, k14, k16, k616, S, k6, hSl, hS1, hS2⟩
   obtain ⟨p, hp⟩ : ∃ x, n.pipes[k]? = some x := ⟨_, List.getElem?_eq_getElem hk⟩
   have hSk : S[k]? = some p := by rw [hS2 k (Nat.le_refl _)]; exact hp
   have hpb := (hF.pipe k p hp).2.2
   have c0 := hcb (k : Int)
   have c1 := hcb ((k + 1 : Nat) : Int)
   have hk0 := hch (k : Int) (by omega)
   have hk1 := hch ((k + 1 : Nat) : Int) (by omega)
   have z0 : ¬ p.foul.lo + 1 = 0 := by omega
   have d0 : 0 ≤ (chI by1 (k : Int)).tmod (p.foul.lo + 1) := Int.tmod_nonneg _ c0.1
   have d1 : (chI by1 (k : Int)).tmod (p.foul.lo + 1) < p.foul.lo + 1 := Int.tmod_lt_of_pos _ (by omega)
   obtain ⟨u, hu⟩ : ∃ d, (chI by1 (k : Int)).tmod (p.foul.lo + 1) = d := ⟨_, rfl⟩
   rw [hu] at d0 d1
   have z1 : ¬ p.foul.hi - (p.foul.lo - u) + 1 = 0 := by omega
   have d2 : 0 ≤ (chI by1 ((k + 1 : Nat) : Int)).tmod (p.foul.hi - (p.foul.lo - u) + 1) := Int.tmod_nonneg _ c1.1
   have d3 : (chI by1 ((k + 1 : Nat) : Int)).tmod (p.foul.hi - (p.foul.lo - u) + 1) < p.foul.hi - (p.foul.lo - u) + 1 := Int.tmod_lt_of_pos _ (by omega)
   obtain ⟨v, hv⟩ : ∃ d, (chI by1 ((k + 1 : Nat) : Int)).tmod (p.foul.hi - (p.foul.lo - u) + 1) = d := ⟨_, rfl⟩
   rw [hv] at d2 d3
   obtain ⟨a0, ha0⟩ : ∃ a, chI by1 (k : Int) = a := ⟨_, rfl⟩
   obtain ⟨a1, ha1⟩ : ∃ a, chI by1 ((k + 1 : Nat) : Int) = a := ⟨_, rfl⟩
   rw [ha0] at c0 hk0 hu
   rw [ha1] at c1 hk1 hv
   simp only [goodC] at k8
   have hkS : k < S.length := by omega
   repeat' (first | ((fail_if_success (with_reducible refine AW_at (id := 11) ?_)); with_reducible refine sk ?_; intro K hK) | ((with_reducible first | refine rg (md := { base := 0, own := [8, 14, 16], imp := [32] }) (h := ?_) | refine rgS [8, 14, 16] (md := { base := 0, own := [8, 14, 16], imp := [32] }) (h := ?_) | refine nx ?_); try simp (disch := omega) only [h1, h2, h3, h7, h8, h35, h36, k8, k6, hSk, hSl, hk, cPipe,go_sem, simprocAttr]) | (with_reducible refine bk ?_) | ((with_reducible refine' cE ?hv ?_ ?_); (case hv => first | rfl | (simp only [h1, h2, h3, h7, h8, h35, h36, k8, k6, hSk, hSl, hk, cPipe,go_sem, simprocAttr]; rfl)); all_goals (intro hc; (try simp only [go_sem, simprocAttr] at hc); try (exfalso; omega))) | ((with_reducible first | refine grdS_split ?_ ?_ | refine lkG_split ?_ ?_) <;> intro hg <;> (try simp (disch := omega) only [hg, h1, h2, h3, h7, h8, h35, h36, k8, k6, hSk, hSl, hk, cPipe,go_sem, simprocAttr]) <;> (try simp only [go_sem, simprocAttr] at hg) <;> (try (exfalso; omega))) | with_reducible intro (ep : Nat → Nat) | with_reducible apply_assumption -exfalso -symm only [*])
   refine sk ?_; intro K hK
   have hcutR : ∀ f H, (SurP n b by1 e8 f ∧ f 9 = .int .i64 k ∧ f 10 = .ptr 606 e6 4 k 2 ∧ f 35 = .int .i64 n.pipes.length ∧ f 36 = .int .i64 k) ∧ H 8 = some (e8, .arr 7 [goodC n e6 e16]) ∧ H 14 = none ∧ H 16 = none ∧ H 616 = some (e16, .arr 3 (n.pumps.map cPump)) ∧ H 606 = some (e6, .arr 4 ((S.map cPipe).set k [.int .i64 p.frm, .int .i64 p.to, .int .i64 (p.foul.lo - u), .int .i64 p.foul.hi])) → K f H := by
    clear h1 h2 h3 h7 h8 h35 h36 k8 k14 k16 k616 k6
    rintro f H ⟨⟨⟨h1, h2, h3, h7, h8⟩, h9, h10, h35, h36⟩, k8, k14, k16, k616, k6⟩
    refine hK f H ?_
    clear hK
    have hS' : ((S.map cPipe).set k [.int .i64 p.frm, .int .i64 p.to, .int .i64 (p.foul.lo - u), .int .i64 p.foul.hi]) = (S.set k ⟨p.frm, p.to, ⟨p.foul.lo - u, p.foul.hi⟩⟩).map cPipe := by rw [List.map_set]; rfl
    rw [hS'] at k6
    have hg : (S.set k ⟨p.frm, p.to, ⟨p.foul.lo - u, p.foul.hi⟩⟩)[k]? = some ⟨p.frm, p.to, ⟨p.foul.lo - u, p.foul.hi⟩⟩ := set_get hSk
    have hgl : (S.set k ⟨p.frm, p.to, ⟨p.foul.lo - u, p.foul.hi⟩⟩).length = n.pipes.length := by simp [hSl]
    obtain ⟨S1, hS1e⟩ : ∃ S1, S.set k ⟨p.frm, p.to, ⟨p.foul.lo - u, p.foul.hi⟩⟩ = S1 := ⟨_, rfl⟩
    rw [hS1e] at k6 hg hgl
    have hgk : k < S1.length := by omega
    repeat' (first | (with_reducible refine sk ?_; intro K hK) | ((first | (with_reducible first | refine rg (md := { base := 0, own := [8, 14, 16], imp := [32] }) (h := ?_) | refine rgS [8, 14, 16] (md := { base := 0, own := [8, 14, 16], imp := [32] }) (h := ?_) | refine nx ?_) | refine pK (hk1) ?_); try simp (disch := omega) only [h1, h2, h3, h7, h8, h9, h10, h35, h36, k8, k6, hg, hgl, hgk, hk, hv, z1, cPipe,go_sem, simprocAttr]) | (with_reducible refine bk ?_) | ((with_reducible refine' cE ?hv ?_ ?_); (case hv => first | rfl | (simp only [h1, h2, h3, h7, h8, h9, h10, h35, h36, k8, k6, hg, hgl, hgk, hk, hv, z1, cPipe,go_sem, simprocAttr]; rfl)); all_goals (intro hc; (try simp only [go_sem, simprocAttr] at hc); try (exfalso; omega))) | ((with_reducible first | refine grdS_split ?_ ?_ | refine lkG_split ?_ ?_) <;> intro hg <;> (try simp (disch := omega) only [hg, h1, h2, h3, h7, h8, h9, h10, h35, h36, k8, k6, hg, hgl, hgk, hk, hv, z1, cPipe,go_sem, simprocAttr]) <;> (try simp only [go_sem, simprocAttr] at hg) <;> (try (exfalso; omega))) | (first | refine iK (hk1) ?_) | with_reducible intro (ep : Nat → Nat) | with_reducible apply_assumption -exfalso -symm only [*])
    refine ⟨e8, ⟨by (first | rfl | (simp only [h1, go_sem, simprocAttr]; done) | (simp only [h1, go_sem, simprocAttr]; rfl)), by (first | rfl | (simp only [h2, go_sem, simprocAttr]; done) | (simp only [h2, go_sem, simprocAttr]; rfl)), by (first | rfl | (simp only [h3, go_sem, simprocAttr]; done) | (simp only [h3, go_sem, simprocAttr]; rfl)), by (first | rfl | (simp only [h7, go_sem, simprocAttr]; done) | (simp only [h7, go_sem, simprocAttr]; rfl)), by (first | rfl | (simp only [h8, go_sem, simprocAttr]; done) | (simp only [h8, go_sem, simprocAttr]; rfl))⟩, by (first | rfl | (simp only [k8, go_sem, simprocAttr]; done) | (simp only [k8, go_sem, simprocAttr]; rfl)), by (first | rfl | (simp only [k14, go_sem, simprocAttr]; done) | (simp only [k14, go_sem, simprocAttr]; rfl)), by (first | rfl | (simp only [k16, go_sem, simprocAttr]; done) | (simp only [k16, go_sem, simprocAttr]; rfl)), by (first | rfl | (simp only [k616, go_sem, simprocAttr]; done) | (simp only [k616, go_sem, simprocAttr]; rfl)), S1.set k ⟨p.frm, p.to, ⟨p.foul.lo - u, p.foul.hi - v⟩⟩, by rw [List.map_set]; (first | rfl | (simp only [go_sem, simprocAttr]; done) | (simp only [go_sem, simprocAttr]; rfl)), by simp [hgl], fun i q q' hi hq hq' => ?_, fun i hi => ?_⟩
    ·by_cases hik : i = k
     ·subst hik
      rw [List.getElem?_set_self (by omega)] at hq'
      rw [hp] at hq; cases hq; cases hq'
      exact ⟨rfl, rfl, by simp only; omega⟩
     ·rw [List.getElem?_set_ne (by omega), ← hS1e, List.getElem?_set_ne (by omega)] at hq'
      exact hS1 i q q' (by omega) hq hq'
    ·rw [List.getElem?_set_ne (by omega), ← hS1e, List.getElem?_set_ne (by omega)]
     exact hS2 i (by omega)
   clear hK
   repeat' (first | (with_reducible refine sk ?_; intro K hK) | ((first | (with_reducible first | refine rg (md := { base := 0, own := [8, 14, 16], imp := [32] }) (h := ?_) | refine rgS [8, 14, 16] (md := { base := 0, own := [8, 14, 16], imp := [32] }) (h := ?_) | refine nx ?_) | refine pK (hk0) ?_); try simp (disch := omega) only [h1, h2, h3, h7, h8, h35, h36, k8, k6, hSk, hSl, hkS, hk, hu, z0, cPipe,go_sem, simprocAttr]) | (with_reducible refine bk ?_) | ((with_reducible refine' cE ?hv ?_ ?_); (case hv => first | rfl | (simp only [h1, h2, h3, h7, h8, h35, h36, k8, k6, hSk, hSl, hkS, hk, hu, z0, cPipe,go_sem, simprocAttr]; rfl)); all_goals (intro hc; (try simp only [go_sem, simprocAttr] at hc); try (exfalso; omega))) | ((with_reducible first | refine grdS_split ?_ ?_ | refine lkG_split ?_ ?_) <;> intro hg <;> (try simp (disch := omega) only [hg, h1, h2, h3, h7, h8, h35, h36, k8, k6, hSk, hSl, hkS, hk, hu, z0, cPipe,go_sem, simprocAttr]) <;> (try simp only [go_sem, simprocAttr] at hg) <;> (try (exfalso; omega))) | (first | refine iK (hk0) ?_) | with_reducible intro (ep : Nat → Nat) | with_reducible apply_assumption -exfalso -symm only [*])
   exact ⟨⟨⟨by (first | rfl | (simp only [h1, go_sem, simprocAttr]; done) | (simp only [h1, go_sem, simprocAttr]; rfl)), by (first | rfl | (simp only [h2, go_sem, simprocAttr]; done) | (simp only [h2, go_sem, simprocAttr]; rfl)), by (first | rfl | (simp only [h3, go_sem, simprocAttr]; done) | (simp only [h3, go_sem, simprocAttr]; rfl)), by (first | rfl | (simp only [h7, go_sem, simprocAttr]; done) | (simp only [h7, go_sem, simprocAttr]; rfl)), by (first | rfl | (simp only [h8, go_sem, simprocAttr]; done) | (simp only [h8, go_sem, simprocAttr]; rfl))⟩, by (and_intros <;> first | rfl | (simp only [h35, h36, go_sem, simprocAttr]; done) | (simp only [h35, h36, go_sem, simprocAttr]; rfl))⟩, by (first | rfl | (simp only [k8, goodC, go_sem, simprocAttr]; done) | (simp only [k8, goodC, go_sem, simprocAttr]; rfl)), by (first | rfl | (simp only [k14, go_sem, simprocAttr]; done) | (simp only [k14, go_sem, simprocAttr]; rfl)), by (first | rfl | (simp only [k16, go_sem, simprocAttr]; done) | (simp only [k16, go_sem, simprocAttr]; rfl)), by (first | rfl | (simp only [k616, go_sem, simprocAttr]; done) | (simp only [k616, go_sem, simprocAttr]; rfl)), by (first | rfl | (simp only [go_sem, simprocAttr]; done) | (simp only [go_sem, simprocAttr]; rfl))⟩
  ·rintro f H h36 h35 ⟨e8, hP, k8, k14, k16, k616, S, k6, hSl, hS1, hS2⟩
   exact hcut7 _ _ ⟨e8, S, ⟨by (first | rfl | (simp only [hP.1, go_sem, simprocAttr]; done) | (simp only [hP.1, go_sem, simprocAttr]; rfl)), by (first | rfl | (simp only [hP.2.1, go_sem, simprocAttr]; done) | (simp only [hP.2.1, go_sem, simprocAttr]; rfl)), by (first | rfl | (simp only [hP.2.2.1, go_sem, simprocAttr]; done) | (simp only [hP.2.2.1, go_sem, simprocAttr]; rfl)), by (first | rfl | (simp only [hP.2.2.2.1, go_sem, simprocAttr]; done) | (simp only [hP.2.2.2.1, go_sem, simprocAttr]; rfl)), by (first | rfl | (simp only [hP.2.2.2.2, go_sem, simprocAttr]; done) | (simp only [hP.2.2.2.2, go_sem, simprocAttr]; rfl))⟩, k8, k14, k16, k6, k616, hSl, fun i p p' h1 h2 => hS1 i p p' (by have := (List.getElem?_eq_some_iff.1 h1).1; omega) h1 h2⟩
 ·simp only [Bool.not_eq_true] at hr
  rw [hr] at hrd
  refine PureC_of (fn := Try.f10) tabOK (by kernel_rfl) rfl (by kernel_rfl) (by simp [Try.f10]) (by simp [noids, noid, noidss, go_sem, encNet, cNet]) (by first | rfl | simp [noids, noid, noidss, go_sem, encNet, cNet]) ?_
  intro X hX0 hXs
  repeat' (first | (with_reducible refine sk ?_; intro K hK) | ((first | (with_reducible first | refine rg (md := { base := 0, own := [8, 14, 16], imp := [32] }) (h := ?_) | refine rgS [8, 14, 16] (md := { base := 0, own := [8, 14, 16], imp := [32] }) (h := ?_) | refine nx ?_) | refine pK (alive_run) ?_ | refine pK (hrd) ?_); try simp (disch := omega) only [encNet, cNet,go_sem, simprocAttr]) | (with_reducible refine bk ?_) | ((with_reducible refine' cE ?hv ?_ ?_); (case hv => first | rfl | (simp only [encNet, cNet,go_sem, simprocAttr]; rfl)); all_goals (intro hc; (try simp only [go_sem, simprocAttr] at hc); try (exfalso; omega))) | ((with_reducible first | refine grdS_split ?_ ?_ | refine lkG_split ?_ ?_) <;> intro hg <;> (try simp (disch := omega) only [hg, encNet, cNet,go_sem, simprocAttr]) <;> (try simp only [go_sem, simprocAttr] at hg) <;> (try (exfalso; omega))) | (first | refine iK (alive_run) ?_ | refine iK (hrd) ?_) | ((with_reducible refine fe ?_); refine ⟨_, (by simp only [Try.f10, encNet, cNet,go_sem, simprocAttr]; rfl), ?_⟩; first | rfl | (try simp only [encNet, cNet,go_sem, simprocAttr, seval])) | with_reducible intro (ep : Nat → Nat) | with_reducible apply_assumption -exfalso -symm only [*])
end Cp
