/- Rules, facts and contracts that the statement's proof leans on. Conditions: none. -/
import Derived.Test.YtfpbidbjgigljaaP8
set_option linter.unusedVariables false
set_option linter.unusedSimpArgs false
set_option linter.unusedSectionVars false
namespace Cp
open Go Go.Proofs
set_option maxRecDepth 10000
set_option maxHeartbeats 1000000
def cPlant (n : NetT) (hs : List HeadT) (e33 e34 k : Nat) : List Val := [.lst 4 (n.pipes.map cPipe), .lst 8 (n.heads.map cHead), .lst 3 (n.pumps.map cPump), .int .i64 n.out, .int .i64 n.tank.lo, .int .i64 n.tank.hi, .int .i64 n.mins, .lst 8 (hs.map cHead), .gr 433 e33 k, .map 434 e34]
structure UpH (n : NetT) (hs : List HeadT) (e9 e10 e36 e33 e34 : Nat) (F : List Int) (H : Hp) : Prop where
 h9 : H 409 = some (e9, .arr 1 [[.ptr 436 e36 10 0 0]])
 h10 : H 410 = some (e10, .arr 1 [[.fn 85 [.ptr 409 e9 1 0 0, .ptr 410 e10 1 0 0, .pim (cNet n)]]])
 h36 : H 436 = some (e36, .arr 10 [cPlant n hs e33 e34 F.length])
 h33 : H 433 = some (e33, .arr 1 (ints F))
theorem ints_set {F : List Int} {k : Nat} {x : Int} : (ints F).set k [.int .i64 x] = ints (F.set k x) := by simp [ints, List.map_set]
theorem up_ok (n : NetT) (hF : NetF n) (hs : List HeadT) (e9 e10 e36 e33 e34 : Nat) (need : Int) (hn : 1 ≤ need ∧ need ≤ 500) : ∀ (k : Nat) (F : List Int) (H0 : Hp), k ≤ n.pipes.length → F.length = n.pipes.length + 1 → (∀ (j : Nat) (x : Int), j ≤ k → F[j]? = some x → 0 ≤ x ∧ x ≤ 1000000) → UpH n hs e9 e10 e36 e33 e34 F H0 →
  ACall Try.prog 85 [.int .i64 k, .int .i64 need, .ptr 409 e9 1 0 0, .ptr 410 e10 1 0 0, .pim (cNet n)] H0 (fun v H' => (∀ j, ¬ j = 433 → H' j = H0 j) ∧ H' 433 = some (e33, .arr 1 (ints (addV n.pipes k need F)))) := by
 intro k
 induction k using Nat.strongRecOn with
 | _ k ih =>
  intro F H0 hk hl hFb hU
  have hpl := hF.pipes
  obtain ⟨h9, h10, h36, h33⟩ := hU
  obtain ⟨x, hx⟩ : ∃ x, F[k]? = some x := ⟨_, List.getElem?_eq_getElem (by omega)⟩
  have hxb := hFb k x (Nat.le_refl _) hx
  have hkl : k < F.length := by omega
  refine ACall_of (fn := Try.f85) tabOK (by kernel_rfl) rfl (by kernel_rfl) (by simp [Try.f85]) ?_
  intro X hX0 hXs
  by_cases h0 : k = 0
  ·subst h0
   have hz := addV_zero hF.falls (need := need) hx
   rw [hz]
   repeat' (first | (with_reducible refine sk ?_; intro K hK) | ((with_reducible first | refine rg (md := { base := 500, own := [], imp := [28] }) (h := ?_) | refine nx ?_); try simp (disch := omega) only [h9, h10, h36, h33, hx, hkl, cPlant,go_sem, simprocAttr]) | (with_reducible refine bk ?_) | ((with_reducible refine' cE ?hv ?_ ?_); (case hv => first | rfl | (simp only [h9, h10, h36, h33, hx, hkl, cPlant,go_sem, simprocAttr]; rfl)); all_goals (intro hc; (try simp only [go_sem, simprocAttr] at hc); try (exfalso; omega))) | with_reducible intro (ep : Nat → Nat) | with_reducible apply_assumption -exfalso -symm only [*])
   refine FnQ_end (Or.inr rfl) (.refl _) (by simp only [Try.f85, go_sem, simprocAttr]; rfl) ?_
   exact ⟨fun j hj => by simp only [upd]; rw [if_neg hj], by simp only [go_sem, simprocAttr, ints_set]⟩
  ·have hst := addV_step hF.falls (k := k) (by omega) (need := need) hx
   rw [hst]
   obtain ⟨i, rfl⟩ : ∃ i, k = i + 1 := ⟨k - 1, by omega⟩
   obtain ⟨p, hp⟩ : ∃ p, n.pipes[i]? = some p := ⟨_, List.getElem?_eq_getElem (by omega)⟩
   have hfl := (hF.pipe i p hp).2.1
   have hfe : frmOf n.pipes (i + 1) = p.frm.toNat := frmOf_get hp
   have hlt := frmOf_lt hF.falls (k := i + 1) (by omega)
   have hfc : ((frmOf n.pipes (i + 1) : Nat) : Int) = p.frm := by omega
   have hkp : (0 : Int) < ((i + 1 : Nat) : Int) := by omega
   have hcl := fun H hU => ih (frmOf n.pipes (i + 1)) hlt (F.set (i + 1) (x + need)) H (by omega) (by simpa using hl) (fun j y hj hy => hFb j y (by omega) (by rwa [List.getElem?_set_ne (by omega)] at hy)) hU
   rw [hfc] at hcl
   simp only [cNet] at hcl
   repeat' (first | (with_reducible refine sk ?_; intro K hK) | ((with_reducible first | refine rg (md := { base := 500, own := [], imp := [28] }) (h := ?_) | refine nx ?_); try simp (disch := omega) only [h9, h10, h36, h33, hx, hkl, hp, hkp, cPlant, cNet, cPipe,go_sem, simprocAttr]) | (with_reducible refine bk ?_) | ((with_reducible refine' cE ?hv ?_ ?_); (case hv => first | rfl | (simp only [h9, h10, h36, h33, hx, hkl, hp, hkp, cPlant, cNet, cPipe,go_sem, simprocAttr]; rfl)); all_goals (intro hc; (try simp only [go_sem, simprocAttr] at hc); try (exfalso; omega))) | with_reducible intro (ep : Nat → Nat) | with_reducible apply_assumption -exfalso -symm only [*])
   refine iK (hcl _ ⟨by (first | rfl | (simp only [h9, go_sem, simprocAttr]; done) | (simp only [h9, go_sem, simprocAttr]; rfl)), by (first | rfl | (simp only [h10, cNet, go_sem, simprocAttr]; done) | (simp only [h10, cNet, go_sem, simprocAttr]; rfl)), by simp only [go_sem, simprocAttr, h36, List.length_set, cPlant], by (first | rfl | (simp only [ints_set, go_sem, simprocAttr]; done) | (simp only [ints_set, go_sem, simprocAttr]; rfl))⟩) ?_
   rintro v H' ⟨hs', h33'⟩
   simp only [go_sem, simprocAttr]
   refine FnQ_end (Or.inr rfl) (.refl _) (by simp only [Try.f85, go_sem, simprocAttr]; rfl) ?_
   exact ⟨fun j hj => by rw [hs' j hj]; simp only [upd]; rw [if_neg hj], h33'⟩
theorem mk_ints {k e m : Nat} : xmakeSlice tab k e 29 (.int .i64 (m : Int)) (.int .i64 (m : Int)) = if m ≤ 1073741824 then some (.gr k e m, some (k, some (e, .arr 1 (List.replicate m [.int .i64 0])))) else none := by
 simp only [xmakeSlice, tab_29, tab_3, vc_int, List.length_cons, List.length_nil]
 by_cases h : m ≤ 1073741824
 ·rw [if_pos h, if_pos (by simp; omega)]; simp
 ·rw [if_neg h, if_neg (by simp; omega)]
def openR (n : NetT) (l : List Int) (H0 : Hp) (v : Val) (H' : Hp) : Prop :=
 (∀ j, j < 400 → H' j = H0 j) ∧ if netOK n = true then (if openOK n.heads l = true then
  ∃ e36 e33 e34 ver, v = .tup [.ptr 436 e36 10 0 0, .int .i64 0] ∧ H' 436 = some (e36, .arr 10 [cPlant n (openH n.heads l) e33 e34 (n.pipes.length + 1)]) ∧ H' 433 = some (e33, .arr 1 (ints (flowL n.pipes (n.pipes.length + 1) (openH n.heads l)))) ∧ H' 434 = some (e34, .map ver [])
  else v = .tup [.nilp, .int .i64 2]) else v = .tup [.nilp, .int .i64 50]
theorem opened_ok (n : NetT) (hs : NetS n) (l : List Int) (hl : l.length ≤ 100000) (H0 : Hp) : ACall Try.prog 53 [encNet n, .lst 1 (ints l)] H0 (openR n l H0) := by
 have hpl := hs.pipes
 have hck := check_ok n (by have := hs.pipes; omega) (by have := hs.heads; omega) (by have := hs.pumps; omega)
 unfold openR checkN at *
 simp only [encNet, cNet] at hck
 refine ACall_of (fn := Try.f53) tabOK (by kernel_rfl) rfl (by kernel_rfl) (by simp [Try.f53]) ?_
 intro X hX0 hXs
 refine AW_cut 400 fun H1 hlow hnone => ?_
 have g9 := hnone 409 (by decide)
 have g10 := hnone 410 (by decide)
 have g33 := hnone 433 (by decide)
 have g34 := hnone 434 (by decide)
 have g36 := hnone 436 (by decide)
 have g12 := hnone 412 (by decide)
 clear hnone
 cases hN : netOK n with
 | false =>
  rw [hN] at hck
  repeat' (first | (with_reducible refine sk ?_; intro K hK) | ((first | (with_reducible first | refine rg (md := { base := 400, own := [9, 10, 33, 34, 36], imp := [49] }) (h := ?_) | refine rgS [9, 10, 12] (md := { base := 400, own := [9, 10, 33, 34, 36], imp := [49] }) (h := ?_) | refine nx ?_) | refine pK (hck) ?_); try simp (disch := omega) only [encNet, cNet,go_sem, simprocAttr]) | (with_reducible refine bk ?_) | ((with_reducible refine' cE ?hv ?_ ?_); (case hv => first | rfl | (simp only [encNet, cNet,go_sem, simprocAttr]; rfl)); all_goals (intro hc; (try simp only [go_sem, simprocAttr] at hc); try (exfalso; omega))) | (first | refine iK (hck) ?_) | with_reducible intro (ep : Nat → Nat) | with_reducible apply_assumption -exfalso -symm only [*])
  refine FnQ_end (Or.inl rfl) (.refl _) (by simp only [Try.f53, go_sem, simprocAttr]; rfl) ?_
  exact ⟨hlow, by simp only [go_sem, simprocAttr]⟩
 | true =>
  rw [hN] at hck
  have hF := net_facts hN
  have hli := listedH_ok n.heads hF.ids (by have := hF.heads; omega) l hl
  unfold listedT at hli
  cases hO : openOK n.heads l with
  | false =>
   rw [hO] at hli
   repeat' (first | (with_reducible refine sk ?_; intro K hK) | ((first | (with_reducible first | refine rg (md := { base := 400, own := [9, 10, 33, 34, 36], imp := [49] }) (h := ?_) | refine rgS [9, 10, 12] (md := { base := 400, own := [9, 10, 33, 34, 36], imp := [49] }) (h := ?_) | refine nx ?_) | refine pK (hck) ?_ | refine pK (hli) ?_); try simp (disch := omega) only [encNet, cNet,go_sem, simprocAttr]) | (with_reducible refine bk ?_) | ((with_reducible refine' cE ?hv ?_ ?_); (case hv => first | rfl | (simp only [encNet, cNet,go_sem, simprocAttr]; rfl)); all_goals (intro hc; (try simp only [go_sem, simprocAttr] at hc); try (exfalso; omega))) | (first | refine iK (hck) ?_ | refine iK (hli) ?_) | with_reducible intro (ep : Nat → Nat) | with_reducible apply_assumption -exfalso -symm only [*])
   refine FnQ_end (Or.inl rfl) (.refl _) (by simp only [Try.f53, go_sem, simprocAttr]; rfl) ?_
   exact ⟨hlow, by simp only [go_sem, simprocAttr]⟩
  | true =>
   rw [hO] at hli
   have hpb : n.pipes.length + 1 ≤ 1073741824 := by omega
   have hrep : List.replicate (n.pipes.length + 1) [Val.int .i64 0] = ints (flowL n.pipes (n.pipes.length + 1) []) := by rw [flowL_nil]; simp [ints]
   repeat' (first | ((fail_if_success (with_reducible refine AW_at (id := 10) ?_)); with_reducible refine sk ?_; intro K hK) | ((first | (with_reducible first | refine rg (md := { base := 400, own := [9, 10, 33, 34, 36], imp := [49] }) (h := ?_) | refine rgS [9, 10, 12] (md := { base := 400, own := [9, 10, 33, 34, 36], imp := [49] }) (h := ?_) | refine nx ?_) | refine pK (hck) ?_ | refine pK (hli) ?_); try simp (disch := omega) only [encNet, cNet, g9, g10, g33, g34, g36, mk_ints, hpb, hrep,go_sem, simprocAttr]) | (with_reducible refine bk ?_) | ((with_reducible refine' cE ?hv ?_ ?_); (case hv => first | rfl | (simp only [encNet, cNet, g9, g10, g33, g34, g36, mk_ints, hpb, hrep,go_sem, simprocAttr]; rfl)); all_goals (intro hc; (try simp only [go_sem, simprocAttr] at hc); try (exfalso; omega))) | (first | refine iK (hck) ?_ | refine iK (hli) ?_) | ((with_reducible refine fe ?_); refine ⟨_, (by simp only [Try.f53, encNet, cNet, g9, g10, g33, g34, g36, mk_ints, hpb, hrep,go_sem, simprocAttr]; rfl), ?_⟩; first | rfl | (try simp only [encNet, cNet, g9, g10, g33, g34, g36, mk_ints, hpb, hrep,go_sem, simprocAttr, seval])) | with_reducible intro (ep : Nat → Nat) | with_reducible apply_assumption -exfalso -symm only [*])
   have ho := open_le hF.ids hO
   have hLl : (openH n.heads l).length ≤ 12 := by have h1 := @openH_len n.heads l; have h2 := hs.heads; omega
   have hL5 := openH_500 hF l
   have hLn := fun h hm => openH_node hF (l := l) (h := h) hm
   obtain ⟨L, hL⟩ : ∃ L, openH n.heads l = L := ⟨_, rfl⟩
   rw [hL] at hLl hL5 hLn
   simp only [hL]
   repeat' (first | (with_reducible refine sk ?_; intro K hK) | ((with_reducible first | refine rg (md := { base := 400, own := [9, 10, 33, 34, 36], imp := [49] }) (h := ?_) | refine rgS [9, 10, 12] (md := { base := 400, own := [9, 10, 33, 34, 36], imp := [49] }) (h := ?_) | refine nx ?_); try simp (disch := omega) only [hL,go_sem, simprocAttr]) | (with_reducible refine bk ?_) | ((with_reducible refine' cE ?hv ?_ ?_); (case hv => first | rfl | (simp only [hL,go_sem, simprocAttr]; rfl)); all_goals (intro hc; (try simp only [go_sem, simprocAttr] at hc); try (exfalso; omega))) | ((with_reducible refine fe ?_); refine ⟨_, (by simp only [Try.f53, hL,go_sem, simprocAttr]; rfl), ?_⟩; first | rfl | (try simp only [hL,go_sem, simprocAttr, seval])) | with_reducible intro (ep : Nat → Nat) | with_reducible apply_assumption -exfalso -symm only [*])
   refine AW_range tabOK L.length (fun k f H => f 38 = .lst 8 (L.map cHead) ∧ (∀ j, j < 400 → H j = H0 j) ∧ ∃ e9 e10 e36 e33 e34 ver, (f 9 = .ptr 409 e9 1 0 0 ∧ f 10 = .ptr 410 e10 1 0 0) ∧ UpH n L e9 e10 e36 e33 e34 (flowL n.pipes (n.pipes.length + 1) (L.take k)) H ∧ H 434 = some (e34, .map ver [])) (by omega) (by rw [hXs]; decide) (by decide) (by (first | rfl | (simp only [hL, go_sem, simprocAttr]; done) | (simp only [hL, go_sem, simprocAttr]; rfl))) (by (first | rfl | (simp only [hL, go_sem, simprocAttr]; done) | (simp only [hL, go_sem, simprocAttr]; rfl)))
    ⟨by (first | rfl | (simp only [hL, go_sem, simprocAttr]; done) | (simp only [hL, go_sem, simprocAttr]; rfl)), fun j hj => by (try simp only [upd]); (repeat rw [if_neg (by omega)]); exact hlow j hj, _, _, _, _, _, _, ⟨by (first | rfl | (simp only [go_sem, simprocAttr]; done) | (simp only [go_sem, simprocAttr]; rfl)), by (first | rfl | (simp only [go_sem, simprocAttr]; done) | (simp only [go_sem, simprocAttr]; rfl))⟩, ⟨by (first | rfl | (simp only [go_sem, simprocAttr]; done) | (simp only [go_sem, simprocAttr]; rfl)), by (first | rfl | (simp only [cNet, go_sem, simprocAttr]; done) | (simp only [cNet, go_sem, simprocAttr]; rfl)), by simp only [go_sem, simprocAttr, cPlant, flowL_len, hL]; rfl, by (first | rfl | (simp only [List.take_zero, go_sem, simprocAttr]; done) | (simp only [List.take_zero, go_sem, simprocAttr]; rfl))⟩, by (first | rfl | (simp only [go_sem, simprocAttr]; done) | (simp only [go_sem, simprocAttr]; rfl))⟩ ?_ ?_
   ·clear hlow g9 g10 g33 g34 g36 g12
    rintro k f H hk h40 h39 ⟨h38, hlow, e9, e10, e36, e33, e34, ver, ⟨h9, h10⟩, hU, hm⟩
    obtain ⟨h, hh⟩ : ∃ h, L[k]? = some h := ⟨_, List.getElem?_eq_getElem hk⟩
    have hmem := List.mem_of_getElem? hh
    have hnd := hLn h hmem
    have hne := hL5 h hmem
    have h5t : heads500 (L.take k) := fun x hx => hL5 x (List.mem_of_mem_take hx)
    have hlt : (L.take k).length ≤ 12 := by simp; omega
    refine AW_lose 412 fun H1 g12 hs1 => ?_
    have hU1 : UpH n L e9 e10 e36 e33 e34 (flowL n.pipes (n.pipes.length + 1) (L.take k)) H1 := ⟨by rw [hs1 _ (by decide)]; exact hU.h9, by rw [hs1 _ (by decide)]; exact hU.h10, by rw [hs1 _ (by decide)]; exact hU.h36, by rw [hs1 _ (by decide)]; exact hU.h33⟩
    have hm1 : H1 434 = some (e34, .map ver []) := by rw [hs1 _ (by decide)]; exact hm
    have hlow1 : ∀ j, j < 400 → H1 j = H0 j := fun j hj => by rw [hs1 _ (by omega)]; exact hlow j hj
    clear hs1 hU hm hlow
    have hup := fun H hU => up_ok n hF L e9 e10 e36 e33 e34 h.need hne h.node.toNat (flowL n.pipes (n.pipes.length + 1) (L.take k)) H (by omega) flowL_len (fun j x hj hx => by
     have hjn : j < n.pipes.length + 1 := by omega
     rw [flowL_get hjn] at hx
     cases hx
     have b1 := flowAt_bnd (ps := n.pipes) (j := j) h5t
     have b2 := needs_bnd h5t
     omega) hU
    have hcast : ((h.node.toNat : Nat) : Int) = h.node := by omega
    rw [hcast, addV_flow, ← take_snoc' hh] at hup
    have u9 := hU1.h9
    have u10 := hU1.h10
    repeat' (first | (with_reducible refine sk ?_; intro K hK) | ((with_reducible first | refine rg (md := { base := 400, own := [9, 10, 33, 34, 36], imp := [49] }) (h := ?_) | refine rgS [9, 10, 12] (md := { base := 400, own := [9, 10, 33, 34, 36], imp := [49] }) (h := ?_) | refine nx ?_); try simp (disch := omega) only [h9, h10, h38, h39, h40, g12, u9, u10, hh, cHead,go_sem, simprocAttr]) | (with_reducible refine bk ?_) | ((with_reducible refine' cE ?hv ?_ ?_); (case hv => first | rfl | (simp only [h9, h10, h38, h39, h40, g12, u9, u10, hh, cHead,go_sem, simprocAttr]; rfl)); all_goals (intro hc; (try simp only [go_sem, simprocAttr] at hc); try (exfalso; omega))) | with_reducible intro (ep : Nat → Nat) | with_reducible apply_assumption -exfalso -symm only [*])
    refine iK (hup _ ⟨by (first | rfl | (simp only [u9, go_sem, simprocAttr]; done) | (simp only [u9, go_sem, simprocAttr]; rfl)), by (first | rfl | (simp only [u10, go_sem, simprocAttr]; done) | (simp only [u10, go_sem, simprocAttr]; rfl)), by (first | rfl | (simp only [hU1.h36, go_sem, simprocAttr]; done) | (simp only [hU1.h36, go_sem, simprocAttr]; rfl)), by (first | rfl | (simp only [hU1.h33, go_sem, simprocAttr]; done) | (simp only [hU1.h33, go_sem, simprocAttr]; rfl))⟩) ?_
    rintro v H' ⟨hs', h33'⟩
    simp only [go_sem, simprocAttr]
    refine ⟨h40, h39, h38, fun j hj => by rw [hs' j (by omega)]; (try simp only [upd]); (repeat rw [if_neg (by omega)]); exact hlow1 j hj, e9, e10, e36, e33, e34, ver, ⟨h9, h10⟩, ⟨by rw [hs' _ (by decide)]; (first | rfl | (simp only [u9, go_sem, simprocAttr]; done) | (simp only [u9, go_sem, simprocAttr]; rfl)), by rw [hs' _ (by decide)]; (first | rfl | (simp only [u10, go_sem, simprocAttr]; done) | (simp only [u10, go_sem, simprocAttr]; rfl)), by rw [hs' _ (by decide), flowL_len]; have := hU1.h36; rw [flowL_len] at this; (first | rfl | (simp only [this, go_sem, simprocAttr]; done) | (simp only [this, go_sem, simprocAttr]; rfl)), h33'⟩, by rw [hs' _ (by decide)]; (first | rfl | (simp only [hm1, go_sem, simprocAttr]; done) | (simp only [hm1, go_sem, simprocAttr]; rfl))⟩
   ·clear hlow g9 g10 g33 g34 g36 g12
    rintro f H h40 h39 ⟨h38, hlow, e9, e10, e36, e33, e34, ver, ⟨h9, h10⟩, hU, hm⟩
    rw [List.take_of_length_le (Nat.le_refl _)] at hU
    have u9 := hU.h9
    have u36 := hU.h36
    rw [flowL_len] at u36
    repeat' (first | (with_reducible refine sk ?_; intro K hK) | ((with_reducible first | refine rg (md := { base := 400, own := [9, 10, 33, 34, 36], imp := [49] }) (h := ?_) | refine rgS [9, 10, 12] (md := { base := 400, own := [9, 10, 33, 34, 36], imp := [49] }) (h := ?_) | refine nx ?_); try simp (disch := omega) only [h9, u9,go_sem, simprocAttr]) | (with_reducible refine bk ?_) | ((with_reducible refine' cE ?hv ?_ ?_); (case hv => first | rfl | (simp only [h9, u9,go_sem, simprocAttr]; rfl)); all_goals (intro hc; (try simp only [go_sem, simprocAttr] at hc); try (exfalso; omega))) | with_reducible intro (ep : Nat → Nat) | with_reducible apply_assumption -exfalso -symm only [*])
    refine FnQ_end (Or.inl rfl) (.refl _) (by simp only [Try.f53, go_sem, simprocAttr]; rfl) ?_
    rw [hL]
    exact ⟨hlow, e36, e33, e34, ver, by simp only [go_sem, simprocAttr, u36, fzP], u36, hU.h33, hm⟩
end Cp
namespace Cp
open Go
theorem some_works {m : Nat} {out : List Int} (hp : out.Pairwise (· < ·)) (hl : (out.length : Int) ≤ (m : Int) - 1) : ∃ i, i < m ∧ ¬ (i : Int) ∈ out := by
 refine Classical.byContradiction fun h => ?_
 have h2 : ∀ i, i < m → (i : Int) ∈ out := fun i hi => Classical.byContradiction fun h3 => h ⟨i, hi, h3⟩
 have hr : ((List.range m).map fun i : Nat => (i : Int)).Pairwise (· < ·) := List.pairwise_map.2 (List.pairwise_lt_range.imp fun h => by omega)
 have := pair_len hr hp fun a ha => by
  obtain ⟨i, hi, rfl⟩ := List.mem_map.1 ha
  exact h2 i (by simpa using hi)
 simp at this; omega
theorem out_facts {n : NetT} {l : List Int} (h : outOK n l = true) : (∀ a ∈ l, 0 ≤ a ∧ a < n.pumps.length) ∧ l.Pairwise (· < ·) ∧ (l.length : Int) ≤ n.out := by
 unfold outOK at h
 simp only [Bool.and_eq_true, decide_eq_true_eq] at h
 obtain ⟨h1, h2⟩ := okL_none h.1
 exact ⟨fun a ha => by have := h1 a ha; simpa [isPump] using this, h2, h.2⟩
theorem upD_bnd {a b : Int} (ha : 0 ≤ a) (hb : 0 < b) : 0 ≤ upD a b ∧ upD a b ≤ a := by
 unfold upD
 refine ⟨Int.ediv_nonneg (by omega) (by omega), ?_⟩
 by_cases h : a = 0
 ·subst h
  rw [Int.ediv_eq_zero_of_lt (by omega) (by omega)]; omega
 ·refine Int.lt_add_one_iff.1 ((Int.ediv_lt_iff_lt_mul hb).2 ?_)
  have h1 : 1 ≤ a := by omega
  have : a + b ≤ a * b + 1 := by
   have := Int.mul_nonneg (by omega : 0 ≤ a - 1) (by omega : 0 ≤ b - 1)
   rw [Int.sub_mul, Int.mul_sub] at this; omega
  rw [Int.add_mul]; omega
theorem tdiv_up {a b : Int} (ha : 0 ≤ a) (hb : 0 < b) : (a + b - 1).tdiv b = upD a b := by
 unfold upD; exact Int.tdiv_eq_ediv_of_nonneg (by omega)
theorem share_bnd {n : NetT} {flow : Int} {out : List Int} (h0 : 0 ≤ flow) (hl : (out.length : Int) ≤ (n.pumps.length : Int) - 1) : 0 ≤ shareS n flow out ∧ shareS n flow out ≤ flow := upD_bnd h0 (by omega)
theorem fullE_bnd {p : PumpT} (h : 0 ≤ p.full.lo ∧ p.full.lo ≤ p.full.hi ∧ p.full.hi ≤ 100000) (best : Bool) : 0 ≤ fullE best p ∧ fullE best p ≤ 100000 := by
 unfold fullE; split <;> omega
theorem foulE_bnd {p : PipeT} (h : 0 ≤ p.foul.lo ∧ p.foul.lo ≤ p.foul.hi ∧ p.foul.hi ≤ 1000) (best : Bool) : 0 ≤ foulE best p ∧ foulE best p ≤ 1000 := by
 unfold foulE; split <;> omega
theorem pumpsF_start {best : Bool} {share : Int} (hs : 0 ≤ share) {out : List Int} {a b : Int} (ha : 100000 ≤ a) (hb : 100000 ≤ b) : ∀ {l : List PumpT} {i : Nat}, (∀ p ∈ l, (0 ≤ p.full.lo ∧ p.full.lo ≤ p.full.hi ∧ p.full.hi ≤ 100000) ∧ 0 ≤ p.slope ∧ p.slope ≤ 100) → (∃ k, k < l.length ∧ ¬ ((i + k : Nat) : Int) ∈ out) → pumpsF best share out l i a = pumpsF best share out l i b
 | [], i, _, h => by obtain ⟨k, hk, _⟩ := h; simp at hk
 | p :: l, i, hp, ⟨k, hk, hn⟩ => by
  have hp0 := hp p (by simp)
  have hf := fullE_bnd hp0.1 best
  have hsl : 0 ≤ p.slope * share := Int.mul_nonneg hp0.2.1 hs
  simp only [pumpsF]
  by_cases hc : out.contains (i : Int) = true
  ·rw [if_pos hc, if_pos hc]
   refine pumpsF_start hs ha hb (fun q hq => hp q (by simp [hq])) ?_
   cases k with
   | zero => exact absurd (by simpa using hc) hn
   | succ k => exact ⟨k, by simpa using hk, by rwa [show i + 1 + k = i + (k + 1) by omega]⟩
  ·rw [if_neg hc, if_neg hc]
   rw [show min a (fullE best p - p.slope * share) = min b (fullE best p - p.slope * share) by omega]
theorem pumpsS_eq {n : NetT} (hF : NetF n) {out : List Int} (ho : outOK n out = true) {hs : List HeadT} (h5 : heads500 hs) (best : Bool) : pumpsF best (shareS n (needs hs) out) out n.pumps 0 1099511627776 = pumpsS n hs out best := by
 obtain ⟨h1, h2, h3⟩ := out_facts ho
 have h4 := hF.out
 obtain ⟨i, hi, hn⟩ := some_works (m := n.pumps.length) h2 (by omega)
 have hb := needs_bnd h5
 exact pumpsF_start (share_bnd (by omega) (by omega)).1 (by omega) (by omega) hF.pump ⟨i, hi, by simpa using hn⟩
theorem pumpsF_bnd {best : Bool} {share : Int} (hs : 0 ≤ share ∧ share ≤ 10000) {out : List Int} : ∀ {l : List PumpT} {i : Nat} {a : Int}, (∀ p ∈ l, (0 ≤ p.full.lo ∧ p.full.lo ≤ p.full.hi ∧ p.full.hi ≤ 100000) ∧ 0 ≤ p.slope ∧ p.slope ≤ 100) → -1000000 ≤ a → -1000000 ≤ pumpsF best share out l i a ∧ pumpsF best share out l i a ≤ a
 | [], i, a, _, h => by simp [pumpsF, h]
 | p :: l, i, a, hp, h => by
  have hp0 := hp p (by simp)
  have hf := fullE_bnd hp0.1 best
  have h1 : p.slope * share ≤ 100 * share := Int.mul_le_mul_of_nonneg_right hp0.2.2 hs.1
  have h2 : 0 ≤ p.slope * share := Int.mul_nonneg hp0.2.1 hs.1
  simp only [pumpsF]
  have := pumpsF_bnd (best := best) hs (out := out) (l := l) (i := i + 1) (a := if out.contains (i : Int) = true then a else min a (fullE best p - p.slope * share)) (fun q hq => hp q (by simp [hq])) (by split <;> omega)
  refine ⟨this.1, Int.le_trans this.2 ?_⟩
  split <;> omega
theorem sq_bnd {x b : Int} (h : 0 ≤ x ∧ x ≤ b) : 0 ≤ x * x ∧ x * x ≤ b * b := ⟨Int.mul_nonneg h.1 h.1, Int.mul_le_mul h.2 h.2 h.1 (by omega)⟩
theorem loss_bnd {f x : Int} (hf : 0 ≤ f ∧ f ≤ 1000) (hx : 0 ≤ x ∧ x ≤ 10000) : 0 ≤ f * x * x ∧ f * x * x ≤ 100000000000 := by
 have h1 := sq_bnd hx
 have h2 : f * x * x = f * (x * x) := Int.mul_assoc ..
 rw [h2]
 exact ⟨Int.mul_nonneg hf.1 h1.1, Int.le_trans (Int.mul_le_mul hf.2 h1.2 h1.1 (by omega)) (by omega)⟩
def offM (out : List Int) : List (Int × Val) := out.map fun i => (i, .bool true)
theorem offM_len {out : List Int} : (offM out).length = out.length := by simp [offM]
end Cp
namespace Cp
open Go Go.Proofs
set_option maxRecDepth 10000
set_option maxHeartbeats 1000000
theorem sup_ok (a b : Int) (ha : 0 ≤ a ∧ a ≤ 1000000000000) (hb : 1 ≤ b ∧ b ≤ 1000000) : PureC Try.prog 89 [.int .i64 a, .int .i64 b] (.int .i64 (upD a b)) := by
 have hz : ¬ b = 0 := by omega
 have ht := tdiv_up (a := a) (b := b) ha.1 (by omega)
 have hub := upD_bnd (a := a) (b := b) ha.1 (by omega)
 refine PureC_of (fn := Try.f89) tabOK (by kernel_rfl) rfl (by kernel_rfl) (by simp [Try.f89]) (by simp [noids, noid, noidss, go_sem]) (by first | rfl | simp [noids, noid, noidss, go_sem]) ?_
 intro X hX0 hXs
 repeat' (first | (with_reducible refine sk ?_; intro K hK) | ((with_reducible first | refine rg (h := ?_) | refine nx ?_); try simp (disch := omega) only [hz, ht,go_sem, simprocAttr]) | (with_reducible refine bk ?_) | ((with_reducible refine' cE ?hv ?_ ?_); (case hv => first | rfl | (simp only [hz, ht,go_sem, simprocAttr]; rfl)); all_goals (intro hc; (try simp only [go_sem, simprocAttr] at hc); try (exfalso; omega))) | ((with_reducible refine fe ?_); refine ⟨_, (by simp only [Try.f89, hz, ht,go_sem, simprocAttr]; rfl), ?_⟩; first | rfl | (try simp only [hz, ht,go_sem, simprocAttr, seval])) | with_reducible intro (ep : Nat → Nat) | with_reducible apply_assumption -exfalso -symm only [*])
theorem least_ok (a b : Int) : PureC Try.prog 102 [.int .i64 a, .lst 1 [[.int .i64 b]]] (.int .i64 (min a b)) := by
 refine PureC_of (fn := Try.f102) tabOK (by kernel_rfl) rfl (by kernel_rfl) (by simp [Try.f102]) (by simp [noids, noid, noidss, go_sem]) (by first | rfl | simp [noids, noid, noidss, go_sem]) ?_
 intro X hX0 hXs
 repeat' (first | (with_reducible refine sk ?_; intro K hK) | ((with_reducible first | refine rg (h := ?_) | refine nx ?_); try simp (disch := omega) only [go_sem, simprocAttr]) | (with_reducible refine bk ?_) | ((with_reducible refine' cE ?hv ?_ ?_); (case hv => first | rfl | (simp only [go_sem, simprocAttr]; rfl)); all_goals (intro hc; (try simp only [go_sem, simprocAttr] at hc); try (exfalso; omega))) | ((with_reducible refine fe ?_); refine ⟨_, (by simp only [Try.f102, go_sem, simprocAttr]; rfl), ?_⟩; first | rfl | (try simp only [go_sem, simprocAttr, seval])) | with_reducible intro (ep : Nat → Nat) | with_reducible apply_assumption -exfalso -symm only [*])
 refine AW_range tabOK 1 (fun k f H => f 7 = .lst 1 [[.int .i64 b]] ∧ f 0 = .int .i64 (if k = 0 then a else min a b)) (by omega) (by rw [hXs]; decide) (by decide) (by (first | rfl | (simp only [go_sem, simprocAttr]; done) | (simp only [go_sem, simprocAttr]; rfl))) (by (first | rfl | (simp only [go_sem, simprocAttr]; done) | (simp only [go_sem, simprocAttr]; rfl))) ⟨by (first | rfl | (simp only [go_sem, simprocAttr]; done) | (simp only [go_sem, simprocAttr]; rfl)), by (first | rfl | (simp only [go_sem, simprocAttr]; done) | (simp only [go_sem, simprocAttr]; rfl))⟩ ?_ ?_
 ·rintro k f H hk h9 h8 ⟨h7, h0⟩
  obtain rfl : k = 0 := by omega
  simp only [if_true] at h0
  repeat' (first | (with_reducible refine sk ?_; intro K hK) | ((with_reducible first | refine rg (h := ?_) | refine nx ?_); try simp (disch := omega) only [h0, h7, h8, h9,go_sem, simprocAttr]) | (with_reducible refine bk ?_) | ((with_reducible refine' cE ?hv ?_ ?_); (case hv => first | rfl | (simp only [h0, h7, h8, h9,go_sem, simprocAttr]; rfl)); all_goals (intro hc; (try simp only [go_sem, simprocAttr] at hc); try (exfalso; omega))) | ((with_reducible refine fe ?_); refine ⟨_, (by simp only [Try.f102, h0, h7, h8, h9,go_sem, simprocAttr]; rfl), ?_⟩; first | rfl | (try simp only [h0, h7, h8, h9,go_sem, simprocAttr, seval])) | with_reducible intro (ep : Nat → Nat) | with_reducible apply_assumption -exfalso -symm only [*])
 ·rintro f H h9 h8 ⟨h7, h0⟩
  repeat' (first | (with_reducible refine sk ?_; intro K hK) | ((with_reducible first | refine rg (h := ?_) | refine nx ?_); try simp (disch := omega) only [h0,go_sem, simprocAttr]) | (with_reducible refine bk ?_) | ((with_reducible refine' cE ?hv ?_ ?_); (case hv => first | rfl | (simp only [h0,go_sem, simprocAttr]; rfl)); all_goals (intro hc; (try simp only [go_sem, simprocAttr] at hc); try (exfalso; omega))) | ((with_reducible refine fe ?_); refine ⟨_, (by simp only [Try.f102, h0,go_sem, simprocAttr]; rfl), ?_⟩; first | rfl | (try simp only [h0,go_sem, simprocAttr, seval])) | with_reducible intro (ep : Nat → Nat) | with_reducible apply_assumption -exfalso -symm only [*])
theorem low_ok (s : Span) : PureC Try.prog 86 [encSpan s] (.int .i64 s.lo) := by
 refine PureC_of (fn := Try.f86) tabOK (by kernel_rfl) rfl (by kernel_rfl) (by simp [Try.f86]) (by simp [noids, noid, noidss, go_sem, encSpan]) (by first | rfl | simp [noids, noid, noidss, go_sem, encSpan]) ?_
 intro X hX0 hXs
 repeat' (first | (with_reducible refine sk ?_; intro K hK) | ((with_reducible first | refine rg (h := ?_) | refine nx ?_); try simp (disch := omega) only [encSpan,go_sem, simprocAttr]) | (with_reducible refine bk ?_) | ((with_reducible refine' cE ?hv ?_ ?_); (case hv => first | rfl | (simp only [encSpan,go_sem, simprocAttr]; rfl)); all_goals (intro hc; (try simp only [go_sem, simprocAttr] at hc); try (exfalso; omega))) | ((with_reducible refine fe ?_); refine ⟨_, (by simp only [Try.f86, encSpan,go_sem, simprocAttr]; rfl), ?_⟩; first | rfl | (try simp only [encSpan,go_sem, simprocAttr, seval])) | with_reducible intro (ep : Nat → Nat) | with_reducible apply_assumption -exfalso -symm only [*])
theorem high_ok (s : Span) : PureC Try.prog 87 [encSpan s] (.int .i64 s.hi) := by
 refine PureC_of (fn := Try.f87) tabOK (by kernel_rfl) rfl (by kernel_rfl) (by simp [Try.f87]) (by simp [noids, noid, noidss, go_sem, encSpan]) (by first | rfl | simp [noids, noid, noidss, go_sem, encSpan]) ?_
 intro X hX0 hXs
 repeat' (first | (with_reducible refine sk ?_; intro K hK) | ((with_reducible first | refine rg (h := ?_) | refine nx ?_); try simp (disch := omega) only [encSpan,go_sem, simprocAttr]) | (with_reducible refine bk ?_) | ((with_reducible refine' cE ?hv ?_ ?_); (case hv => first | rfl | (simp only [encSpan,go_sem, simprocAttr]; rfl)); all_goals (intro hc; (try simp only [go_sem, simprocAttr] at hc); try (exfalso; omega))) | ((with_reducible refine fe ?_); refine ⟨_, (by simp only [Try.f87, encSpan,go_sem, simprocAttr]; rfl), ?_⟩; first | rfl | (try simp only [encSpan,go_sem, simprocAttr, seval])) | with_reducible intro (ep : Nat → Nat) | with_reducible apply_assumption -exfalso -symm only [*])
def sgF (best : Bool) : FuncId := if best = true then 87 else 86
def endV (best : Bool) : Val := .agg [.fn (sgF best) [], .fn (sgF (!best)) []]
theorem sg_ok (best : Bool) (s : Span) : PureC Try.prog (sgF best) [encSpan s] (.int .i64 (if best then s.hi else s.lo)) := by
 cases best
 ·exact low_ok s
 ·exact high_ok s
theorem ends_ok : PureC Try.prog 60 [] (.agg [.fn (sgF false) [], .fn (sgF true) [], .fn (sgF true) [], .fn (sgF false) []]) := by
 refine PureC_of (fn := Try.f60) tabOK (by kernel_rfl) rfl (by kernel_rfl) (by simp [Try.f60]) (by simp [noids, noid, noidss, go_sem]) (by first | rfl | simp [noids, noid, noidss, go_sem]) ?_
 intro X hX0 hXs
 repeat' (first | (with_reducible refine sk ?_; intro K hK) | ((with_reducible first | refine rg (h := ?_) | refine rgS [0] (h := ?_) | refine nx ?_); try simp (disch := omega) only [go_sem, simprocAttr]) | (with_reducible refine bk ?_) | ((with_reducible refine' cE ?hv ?_ ?_); (case hv => first | rfl | (simp only [go_sem, simprocAttr]; rfl)); all_goals (intro hc; (try simp only [go_sem, simprocAttr] at hc); try (exfalso; omega))) | ((with_reducible refine fe ?_); refine ⟨_, (by simp only [Try.f60, go_sem, simprocAttr]; rfl), ?_⟩; first | rfl | (try simp only [go_sem, simprocAttr, seval])) | with_reducible intro (ep : Nat → Nat) | with_reducible apply_assumption -exfalso -symm only [*])
structure PlH (n : NetT) (hs : List HeadT) (out : List Int) (e36 e33 e34 : Nat) (H : Hp) : Prop where
 h36 : frz1 (H 436) = some (e36, .fro 10 [cPlant n hs e33 e34 (n.pipes.length + 1)])
 h33 : frz1 (H 433) = some (e33, .fro 1 (ints (flowL n.pipes (n.pipes.length + 1) hs)))
 h34 : ∃ ver, frz1 (H 434) = some (e34, .frm ver (imap .i64 (offM out)))
@[go_sem] theorem xfind_off {i : Int} {l : List (Int × Val)} : xfind tab 3 (.int .i64 i) (imap .i64 l) 0 = some (findI i l 0) := xfind_imap tab_3 _ _
theorem findI_off {out : List Int} {i : Int} : ∀ {s : Nat}, (out.contains i = true ∧ ∃ j, findI i (offM out) s = some (j, .bool true)) ∨ (out.contains i = false ∧ findI i (offM out) s = none) := by
 induction out with
 | nil => intro s; exact .inr ⟨rfl, rfl⟩
 | cons a out ih =>
  intro s
  simp only [offM, List.map_cons, findI, List.contains_cons]
  by_cases h : i = a
  ·subst h; exact .inl ⟨by simp, s, by simp⟩
  ·have hb : (i == a) = false := by simpa using h
   rw [if_neg h, hb, Bool.false_or]
   exact ih (s := s + 1)
theorem pumps_look (n : NetT) (hF : NetF n) (hs : List HeadT) (h5 : heads500 hs) (hsl : hs.length ≤ 20) (out : List Int) (ho : outOK n out = true) (best : Bool) (e36 e33 e34 : Nat) (H : Hp) (hP : PlH n hs out e36 e33 e34 H) (hroom : H 1208 = none) :
  LookC Try.prog 88 [.ptr 436 e36 10 0 0, endV best] H (.int .i64 (pumpsS n hs out best)) := by
 obtain ⟨h36, h33, ver, h34⟩ := hP
 have hr : frz1 (H 1208) = none := by rw [hroom]; rfl
 obtain ⟨o1, o2, o3⟩ := out_facts ho
 have hno := hF.out
 have hnp := hF.pumps
 have hnb := needs_bnd h5
 have hsb := share_bnd (n := n) (flow := needs hs) (out := out) (by omega) (by omega)
 have hfl : (flowL n.pipes (n.pipes.length + 1) hs)[0]? = some (needs hs) := by rw [flowL_get (by omega), flowAt_zero]
 have hup := sup_ok (needs hs) ((n.pumps.length : Int) - out.length) (by omega) (by omega)
 have hshe : upD (needs hs) ((n.pumps.length : Int) - out.length) = shareS n (needs hs) out := rfl
 rw [hshe] at hup
 rw [← pumpsS_eq hF ho h5 best]
 obtain ⟨sh, hsh⟩ : ∃ sh, shareS n (needs hs) out = sh := ⟨_, rfl⟩
 rw [hsh] at hsb hup ⊢
 refine LookC_of (fn := Try.f88) tabOK (by kernel_rfl) rfl (by kernel_rfl) (by simp [Try.f88]) rfl ?_
 intro X hX0 hXs
 have hlp : 0 < n.pipes.length + 1 := by omega
 repeat' (first | ((fail_if_success (with_reducible refine AW_at (id := 3) ?_)); with_reducible refine sk ?_; intro K hK) | ((first | (with_reducible first | refine rg (md := { base := 1200, own := [] }) (h := ?_) | refine rgS [8] (md := { base := 1200, own := [] }) (h := ?_) | refine nx ?_) | refine pK (hup) ?_); try simp (disch := omega) only [h36, h33, h34, hr, hfl, hlp, flowL_len, offM_len, cPlant, endV,go_sem, simprocAttr]) | (with_reducible refine bk ?_) | ((with_reducible refine' cE ?hv ?_ ?_); (case hv => first | rfl | (simp only [h36, h33, h34, hr, hfl, hlp, flowL_len, offM_len, cPlant, endV,go_sem, simprocAttr]; rfl)); all_goals (intro hc; (try simp only [go_sem, simprocAttr] at hc); try (exfalso; omega))) | ((with_reducible refine fe ?_); refine ⟨_, (by simp only [Try.f88, h36, h33, h34, hr, hfl, hlp, flowL_len, offM_len, cPlant, endV,go_sem, simprocAttr]; rfl), ?_⟩; first | rfl | (try simp only [h36, h33, h34, hr, hfl, hlp, flowL_len, offM_len, cPlant, endV,go_sem, simprocAttr, seval])) | with_reducible intro (ep : Nat → Nat) | with_reducible apply_assumption -exfalso -symm only [*])
 repeat' (first | (with_reducible refine sk ?_; intro K hK) | ((with_reducible first | refine rg (md := { base := 1200, own := [] }) (h := ?_) | refine rgS [8] (md := { base := 1200, own := [] }) (h := ?_) | refine nx ?_); try simp (disch := omega) only [h36, h33, h34, hr, cPlant,go_sem, simprocAttr]) | (with_reducible refine bk ?_) | ((with_reducible refine' cE ?hv ?_ ?_); (case hv => first | rfl | (simp only [h36, h33, h34, hr, cPlant,go_sem, simprocAttr]; rfl)); all_goals (intro hc; (try simp only [go_sem, simprocAttr] at hc); try (exfalso; omega))) | ((with_reducible refine fe ?_); refine ⟨_, (by simp only [Try.f88, h36, h33, h34, hr, cPlant,go_sem, simprocAttr]; rfl), ?_⟩; first | rfl | (try simp only [h36, h33, h34, hr, cPlant,go_sem, simprocAttr, seval])) | with_reducible intro (ep : Nat → Nat) | with_reducible apply_assumption -exfalso -symm only [*])
 refine AW_range tabOK n.pumps.length (fun k f H => (f 0 = .ptr 436 e36 10 0 0 ∧ f 3 = .pim [.fn (sgF best) [], .fn (sgF (!best)) []] ∧ f 5 = .int .i64 sh ∧ f 32 = .lst 3 (n.pumps.map cPump)) ∧ (H 436 = some (e36, .fro 10 [cPlant n hs e33 e34 (n.pipes.length + 1)]) ∧ H 434 = some (e34, .frm ver (imap .i64 (offM out)))) ∧
   ∃ a, f 6 = .int .i64 a ∧ -1000000 ≤ a ∧ a ≤ 1099511627776 ∧ pumpsF best sh out n.pumps 0 1099511627776 = pumpsF best sh out (n.pumps.drop k) k a) (by omega) (by rw [hXs]; decide) (by decide) (by (first | rfl | (simp only [h36, go_sem, simprocAttr]; done) | (simp only [h36, go_sem, simprocAttr]; rfl))) (by (first | rfl | (simp only [h36, go_sem, simprocAttr]; done) | (simp only [h36, go_sem, simprocAttr]; rfl)))
  ⟨by (and_intros <;> first | rfl | (simp only [endV, h36, go_sem, simprocAttr]; done) | (simp only [endV, h36, go_sem, simprocAttr]; rfl)), by (and_intros <;> first | rfl | (simp only [h36, h34, cPlant, go_sem, simprocAttr]; done) | (simp only [h36, h34, cPlant, go_sem, simprocAttr]; rfl)), _, by (first | rfl | (simp only [go_sem, simprocAttr]; done) | (simp only [go_sem, simprocAttr]; rfl)), by omega, by omega, by simp⟩ ?_ ?_
 ·rintro k f H hk hi34 hi33 ⟨⟨h0, h3, h5', h32⟩, ⟨g36, g34⟩, a, h6, ha1, ha2, hr2⟩
  obtain ⟨p, hp⟩ : ∃ p, n.pumps[k]? = some p := ⟨_, List.getElem?_eq_getElem hk⟩
  have hpf := hF.pump p (List.mem_of_getElem? hp)
  have hfe := fullE_bnd hpf.1 best
  have q1 : p.slope * sh ≤ 100 * sh := Int.mul_le_mul_of_nonneg_right hpf.2.2 hsb.1
  have q2 : 0 ≤ p.slope * sh := Int.mul_nonneg hpf.2.1 hsb.1
  rw [drop_cons hp] at hr2
  simp only [pumpsF] at hr2
  have hsg := sg_ok best p.full
  have hfd : (if best = true then p.full.hi else p.full.lo) = fullE best p := rfl
  rw [hfd] at hsg
  simp only [encSpan] at hsg
  refine AW_keep [436, 434] ?_
  rcases @findI_off out (k : Int) 0 with ⟨c1, j, c2⟩ | ⟨c1, c2⟩
  ·rw [if_pos c1] at hr2
   repeat' (first | (with_reducible refine sk ?_; intro K hK) | ((with_reducible first | refine rg (md := { base := 1200, own := [] }) (h := ?_) | refine rgS [8] (md := { base := 1200, own := [] }) (h := ?_) | refine nx ?_); try simp (disch := omega) only [h0, h3, h5', h6, h32, hi33, hi34, g36, g34, hp, c2, cPump, cPlant,go_sem, simprocAttr]) | (with_reducible refine bk ?_) | ((with_reducible refine' cE ?hv ?_ ?_); (case hv => first | rfl | (simp only [h0, h3, h5', h6, h32, hi33, hi34, g36, g34, hp, c2, cPump, cPlant,go_sem, simprocAttr]; rfl)); all_goals (intro hc; (try simp only [go_sem, simprocAttr] at hc); try (exfalso; omega))) | ((with_reducible refine fe ?_); refine ⟨_, (by simp only [Try.f88, h0, h3, h5', h6, h32, hi33, hi34, g36, g34, hp, c2, cPump, cPlant,go_sem, simprocAttr]; rfl), ?_⟩; first | rfl | (try simp only [h0, h3, h5', h6, h32, hi33, hi34, g36, g34, hp, c2, cPump, cPlant,go_sem, simprocAttr, seval])) | with_reducible intro (ep : Nat → Nat) | with_reducible apply_assumption -exfalso -symm only [*])
   exact ⟨a, rfl, ha1, ha2, hr2⟩
  ·rw [c1] at hr2
   simp only [Bool.false_eq_true, if_false] at hr2
   repeat' (first | (with_reducible refine sk ?_; intro K hK) | ((first | (with_reducible first | refine rg (md := { base := 1200, own := [] }) (h := ?_) | refine rgS [8] (md := { base := 1200, own := [] }) (h := ?_) | refine nx ?_) | refine pK (hsg) ?_ | refine pK (least_ok _ _) ?_); try simp (disch := omega) only [h0, h3, h5', h6, h32, hi33, hi34, g36, g34, hp, c2, cPump, cPlant,go_sem, simprocAttr]) | (with_reducible refine bk ?_) | ((with_reducible refine' cE ?hv ?_ ?_); (case hv => first | rfl | (simp only [h0, h3, h5', h6, h32, hi33, hi34, g36, g34, hp, c2, cPump, cPlant,go_sem, simprocAttr]; rfl)); all_goals (intro hc; (try simp only [go_sem, simprocAttr] at hc); try (exfalso; omega))) | ((with_reducible refine fe ?_); refine ⟨_, (by simp only [Try.f88, h0, h3, h5', h6, h32, hi33, hi34, g36, g34, hp, c2, cPump, cPlant,go_sem, simprocAttr]; rfl), ?_⟩; first | rfl | (try simp only [h0, h3, h5', h6, h32, hi33, hi34, g36, g34, hp, c2, cPump, cPlant,go_sem, simprocAttr, seval])) | with_reducible intro (ep : Nat → Nat) | with_reducible apply_assumption -exfalso -symm only [*])
   exact ⟨min a (fullE best p - p.slope * sh), rfl, by omega, by omega, hr2⟩
 ·rintro f H hi34 hi33 ⟨⟨h0, h3, h5', h32⟩, ⟨g36, g34⟩, a, h6, ha1, ha2, hr2⟩
  rw [drop_none (Nat.le_refl _)] at hr2
  simp only [pumpsF] at hr2
  repeat' (first | (with_reducible refine sk ?_; intro K hK) | ((with_reducible first | refine rg (md := { base := 1200, own := [] }) (h := ?_) | refine rgS [8] (md := { base := 1200, own := [] }) (h := ?_) | refine nx ?_); try simp (disch := omega) only [h6,go_sem, simprocAttr]) | (with_reducible refine bk ?_) | ((with_reducible refine' cE ?hv ?_ ?_); (case hv => first | rfl | (simp only [h6,go_sem, simprocAttr]; rfl)); all_goals (intro hc; (try simp only [go_sem, simprocAttr] at hc); try (exfalso; omega))) | ((with_reducible refine fe ?_); refine ⟨_, (by simp only [Try.f88, h6,go_sem, simprocAttr]; rfl), ?_⟩; first | rfl | (try simp only [h6,go_sem, simprocAttr, seval])) | with_reducible intro (ep : Nat → Nat) | with_reducible apply_assumption -exfalso -symm only [*])
  rw [hr2]
end Cp
namespace Cp
open Go
end Cp
namespace Cp
open Go
structure TruF (n : NetT) (full foul : List Int) : Prop where
 lenF : full.length = n.pumps.length
 lenG : foul.length = n.pipes.length
 fb : ∀ x ∈ full, 0 ≤ x ∧ x ≤ 100000
 gb : ∀ x ∈ foul, 0 ≤ x ∧ x ≤ 1000
end Cp
namespace Cp
open Go Go.Proofs
set_option maxRecDepth 10000
set_option maxHeartbeats 1000000
@[go_sem] theorem xb_mapnil {x y : Operand} {k e : Nat} : xbin2 tab .eql 108 x y (.map k e) .nilm = some (.bool false) := by
 simp only [xbin2, xeq, tab_108]; rfl
@[go_sem] theorem xb_nilmap {x y : Operand} : xbin2 tab .eql 108 x y .nilm .nilm = some (.bool true) := by
 simp only [xbin2, xeq, tab_108]; rfl
end Cp
namespace Cp
open Go Go.Proofs
abbrev iv (n : Int) : Val := .int .i64 n
end Cp
namespace Cp
open Go Go.Proofs
end Cp
namespace Cp
open Go Go.Proofs
set_option maxRecDepth 10000
set_option maxHeartbeats 4000000
end Cp
namespace Cp
open Go Go.Proofs
set_option maxRecDepth 10000
set_option maxHeartbeats 4000000
end Cp
namespace Cp
open Go Go.Proofs
set_option maxRecDepth 10000
set_option maxHeartbeats 1000000
theorem PlH.frz {n : NetT} {hs : List HeadT} {out : List Int} {e36 e33 e34 : Nat} {H : Hp} (h : PlH n hs out e36 e33 e34 H) : PlH n hs out e36 e33 e34 (frzH H) := by
 obtain ⟨h1, h2, ver, h3⟩ := h
 exact ⟨by simp only [frzH, frz1_idem]; exact h1, by simp only [frzH, frz1_idem]; exact h2, ver, by simp only [frzH, frz1_idem]; exact h3⟩
theorem foul_neg (best : Bool) (p : PipeT) : (if (!best) = true then p.foul.hi else p.foul.lo) = foulE best p := by cases best <;> rfl
theorem pumpsS_bnd {n : NetT} (hF : NetF n) {hs : List HeadT} (h5 : heads500 hs) (hsl : hs.length ≤ 20) {out : List Int} (ho : outOK n out = true) (best : Bool) : -1000000 ≤ pumpsS n hs out best ∧ pumpsS n hs out best ≤ 200000 := by
 obtain ⟨o1, o2, o3⟩ := out_facts ho
 have hno := hF.out
 have hnb := needs_bnd h5
 have hsb := share_bnd (n := n) (flow := needs hs) (out := out) (by omega) (by omega)
 exact pumpsF_bnd ⟨hsb.1, by omega⟩ hF.pump (by omega)
theorem pressure_look (n : NetT) (hF : NetF n) (hs : List HeadT) (h5 : heads500 hs) (hsl : hs.length ≤ 20) (out : List Int) (ho : outOK n out = true) (best : Bool) (h : HeadT) (hnd : 1 ≤ h.node ∧ h.node ≤ n.pipes.length) (e36 e33 e34 : Nat) (H : Hp) (hP : PlH n hs out e36 e33 e34 H) (hroom : H 1208 = none) :
  LookC Try.prog 61 [.ptr 436 e36 10 0 0, encHead h, endV best] H (.int .i64 (pressS n hs out best h)) := by
 have hpm := pumps_look n hF hs h5 hsl out ho best e36 e33 e34 (frzH H) hP.frz (by simp only [frzH, hroom]; rfl)
 obtain ⟨h36, h33, ver, h34⟩ := hP
 have hnb := needs_bnd h5
 have hpl := hF.pipes
 have hpb := pumpsS_bnd hF h5 hsl ho best
 obtain ⟨pm, hpme⟩ : ∃ pm, pumpsS n hs out best = pm := ⟨_, rfl⟩
 unfold pressS
 rw [hpme] at hpm hpb ⊢
 simp only [endV] at hpm
 refine LookC_of (fn := Try.f61) tabOK (by kernel_rfl) rfl (by kernel_rfl) (by simp [Try.f61]) rfl ?_
 intro X hX0 hXs
 have hcast : ((h.node.toNat : Nat) : Int) = h.node := by omega
 repeat' (first | ((fail_if_success (with_reducible refine AW_at (id := 3) ?_)); with_reducible refine sk ?_; intro K hK) | ((first | (with_reducible first | refine rgL [] [11] (md := { base := 1300, own := [] }) (h := ?_) | refine nx ?_) | refine pK (hpm) ?_ | refine lK (hpm) ?_); try simp (disch := omega) only [h36, h33, h34, encHead, cHead, endV,go_sem, simprocAttr]) | (with_reducible refine bk ?_) | ((with_reducible refine' cE ?hv ?_ ?_); (case hv => first | rfl | (simp only [h36, h33, h34, encHead, cHead, endV,go_sem, simprocAttr]; rfl)); all_goals (intro hc; (try simp only [go_sem, simprocAttr] at hc); try (exfalso; omega))) | ((with_reducible refine fe ?_); refine ⟨_, (by simp only [Try.f61, h36, h33, h34, encHead, cHead, endV,go_sem, simprocAttr]; rfl), ?_⟩; first | rfl | (try simp only [h36, h33, h34, encHead, cHead, endV,go_sem, simprocAttr, seval])) | with_reducible intro (ep : Nat → Nat) | with_reducible apply_assumption -exfalso -symm only [*])
 refine AW_block (AW_loop (fun j f H => j ≤ n.pipes.length ∧ (f 0 = .ptr 436 e36 10 0 0 ∧ f 5 = .pim [.fn (sgF best) [], .fn (sgF (!best)) []] ∧ f 8 = .int .i64 j) ∧ (H 436 = some (e36, .fro 10 [cPlant n hs e33 e34 (n.pipes.length + 1)]) ∧ H 433 = some (e33, .fro 1 (ints (flowL n.pipes (n.pipes.length + 1) hs)))) ∧
   ∃ bar, f 7 = .int .i64 bar ∧ bar - lossL n.pipes hs best (path n.pipes j) = pm - lossL n.pipes hs best (path n.pipes h.node.toNat) ∧ -1000000 - 100000001 * ((n.pipes.length : Int) - j) ≤ bar ∧ bar ≤ 200000) h.node.toNat
  ⟨by omega, by (and_intros <;> first | rfl | (simp only [h36, hcast, go_sem, simprocAttr]; done) | (simp only [h36, hcast, go_sem, simprocAttr]; rfl)), by (and_intros <;> first | rfl | (simp only [h36, h33, cPlant, go_sem, simprocAttr]; done) | (simp only [h36, h33, cPlant, go_sem, simprocAttr]; rfl)), pm, by (first | rfl | (simp only [go_sem, simprocAttr]; done) | (simp only [go_sem, simprocAttr]; rfl)), rfl, by omega, by omega⟩ ?_)
 rintro j f H ⟨hj, ⟨h0, h5', h8⟩, ⟨g36, g33⟩, bar, h7, hr, hb1, hb2⟩
 refine AW_keep [436, 433] ?_
 by_cases hz : j = 0
 ·subst hz
  rw [path_zero, lossL, Int.sub_zero] at hr
  repeat' (first | (with_reducible refine sk ?_; intro K hK) | ((with_reducible first | refine rgL [] [11] (md := { base := 1300, own := [] }) (h := ?_) | refine nx ?_); try simp (disch := omega) only [h0, h5', h7, h8, g36, g33,go_sem, simprocAttr]) | (with_reducible refine bk ?_) | ((with_reducible refine' cE ?hv ?_ ?_); (case hv => first | rfl | (simp only [h0, h5', h7, h8, g36, g33,go_sem, simprocAttr]; rfl)); all_goals (intro hc; (try simp only [go_sem, simprocAttr] at hc); try (exfalso; omega))) | ((with_reducible refine fe ?_); refine ⟨_, (by simp only [Try.f61, h0, h5', h7, h8, g36, g33,go_sem, simprocAttr]; rfl), ?_⟩; first | rfl | (try simp only [h0, h5', h7, h8, g36, g33,go_sem, simprocAttr, seval])) | with_reducible intro (ep : Nat → Nat) | with_reducible apply_assumption -exfalso -symm only [*])
  all_goals rw [hr]
 ·obtain ⟨i, rfl⟩ : ∃ i, j = i + 1 := ⟨j - 1, by omega⟩
  obtain ⟨p, hp⟩ : ∃ p, n.pipes[i]? = some p := ⟨_, List.getElem?_eq_getElem (by omega)⟩
  have hpf := hF.pipe i p hp
  have hfb := foulE_bnd hpf.2.2 best
  have hfl := flowAt_bnd (ps := n.pipes) (j := i + 1) h5
  have hfg : (flowL n.pipes (n.pipes.length + 1) hs)[i + 1]? = some (flowAt n.pipes (i + 1) hs) := flowL_get (by omega)
  have hlb := loss_bnd hfb (x := flowAt n.pipes (i + 1) hs) (by omega)
  have hup := sup_ok (foulE best p * flowAt n.pipes (i + 1) hs * flowAt n.pipes (i + 1) hs) 1000 (by omega) (by omega)
  have hub := upD_bnd (a := foulE best p * flowAt n.pipes (i + 1) hs * flowAt n.pipes (i + 1) hs) (b := 1000) hlb.1 (by omega)
  have hub2 : upD (foulE best p * flowAt n.pipes (i + 1) hs * flowAt n.pipes (i + 1) hs) 1000 ≤ 100000001 := by unfold upD; omega
  have hmm : 0 ≤ foulE best p * flowAt n.pipes (i + 1) hs ∧ foulE best p * flowAt n.pipes (i + 1) hs ≤ 10000000 := ⟨Int.mul_nonneg hfb.1 hfl.1, Int.le_trans (Int.mul_le_mul hfb.2 (by omega : flowAt n.pipes (i + 1) hs ≤ 10000) hfl.1 (by omega)) (by omega)⟩
  have hst := path_step hF.falls (k := i + 1) (by omega)
  have hfe : frmOf n.pipes (i + 1) = p.frm.toNat := frmOf_get hp
  rw [hst, lossL] at hr
  have hla : lossAt n.pipes hs best (i + 1) = upD (foulE best p * flowAt n.pipes (i + 1) hs * flowAt n.pipes (i + 1) hs) 1000 := by unfold lossAt; rw [Nat.add_sub_cancel, hp]
  rw [hla] at hr
  have hsg := sg_ok (!best) p.foul
  rw [foul_neg] at hsg
  simp only [encSpan] at hsg
  have hkp : (0 : Int) < ((i + 1 : Nat) : Int) := by omega
  have hil : i + 1 < n.pipes.length + 1 := by omega
  have hfr : p.frm = ((frmOf n.pipes (i + 1) : Nat) : Int) := by omega
  have hlt := frmOf_lt hF.falls (k := i + 1) (by omega)
  obtain ⟨fl, hfle⟩ : ∃ fl, flowAt n.pipes (i + 1) hs = fl := ⟨_, rfl⟩
  obtain ⟨up, hupe⟩ : ∃ up, upD (foulE best p * fl * fl) 1000 = up := ⟨_, rfl⟩
  rw [hfle] at hfg hup hub hub2 hmm hr hlb
  rw [hupe] at hup hub hub2 hr
  repeat' (first | (with_reducible refine sk ?_; intro K hK) | ((first | (with_reducible first | refine rgL [] [11] (md := { base := 1300, own := [] }) (h := ?_) | refine nx ?_) | refine pK (hsg) ?_ | refine pK (hup) ?_ | refine lK (hsg) ?_ | refine lK (hup) ?_); try simp (disch := omega) only [h0, h5', h7, h8, g36, g33, hp, hfg, hkp, hil, flowL_len, hfr, cPlant, cPipe, encSpan,go_sem, simprocAttr]) | (with_reducible refine bk ?_) | ((with_reducible refine' cE ?hv ?_ ?_); (case hv => first | rfl | (simp only [h0, h5', h7, h8, g36, g33, hp, hfg, hkp, hil, flowL_len, hfr, cPlant, cPipe, encSpan,go_sem, simprocAttr]; rfl)); all_goals (intro hc; (try simp only [go_sem, simprocAttr] at hc); try (exfalso; omega))) | ((with_reducible refine fe ?_); refine ⟨_, (by simp only [Try.f61, h0, h5', h7, h8, g36, g33, hp, hfg, hkp, hil, flowL_len, hfr, cPlant, cPipe, encSpan,go_sem, simprocAttr]; rfl), ?_⟩; first | rfl | (try simp only [h0, h5', h7, h8, g36, g33, hp, hfg, hkp, hil, flowL_len, hfr, cPlant, cPipe, encSpan,go_sem, simprocAttr, seval])) | with_reducible intro (ep : Nat → Nat) | with_reducible apply_assumption -exfalso -symm only [*])
  exact ⟨frmOf n.pipes (i + 1), hlt, by omega, rfl, bar - up, rfl, by omega, by omega, by omega⟩
theorem findI_end {i : Int} {v : Val} : ∀ {l : List (Int × Val)} {s : Nat}, (∀ p ∈ l, ¬ p.1 = i) → findI i l s = none
 | [], s, _ => rfl
 | p :: l, s, h => by
  simp only [findI]
  rw [if_neg (fun e => h p (by simp) e.symm)]
  exact findI_end (v := v) fun q hq => h q (by simp [hq])
theorem offM_snoc {l : List Int} {a : Int} : imap .i64 (offM l) ++ [(.int .i64 a, .bool true)] = imap .i64 (offM (l ++ [a])) := by simp [imap, offM]
end Cp
namespace Cp
open Go Go.Proofs
set_option maxRecDepth 10000
set_option maxHeartbeats 1000000
end Cp
namespace Cp
open Go Go.Proofs
set_option maxRecDepth 10000
set_option maxHeartbeats 1000000
end Cp
namespace Cp
open Go Go.Proofs
set_option maxRecDepth 10000
set_option maxHeartbeats 1000000
def AllS (k a e : Nat) (l : List Span) (H : Hp) : Prop := (l = [] ∧ H k = some (e, .arr 1 [[.nils]])) ∨ l ≠ [] ∧ ∃ ea, H k = some (e, .arr 1 [[.gr a ea l.length]]) ∧ H a = some (ea, .arr 2 (l.map cSpan))
theorem AllS.same {k a e : Nat} {l : List Span} {H H' : Hp} (h : AllS k a e l H) (h1 : H' k = H k) (h2 : H' a = H a) : AllS k a e l H' := by
 unfold AllS; rw [h1, h2]; exact h
end Cp
namespace Cp
open Go
theorem PureC.weak {P : Program} {fid : FuncId} {args : List Val} {v v' : Val} (h : PureC P fid args v) (hn : noid v' = true) (hw : ∀ G w x, VR G w v x → VR G w v' x) : PureC P fid args v' :=
 ⟨h.1, h.2.1, hn, fun G w xs hR hv => Calls.mono (h.2.2.2 G w xs hR hv) (by rintro e w' ⟨x, I', h1, h2, h3, h4⟩; exact ⟨x, I', h1, h2, h3, hw _ _ _ h4⟩)⟩
theorem VR.tup_nils {G : Gh} {w : World} {n : Nat} {cs : List Val} {x : Value} (h : VR G w (.tup (.nils :: cs)) x) : VR G w (.tup (.lst n [] :: cs)) x := by
 cases h with
 | tup _ xs hs hv =>
  refine .tup _ xs (by simpa using hs) (fun i v hi => ?_)
  cases i with
  | zero => cases hi; exact (hv 0 .nils rfl).nils_lst _
  | succ i => exact hv (i + 1) v hi
end Cp
namespace Cp
open Go Go.Proofs
set_option maxRecDepth 10000
set_option maxHeartbeats 1000000
end Cp
namespace Cp
open Go Go.Proofs
set_option maxRecDepth 10000
set_option maxHeartbeats 4000000
theorem thawI {k ea m : Nat} {L : List Int} {H2 : Hp} (hl : L.length = m) (h : H2 k = some (ea, .fro 1 (ints L))) : fzd H2 6 (.gr k ea m) = .lst 1 (ints L) := by
 have e2 : (ints L).map (fun es => es.map (fzd H2 5)) = ints L := by unfold ints; rw [List.map_map]; exact List.map_congr_left fun s _ => rfl
 simp only [fzd, h, ints_len, hl, and_self, if_true]
 exact congrArg _ e2
end Cp
namespace Cp
open Go Go.Proofs
set_option maxRecDepth 10000
set_option maxHeartbeats 4000000
end Cp
namespace Cp
open Go
def combos : Nat → List Int → List (List Int)
 | 0, _ => [[]]
 | _ + 1, [] => []
 | k + 1, x :: l => (combos k l).map (x :: ·) ++ combos (k + 1) l
def outsL (np o : Nat) : List (List Int) := (List.range (o + 1)).flatMap fun k => combos k ((List.range np).map Int.ofNat)
end Cp
namespace Cp
open Go Go.Proofs
set_option maxRecDepth 10000
set_option maxHeartbeats 2000000
theorem rhas_ok (l : List Int) (hl : l.length ≤ 100000) (a : Int) : PureC Try.prog 103 [.lst 1 (ints l), .int .i64 a] (.bool (l.contains a)) := by
 refine PureC_of (fn := Try.f103) tabOK (by kernel_rfl) rfl (by kernel_rfl) (by simp [Try.f103]) (by simp [noids, noid, noidss, go_sem]) (by first | rfl | simp [noids, noid, noidss, go_sem]) ?_
 intro X hX0 hXs
 repeat' (first | (with_reducible refine sk ?_; intro K hK) | ((with_reducible first | refine rg (h := ?_) | refine nx ?_); try simp (disch := omega) only [go_sem, simprocAttr]) | (with_reducible refine bk ?_) | ((with_reducible refine' cE ?hv ?_ ?_); (case hv => first | rfl | (simp only [go_sem, simprocAttr]; rfl)); all_goals (intro hc; (try simp only [go_sem, simprocAttr] at hc); try (exfalso; omega))) | ((with_reducible refine fe ?_); refine ⟨_, (by simp only [Try.f103, go_sem, simprocAttr]; rfl), ?_⟩; first | rfl | (try simp only [go_sem, simprocAttr, seval])) | with_reducible intro (ep : Nat → Nat) | with_reducible apply_assumption -exfalso -symm only [*])
 refine AW_block (AW_loop (fun n f H => ∃ k : Nat, n = l.length - k ∧ k ≤ l.length ∧ (f 0 = .lst 1 (ints l) ∧ f 1 = .int .i64 a ∧ f 5 = .int .i64 k) ∧ l.contains a = (l.drop k).contains a) l.length
  ⟨0, by simp, Nat.zero_le _, by (and_intros <;> first | rfl | (simp only [go_sem, simprocAttr]; done) | (simp only [go_sem, simprocAttr]; rfl)), by simp⟩ ?_)
 rintro n f H ⟨k, rfl, hk, ⟨h0, h1, h5⟩, hr⟩
 by_cases hlt : k < l.length
 ·obtain ⟨x, hx⟩ : ∃ x, l[k]? = some x := ⟨_, List.getElem?_eq_getElem hlt⟩
  rw [drop_cons hx, List.contains_cons] at hr
  by_cases he : x = a
  ·repeat' (first | (with_reducible refine sk ?_; intro K hK) | ((with_reducible first | refine rg (h := ?_) | refine nx ?_); try simp (disch := omega) only [h0, h1, h5, hx, he,go_sem, simprocAttr]) | (with_reducible refine bk ?_) | ((with_reducible refine' cE ?hv ?_ ?_); (case hv => first | rfl | (simp only [h0, h1, h5, hx, he,go_sem, simprocAttr]; rfl)); all_goals (intro hc; (try simp only [go_sem, simprocAttr] at hc); try (exfalso; omega))) | ((with_reducible refine fe ?_); refine ⟨_, (by simp only [Try.f103, h0, h1, h5, hx, he,go_sem, simprocAttr]; rfl), ?_⟩; first | rfl | (try simp only [h0, h1, h5, hx, he,go_sem, simprocAttr, seval])) | with_reducible intro (ep : Nat → Nat) | with_reducible apply_assumption -exfalso -symm only [*])
   rw [hr]; simp [he]
  ·have hb : (a == x) = false := by simp; exact fun h => he h.symm
   rw [hb, Bool.false_or] at hr
   repeat' (first | (with_reducible refine sk ?_; intro K hK) | ((with_reducible first | refine rg (h := ?_) | refine nx ?_); try simp (disch := omega) only [h0, h1, h5, hx, he,go_sem, simprocAttr]) | (with_reducible refine bk ?_) | ((with_reducible refine' cE ?hv ?_ ?_); (case hv => first | rfl | (simp only [h0, h1, h5, hx, he,go_sem, simprocAttr]; rfl)); all_goals (intro hc; (try simp only [go_sem, simprocAttr] at hc); try (exfalso; omega))) | ((with_reducible refine fe ?_); refine ⟨_, (by simp only [Try.f103, h0, h1, h5, hx, he,go_sem, simprocAttr]; rfl), ?_⟩; first | rfl | (try simp only [h0, h1, h5, hx, he,go_sem, simprocAttr, seval])) | with_reducible intro (ep : Nat → Nat) | with_reducible apply_assumption -exfalso -symm only [*])
   exact ⟨l.length - (k + 1), by omega, k + 1, rfl, by omega, by (and_intros <;> first | rfl | (simp only [h0, h1, h5, go_sem, simprocAttr]; done) | (simp only [h0, h1, h5, go_sem, simprocAttr]; rfl)), hr⟩
 ·rw [drop_none (by omega)] at hr
  repeat' (first | (with_reducible refine sk ?_; intro K hK) | ((with_reducible first | refine rg (h := ?_) | refine nx ?_); try simp (disch := omega) only [h0, h1, h5,go_sem, simprocAttr]) | (with_reducible refine bk ?_) | ((with_reducible refine' cE ?hv ?_ ?_); (case hv => first | rfl | (simp only [h0, h1, h5,go_sem, simprocAttr]; rfl)); all_goals (intro hc; (try simp only [go_sem, simprocAttr] at hc); try (exfalso; omega))) | ((with_reducible refine fe ?_); refine ⟨_, (by simp only [Try.f103, h0, h1, h5,go_sem, simprocAttr]; rfl), ?_⟩; first | rfl | (try simp only [h0, h1, h5,go_sem, simprocAttr, seval])) | with_reducible intro (ep : Nat → Nat) | with_reducible apply_assumption -exfalso -symm only [*])
  rw [hr]; rfl
def flowD (n : NetT) (L : List HeadT) : List Int := (flowL n.pipes (n.pipes.length + 1) L).drop 1
theorem flowD_len {n : NetT} {L : List HeadT} : (flowD n L).length = n.pipes.length := by unfold flowD; rw [List.length_drop, flowL_len]; omega
theorem flowD_get {n : NetT} {L : List HeadT} {i : Nat} (h : i < n.pipes.length) : (flowD n L)[i]? = some (flowAt n.pipes (i + 1) L) := by unfold flowD; rw [List.getElem?_drop, Nat.add_comm 1 i]; exact flowL_get (by omega)
theorem addV_tail {ps : List PipeT} {k : Nat} {need a b : Int} {G : List Int} : (addV ps k need (a :: G)).drop 1 = (addV ps k need (b :: G)).drop 1 := by
 simp [addV, List.mapIdx_cons]
theorem addV_snoc {n : NetT} {L : List HeadT} {h : HeadT} : (addV n.pipes h.node.toNat h.need (0 :: flowD n L)).drop 1 = flowD n (L ++ [h]) := by
 have h1 : flowL n.pipes (n.pipes.length + 1) L = flowAt n.pipes 0 L :: flowD n L := by
  unfold flowD; rw [← List.drop_zero (l := flowL n.pipes (n.pipes.length + 1) L)]
  exact drop_cons (flowL_get (by omega))
 rw [addV_tail (b := flowAt n.pipes 0 L), ← h1, addV_flow]; rfl
theorem addV_le {ps : List PipeT} {k : Nat} {need : Int} (hn : 0 ≤ need) {G : List Int} {i : Nat} {x y : Int} (hx : G[i]? = some x) (hy : ((addV ps k need (0 :: G)).drop 1)[i]? = some y) : x ≤ y := by
 rw [List.getElem?_drop, Nat.add_comm 1 i] at hy
 simp only [addV, List.getElem?_mapIdx, List.getElem?_cons_succ, hx, Option.map_some, Option.some.injEq] at hy
 subst hy; split <;> omega
theorem rflows_ok (n : NetT) (hF : NetF n) (l : List Int) (hl : l.length ≤ 20) (ho : ∀ a ∈ l, (headAt n.heads a).isSome = true) : PureC Try.prog 55 [encNet n, .lst 1 (ints l)] (.lst 1 (ints (flowD n (openH n.heads l)))) := by
 have hpl := hF.pipes
 have hhl := hF.heads
 have hat := fun id => at_ok n (by omega) id
 simp only [encNet, cNet] at hat
 have hpb : n.pipes.length ≤ 1073741824 := by omega
 have hrep : List.replicate n.pipes.length [Val.int .i64 0] = ints (flowD n []) := by
  unfold flowD; rw [flowL_nil]; simp [ints]
 refine PureC_of (fn := Try.f55) tabOK (by kernel_rfl) rfl (by kernel_rfl) (by simp [Try.f55]) (by simp [noids, noid, noidss, go_sem, encNet, cNet]) (by first | rfl | simp [noids, noid, noidss, go_sem, encNet, cNet]) ?_
 intro X hX0 hXs
 repeat' (first | (with_reducible refine sk ?_; intro K hK) | ((with_reducible first | refine rg (md := { base := 0, own := [7, 12] }) (h := ?_) | refine rgS [7] (md := { base := 0, own := [7, 12] }) (h := ?_) | refine nx ?_); try simp (disch := omega) only [encNet, cNet, mk_ints, hpb, hrep,go_sem, simprocAttr]) | (with_reducible refine bk ?_) | ((with_reducible refine' cE ?hv ?_ ?_); (case hv => first | rfl | (simp only [encNet, cNet, mk_ints, hpb, hrep,go_sem, simprocAttr]; rfl)); all_goals (intro hc; (try simp only [go_sem, simprocAttr] at hc); try (exfalso; omega))) | ((with_reducible refine fe ?_); refine ⟨_, (by simp only [Try.f55, encNet, cNet, mk_ints, hpb, hrep,go_sem, simprocAttr]; rfl), ?_⟩; first | rfl | (try simp only [encNet, cNet, mk_ints, hpb, hrep,go_sem, simprocAttr, seval])) | with_reducible intro (ep : Nat → Nat) | with_reducible apply_assumption -exfalso -symm only [*])
 refine AW_block (AW_loop (fun m f H => ∃ k : Nat, m = l.length - k ∧ k ≤ l.length ∧ (f 1 = .lst 1 (ints l) ∧ f 2 = .pim (cNet n) ∧ f 6 = .int .i64 k) ∧ ∃ e, f 5 = .gr 12 e n.pipes.length ∧ H 12 = some (e, .arr 1 (ints (flowD n (openH n.heads (l.take k)))))) l.length
  ⟨0, by simp, Nat.zero_le _, by (and_intros <;> first | rfl | (simp only [cNet, go_sem, simprocAttr]; done) | (simp only [cNet, go_sem, simprocAttr]; rfl)), _, by (first | rfl | (simp only [go_sem, simprocAttr]; done) | (simp only [go_sem, simprocAttr]; rfl)), by (first | rfl | (simp only [List.take_zero, openH, List.filterMap_nil, go_sem, simprocAttr]; done) | (simp only [List.take_zero, openH, List.filterMap_nil, go_sem, simprocAttr]; rfl))⟩ ?_)
 rintro m f H ⟨k, rfl, hk, ⟨h1, h2, h6⟩, e, h5, hH⟩
 by_cases hlt : k < l.length
 ·obtain ⟨x, hx⟩ : ∃ x, l[k]? = some x := ⟨_, List.getElem?_eq_getElem hlt⟩
  refine AW_keep [12] ?_
  rcases @atI_at n.heads x with ⟨a1, a2⟩ | ⟨i, y, a0, a1, a2⟩
  ·have := ho x (List.mem_of_getElem? hx); rw [a1] at this; simp at this
  ·have hyf := hF.head y (headAt_mem a1).1
   have hi : i < n.heads.length := (List.getElem?_eq_some_iff.1 a0).1
   have hsn := openH_snoc hx a1
   obtain ⟨O, hO⟩ : ∃ O, openH n.heads (l.take k) = O := ⟨_, rfl⟩
   have hO5 : heads500 O := by rw [← hO]; exact openH_500 hF _
   have hOl : O.length ≤ 20 := by rw [← hO]; exact Nat.le_trans openH_len (by simp; omega)
   rw [hO] at hH hsn
   have hT := @addV_snoc n O y
   have h51 : heads500 (O ++ [y]) := fun h hm => by
    rcases List.mem_append.1 hm with hm | hm
    ·exact hO5 h hm
    ·simp at hm; subst hm; exact hyf.1.2.1
   have hTb : ∀ (j : Nat) (z : Int), (flowD n (O ++ [y]))[j]? = some z → z ≤ 20000 := fun j z hz => by
    have hj : j < n.pipes.length := by have := (List.getElem?_eq_some_iff.1 hz).1; rwa [flowD_len] at this
    rw [flowD_get hj] at hz; cases hz
    have b1 := flowAt_bnd (ps := n.pipes) (j := j + 1) h51
    have b2 := needs_bnd h51
    simp at b2
    omega
   have hcast : ((y.node.toNat : Nat) : Int) = y.node := by omega
   repeat' (first | ((fail_if_success (with_reducible refine AW_at (id := 7) ?_)); with_reducible refine sk ?_; intro K hK) | ((first | (with_reducible first | refine rg (md := { base := 0, own := [7, 12] }) (h := ?_) | refine rgS [7] (md := { base := 0, own := [7, 12] }) (h := ?_) | refine nx ?_) | refine pK (hat x) ?_); try simp (disch := omega) only [h1, h2, h5, h6, hH, hx, a0, a2, hi, cNet, cHead,go_sem, simprocAttr]) | (with_reducible refine bk ?_) | ((with_reducible refine' cE ?hv ?_ ?_); (case hv => first | rfl | (simp only [h1, h2, h5, h6, hH, hx, a0, a2, hi, cNet, cHead,go_sem, simprocAttr]; rfl)); all_goals (intro hc; (try simp only [go_sem, simprocAttr] at hc); try (exfalso; omega))) | ((with_reducible refine fe ?_); refine ⟨_, (by simp only [Try.f55, h1, h2, h5, h6, hH, hx, a0, a2, hi, cNet, cHead,go_sem, simprocAttr]; rfl), ?_⟩; first | rfl | (try simp only [h1, h2, h5, h6, hH, hx, a0, a2, hi, cNet, cHead,go_sem, simprocAttr, seval])) | with_reducible intro (ep : Nat → Nat) | with_reducible apply_assumption -exfalso -symm only [*])
   refine AW_block (AW_loop (fun j f H => j ≤ n.pipes.length ∧ (f 1 = .lst 1 (ints l) ∧ f 2 = .pim (cNet n) ∧ f 6 = .int .i64 k ∧ f 8 = .int .i64 j ∧ f 5 = .gr 12 e n.pipes.length) ∧ (∃ e7, f 7 = .ptr 7 e7 8 0 0 ∧ H 7 = some (e7, .arr 8 [cHead y])) ∧ ∃ G, H 12 = some (e, .arr 1 (ints G)) ∧ G.length = n.pipes.length ∧ (∀ x ∈ G, 0 ≤ x) ∧ (addV n.pipes j y.need (0 :: G)).drop 1 = flowD n (O ++ [y])) y.node.toNat
    ⟨by omega, by (and_intros <;> first | rfl | (simp only [h1, h2, h5, h6, hcast, cNet, go_sem, simprocAttr]; done) | (simp only [h1, h2, h5, h6, hcast, cNet, go_sem, simprocAttr]; rfl)), ⟨_, by (first | rfl | (simp only [go_sem, simprocAttr]; done) | (simp only [go_sem, simprocAttr]; rfl)), by (first | rfl | (simp only [cHead, go_sem, simprocAttr]; done) | (simp only [cHead, go_sem, simprocAttr]; rfl))⟩, flowD n O, by (first | rfl | (simp only [hH, go_sem, simprocAttr]; done) | (simp only [hH, go_sem, simprocAttr]; rfl)), flowD_len, fun x hx => by
     obtain ⟨j, hj⟩ := List.mem_iff_getElem?.1 hx
     have hjn : j < n.pipes.length := by have := (List.getElem?_eq_some_iff.1 hj).1; rwa [flowD_len] at this
     rw [flowD_get hjn] at hj; cases hj
     exact (flowAt_bnd (ps := n.pipes) (j := j + 1) hO5).1, hT⟩ ?_)
   clear h1 h2 h5 h6 hH
   rintro j f H ⟨hj, ⟨h1, h2, h6, h8, h5⟩, ⟨e7, h7, hH7⟩, G, hH, hGl, hG0, hGT⟩
   refine AW_keep [7, 12] ?_
   by_cases hz : j = 0
   ·subst hz
    have hG : G = flowD n (O ++ [y]) := by
     rw [← hGT, addV_zero hF.falls (x := 0) (by simp)]; rfl
    repeat' (first | (with_reducible refine sk ?_; intro K hK) | ((with_reducible first | refine rg (md := { base := 0, own := [7, 12] }) (h := ?_) | refine rgS [7] (md := { base := 0, own := [7, 12] }) (h := ?_) | refine nx ?_); try simp (disch := omega) only [h1, h2, h5, h6, h7, h8, hH7, hH,go_sem, simprocAttr]) | (with_reducible refine bk ?_) | ((with_reducible refine' cE ?hv ?_ ?_); (case hv => first | rfl | (simp only [h1, h2, h5, h6, h7, h8, hH7, hH,go_sem, simprocAttr]; rfl)); all_goals (intro hc; (try simp only [go_sem, simprocAttr] at hc); try (exfalso; omega))) | with_reducible intro (ep : Nat → Nat) | with_reducible apply_assumption -exfalso -symm only [*])
    exact ⟨l.length - (k + 1), by omega, k + 1, rfl, by omega, by (and_intros <;> first | rfl | (simp only [h1, h2, h6, go_sem, simprocAttr]; done) | (simp only [h1, h2, h6, go_sem, simprocAttr]; rfl)), by rw [hsn, ← hG]; exact ⟨_, rfl, rfl⟩⟩
   ·obtain ⟨i, rfl⟩ : ∃ i, j = i + 1 := ⟨j - 1, by omega⟩
    obtain ⟨p, hp⟩ : ∃ p, n.pipes[i]? = some p := ⟨_, List.getElem?_eq_getElem (by omega)⟩
    obtain ⟨x, hx'⟩ : ∃ x, G[i]? = some x := ⟨_, List.getElem?_eq_getElem (by omega)⟩
    obtain ⟨z, hz'⟩ : ∃ z, (flowD n (O ++ [y]))[i]? = some z := ⟨_, flowD_get (by omega)⟩
    have hxz := addV_le (by omega : 0 ≤ y.need) hx' (by rw [hGT]; exact hz')
    have hzb := hTb i z hz'
    have hx0 := hG0 x (List.mem_of_getElem? hx')
    have hst := addV_step hF.falls (k := i + 1) (by omega) (need := y.need) (F := 0 :: G) (x := x) (by simpa using hx')
    rw [hst, List.set_cons_succ] at hGT
    have hfe : frmOf n.pipes (i + 1) = p.frm.toNat := frmOf_get hp
    have hpf := hF.pipe i p hp
    have hfr : p.frm = ((frmOf n.pipes (i + 1) : Nat) : Int) := by omega
    have hlt' := frmOf_lt hF.falls (k := i + 1) (by omega)
    have hkp : (0 : Int) < ((i + 1 : Nat) : Int) := by omega
    have hil : i < n.pipes.length := by omega
    repeat' (first | (with_reducible refine sk ?_; intro K hK) | ((with_reducible first | refine rg (md := { base := 0, own := [7, 12] }) (h := ?_) | refine rgS [7] (md := { base := 0, own := [7, 12] }) (h := ?_) | refine nx ?_); try simp (disch := omega) only [h1, h2, h5, h6, h7, h8, hH7, hH, hp, hx', hkp, hil, hGl, hfr, cNet, cPipe, cHead,go_sem, simprocAttr]) | (with_reducible refine bk ?_) | ((with_reducible refine' cE ?hv ?_ ?_); (case hv => first | rfl | (simp only [h1, h2, h5, h6, h7, h8, hH7, hH, hp, hx', hkp, hil, hGl, hfr, cNet, cPipe, cHead,go_sem, simprocAttr]; rfl)); all_goals (intro hc; (try simp only [go_sem, simprocAttr] at hc); try (exfalso; omega))) | with_reducible intro (ep : Nat → Nat) | with_reducible apply_assumption -exfalso -symm only [*])
    exact ⟨frmOf n.pipes (i + 1), hlt', by omega, by (and_intros <;> first | rfl | (simp only [h1, h2, h5, h6, cNet, go_sem, simprocAttr]; done) | (simp only [h1, h2, h5, h6, cNet, go_sem, simprocAttr]; rfl)), ⟨_, rfl, rfl⟩, G.set i (x + y.need), by (first | rfl | (simp only [ints_set, go_sem, simprocAttr]; done) | (simp only [ints_set, go_sem, simprocAttr]; rfl)), by simpa using hGl, fun w hw => by
     rcases List.mem_or_eq_of_mem_set hw with h | h
     ·exact hG0 w h
     ·omega, hGT⟩
 ·repeat' (first | (with_reducible refine sk ?_; intro K hK) | ((with_reducible first | refine rg (md := { base := 0, own := [7, 12] }) (h := ?_) | refine rgS [7] (md := { base := 0, own := [7, 12] }) (h := ?_) | refine nx ?_); try simp (disch := omega) only [h1, h2, h5, h6,go_sem, simprocAttr]) | (with_reducible refine bk ?_) | ((with_reducible refine' cE ?hv ?_ ?_); (case hv => first | rfl | (simp only [h1, h2, h5, h6,go_sem, simprocAttr]; rfl)); all_goals (intro hc; (try simp only [go_sem, simprocAttr] at hc); try (exfalso; omega))) | with_reducible intro (ep : Nat → Nat) | with_reducible apply_assumption -exfalso -symm only [*])
  rw [List.take_of_length_le (by omega)] at hH
  refine FnP_frz 12 (Or.inl rfl) hH ⟨_, (by simp only [Try.f55, go_sem, simprocAttr]; rfl), ?_⟩
  simp only [go_sem, simprocAttr, flowD_len]
theorem rpumps_ok (n : NetT) (hF : NetF n) (flow : Int) (hfl : 0 ≤ flow ∧ flow ≤ 10000) (out : List Int) (hno : outOK n out = true) (best : Bool) : PureC Try.prog 90 [encNet n, .int .i64 flow, .lst 1 (ints out), .bool best] (.int .i64 (pumpsF best (shareS n flow out) out n.pumps 0 200000)) := by
 obtain ⟨o1, o2, o3⟩ := out_facts hno
 have ho4 := hF.out
 have hpq := hF.pumps
 have hsb := share_bnd (n := n) (flow := flow) (out := out) (by omega) (by omega)
 have hq : (flow + ((n.pumps.length : Int) - out.length) - 1).tdiv ((n.pumps.length : Int) - out.length) = shareS n flow out := tdiv_up (by omega) (by omega)
 have hwz : ¬ (n.pumps.length : Int) - out.length = 0 := by omega
 obtain ⟨sh, hsh⟩ : ∃ sh, shareS n flow out = sh := ⟨_, rfl⟩
 rw [hsh] at hsb hq ⊢
 have hhas := fun a => rhas_ok out (by omega) a
 refine PureC_of (fn := Try.f90) tabOK (by kernel_rfl) rfl (by kernel_rfl) (by simp [Try.f90]) (by simp [noids, noid, noidss, go_sem, encNet, cNet]) (by first | rfl | simp [noids, noid, noidss, go_sem, encNet, cNet]) ?_
 intro X hX0 hXs
 repeat' (first | (with_reducible refine sk ?_; intro K hK) | ((with_reducible first | refine rg (h := ?_) | refine nx ?_); try simp (disch := omega) only [encNet, cNet, hq, hwz,go_sem, simprocAttr]) | (with_reducible refine bk ?_) | ((with_reducible refine' cE ?hv ?_ ?_); (case hv => first | rfl | (simp only [encNet, cNet, hq, hwz,go_sem, simprocAttr]; rfl)); all_goals (intro hc; (try simp only [go_sem, simprocAttr] at hc); try (exfalso; omega))) | ((with_reducible refine fe ?_); refine ⟨_, (by simp only [Try.f90, encNet, cNet, hq, hwz,go_sem, simprocAttr]; rfl), ?_⟩; first | rfl | (try simp only [encNet, cNet, hq, hwz,go_sem, simprocAttr, seval])) | with_reducible intro (ep : Nat → Nat) | with_reducible apply_assumption -exfalso -symm only [*])
 refine AW_block (AW_loop (fun m f H => ∃ k : Nat, m = n.pumps.length - k ∧ k ≤ n.pumps.length ∧ (f 2 = .lst 1 (ints out) ∧ f 3 = .bool best ∧ f 4 = .pim (cNet n) ∧ f 10 = .int .i64 sh ∧ f 12 = .int .i64 k) ∧ ∃ a, f 11 = .int .i64 a ∧ -1000000 ≤ a ∧ a ≤ 200000 ∧ pumpsF best sh out n.pumps 0 200000 = pumpsF best sh out (n.pumps.drop k) k a) n.pumps.length
  ⟨0, by simp, Nat.zero_le _, by (and_intros <;> first | rfl | (simp only [cNet, go_sem, simprocAttr]; done) | (simp only [cNet, go_sem, simprocAttr]; rfl)), _, by (first | rfl | (simp only [go_sem, simprocAttr]; done) | (simp only [go_sem, simprocAttr]; rfl)), by omega, by omega, by simp⟩ ?_)
 rintro m f H ⟨k, rfl, hk, ⟨h2, h3, h4, h10, h12⟩, a, h11, ha1, ha2, hr⟩
 by_cases hlt : k < n.pumps.length
 ·obtain ⟨p, hp⟩ : ∃ p, n.pumps[k]? = some p := ⟨_, List.getElem?_eq_getElem hlt⟩
  have hpf := hF.pump p (List.mem_of_getElem? hp)
  have hfe := fullE_bnd hpf.1 best
  have q1 : p.slope * sh ≤ 100 * sh := Int.mul_le_mul_of_nonneg_right hpf.2.2 hsb.1
  have q2 : 0 ≤ p.slope * sh := Int.mul_nonneg hpf.2.1 hsb.1
  rw [drop_cons hp] at hr
  simp only [pumpsF] at hr
  have hh := hhas (k : Int)
  have hmin : -1000000 ≤ min a (fullE best p - p.slope * sh) ∧ min a (fullE best p - p.slope * sh) ≤ 200000 := by omega
  refine AW_keep [] ?_
  cases hc0 : out.contains (k : Int) with
  | true =>
   rw [hc0] at hh hr
   repeat' (first | (with_reducible refine sk ?_; intro K hK) | ((first | (with_reducible first | refine rg (h := ?_) | refine nx ?_) | refine pK (hh) ?_); try simp (disch := omega) only [h2, h3, h4, h10, h11, h12, cNet,go_sem, simprocAttr]) | (with_reducible refine bk ?_) | ((with_reducible refine' cE ?hv ?_ ?_); (case hv => first | rfl | (simp only [h2, h3, h4, h10, h11, h12, cNet,go_sem, simprocAttr]; rfl)); all_goals (intro hc; (try simp only [go_sem, simprocAttr] at hc); try (exfalso; omega))) | ((with_reducible refine fe ?_); refine ⟨_, (by simp only [Try.f90, h2, h3, h4, h10, h11, h12, cNet,go_sem, simprocAttr]; rfl), ?_⟩; first | rfl | (try simp only [h2, h3, h4, h10, h11, h12, cNet,go_sem, simprocAttr, seval])) | with_reducible intro (ep : Nat → Nat) | with_reducible apply_assumption -exfalso -symm only [*])
   exact ⟨n.pumps.length - (k + 1), by omega, k + 1, rfl, by omega, by (and_intros <;> first | rfl | (simp only [h2, h3, h4, h10, h11, h12, cNet, go_sem, simprocAttr]; done) | (simp only [h2, h3, h4, h10, h11, h12, cNet, go_sem, simprocAttr]; rfl)), a, by (first | rfl | (simp only [h11, go_sem, simprocAttr]; done) | (simp only [h11, go_sem, simprocAttr]; rfl)), ha1, ha2, hr⟩
  | false =>
   rw [hc0] at hh hr
   cases best with
   | true =>
    repeat' (first | (with_reducible refine sk ?_; intro K hK) | ((first | (with_reducible first | refine rg (h := ?_) | refine nx ?_) | refine pK (hh) ?_); try simp (disch := omega) only [h2, h3, h4, h10, h11, h12, hp, cNet, cPump,go_sem, simprocAttr]) | (with_reducible refine bk ?_) | ((with_reducible refine' cE ?hv ?_ ?_); (case hv => first | rfl | (simp only [h2, h3, h4, h10, h11, h12, hp, cNet, cPump,go_sem, simprocAttr]; rfl)); all_goals (intro hc; (try simp only [go_sem, simprocAttr] at hc); try (exfalso; omega))) | ((with_reducible refine fe ?_); refine ⟨_, (by simp only [Try.f90, h2, h3, h4, h10, h11, h12, hp, cNet, cPump,go_sem, simprocAttr]; rfl), ?_⟩; first | rfl | (try simp only [h2, h3, h4, h10, h11, h12, hp, cNet, cPump,go_sem, simprocAttr, seval])) | with_reducible intro (ep : Nat → Nat) | with_reducible apply_assumption -exfalso -symm only [*])
    exact ⟨n.pumps.length - (k + 1), by omega, k + 1, rfl, by omega, by (and_intros <;> first | rfl | (simp only [h2, h3, h4, h10, h11, h12, cNet, go_sem, simprocAttr]; done) | (simp only [h2, h3, h4, h10, h11, h12, cNet, go_sem, simprocAttr]; rfl)), _, by (first | rfl | (simp only [go_sem, simprocAttr]; done) | (simp only [go_sem, simprocAttr]; rfl)), hmin.1, hmin.2, hr⟩
   | false =>
    repeat' (first | (with_reducible refine sk ?_; intro K hK) | ((first | (with_reducible first | refine rg (h := ?_) | refine nx ?_) | refine pK (hh) ?_); try simp (disch := omega) only [h2, h3, h4, h10, h11, h12, hp, cNet, cPump,go_sem, simprocAttr]) | (with_reducible refine bk ?_) | ((with_reducible refine' cE ?hv ?_ ?_); (case hv => first | rfl | (simp only [h2, h3, h4, h10, h11, h12, hp, cNet, cPump,go_sem, simprocAttr]; rfl)); all_goals (intro hc; (try simp only [go_sem, simprocAttr] at hc); try (exfalso; omega))) | ((with_reducible refine fe ?_); refine ⟨_, (by simp only [Try.f90, h2, h3, h4, h10, h11, h12, hp, cNet, cPump,go_sem, simprocAttr]; rfl), ?_⟩; first | rfl | (try simp only [h2, h3, h4, h10, h11, h12, hp, cNet, cPump,go_sem, simprocAttr, seval])) | with_reducible intro (ep : Nat → Nat) | with_reducible apply_assumption -exfalso -symm only [*])
    exact ⟨n.pumps.length - (k + 1), by omega, k + 1, rfl, by omega, by (and_intros <;> first | rfl | (simp only [h2, h3, h4, h10, h11, h12, cNet, go_sem, simprocAttr]; done) | (simp only [h2, h3, h4, h10, h11, h12, cNet, go_sem, simprocAttr]; rfl)), _, by (first | rfl | (simp only [go_sem, simprocAttr]; done) | (simp only [go_sem, simprocAttr]; rfl)), hmin.1, hmin.2, hr⟩
 ·rw [drop_none (by omega)] at hr
  simp only [pumpsF] at hr
  repeat' (first | (with_reducible refine sk ?_; intro K hK) | ((with_reducible first | refine rg (h := ?_) | refine nx ?_); try simp (disch := omega) only [h2, h3, h4, h10, h11, h12, cNet,go_sem, simprocAttr]) | (with_reducible refine bk ?_) | ((with_reducible refine' cE ?hv ?_ ?_); (case hv => first | rfl | (simp only [h2, h3, h4, h10, h11, h12, cNet,go_sem, simprocAttr]; rfl)); all_goals (intro hc; (try simp only [go_sem, simprocAttr] at hc); try (exfalso; omega))) | ((with_reducible refine fe ?_); refine ⟨_, (by simp only [Try.f90, h2, h3, h4, h10, h11, h12, cNet,go_sem, simprocAttr]; rfl), ?_⟩; first | rfl | (try simp only [h2, h3, h4, h10, h11, h12, cNet,go_sem, simprocAttr, seval])) | with_reducible intro (ep : Nat → Nat) | with_reducible apply_assumption -exfalso -symm only [*])
  rw [hr]
end Cp
namespace Cp
open Go Go.Proofs
set_option maxRecDepth 10000
set_option maxHeartbeats 4000000
theorem same_self (a : NetT) (ha : NetS a) : PureC Try.prog 25 [encNet a, encNet a] (.bool true) := by
 have hp := ha.pipes
 have hh := ha.heads
 have hq := ha.pumps
 refine PureC_of (fn := Try.f25) tabOK (by kernel_rfl) rfl (by kernel_rfl) (by simp [Try.f25]) (by simp [noids, noid, noidss, go_sem, encNet, cNet]) (by first | rfl | simp [noids, noid, noidss, go_sem, encNet, cNet]) ?_
 intro X hX0 hXs
 repeat' (first | ((fail_if_success (with_reducible refine AW_at (id := 3) ?_)); with_reducible refine sk ?_; intro K hK) | ((with_reducible first | refine rg (h := ?_) | refine nx ?_); try simp (disch := omega) only [encNet, cNet, Bool.true_and, Bool.and_self,go_sem, simprocAttr]) | (with_reducible refine bk ?_) | ((with_reducible refine' cE ?hv ?_ ?_); (case hv => first | rfl | (simp only [encNet, cNet, Bool.true_and, Bool.and_self,go_sem, simprocAttr]; rfl)); all_goals (intro hc; (try simp only [go_sem, simprocAttr] at hc); try (exfalso; omega))) | ((with_reducible first | refine grdS_split ?_ ?_ | refine lkG_split ?_ ?_) <;> intro hg <;> (try simp (disch := omega) only [hg, encNet, cNet, Bool.true_and, Bool.and_self,go_sem, simprocAttr]) <;> (try simp only [go_sem, simprocAttr] at hg) <;> (try (exfalso; omega))) | ((with_reducible refine fe ?_); refine ⟨_, (by simp only [Try.f25, encNet, cNet, Bool.true_and, Bool.and_self,go_sem, simprocAttr]; rfl), ?_⟩; first | rfl | (try simp only [encNet, cNet, Bool.true_and, Bool.and_self,go_sem, simprocAttr, seval])) | with_reducible intro (ep : Nat → Nat) | with_reducible apply_assumption -exfalso -symm only [*])
 have hcut1 : ∀ f H, (f 2 = .pim (cNet a) ∧ f 3 = .pim (cNet a)) → K f H := by
  rintro f H ⟨h2, h3⟩
  refine hK f H ?_
  clear hK
  refine sk ?_
  intro K hK
  have hcut2 : ∀ f H, (f 2 = .pim (cNet a) ∧ f 3 = .pim (cNet a)) → K f H := by
   clear h2 h3
   rintro f H ⟨h2, h3⟩
   refine hK f H ?_
   clear hK
   refine sk ?_
   intro K hK
   have hcut3 : ∀ f H, (f 2 = .pim (cNet a) ∧ f 3 = .pim (cNet a)) → K f H := by
    clear h2 h3
    rintro f H ⟨h2, h3⟩
    refine hK f H ?_
    clear hK
    repeat' (first | (with_reducible refine sk ?_; intro K hK) | ((with_reducible first | refine rg (h := ?_) | refine nx ?_); try simp (disch := omega) only [h2, h3,go_sem, simprocAttr]) | (with_reducible refine bk ?_) | ((with_reducible refine' cE ?hv ?_ ?_); (case hv => first | rfl | (simp only [h2, h3,go_sem, simprocAttr]; rfl)); all_goals (intro hc; (try simp only [go_sem, simprocAttr] at hc); try (exfalso; omega))) | ((with_reducible first | refine grdS_split ?_ ?_ | refine lkG_split ?_ ?_) <;> intro hg <;> (try simp (disch := omega) only [hg, h2, h3,go_sem, simprocAttr]) <;> (try simp only [go_sem, simprocAttr] at hg) <;> (try (exfalso; omega))) | ((with_reducible refine fe ?_); refine ⟨_, (by simp only [Try.f25, h2, h3,go_sem, simprocAttr]; rfl), ?_⟩; first | rfl | (try simp only [h2, h3,go_sem, simprocAttr, seval])) | with_reducible intro (ep : Nat → Nat) | with_reducible apply_assumption -exfalso -symm only [*])
   clear hK
   repeat' (first | (with_reducible refine sk ?_; intro K hK) | ((with_reducible first | refine rg (h := ?_) | refine nx ?_); try simp (disch := omega) only [h2, h3, cNet,go_sem, simprocAttr]) | (with_reducible refine bk ?_) | ((with_reducible refine' cE ?hv ?_ ?_); (case hv => first | rfl | (simp only [h2, h3, cNet,go_sem, simprocAttr]; rfl)); all_goals (intro hc; (try simp only [go_sem, simprocAttr] at hc); try (exfalso; omega))) | ((with_reducible first | refine grdS_split ?_ ?_ | refine lkG_split ?_ ?_) <;> intro hg <;> (try simp (disch := omega) only [hg, h2, h3, cNet,go_sem, simprocAttr]) <;> (try simp only [go_sem, simprocAttr] at hg) <;> (try (exfalso; omega))) | ((with_reducible refine fe ?_); refine ⟨_, (by simp only [Try.f25, h2, h3, cNet,go_sem, simprocAttr]; rfl), ?_⟩; first | rfl | (try simp only [h2, h3, cNet,go_sem, simprocAttr, seval])) | with_reducible intro (ep : Nat → Nat) | with_reducible apply_assumption -exfalso -symm only [*])
   refine AW_block (AW_loop (fun m f H => ∃ k : Nat, m = a.pumps.length - k ∧ k ≤ a.pumps.length ∧ (f 2 = .pim (cNet a) ∧ f 3 = .pim (cNet a) ∧ f 7 = .int .i64 k)) a.pumps.length
    ⟨0, by simp, Nat.zero_le _, by (and_intros <;> first | rfl | (simp only [h2, h3, cNet, go_sem, simprocAttr]; done) | (simp only [h2, h3, cNet, go_sem, simprocAttr]; rfl))⟩ ?_)
   clear h2 h3
   rintro m f H ⟨k, rfl, hk, h2, h3, h7⟩
   by_cases hlt : k < a.pumps.length
   ·obtain ⟨x, hx⟩ : ∃ x, a.pumps[k]? = some x := ⟨_, List.getElem?_eq_getElem hlt⟩
    repeat' (first | (with_reducible refine sk ?_; intro K hK) | ((with_reducible first | refine rg (h := ?_) | refine nx ?_); try simp (disch := omega) only [h2, h3, h7, hx, cNet, cPump, Bool.true_and, Bool.and_self,go_sem, simprocAttr]) | (with_reducible refine bk ?_) | ((with_reducible refine' cE ?hv ?_ ?_); (case hv => first | rfl | (simp only [h2, h3, h7, hx, cNet, cPump, Bool.true_and, Bool.and_self,go_sem, simprocAttr]; rfl)); all_goals (intro hc; (try simp only [go_sem, simprocAttr] at hc); try (exfalso; omega))) | ((with_reducible first | refine grdS_split ?_ ?_ | refine lkG_split ?_ ?_) <;> intro hg <;> (try simp (disch := omega) only [hg, h2, h3, h7, hx, cNet, cPump, Bool.true_and, Bool.and_self,go_sem, simprocAttr]) <;> (try simp only [go_sem, simprocAttr] at hg) <;> (try (exfalso; omega))) | ((with_reducible refine fe ?_); refine ⟨_, (by simp only [Try.f25, h2, h3, h7, hx, cNet, cPump, Bool.true_and, Bool.and_self,go_sem, simprocAttr]; rfl), ?_⟩; first | rfl | (try simp only [h2, h3, h7, hx, cNet, cPump, Bool.true_and, Bool.and_self,go_sem, simprocAttr, seval])) | with_reducible intro (ep : Nat → Nat) | with_reducible apply_assumption -exfalso -symm only [*])
    exact ⟨a.pumps.length - (k + 1), by omega, k + 1, rfl, by omega, by (and_intros <;> first | rfl | (simp only [h2, h3, h7, cNet, go_sem, simprocAttr]; done) | (simp only [h2, h3, h7, cNet, go_sem, simprocAttr]; rfl))⟩
   ·repeat' (first | (with_reducible refine sk ?_; intro K hK) | ((with_reducible first | refine rg (h := ?_) | refine nx ?_); try simp (disch := omega) only [h2, h3, h7, cNet,go_sem, simprocAttr]) | (with_reducible refine bk ?_) | ((with_reducible refine' cE ?hv ?_ ?_); (case hv => first | rfl | (simp only [h2, h3, h7, cNet,go_sem, simprocAttr]; rfl)); all_goals (intro hc; (try simp only [go_sem, simprocAttr] at hc); try (exfalso; omega))) | ((with_reducible first | refine grdS_split ?_ ?_ | refine lkG_split ?_ ?_) <;> intro hg <;> (try simp (disch := omega) only [hg, h2, h3, h7, cNet,go_sem, simprocAttr]) <;> (try simp only [go_sem, simprocAttr] at hg) <;> (try (exfalso; omega))) | ((with_reducible refine fe ?_); refine ⟨_, (by simp only [Try.f25, h2, h3, h7, cNet,go_sem, simprocAttr]; rfl), ?_⟩; first | rfl | (try simp only [h2, h3, h7, cNet,go_sem, simprocAttr, seval])) | with_reducible intro (ep : Nat → Nat) | with_reducible apply_assumption -exfalso -symm only [*])
    all_goals (and_intros <;> first | rfl | (simp only [h2, h3, cNet, go_sem, simprocAttr]; done) | (simp only [h2, h3, cNet, go_sem, simprocAttr]; rfl))
  clear hK
  repeat' (first | (with_reducible refine sk ?_; intro K hK) | ((with_reducible first | refine rg (h := ?_) | refine nx ?_); try simp (disch := omega) only [h2, h3, cNet,go_sem, simprocAttr]) | (with_reducible refine bk ?_) | ((with_reducible refine' cE ?hv ?_ ?_); (case hv => first | rfl | (simp only [h2, h3, cNet,go_sem, simprocAttr]; rfl)); all_goals (intro hc; (try simp only [go_sem, simprocAttr] at hc); try (exfalso; omega))) | ((with_reducible first | refine grdS_split ?_ ?_ | refine lkG_split ?_ ?_) <;> intro hg <;> (try simp (disch := omega) only [hg, h2, h3, cNet,go_sem, simprocAttr]) <;> (try simp only [go_sem, simprocAttr] at hg) <;> (try (exfalso; omega))) | ((with_reducible refine fe ?_); refine ⟨_, (by simp only [Try.f25, h2, h3, cNet,go_sem, simprocAttr]; rfl), ?_⟩; first | rfl | (try simp only [h2, h3, cNet,go_sem, simprocAttr, seval])) | with_reducible intro (ep : Nat → Nat) | with_reducible apply_assumption -exfalso -symm only [*])
  refine AW_block (AW_loop (fun m f H => ∃ k : Nat, m = a.heads.length - k ∧ k ≤ a.heads.length ∧ (f 2 = .pim (cNet a) ∧ f 3 = .pim (cNet a) ∧ f 6 = .int .i64 k)) a.heads.length
   ⟨0, by simp, Nat.zero_le _, by (and_intros <;> first | rfl | (simp only [h2, h3, cNet, go_sem, simprocAttr]; done) | (simp only [h2, h3, cNet, go_sem, simprocAttr]; rfl))⟩ ?_)
  clear h2 h3
  rintro m f H ⟨k, rfl, hk, h2, h3, h6⟩
  by_cases hlt : k < a.heads.length
  ·obtain ⟨x, hx⟩ : ∃ x, a.heads[k]? = some x := ⟨_, List.getElem?_eq_getElem hlt⟩
   repeat' (first | (with_reducible refine sk ?_; intro K hK) | ((with_reducible first | refine rg (h := ?_) | refine nx ?_); try simp (disch := omega) only [h2, h3, h6, hx, cNet, cHead, Bool.true_and, Bool.and_self,go_sem, simprocAttr]) | (with_reducible refine bk ?_) | ((with_reducible refine' cE ?hv ?_ ?_); (case hv => first | rfl | (simp only [h2, h3, h6, hx, cNet, cHead, Bool.true_and, Bool.and_self,go_sem, simprocAttr]; rfl)); all_goals (intro hc; (try simp only [go_sem, simprocAttr] at hc); try (exfalso; omega))) | ((with_reducible first | refine grdS_split ?_ ?_ | refine lkG_split ?_ ?_) <;> intro hg <;> (try simp (disch := omega) only [hg, h2, h3, h6, hx, cNet, cHead, Bool.true_and, Bool.and_self,go_sem, simprocAttr]) <;> (try simp only [go_sem, simprocAttr] at hg) <;> (try (exfalso; omega))) | ((with_reducible refine fe ?_); refine ⟨_, (by simp only [Try.f25, h2, h3, h6, hx, cNet, cHead, Bool.true_and, Bool.and_self,go_sem, simprocAttr]; rfl), ?_⟩; first | rfl | (try simp only [h2, h3, h6, hx, cNet, cHead, Bool.true_and, Bool.and_self,go_sem, simprocAttr, seval])) | with_reducible intro (ep : Nat → Nat) | with_reducible apply_assumption -exfalso -symm only [*])
   exact ⟨a.heads.length - (k + 1), by omega, k + 1, rfl, by omega, by (and_intros <;> first | rfl | (simp only [h2, h3, h6, cNet, go_sem, simprocAttr]; done) | (simp only [h2, h3, h6, cNet, go_sem, simprocAttr]; rfl))⟩
  ·repeat' (first | (with_reducible refine sk ?_; intro K hK) | ((with_reducible first | refine rg (h := ?_) | refine nx ?_); try simp (disch := omega) only [h2, h3, h6, cNet,go_sem, simprocAttr]) | (with_reducible refine bk ?_) | ((with_reducible refine' cE ?hv ?_ ?_); (case hv => first | rfl | (simp only [h2, h3, h6, cNet,go_sem, simprocAttr]; rfl)); all_goals (intro hc; (try simp only [go_sem, simprocAttr] at hc); try (exfalso; omega))) | ((with_reducible first | refine grdS_split ?_ ?_ | refine lkG_split ?_ ?_) <;> intro hg <;> (try simp (disch := omega) only [hg, h2, h3, h6, cNet,go_sem, simprocAttr]) <;> (try simp only [go_sem, simprocAttr] at hg) <;> (try (exfalso; omega))) | ((with_reducible refine fe ?_); refine ⟨_, (by simp only [Try.f25, h2, h3, h6, cNet,go_sem, simprocAttr]; rfl), ?_⟩; first | rfl | (try simp only [h2, h3, h6, cNet,go_sem, simprocAttr, seval])) | with_reducible intro (ep : Nat → Nat) | with_reducible apply_assumption -exfalso -symm only [*])
   all_goals (and_intros <;> first | rfl | (simp only [h2, h3, cNet, go_sem, simprocAttr]; done) | (simp only [h2, h3, cNet, go_sem, simprocAttr]; rfl))
 clear hK
 repeat' (first | (with_reducible refine sk ?_; intro K hK) | ((with_reducible first | refine rg (h := ?_) | refine nx ?_); try simp (disch := omega) only [cNet,go_sem, simprocAttr]) | (with_reducible refine bk ?_) | ((with_reducible refine' cE ?hv ?_ ?_); (case hv => first | rfl | (simp only [cNet,go_sem, simprocAttr]; rfl)); all_goals (intro hc; (try simp only [go_sem, simprocAttr] at hc); try (exfalso; omega))) | ((with_reducible first | refine grdS_split ?_ ?_ | refine lkG_split ?_ ?_) <;> intro hg <;> (try simp (disch := omega) only [hg, cNet,go_sem, simprocAttr]) <;> (try simp only [go_sem, simprocAttr] at hg) <;> (try (exfalso; omega))) | ((with_reducible refine fe ?_); refine ⟨_, (by simp only [Try.f25, cNet,go_sem, simprocAttr]; rfl), ?_⟩; first | rfl | (try simp only [cNet,go_sem, simprocAttr, seval])) | with_reducible intro (ep : Nat → Nat) | with_reducible apply_assumption -exfalso -symm only [*])
 refine AW_block (AW_loop (fun m f H => ∃ k : Nat, m = a.pipes.length - k ∧ k ≤ a.pipes.length ∧ (f 2 = .pim (cNet a) ∧ f 3 = .pim (cNet a) ∧ f 5 = .int .i64 k)) a.pipes.length
  ⟨0, by simp, Nat.zero_le _, by (and_intros <;> first | rfl | (simp only [cNet, go_sem, simprocAttr]; done) | (simp only [cNet, go_sem, simprocAttr]; rfl))⟩ ?_)
 rintro m f H ⟨k, rfl, hk, h2, h3, h5⟩
 by_cases hlt : k < a.pipes.length
 ·obtain ⟨x, hx⟩ : ∃ x, a.pipes[k]? = some x := ⟨_, List.getElem?_eq_getElem hlt⟩
  repeat' (first | (with_reducible refine sk ?_; intro K hK) | ((with_reducible first | refine rg (h := ?_) | refine nx ?_); try simp (disch := omega) only [h2, h3, h5, hx, cNet, cPipe, Bool.true_and, Bool.and_self,go_sem, simprocAttr]) | (with_reducible refine bk ?_) | ((with_reducible refine' cE ?hv ?_ ?_); (case hv => first | rfl | (simp only [h2, h3, h5, hx, cNet, cPipe, Bool.true_and, Bool.and_self,go_sem, simprocAttr]; rfl)); all_goals (intro hc; (try simp only [go_sem, simprocAttr] at hc); try (exfalso; omega))) | ((with_reducible first | refine grdS_split ?_ ?_ | refine lkG_split ?_ ?_) <;> intro hg <;> (try simp (disch := omega) only [hg, h2, h3, h5, hx, cNet, cPipe, Bool.true_and, Bool.and_self,go_sem, simprocAttr]) <;> (try simp only [go_sem, simprocAttr] at hg) <;> (try (exfalso; omega))) | ((with_reducible refine fe ?_); refine ⟨_, (by simp only [Try.f25, h2, h3, h5, hx, cNet, cPipe, Bool.true_and, Bool.and_self,go_sem, simprocAttr]; rfl), ?_⟩; first | rfl | (try simp only [h2, h3, h5, hx, cNet, cPipe, Bool.true_and, Bool.and_self,go_sem, simprocAttr, seval])) | with_reducible intro (ep : Nat → Nat) | with_reducible apply_assumption -exfalso -symm only [*])
  exact ⟨a.pipes.length - (k + 1), by omega, k + 1, rfl, by omega, by (and_intros <;> first | rfl | (simp only [h2, h3, h5, cNet, go_sem, simprocAttr]; done) | (simp only [h2, h3, h5, cNet, go_sem, simprocAttr]; rfl))⟩
 ·repeat' (first | (with_reducible refine sk ?_; intro K hK) | ((with_reducible first | refine rg (h := ?_) | refine nx ?_); try simp (disch := omega) only [h2, h3, h5, cNet,go_sem, simprocAttr]) | (with_reducible refine bk ?_) | ((with_reducible refine' cE ?hv ?_ ?_); (case hv => first | rfl | (simp only [h2, h3, h5, cNet,go_sem, simprocAttr]; rfl)); all_goals (intro hc; (try simp only [go_sem, simprocAttr] at hc); try (exfalso; omega))) | ((with_reducible first | refine grdS_split ?_ ?_ | refine lkG_split ?_ ?_) <;> intro hg <;> (try simp (disch := omega) only [hg, h2, h3, h5, cNet,go_sem, simprocAttr]) <;> (try simp only [go_sem, simprocAttr] at hg) <;> (try (exfalso; omega))) | ((with_reducible refine fe ?_); refine ⟨_, (by simp only [Try.f25, h2, h3, h5, cNet,go_sem, simprocAttr]; rfl), ?_⟩; first | rfl | (try simp only [h2, h3, h5, cNet,go_sem, simprocAttr, seval])) | with_reducible intro (ep : Nat → Nat) | with_reducible apply_assumption -exfalso -symm only [*])
  all_goals (and_intros <;> first | rfl | (simp only [h2, h3, cNet, go_sem, simprocAttr]; done) | (simp only [h2, h3, cNet, go_sem, simprocAttr]; rfl))
theorem rpress_ok (n : NetT) (hF : NetF n) (l : List Int) (hl : l.length ≤ 20) (ho : ∀ a ∈ l, (headAt n.heads a).isSome = true) (out : List Int) (hno : outOK n out = true) (k : Nat) (h : HeadT) (hk : n.heads[k]? = some h) (best : Bool) :
  PureC Try.prog 63 [encNet n, .lst 1 (ints l), .lst 1 (ints out), .int .i64 k, .bool best] (.int .i64 (pressS n (openH n.heads l) out best h)) := by
 have hpl := hF.pipes
 have hhf := hF.head h (List.mem_of_getElem? hk)
 have hkl : k < n.heads.length := (List.getElem?_eq_some_iff.1 hk).1
 have h5 := openH_500 hF l
 have hLl := @openH_len n.heads l
 have hnb := needs_bnd h5
 have hrf := rflows_ok n hF l hl ho
 have hfl := flow_ok n hF l (by omega) ho
 have hpm := rpumps_ok n hF (needs (openH n.heads l)) (by omega) out hno best
 obtain ⟨L, hL⟩ : ∃ L, openH n.heads l = L := ⟨_, rfl⟩
 rw [hL] at h5 hLl hnb hrf hfl hpm ⊢
 have hpe : pumpsF best (shareS n (needs L) out) out n.pumps 0 200000 = pumpsS n L out best := rfl
 rw [hpe] at hpm
 have hpb := pumpsS_bnd hF h5 (by omega) hno best
 unfold pressS
 obtain ⟨pm, hpme⟩ : ∃ pm, pumpsS n L out best = pm := ⟨_, rfl⟩
 rw [hpme] at hpm hpb ⊢
 simp only [encNet, cNet] at hrf hfl hpm
 have hcast : ((h.node.toNat : Nat) : Int) = h.node := by omega
 refine PureC_of (fn := Try.f63) tabOK (by kernel_rfl) rfl (by kernel_rfl) (by simp [Try.f63]) (by simp [noids, noid, noidss, go_sem, encNet, cNet]) (by first | rfl | simp [noids, noid, noidss, go_sem, encNet, cNet]) ?_
 intro X hX0 hXs
 repeat' (first | (with_reducible refine sk ?_; intro K hK) | ((first | (with_reducible first | refine rg (h := ?_) | refine nx ?_) | refine pK (hrf) ?_ | refine pK (hfl) ?_ | refine pK (hpm) ?_); try simp (disch := omega) only [encNet, cNet, hk, hkl, cHead,go_sem, simprocAttr]) | (with_reducible refine bk ?_) | ((with_reducible refine' cE ?hv ?_ ?_); (case hv => first | rfl | (simp only [encNet, cNet, hk, hkl, cHead,go_sem, simprocAttr]; rfl)); all_goals (intro hc; (try simp only [go_sem, simprocAttr] at hc); try (exfalso; omega))) | ((with_reducible refine fe ?_); refine ⟨_, (by simp only [Try.f63, encNet, cNet, hk, hkl, cHead,go_sem, simprocAttr]; rfl), ?_⟩; first | rfl | (try simp only [encNet, cNet, hk, hkl, cHead,go_sem, simprocAttr, seval])) | with_reducible intro (ep : Nat → Nat) | with_reducible apply_assumption -exfalso -symm only [*])
 refine AW_block (AW_loop (fun j f H => j ≤ n.pipes.length ∧ (f 4 = .bool best ∧ f 5 = .pim (cNet n) ∧ f 11 = .lst 1 (ints (flowD n L)) ∧ f 13 = .int .i64 j) ∧ ∃ bar, f 12 = .int .i64 bar ∧ bar - lossL n.pipes L best (path n.pipes j) = pm - lossL n.pipes L best (path n.pipes h.node.toNat) ∧ -1000000 - 100000001 * ((n.pipes.length : Int) - j) ≤ bar ∧ bar ≤ 200000) h.node.toNat
  ⟨by omega, by (and_intros <;> first | rfl | (simp only [hcast, cNet, go_sem, simprocAttr]; done) | (simp only [hcast, cNet, go_sem, simprocAttr]; rfl)), pm, by (first | rfl | (simp only [go_sem, simprocAttr]; done) | (simp only [go_sem, simprocAttr]; rfl)), rfl, by omega, by omega⟩ ?_)
 rintro j f H ⟨hj, ⟨h4, h5', h11, h13⟩, bar, h12, hr, hb1, hb2⟩
 refine AW_keep [] ?_
 by_cases hz : j = 0
 ·subst hz
  rw [path_zero, lossL, Int.sub_zero] at hr
  repeat' (first | (with_reducible refine sk ?_; intro K hK) | ((with_reducible first | refine rg (h := ?_) | refine nx ?_); try simp (disch := omega) only [h4, h5', h11, h12, h13,go_sem, simprocAttr]) | (with_reducible refine bk ?_) | ((with_reducible refine' cE ?hv ?_ ?_); (case hv => first | rfl | (simp only [h4, h5', h11, h12, h13,go_sem, simprocAttr]; rfl)); all_goals (intro hc; (try simp only [go_sem, simprocAttr] at hc); try (exfalso; omega))) | ((with_reducible refine fe ?_); refine ⟨_, (by simp only [Try.f63, h4, h5', h11, h12, h13,go_sem, simprocAttr]; rfl), ?_⟩; first | rfl | (try simp only [h4, h5', h11, h12, h13,go_sem, simprocAttr, seval])) | with_reducible intro (ep : Nat → Nat) | with_reducible apply_assumption -exfalso -symm only [*])
  all_goals rw [hr]
 ·obtain ⟨i, rfl⟩ : ∃ i, j = i + 1 := ⟨j - 1, by omega⟩
  obtain ⟨p, hp⟩ : ∃ p, n.pipes[i]? = some p := ⟨_, List.getElem?_eq_getElem (by omega)⟩
  have hpf := hF.pipe i p hp
  have hfb := foulE_bnd hpf.2.2 best
  have hfl := flowAt_bnd (ps := n.pipes) (j := i + 1) h5
  have hfg : (flowD n L)[i]? = some (flowAt n.pipes (i + 1) L) := flowD_get (by omega)
  have hil : i < n.pipes.length := by omega
  have hlb := loss_bnd hfb (x := flowAt n.pipes (i + 1) L) (by omega)
  have hub2 : upD (foulE best p * flowAt n.pipes (i + 1) L * flowAt n.pipes (i + 1) L) 1000 ≤ 100000001 ∧ 0 ≤ upD (foulE best p * flowAt n.pipes (i + 1) L * flowAt n.pipes (i + 1) L) 1000 := by unfold upD; omega
  have hmm : 0 ≤ foulE best p * flowAt n.pipes (i + 1) L ∧ foulE best p * flowAt n.pipes (i + 1) L ≤ 10000000 := ⟨Int.mul_nonneg hfb.1 hfl.1, Int.le_trans (Int.mul_le_mul hfb.2 (by omega : flowAt n.pipes (i + 1) L ≤ 10000) hfl.1 (by omega)) (by omega)⟩
  have hst := path_step hF.falls (k := i + 1) (by omega)
  have hfe : frmOf n.pipes (i + 1) = p.frm.toNat := frmOf_get hp
  rw [hst, lossL] at hr
  have hla : lossAt n.pipes L best (i + 1) = upD (foulE best p * flowAt n.pipes (i + 1) L * flowAt n.pipes (i + 1) L) 1000 := by unfold lossAt; rw [Nat.add_sub_cancel, hp]
  rw [hla] at hr
  have hkp : (0 : Int) < ((i + 1 : Nat) : Int) := by omega
  have hfr : p.frm = ((frmOf n.pipes (i + 1) : Nat) : Int) := by omega
  have hlt := frmOf_lt hF.falls (k := i + 1) (by omega)
  obtain ⟨fl, hfle⟩ : ∃ fl, flowAt n.pipes (i + 1) L = fl := ⟨_, rfl⟩
  rw [hfle] at hfg hub2 hmm hr hlb
  have htd : (foulE best p * fl * fl + 999).tdiv 1000 = upD (foulE best p * fl * fl) 1000 := by
   have := tdiv_up (a := foulE best p * fl * fl) (b := 1000) hlb.1 (by omega)
   rwa [show foulE best p * fl * fl + 1000 - 1 = foulE best p * fl * fl + 999 by omega] at this
  obtain ⟨up, hupe⟩ : ∃ up, upD (foulE best p * fl * fl) 1000 = up := ⟨_, rfl⟩
  rw [hupe] at htd hub2 hr
  cases best with
  | true =>
   simp only [foulE, if_true] at htd hmm hlb
   repeat' (first | (with_reducible refine sk ?_; intro K hK) | ((with_reducible first | refine rg (h := ?_) | refine nx ?_); try simp (disch := omega) only [h4, h5', h11, h12, h13, hp, hfg, hkp, hil, flowD_len, hfr, htd, cNet, cPipe,go_sem, simprocAttr]) | (with_reducible refine bk ?_) | ((with_reducible refine' cE ?hv ?_ ?_); (case hv => first | rfl | (simp only [h4, h5', h11, h12, h13, hp, hfg, hkp, hil, flowD_len, hfr, htd, cNet, cPipe,go_sem, simprocAttr]; rfl)); all_goals (intro hc; (try simp only [go_sem, simprocAttr] at hc); try (exfalso; omega))) | ((with_reducible refine fe ?_); refine ⟨_, (by simp only [Try.f63, h4, h5', h11, h12, h13, hp, hfg, hkp, hil, flowD_len, hfr, htd, cNet, cPipe,go_sem, simprocAttr]; rfl), ?_⟩; first | rfl | (try simp only [h4, h5', h11, h12, h13, hp, hfg, hkp, hil, flowD_len, hfr, htd, cNet, cPipe,go_sem, simprocAttr, seval])) | with_reducible intro (ep : Nat → Nat) | with_reducible apply_assumption -exfalso -symm only [*])
   exact ⟨frmOf n.pipes (i + 1), hlt, by omega, by (and_intros <;> first | rfl | (simp only [h4, h5', h11, h12, h13, cNet, go_sem, simprocAttr]; done) | (simp only [h4, h5', h11, h12, h13, cNet, go_sem, simprocAttr]; rfl)), bar - up, by (first | rfl | (simp only [go_sem, simprocAttr]; done) | (simp only [go_sem, simprocAttr]; rfl)), by omega, by omega, by omega⟩
  | false =>
   simp only [foulE, Bool.false_eq_true, if_false] at htd hmm hlb
   repeat' (first | (with_reducible refine sk ?_; intro K hK) | ((with_reducible first | refine rg (h := ?_) | refine nx ?_); try simp (disch := omega) only [h4, h5', h11, h12, h13, hp, hfg, hkp, hil, flowD_len, hfr, htd, cNet, cPipe,go_sem, simprocAttr]) | (with_reducible refine bk ?_) | ((with_reducible refine' cE ?hv ?_ ?_); (case hv => first | rfl | (simp only [h4, h5', h11, h12, h13, hp, hfg, hkp, hil, flowD_len, hfr, htd, cNet, cPipe,go_sem, simprocAttr]; rfl)); all_goals (intro hc; (try simp only [go_sem, simprocAttr] at hc); try (exfalso; omega))) | ((with_reducible refine fe ?_); refine ⟨_, (by simp only [Try.f63, h4, h5', h11, h12, h13, hp, hfg, hkp, hil, flowD_len, hfr, htd, cNet, cPipe,go_sem, simprocAttr]; rfl), ?_⟩; first | rfl | (try simp only [h4, h5', h11, h12, h13, hp, hfg, hkp, hil, flowD_len, hfr, htd, cNet, cPipe,go_sem, simprocAttr, seval])) | with_reducible intro (ep : Nat → Nat) | with_reducible apply_assumption -exfalso -symm only [*])
   exact ⟨frmOf n.pipes (i + 1), hlt, by omega, by (and_intros <;> first | rfl | (simp only [h4, h5', h11, h12, h13, cNet, go_sem, simprocAttr]; done) | (simp only [h4, h5', h11, h12, h13, cNet, go_sem, simprocAttr]; rfl)), bar - up, by (first | rfl | (simp only [go_sem, simprocAttr]; done) | (simp only [go_sem, simprocAttr]; rfl)), by omega, by omega, by omega⟩
end Cp
namespace Cp
open Go Go.Proofs
set_option maxRecDepth 10000
set_option maxHeartbeats 4000000
end Cp
namespace Cp
open Go Go.Proofs
def outV (l : List Int) : Val := match l with | [] => .nils | _ => .lst 1 (ints l)
def outsV (np o : Nat) : Val := .fn 114 [.pim [.lst 1 ((outsL np o).map fun l => [outV l])]]
section
variable (A B t1 t2 t3 : Val) (p0 p1 p2 p3 : List Val)
abbrev plArg (A B t1 t2 t3 : Val) (ps : List (List Val)) (o : Int) : Val := .pim [A, B, .lst 3 ps, .int .i64 o, t1, t2, t3]
theorem outs_10 (h : noids [plArg A B t1 t2 t3 [p0] 0] = true) : PureC Try.prog 94 [plArg A B t1 t2 t3 [p0] 0] (outsV 1 0) := run_allG (n := 400) tabOK mix look_ok h (by rfl) (by kernel_rfl)
theorem outs_20 (h : noids [plArg A B t1 t2 t3 [p0, p1] 0] = true) : PureC Try.prog 94 [plArg A B t1 t2 t3 [p0, p1] 0] (outsV 2 0) := run_allG (n := 400) tabOK mix look_ok h (by rfl) (by kernel_rfl)
theorem outs_21 (h : noids [plArg A B t1 t2 t3 [p0, p1] 1] = true) : PureC Try.prog 94 [plArg A B t1 t2 t3 [p0, p1] 1] (outsV 2 1) := run_allG (n := 400) tabOK mix look_ok h (by rfl) (by kernel_rfl)
theorem outs_30 (h : noids [plArg A B t1 t2 t3 [p0, p1, p2] 0] = true) : PureC Try.prog 94 [plArg A B t1 t2 t3 [p0, p1, p2] 0] (outsV 3 0) := run_allG (n := 400) tabOK mix look_ok h (by rfl) (by kernel_rfl)
theorem outs_31 (h : noids [plArg A B t1 t2 t3 [p0, p1, p2] 1] = true) : PureC Try.prog 94 [plArg A B t1 t2 t3 [p0, p1, p2] 1] (outsV 3 1) := run_allG (n := 400) tabOK mix look_ok h (by rfl) (by kernel_rfl)
theorem outs_32 (h : noids [plArg A B t1 t2 t3 [p0, p1, p2] 2] = true) : PureC Try.prog 94 [plArg A B t1 t2 t3 [p0, p1, p2] 2] (outsV 3 2) := run_allG (n := 400) tabOK mix look_ok h (by rfl) (by kernel_rfl)
theorem outs_40 (h : noids [plArg A B t1 t2 t3 [p0, p1, p2, p3] 0] = true) : PureC Try.prog 94 [plArg A B t1 t2 t3 [p0, p1, p2, p3] 0] (outsV 4 0) := run_allG (n := 400) tabOK mix look_ok h (by rfl) (by kernel_rfl)
theorem outs_41 (h : noids [plArg A B t1 t2 t3 [p0, p1, p2, p3] 1] = true) : PureC Try.prog 94 [plArg A B t1 t2 t3 [p0, p1, p2, p3] 1] (outsV 4 1) := run_allG (n := 400) tabOK mix look_ok h (by rfl) (by kernel_rfl)
theorem outs_42 (h : noids [plArg A B t1 t2 t3 [p0, p1, p2, p3] 2] = true) : PureC Try.prog 94 [plArg A B t1 t2 t3 [p0, p1, p2, p3] 2] (outsV 4 2) := run_allG (n := 400) tabOK mix look_ok h (by rfl) (by kernel_rfl)
theorem outs_43 (h : noids [plArg A B t1 t2 t3 [p0, p1, p2, p3] 3] = true) : PureC Try.prog 94 [plArg A B t1 t2 t3 [p0, p1, p2, p3] 3] (outsV 4 3) := run_allG (n := 400) tabOK mix look_ok h (by rfl) (by kernel_rfl)
end
end Cp
namespace Cp
open Go Go.Proofs
theorem VR.outV {G : Gh} {w : World} {l : List Int} {x : Value} (h : VR G w (Cp.outV l) x) : VR G w (.lst 1 (ints l)) x := by
 cases l with
 | nil => exact VR.nils_lst 1 h
 | cons a l => exact h
theorem VR.outsW {G : Gh} {w : World} {g : FuncId} {L : List (List Int)} {x : Value} (h : VR G w (.fn g [.pim [.lst 1 (L.map fun l => [Cp.outV l])]]) x) : VR G w (.fn g [.pim [.lst 1 (L.map fun l => [.lst 1 (ints l)])]]) x := by
 have key : ∀ (i : Nat) (es : List Val), (L.map fun l => [Val.lst 1 (ints l)])[i]? = some es → ∃ l, es = [.lst 1 (ints l)] ∧ (L.map fun l => [Cp.outV l])[i]? = some [Cp.outV l] := by
  intro i es hi
  rw [List.getElem?_map, Option.map_eq_some_iff] at hi
  obtain ⟨l, hl, rfl⟩ := hi
  exact ⟨l, rfl, by rw [List.getElem?_map, hl]; rfl⟩
 have hc : ∀ l : List Int, (Cp.outV l).cell = true := fun l => by cases l <;> rfl
 have hl : ∀ x, VR G w (.lst 1 (L.map fun l => [Cp.outV l])) x → VR G w (.lst 1 (L.map fun l => [.lst 1 (ints l)])) x := by
  intro x h
  cases h with
  | lst _ _ a cap ys hcap hsz ha hcc hv =>
   have e : (L.map fun l => [Cp.outV l]).length = (L.map fun l => [Val.lst 1 (ints l)]).length := by simp
   rw [e]
   refine .lst 1 _ a cap ys (by rw [← e]; exact hcap) (fun i es hi => ?_) (fun hne => ?_) (fun i es hi j v hj => ?_) (fun i es hi j v hj => ?_)
   ·obtain ⟨l, rfl, _⟩ := key i es hi; rfl
   ·have hne' : (L.map fun l => [Cp.outV l]) ≠ [] := fun h0 => hne (List.eq_nil_of_length_eq_zero (by rw [← e, h0]; rfl))
    obtain ⟨b, off, h1, h2, h3⟩ := ha hne'
    refine ⟨b, off, h1, h2, fun i es hi j v hj => ?_⟩
    obtain ⟨l, rfl, h4⟩ := key i es hi
    cases j with
    | zero => exact h3 i _ h4 0 _ rfl
    | succ j => simp at hj
   ·obtain ⟨l, rfl, _⟩ := key i es hi
    cases j with
    | zero => cases hj; rfl
    | succ j => simp at hj
   ·obtain ⟨l, rfl, h4⟩ := key i es hi
    cases j with
    | zero => cases hj; exact (hv i _ h4 0 _ rfl).outV
    | succ j => simp at hj
 cases h with
 | fn f cs xs hs hv =>
  refine .fn _ _ xs hs (fun i v hi => ?_)
  cases i with
  | succ i => simp at hi
  | zero =>
   cases hi
   have h0 := hv 0 _ rfl
   generalize xs.getD 0 undef = y at h0 ⊢
   cases h0 with
   | pim _ b off ys hI hm hc hv =>
    refine .pim _ b off ys hI (fun j v hj => ?_) (fun j v hj => ?_) (fun j v hj => ?_)
    ·cases j with
     | zero => exact hm 0 _ rfl
     | succ j => simp at hj
    ·cases j with
     | zero => cases hj; rfl
     | succ j => simp at hj
    ·cases j with
     | zero => cases hj; exact hl _ (hv 0 _ rfl)
     | succ j => simp at hj
def outsF (np o : Nat) : Val := .fn 114 [.pim [.lst 1 ((outsL np o).map fun l => [.lst 1 (ints l)])]]
theorem noid_ints (l : List Int) : noidss (ints l) = true := noidss_of fun v hv => by
 simp only [ints, List.mem_map] at hv
 obtain ⟨_, _, rfl⟩ := hv
 rfl
theorem noid_outsF (np o : Nat) : noid (outsF np o) = true := by
 simp only [outsF, noid, noids, Bool.and_true]
 exact noidss_of fun v hv => by
  simp only [List.mem_map] at hv
  obtain ⟨l, _, rfl⟩ := hv
  simp only [noids, noid, noid_ints, Bool.and_true]
theorem noid_cNet (n : NetT) : noids (cNet n) = true := by
 have h1 : noidss (n.pipes.map cPipe) = true := noidss_of fun v hv => by
  simp only [List.mem_map] at hv
  obtain ⟨_, _, rfl⟩ := hv
  rfl
 have h2 : noidss (n.heads.map cHead) = true := noidss_of fun v hv => by
  simp only [List.mem_map] at hv
  obtain ⟨_, _, rfl⟩ := hv
  rfl
 have h3 : noidss (n.pumps.map cPump) = true := noidss_of fun v hv => by
  simp only [List.mem_map] at hv
  obtain ⟨_, _, rfl⟩ := hv
  rfl
 simp only [cNet, noids, noid, h1, h2, h3, Bool.and_true]
theorem outs_ok (n : NetT) (hF : NetF n) : PureC Try.prog 94 [.pim (cNet n)] (outsF n.pumps.length n.out.toNat) := by
 obtain ⟨hp1, hp2⟩ := hF.pumps
 obtain ⟨ho1, ho2⟩ := hF.out
 have hn : noids [.pim (cNet n)] = true := by simp only [noids, noid, noid_cNet, Bool.and_true]
 refine PureC.weak (v := outsV n.pumps.length n.out.toNat) ?_ (noid_outsF _ _) (fun G w x h => h.outsW)
 obtain ⟨pipes, heads, pumps, out, tank, mins⟩ := n
 simp only [cNet] at *
 match pumps, hp1, hp2, ho2 with
 | [a], _, _, ho2 =>
  obtain rfl : out = 0 := by simp at ho2; omega
  exact outs_10 _ _ _ _ _ _ hn
 | [a, b], _, _, ho2 =>
  have : out = 0 ∨ out = 1 := by simp at ho2; omega
  rcases this with rfl | rfl
  ·exact outs_20 _ _ _ _ _ _ _ hn
  ·exact outs_21 _ _ _ _ _ _ _ hn
 | [a, b, c], _, _, ho2 =>
  have : out = 0 ∨ out = 1 ∨ out = 2 := by simp at ho2; omega
  rcases this with rfl | rfl | rfl
  ·exact outs_30 _ _ _ _ _ _ _ _ hn
  ·exact outs_31 _ _ _ _ _ _ _ _ hn
  ·exact outs_32 _ _ _ _ _ _ _ _ hn
 | [a, b, c, d], _, _, ho2 =>
  have : out = 0 ∨ out = 1 ∨ out = 2 ∨ out = 3 := by simp at ho2; omega
  rcases this with rfl | rfl | rfl | rfl
  ·exact outs_40 _ _ _ _ _ _ _ _ _ hn
  ·exact outs_41 _ _ _ _ _ _ _ _ _ hn
  ·exact outs_42 _ _ _ _ _ _ _ _ _ hn
  ·exact outs_43 _ _ _ _ _ _ _ _ _ hn
 | _ :: _ :: _ :: _ :: _ :: _, _, h, _ => simp at h
end Cp
namespace Cp
open Go Go.Proofs
set_option maxRecDepth 10000
theorem outs_at {L : List (List Int)} {k : Nat} {l : List Int} (h : L[k]? = some l) : (L.map fun l => [Val.lst 1 (ints l)])[k]? = some [.lst 1 (ints l)] := by rw [List.getElem?_map, h]; rfl
theorem values1_ok (L : List (List Int)) (hL : L.length ≤ 100000) (H0 : Hp) (ky ey : Nat) (J : Nat → Hp → Prop) (hJ0 : J 0 H0)
  (hY : ∀ k l H, L[k]? = some l → J k H → RoundC Try.prog ky ey [.lst 1 (ints l)] H (fun v H' => v = .bool true ∧ J (k + 1) H')) :
  ACall Try.prog 114 [.yld ky ey, .pim [.lst 1 (L.map fun l => [.lst 1 (ints l)])]] H0 (fun v H' => J L.length H') := by
 refine ACall_of (fn := Try.f114) tabOK (by kernel_rfl) rfl (by kernel_rfl) (by simp [Try.f114]) ?_
 intro X hX0 hXs
 repeat' (first | (with_reducible refine sk ?_; intro K hK) | ((with_reducible first | refine AW_regY (id := 3) tabOK { base := 2000, own := [] } [] [] (by rw [hXs]; decide +kernel) ?_ | refine rg (md := { base := 2000, own := [] }) (h := ?_) | refine nx ?_); try simp (disch := omega) only [go_sem, simprocAttr]) | (with_reducible refine bk ?_) | ((with_reducible refine' cE ?hv ?_ ?_); (case hv => first | rfl | (simp only [go_sem, simprocAttr]; rfl)); all_goals (intro hc; (try simp only [go_sem, simprocAttr] at hc); try (exfalso; omega))) | with_reducible intro (ep : Nat → Nat) | with_reducible apply_assumption -exfalso -symm only [*])
 refine AW_range tabOK L.length (fun k f H => (f 0 = .yld ky ey ∧ f 5 = .lst 1 (L.map fun l => [.lst 1 (ints l)])) ∧ J k H) (by omega) (by rw [hXs]; decide) (by decide) (by (first | rfl | (simp only [go_sem, simprocAttr]; done) | (simp only [go_sem, simprocAttr]; rfl))) (by (first | rfl | (simp only [go_sem, simprocAttr]; done) | (simp only [go_sem, simprocAttr]; rfl)))
   ⟨by (and_intros <;> first | rfl | (simp only [go_sem, simprocAttr]; done) | (simp only [go_sem, simprocAttr]; rfl)), hJ0⟩ ?_ ?_
 ·rintro k f H hk h7 h6 ⟨⟨h0, h5⟩, hJ⟩
  obtain ⟨l, hl⟩ : ∃ x, L[k]? = some x := ⟨_, List.getElem?_eq_getElem hk⟩
  have hla := outs_at hl
  repeat' (first | (with_reducible refine sk ?_; intro K hK) | ((with_reducible first | refine AW_regY (id := 3) tabOK { base := 2000, own := [] } [] [] (by rw [hXs]; decide +kernel) ?_ | refine rg (md := { base := 2000, own := [] }) (h := ?_) | refine nx ?_); try simp (disch := omega) only [h0, h5, h6, h7, hla,go_sem, simprocAttr]) | (with_reducible refine bk ?_) | ((with_reducible refine' cE ?hv ?_ ?_); (case hv => first | rfl | (simp only [h0, h5, h6, h7, hla,go_sem, simprocAttr]; rfl)); all_goals (intro hc; (try simp only [go_sem, simprocAttr] at hc); try (exfalso; omega))) | with_reducible intro (ep : Nat → Nat) | with_reducible apply_assumption -exfalso -symm only [*])
  refine yldK_intro (hY k l _ hl hJ) ?_
  rintro v H3 ⟨rfl, hJ3⟩
  simp only [go_sem, simprocAttr]
  repeat' (first | (with_reducible refine sk ?_; intro K hK) | ((with_reducible first | refine AW_regY (id := 3) tabOK { base := 2000, own := [] } [] [] (by rw [hXs]; decide +kernel) ?_ | refine rg (md := { base := 2000, own := [] }) (h := ?_) | refine nx ?_); try simp (disch := omega) only [h0, h5, h6, h7, hJ3,go_sem, simprocAttr]) | (with_reducible refine bk ?_) | ((with_reducible refine' cE ?hv ?_ ?_); (case hv => first | rfl | (simp only [h0, h5, h6, h7, hJ3,go_sem, simprocAttr]; rfl)); all_goals (intro hc; (try simp only [go_sem, simprocAttr] at hc); try (exfalso; omega))) | with_reducible intro (ep : Nat → Nat) | with_reducible apply_assumption -exfalso -symm only [*])
 ·rintro f H h7 h6 ⟨⟨h0, h5⟩, hJ⟩
  exact FnQ_end (Or.inr rfl) (.refl _) (by simp only [Try.f114, go_sem, simprocAttr]; rfl) hJ
end Cp
namespace Cp
open Go Go.Proofs
set_option maxRecDepth 10000
set_option maxHeartbeats 1000000
def lackF (n : NetT) (hs : List HeadT) (out : List Int) (best : Bool) (l : List HeadT) : Option HeadT := l.find? fun h => decide (pressS n hs out best h < h.least)
def lackO (o : Option HeadT) : Int × Bool := match o with | some h => (h.id, true) | none => (0, false)
def tankH (n : NetT) (best : Bool) : Int := if best = true then n.tank.hi else n.tank.lo
def lackS (n : NetT) (hs : List HeadT) (out : List Int) (best : Bool) : Int × Bool :=
 match lackF n hs out best hs with
 | some h => (h.id, true)
 | none => if tankH n best < needs hs * n.mins then (-1, true) else (0, false)
def cLk (p : Int × Bool) : List Val := [.int .i64 p.1, .bool p.2]
theorem lacks_look (n : NetT) (hF : NetF n) (hs : List HeadT) (h5 : heads500 hs) (hsl : hs.length ≤ 12) (hnd : ∀ h ∈ hs, 1 ≤ h.node ∧ h.node ≤ n.pipes.length) (out : List Int) (ho : outOK n out = true) (best : Bool) (e36 e33 e34 : Nat) (H : Hp) (hP : PlH n hs out e36 e33 e34 H)
  (hroom : H 1208 = none ∧ H 1604 = none ∧ H 1605 = none ∧ H 1607 = none) :
  LookC Try.prog 96 [.ptr 436 e36 10 0 0, endV best] H (.agg (cLk (lackS n hs out best))) := by
 obtain ⟨h36, h33, ver, h34⟩ := hP
 obtain ⟨r0, r1, r2, r3⟩ := hroom
 have hr0 : frz1 (H 1208) = none := by rw [r0]; rfl
 have hr1 : frz1 (H 1604) = none := by rw [r1]; rfl
 have hr2 : frz1 (H 1605) = none := by rw [r2]; rfl
 have hr3 : frz1 (H 1607) = none := by rw [r3]; rfl
 clear r0 r1 r2 r3
 have hnb := needs_bnd h5
 have hfl : (flowL n.pipes (n.pipes.length + 1) hs)[0]? = some (needs hs) := by rw [flowL_get (by omega), flowAt_zero]
 refine LookC_of (fn := Try.f96) tabOK (by kernel_rfl) rfl (by kernel_rfl) (by simp [Try.f96]) rfl ?_
 intro X hX0 hXs
 repeat' (first | ((fail_if_success (with_reducible refine AW_at (id := 2) ?_)); with_reducible refine sk ?_; intro K hK) | ((with_reducible first | refine rgL [] [21] (md := { base := 1600, own := [] }) (h := ?_) | refine rgL [4, 5, 7] [21] (md := { base := 1600, own := [] }) (h := ?_) | refine nx ?_); try simp (disch := omega) only [h36, h33, h34, hr0, hr1, hr2, hr3, cPlant, endV,go_sem, simprocAttr]) | (with_reducible refine bk ?_) | ((with_reducible refine' cE ?hv ?_ ?_); (case hv => first | rfl | (simp only [h36, h33, h34, hr0, hr1, hr2, hr3, cPlant, endV,go_sem, simprocAttr]; rfl)); all_goals (intro hc; (try simp only [go_sem, simprocAttr] at hc); try (exfalso; omega))) | ((with_reducible first | refine grdS_split ?_ ?_ | refine lkG_split ?_ ?_) <;> intro hg <;> (try simp (disch := omega) only [hg, h36, h33, h34, hr0, hr1, hr2, hr3, cPlant, endV,go_sem, simprocAttr]) <;> (try simp only [go_sem, simprocAttr] at hg) <;> (try (exfalso; omega))) | ((with_reducible refine fe ?_); refine ⟨_, (by simp only [Try.f96, h36, h33, h34, hr0, hr1, hr2, hr3, cPlant, endV,go_sem, simprocAttr]; rfl), ?_⟩; first | rfl | (try simp only [h36, h33, h34, hr0, hr1, hr2, hr3, cPlant, endV,go_sem, simprocAttr, seval])) | with_reducible intro (ep : Nat → Nat) | with_reducible apply_assumption -exfalso -symm only [*])
 have hcut : ∀ e4 e5 f H, (f 0 = .ptr 436 e36 10 0 0 ∧ f 3 = .pim [.fn (sgF best) [], .fn (sgF (!best)) []] ∧ f 4 = .ptr 1604 e4 2 0 0 ∧ f 5 = .ptr 1605 e5 2 0 0) ∧ (H 436 = some (e36, .fro 10 [cPlant n hs e33 e34 (n.pipes.length + 1)]) ∧ H 433 = some (e33, .fro 1 (ints (flowL n.pipes (n.pipes.length + 1) hs))) ∧
   H 1604 = some (e4, .arr 2 [[.int .i64 0, .bool false]]) ∧ H 1605 = some (e5, .arr 2 [cLk (lackO (lackF n hs out best hs))])) → K f H := by
  rintro e4 e5 f H ⟨⟨h0, h3, h4, h5'⟩, g36, g33, g4, g5⟩
  refine hK f H ?_
  clear hK
  have hlp : 0 < n.pipes.length + 1 := by omega
  have hsg := sg_ok best n.tank
  have htd : (if best = true then n.tank.hi else n.tank.lo) = tankH n best := rfl
  rw [htd] at hsg
  simp only [encSpan] at hsg
  have hmn := hF.mins
  have hmul : 0 ≤ needs hs * n.mins ∧ needs hs * n.mins ≤ 6000 * 600 := ⟨Int.mul_nonneg (by omega) hmn.1, Int.mul_le_mul (by omega) hmn.2 hmn.1 (by omega)⟩
  unfold lackS
  cases hfo : lackF n hs out best hs with
  | some x =>
   rw [hfo] at g5
   simp only [lackO, cLk] at g5
   repeat' (first | (with_reducible refine sk ?_; intro K hK) | ((first | (with_reducible first | refine rgL [] [21] (md := { base := 1600, own := [] }) (h := ?_) | refine rgL [4, 5, 7] [21] (md := { base := 1600, own := [] }) (h := ?_) | refine nx ?_) | refine pK (hsg) ?_ | refine lK (hsg) ?_); try simp (disch := omega) only [h0, h3, h4, h5', g36, g33, g4, g5, hlp, hfl, flowL_len, cPlant, cLk,go_sem, simprocAttr]) | (with_reducible refine bk ?_) | ((with_reducible refine' cE ?hv ?_ ?_); (case hv => first | rfl | (simp only [h0, h3, h4, h5', g36, g33, g4, g5, hlp, hfl, flowL_len, cPlant, cLk,go_sem, simprocAttr]; rfl)); all_goals (intro hc; (try simp only [go_sem, simprocAttr] at hc); try (exfalso; omega))) | ((with_reducible first | refine grdS_split ?_ ?_ | refine lkG_split ?_ ?_) <;> intro hg <;> (try simp (disch := omega) only [hg, h0, h3, h4, h5', g36, g33, g4, g5, hlp, hfl, flowL_len, cPlant, cLk,go_sem, simprocAttr]) <;> (try simp only [go_sem, simprocAttr] at hg) <;> (try (exfalso; omega))) | ((with_reducible refine fe ?_); refine ⟨_, (by simp only [Try.f96, h0, h3, h4, h5', g36, g33, g4, g5, hlp, hfl, flowL_len, cPlant, cLk,go_sem, simprocAttr]; rfl), ?_⟩; first | rfl | (try simp only [h0, h3, h4, h5', g36, g33, g4, g5, hlp, hfl, flowL_len, cPlant, cLk,go_sem, simprocAttr, seval])) | with_reducible intro (ep : Nat → Nat) | with_reducible apply_assumption -exfalso -symm only [*])
   all_goals (exfalso; simp at hg)
  | none =>
   rw [hfo] at g5
   simp only [lackO, cLk] at g5
   by_cases hlt : tankH n best < needs hs * n.mins
   ·repeat' (first | (with_reducible refine sk ?_; intro K hK) | ((first | (with_reducible first | refine rgL [] [21] (md := { base := 1600, own := [] }) (h := ?_) | refine rgL [4, 5, 7] [21] (md := { base := 1600, own := [] }) (h := ?_) | refine nx ?_) | refine pK (hsg) ?_ | refine lK (hsg) ?_); try simp (disch := omega) only [h0, h3, h4, h5', g36, g33, g4, g5, hlp, hfl, hlt, flowL_len, cPlant, cLk,go_sem, simprocAttr]) | (with_reducible refine bk ?_) | ((with_reducible refine' cE ?hv ?_ ?_); (case hv => first | rfl | (simp only [h0, h3, h4, h5', g36, g33, g4, g5, hlp, hfl, hlt, flowL_len, cPlant, cLk,go_sem, simprocAttr]; rfl)); all_goals (intro hc; (try simp only [go_sem, simprocAttr] at hc); try (exfalso; omega))) | ((with_reducible first | refine grdS_split ?_ ?_ | refine lkG_split ?_ ?_) <;> intro hg <;> (try simp (disch := omega) only [hg, h0, h3, h4, h5', g36, g33, g4, g5, hlp, hfl, hlt, flowL_len, cPlant, cLk,go_sem, simprocAttr]) <;> (try simp only [go_sem, simprocAttr] at hg) <;> (try (exfalso; omega))) | ((with_reducible refine fe ?_); refine ⟨_, (by simp only [Try.f96, h0, h3, h4, h5', g36, g33, g4, g5, hlp, hfl, hlt, flowL_len, cPlant, cLk,go_sem, simprocAttr]; rfl), ?_⟩; first | rfl | (try simp only [h0, h3, h4, h5', g36, g33, g4, g5, hlp, hfl, hlt, flowL_len, cPlant, cLk,go_sem, simprocAttr, seval])) | with_reducible intro (ep : Nat → Nat) | with_reducible apply_assumption -exfalso -symm only [*])
    all_goals (exfalso; simp at hg)
   ·repeat' (first | (with_reducible refine sk ?_; intro K hK) | ((first | (with_reducible first | refine rgL [] [21] (md := { base := 1600, own := [] }) (h := ?_) | refine rgL [4, 5, 7] [21] (md := { base := 1600, own := [] }) (h := ?_) | refine nx ?_) | refine pK (hsg) ?_ | refine lK (hsg) ?_); try simp (disch := omega) only [h0, h3, h4, h5', g36, g33, g4, g5, hlp, hfl, hlt, flowL_len, cPlant, cLk,go_sem, simprocAttr]) | (with_reducible refine bk ?_) | ((with_reducible refine' cE ?hv ?_ ?_); (case hv => first | rfl | (simp only [h0, h3, h4, h5', g36, g33, g4, g5, hlp, hfl, hlt, flowL_len, cPlant, cLk,go_sem, simprocAttr]; rfl)); all_goals (intro hc; (try simp only [go_sem, simprocAttr] at hc); try (exfalso; omega))) | ((with_reducible first | refine grdS_split ?_ ?_ | refine lkG_split ?_ ?_) <;> intro hg <;> (try simp (disch := omega) only [hg, h0, h3, h4, h5', g36, g33, g4, g5, hlp, hfl, hlt, flowL_len, cPlant, cLk,go_sem, simprocAttr]) <;> (try simp only [go_sem, simprocAttr] at hg) <;> (try (exfalso; omega))) | ((with_reducible refine fe ?_); refine ⟨_, (by simp only [Try.f96, h0, h3, h4, h5', g36, g33, g4, g5, hlp, hfl, hlt, flowL_len, cPlant, cLk,go_sem, simprocAttr]; rfl), ?_⟩; first | rfl | (try simp only [h0, h3, h4, h5', g36, g33, g4, g5, hlp, hfl, hlt, flowL_len, cPlant, cLk,go_sem, simprocAttr, seval])) | with_reducible intro (ep : Nat → Nat) | with_reducible apply_assumption -exfalso -symm only [*])
 clear hK
 repeat' (first | (with_reducible refine sk ?_; intro K hK) | ((with_reducible first | refine rgL [] [21] (md := { base := 1600, own := [] }) (h := ?_) | refine rgL [4, 5, 7] [21] (md := { base := 1600, own := [] }) (h := ?_) | refine nx ?_); try simp (disch := omega) only [h36, h33, h34, hr0, hr1, hr2, hr3, cPlant,go_sem, simprocAttr]) | (with_reducible refine bk ?_) | ((with_reducible refine' cE ?hv ?_ ?_); (case hv => first | rfl | (simp only [h36, h33, h34, hr0, hr1, hr2, hr3, cPlant,go_sem, simprocAttr]; rfl)); all_goals (intro hc; (try simp only [go_sem, simprocAttr] at hc); try (exfalso; omega))) | ((with_reducible first | refine grdS_split ?_ ?_ | refine lkG_split ?_ ?_) <;> intro hg <;> (try simp (disch := omega) only [hg, h36, h33, h34, hr0, hr1, hr2, hr3, cPlant,go_sem, simprocAttr]) <;> (try simp only [go_sem, simprocAttr] at hg) <;> (try (exfalso; omega))) | with_reducible intro (ep : Nat → Nat) | with_reducible apply_assumption -exfalso -symm only [*])
 refine AW_range tabOK hs.length (fun k f H => ∃ e4 e5, (f 0 = .ptr 436 e36 10 0 0 ∧ f 3 = .pim [.fn (sgF best) [], .fn (sgF (!best)) []] ∧ f 4 = .ptr 1604 e4 2 0 0 ∧ f 5 = .ptr 1605 e5 2 0 0 ∧ f 12 = .lst 8 (hs.map cHead)) ∧ (H 436 = some (e36, .fro 10 [cPlant n hs e33 e34 (n.pipes.length + 1)]) ∧ H 433 = some (e33, .fro 1 (ints (flowL n.pipes (n.pipes.length + 1) hs))) ∧ H 434 = some (e34, .frm ver (imap .i64 (offM out))) ∧
   H 1604 = some (e4, .arr 2 [[.int .i64 0, .bool false]]) ∧ H 1605 = some (e5, .arr 2 [[.int .i64 0, .bool false]])) ∧ lackF n hs out best hs = lackF n hs out best (hs.drop k)) (by omega) (by rw [hXs]; decide) (by decide) (by (first | rfl | (simp only [h36, go_sem, simprocAttr]; done) | (simp only [h36, go_sem, simprocAttr]; rfl))) (by (first | rfl | (simp only [h36, go_sem, simprocAttr]; done) | (simp only [h36, go_sem, simprocAttr]; rfl)))
  ⟨_, _, by (and_intros <;> first | rfl | (simp only [h36, go_sem, simprocAttr]; done) | (simp only [h36, go_sem, simprocAttr]; rfl)), by (and_intros <;> first | rfl | (simp only [h36, h33, h34, cPlant, go_sem, simprocAttr]; done) | (simp only [h36, h33, h34, cPlant, go_sem, simprocAttr]; rfl)), by simp⟩ ?_ ?_
 ·clear h36 h33 h34 hr0 hr1 hr2 hr3
  rintro k f H hk h14 h13 ⟨e4, e5, ⟨h0, h3, h4, h5', h12⟩, ⟨g36, g33, g34, g4, g5⟩, hr⟩
  obtain ⟨x, hx⟩ : ∃ x, hs[k]? = some x := ⟨_, List.getElem?_eq_getElem hk⟩
  rw [drop_cons hx] at hr
  simp only [lackF, List.find?_cons] at hr
  have hxm := List.mem_of_getElem? hx
  refine AW_keep [436, 433, 434, 1604, 1605] ?_
  have k36 : keep H [436, 433, 434, 1604, 1605] 436 = some (e36, .fro 10 [cPlant n hs e33 e34 (n.pipes.length + 1)]) := g36
  have k33 : keep H [436, 433, 434, 1604, 1605] 433 = some (e33, .fro 1 (ints (flowL n.pipes (n.pipes.length + 1) hs))) := g33
  have k34 : keep H [436, 433, 434, 1604, 1605] 434 = some (e34, .frm ver (imap .i64 (offM out))) := g34
  have k4 : keep H [436, 433, 434, 1604, 1605] 1604 = some (e4, .arr 2 [[.int .i64 0, .bool false]]) := g4
  have k5 : keep H [436, 433, 434, 1604, 1605] 1605 = some (e5, .arr 2 [[.int .i64 0, .bool false]]) := g5
  have k7 : keep H [436, 433, 434, 1604, 1605] 1607 = none := rfl
  have k08 : keep H [436, 433, 434, 1604, 1605] 1208 = none := rfl
  clear g36 g33 g34 g4 g5
  obtain ⟨H2, hH2⟩ : ∃ H2, keep H [436, 433, 434, 1604, 1605] = H2 := ⟨_, rfl⟩
  rw [hH2] at k36 k33 k34 k4 k5 k7 k08 ⊢
  clear hH2
  have hp0 : ∀ e7 cs, LookC Try.prog 61 [.ptr 436 e36 10 0 0, encHead x, endV best] (upd (upd H2 1607 (some (e7, .arr 8 [List.replicate 8 (.int .i64 0)]))) 1607 (some (e7, .arr 8 cs))) (.int .i64 (pressS n hs out best x)) := fun e7 cs =>
   pressure_look n hF hs h5 (by omega) out ho best x (hnd x hxm) e36 e33 e34 _ ⟨by rw [upd_ne _ _ (by decide), upd_ne _ _ (by decide), k36]; rfl, by rw [upd_ne _ _ (by decide), upd_ne _ _ (by decide), k33]; rfl, ver, by rw [upd_ne _ _ (by decide), upd_ne _ _ (by decide), k34]; rfl⟩ (by rw [upd_ne _ _ (by decide), upd_ne _ _ (by decide), k08])
  simp only [encHead, cHead, endV] at hp0
  by_cases hlt : pressS n hs out best x < x.least
  ·rw [decide_eq_true hlt] at hr
   have hfo : lackF n hs out best hs = some x := hr
   have hcut' := fun (f : Fr) (H : Hp) (h : (f 0 = .ptr 436 e36 10 0 0 ∧ f 3 = .pim [.fn (sgF best) [], .fn (sgF (!best)) []] ∧ f 4 = .ptr 1604 e4 2 0 0 ∧ f 5 = .ptr 1605 e5 2 0 0) ∧ (H 436 = some (e36, .fro 10 [cPlant n hs e33 e34 (n.pipes.length + 1)]) ∧ H 433 = some (e33, .fro 1 (ints (flowL n.pipes (n.pipes.length + 1) hs))) ∧
     H 1604 = some (e4, .arr 2 [[.int .i64 0, .bool false]]) ∧ H 1605 = some (e5, .arr 2 [[.int .i64 x.id, .bool true]]))) => hcut e4 e5 f H ⟨h.1, h.2.1, h.2.2.1, h.2.2.2.1, by rw [hfo]; exact h.2.2.2.2⟩
   clear hcut
   repeat' (first | (with_reducible refine sk ?_; intro K hK) | ((first | (with_reducible first | refine rgL [] [21] (md := { base := 1600, own := [] }) (h := ?_) | refine rgL [4, 5, 7] [21] (md := { base := 1600, own := [] }) (h := ?_) | refine nx ?_) | refine pK (hp0 _ _) ?_ | refine lK (hp0 _ _) ?_); try simp (disch := omega) only [h0, h3, h4, h5', h12, h13, h14, k36, k33, k34, k4, k5, k7, hx, hlt, cHead,go_sem, simprocAttr]) | (with_reducible refine bk ?_) | ((with_reducible refine' cE ?hv ?_ ?_); (case hv => first | rfl | (simp only [h0, h3, h4, h5', h12, h13, h14, k36, k33, k34, k4, k5, k7, hx, hlt, cHead,go_sem, simprocAttr]; rfl)); all_goals (intro hc; (try simp only [go_sem, simprocAttr] at hc); try (exfalso; omega))) | ((with_reducible first | refine grdS_split ?_ ?_ | refine lkG_split ?_ ?_) <;> intro hg <;> (try simp (disch := omega) only [hg, h0, h3, h4, h5', h12, h13, h14, k36, k33, k34, k4, k5, k7, hx, hlt, cHead,go_sem, simprocAttr]) <;> (try simp only [go_sem, simprocAttr] at hg) <;> (try (exfalso; omega))) | with_reducible intro (ep : Nat → Nat) | with_reducible apply_assumption -exfalso -symm only [*])
   exact ⟨by (and_intros <;> first | rfl | (simp only [h0, h3, h4, h5', go_sem, simprocAttr]; done) | (simp only [h0, h3, h4, h5', go_sem, simprocAttr]; rfl)), by (and_intros <;> first | rfl | (simp only [k36, k33, k4, k5, cHead, go_sem, simprocAttr]; done) | (simp only [k36, k33, k4, k5, cHead, go_sem, simprocAttr]; rfl))⟩
  ·rw [decide_eq_false hlt] at hr
   repeat' (first | (with_reducible refine sk ?_; intro K hK) | ((first | (with_reducible first | refine rgL [] [21] (md := { base := 1600, own := [] }) (h := ?_) | refine rgL [4, 5, 7] [21] (md := { base := 1600, own := [] }) (h := ?_) | refine nx ?_) | refine pK (hp0 _ _) ?_ | refine lK (hp0 _ _) ?_); try simp (disch := omega) only [h0, h3, h4, h5', h12, h13, h14, k36, k33, k34, k4, k5, k7, hx, hlt, cHead,go_sem, simprocAttr]) | (with_reducible refine bk ?_) | ((with_reducible refine' cE ?hv ?_ ?_); (case hv => first | rfl | (simp only [h0, h3, h4, h5', h12, h13, h14, k36, k33, k34, k4, k5, k7, hx, hlt, cHead,go_sem, simprocAttr]; rfl)); all_goals (intro hc; (try simp only [go_sem, simprocAttr] at hc); try (exfalso; omega))) | ((with_reducible first | refine grdS_split ?_ ?_ | refine lkG_split ?_ ?_) <;> intro hg <;> (try simp (disch := omega) only [hg, h0, h3, h4, h5', h12, h13, h14, k36, k33, k34, k4, k5, k7, hx, hlt, cHead,go_sem, simprocAttr]) <;> (try simp only [go_sem, simprocAttr] at hg) <;> (try (exfalso; omega))) | with_reducible intro (ep : Nat → Nat) | with_reducible apply_assumption -exfalso -symm only [*])
   exact ⟨e4, e5, by (and_intros <;> first | rfl | (simp only [h0, h3, h4, h5', h12, go_sem, simprocAttr]; done) | (simp only [h0, h3, h4, h5', h12, go_sem, simprocAttr]; rfl)), by (and_intros <;> first | rfl | (simp only [k36, k33, k34, k4, k5, go_sem, simprocAttr]; done) | (simp only [k36, k33, k34, k4, k5, go_sem, simprocAttr]; rfl)), hr⟩
 ·clear h36 h33 h34 hr0 hr1 hr2 hr3
  rintro f H h14 h13 ⟨e4, e5, ⟨h0, h3, h4, h5', h12⟩, ⟨g36, g33, g34, g4, g5⟩, hr⟩
  rw [drop_none (Nat.le_refl _)] at hr
  have hfo : lackF n hs out best hs = none := hr
  refine hcut e4 e5 _ _ ⟨⟨h0, h3, h4, h5'⟩, g36, g33, g4, by rw [hfo]; exact g5⟩
end Cp
namespace Cp
open Go Go.Proofs
set_option maxRecDepth 10000
set_option maxHeartbeats 1000000
theorem without_fro (n : NetT) (hs : List HeadT) (e36 e33 e34 ver : Nat) (out : List Int) (hlo : out.length ≤ 100000) (hp : out.Pairwise (· < ·)) (g : FuncId) (caps : List Val) (H0 : Hp)
  (h36 : H0 436 = some (e36, .fro 10 [cPlant n hs e33 e34 (n.pipes.length + 1)])) (h34 : H0 434 = some (e34, .map ver [])) (R : Hp → Prop)
  (hg : ∀ (ver' : Nat) (H : Hp), (∀ j, ¬ j = 434 → H j = H0 j) → H 434 = some (e34, .map ver' (imap .i64 (offM out))) → ACall Try.prog g caps H fun v H' => v = .tup [] ∧ H' 436 = H 436 ∧ (∃ ver2, H' 434 = some (e34, .map ver2 (imap .i64 (offM out)))) ∧ R H') :
  ACall Try.prog 58 [.ptr 436 e36 10 0 0, .lst 1 (ints out), .fn g caps] H0 fun v H' => v = .tup [] ∧ ∃ H2 ver2, R H2 ∧ (∀ j, ¬ j = 434 → H' j = H2 j) ∧ H' 434 = some (e34, .map ver2 []) := by
 refine ACall_of (fn := Try.f58) tabOK (by kernel_rfl) rfl (by kernel_rfl) (by simp [Try.f58]) ?_
 intro X hX0 hXs
 repeat' (first | ((fail_if_success (with_reducible refine AW_at (id := 0) ?_)); with_reducible refine sk ?_; intro K hK) | ((with_reducible first | refine rg (md := { base := 1400, own := [], imp := [23] }) (h := ?_) | refine nx ?_); try simp (disch := omega) only [go_sem, simprocAttr]) | (with_reducible refine bk ?_) | ((with_reducible refine' cE ?hv ?_ ?_); (case hv => first | rfl | (simp only [go_sem, simprocAttr]; rfl)); all_goals (intro hc; (try simp only [go_sem, simprocAttr] at hc); try (exfalso; omega))) | ((with_reducible refine fe ?_); refine ⟨_, (by simp only [Try.f58, go_sem, simprocAttr]; rfl), ?_⟩; first | rfl | (try simp only [go_sem, simprocAttr, seval])) | with_reducible intro (ep : Nat → Nat) | with_reducible apply_assumption -exfalso -symm only [*])
 have hcut : ∀ f H, (f 0 = .ptr 436 e36 10 0 0 ∧ f 1 = .lst 1 (ints out) ∧ f 2 = .fn g caps) ∧ (∀ j, ¬ j = 434 → H j = H0 j) ∧ (∃ ver', H 434 = some (e34, .map ver' (imap .i64 (offM out)))) → K f H := by
  rintro f H ⟨⟨h0, h1, h2⟩, hlow, ver', hm⟩
  refine hK f H ?_
  clear hK
  have k36 : H 436 = some (e36, .fro 10 [cPlant n hs e33 e34 (n.pipes.length + 1)]) := by rw [hlow _ (by decide), h36]
  repeat' (first | ((fail_if_success (with_reducible refine AW_at (id := 6) ?_)); with_reducible refine sk ?_; intro K hK) | ((first | (with_reducible first | refine rg (md := { base := 1400, own := [], imp := [23] }) (h := ?_) | refine nx ?_) | refine pK (hg ver' H hlow hm) ?_); try simp (disch := omega) only [h0, h1, h2,go_sem, simprocAttr]) | (with_reducible refine bk ?_) | ((with_reducible refine' cE ?hv ?_ ?_); (case hv => first | rfl | (simp only [h0, h1, h2,go_sem, simprocAttr]; rfl)); all_goals (intro hc; (try simp only [go_sem, simprocAttr] at hc); try (exfalso; omega))) | (first | refine iK (hg ver' H hlow hm) ?_) | ((with_reducible refine fe ?_); refine ⟨_, (by simp only [Try.f58, h0, h1, h2,go_sem, simprocAttr]; rfl), ?_⟩; first | rfl | (try simp only [h0, h1, h2,go_sem, simprocAttr, seval])) | with_reducible intro (ep : Nat → Nat) | with_reducible apply_assumption -exfalso -symm only [*])
  rintro v H2 ⟨rfl, k36', ⟨ver2, hm2⟩, hR⟩
  rw [k36] at k36'
  simp only [go_sem, simprocAttr]
  repeat' (first | (with_reducible refine sk ?_; intro K hK) | ((with_reducible first | refine rg (md := { base := 1400, own := [], imp := [23] }) (h := ?_) | refine nx ?_); try simp (disch := omega) only [h0, h1,go_sem, simprocAttr]) | (with_reducible refine bk ?_) | ((with_reducible refine' cE ?hv ?_ ?_); (case hv => first | rfl | (simp only [h0, h1,go_sem, simprocAttr]; rfl)); all_goals (intro hc; (try simp only [go_sem, simprocAttr] at hc); try (exfalso; omega))) | with_reducible intro (ep : Nat → Nat) | with_reducible apply_assumption -exfalso -symm only [*])
  refine AW_range tabOK out.length (fun k f H => (f 0 = .ptr 436 e36 10 0 0 ∧ f 24 = .lst 1 (ints out)) ∧ (∀ j, ¬ j = 434 → H j = H2 j) ∧ ∃ v, H 434 = some (e34, .map v (imap .i64 (offM (out.drop k))))) (by omega) (by rw [hXs]; decide) (by decide) (by (first | rfl | (simp only [go_sem, simprocAttr]; done) | (simp only [go_sem, simprocAttr]; rfl))) (by (first | rfl | (simp only [go_sem, simprocAttr]; done) | (simp only [go_sem, simprocAttr]; rfl)))
   ⟨by (and_intros <;> first | rfl | (simp only [h0, h1, go_sem, simprocAttr]; done) | (simp only [h0, h1, go_sem, simprocAttr]; rfl)), fun j _ => rfl, ver2, by rw [List.drop_zero]; exact hm2⟩ ?_ ?_
  ·clear h0 h1 h2 hm
   rintro k f H3 hk h26 h25 ⟨⟨h0, h24⟩, hlow3, v, hm⟩
   obtain ⟨x, hx⟩ : ∃ x, out[k]? = some x := ⟨_, List.getElem?_eq_getElem hk⟩
   have q36 : H3 436 = some (e36, .fro 10 [cPlant n hs e33 e34 (n.pipes.length + 1)]) := by rw [hlow3 _ (by decide), k36']
   rw [drop_cons hx] at hm
   have hf : findI x (offM (x :: out.drop (k + 1))) 0 = some (0, .bool true) := by simp [offM, findI]
   have he : (imap .i64 (offM (x :: out.drop (k + 1)))).eraseIdx 0 = imap .i64 (offM (out.drop (k + 1))) := by simp [imap, offM]
   repeat' (first | (with_reducible refine sk ?_; intro K hK) | ((with_reducible first | refine rg (md := { base := 1400, own := [], imp := [23] }) (h := ?_) | refine nx ?_); try simp (disch := omega) only [h0, h24, h25, h26, hx, q36, hm, hf, he, cPlant,go_sem, simprocAttr]) | (with_reducible refine bk ?_) | ((with_reducible refine' cE ?hv ?_ ?_); (case hv => first | rfl | (simp only [h0, h24, h25, h26, hx, q36, hm, hf, he, cPlant,go_sem, simprocAttr]; rfl)); all_goals (intro hc; (try simp only [go_sem, simprocAttr] at hc); try (exfalso; omega))) | with_reducible intro (ep : Nat → Nat) | with_reducible apply_assumption -exfalso -symm only [*])
   exact ⟨fun j hj => by rw [if_neg hj]; exact hlow3 j hj, _, rfl⟩
  ·clear h0 h1 h2 hm
   rintro f H3 h26 h25 ⟨⟨h0, h24⟩, hlow3, v, hm⟩
   rw [drop_none (Nat.le_refl _)] at hm
   refine FnQ_end (Or.inr rfl) (.refl _) (by simp only [Try.f58, go_sem, simprocAttr]; rfl) ?_
   exact ⟨rfl, H2, v, hR, hlow3, hm⟩
 clear hK
 repeat' (first | (with_reducible refine sk ?_; intro K hK) | ((with_reducible first | refine rg (md := { base := 1400, own := [], imp := [23] }) (h := ?_) | refine nx ?_); try simp (disch := omega) only [go_sem, simprocAttr]) | (with_reducible refine bk ?_) | ((with_reducible refine' cE ?hv ?_ ?_); (case hv => first | rfl | (simp only [go_sem, simprocAttr]; rfl)); all_goals (intro hc; (try simp only [go_sem, simprocAttr] at hc); try (exfalso; omega))) | with_reducible intro (ep : Nat → Nat) | with_reducible apply_assumption -exfalso -symm only [*])
 refine AW_range tabOK out.length (fun k f H => (f 0 = .ptr 436 e36 10 0 0 ∧ f 1 = .lst 1 (ints out) ∧ f 2 = .fn g caps ∧ f 10 = .lst 1 (ints out)) ∧ (∀ j, ¬ j = 434 → H j = H0 j) ∧ ∃ v, H 434 = some (e34, .map v (imap .i64 (offM (out.take k))))) (by omega) (by rw [hXs]; decide) (by decide) (by (first | rfl | (simp only [go_sem, simprocAttr]; done) | (simp only [go_sem, simprocAttr]; rfl))) (by (first | rfl | (simp only [go_sem, simprocAttr]; done) | (simp only [go_sem, simprocAttr]; rfl)))
  ⟨by (and_intros <;> first | rfl | (simp only [go_sem, simprocAttr]; done) | (simp only [go_sem, simprocAttr]; rfl)), fun j _ => rfl, ver, by rw [List.take_zero]; exact h34⟩ ?_ ?_
 ·clear hcut
  rintro k f H3 hk h12 h11 ⟨⟨h0, h1, h2, h10⟩, hlow3, v, hm⟩
  obtain ⟨x, hx⟩ : ∃ x, out[k]? = some x := ⟨_, List.getElem?_eq_getElem hk⟩
  have q36 : H3 436 = some (e36, .fro 10 [cPlant n hs e33 e34 (n.pipes.length + 1)]) := by rw [hlow3 _ (by decide), h36]
  have hf : findI x (offM (out.take k)) 0 = none := findI_end (v := .any) fun p hq => by
   obtain ⟨y, hy, rfl⟩ := List.mem_map.1 hq
   obtain ⟨i, hi⟩ := List.mem_iff_getElem?.1 hy
   have hik : i < k := by have := (List.getElem?_eq_some_iff.1 hi).1; simp at this; omega
   rw [List.getElem?_take_of_lt hik] at hi
   obtain ⟨z1, rfl⟩ := List.getElem?_eq_some_iff.1 hi
   obtain ⟨z2, rfl⟩ := List.getElem?_eq_some_iff.1 hx
   have := List.pairwise_iff_getElem.1 hp i k z1 z2 hik
   simp only; omega
  repeat' (first | (with_reducible refine sk ?_; intro K hK) | ((with_reducible first | refine rg (md := { base := 1400, own := [], imp := [23] }) (h := ?_) | refine nx ?_); try simp (disch := omega) only [h0, h1, h2, h10, h11, h12, hx, q36, hm, hf, cPlant,go_sem, simprocAttr]) | (with_reducible refine bk ?_) | ((with_reducible refine' cE ?hv ?_ ?_); (case hv => first | rfl | (simp only [h0, h1, h2, h10, h11, h12, hx, q36, hm, hf, cPlant,go_sem, simprocAttr]; rfl)); all_goals (intro hc; (try simp only [go_sem, simprocAttr] at hc); try (exfalso; omega))) | with_reducible intro (ep : Nat → Nat) | with_reducible apply_assumption -exfalso -symm only [*])
  exact ⟨fun j hj => by rw [if_neg hj]; exact hlow3 j hj, _, by rw [offM_snoc, take_snoc' hx]⟩
 ·rintro f H3 h12 h11 ⟨⟨h0, h1, h2, h10⟩, hlow3, v, hm⟩
  rw [List.take_of_length_le (Nat.le_refl _)] at hm
  repeat' (first | (with_reducible refine sk ?_; intro K hK) | ((with_reducible first | refine rg (md := { base := 1400, own := [], imp := [23] }) (h := ?_) | refine nx ?_); try simp (disch := omega) only [h0, h1, h2,go_sem, simprocAttr]) | (with_reducible refine bk ?_) | ((with_reducible refine' cE ?hv ?_ ?_); (case hv => first | rfl | (simp only [h0, h1, h2,go_sem, simprocAttr]; rfl)); all_goals (intro hc; (try simp only [go_sem, simprocAttr] at hc); try (exfalso; omega))) | with_reducible intro (ep : Nat → Nat) | with_reducible apply_assumption -exfalso -symm only [*])
  exact ⟨by (and_intros <;> first | rfl | (simp only [h0, h1, h2, go_sem, simprocAttr]; done) | (simp only [h0, h1, h2, go_sem, simprocAttr]; rfl)), hlow3, v, hm⟩
end Cp
