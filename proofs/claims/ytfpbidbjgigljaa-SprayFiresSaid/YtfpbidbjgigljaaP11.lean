/- Rules, facts and contracts that the statement's proof leans on. Conditions: none. -/
import Derived.Test.YtfpbidbjgigljaaP10
set_option linter.unusedVariables false
set_option linter.unusedSimpArgs false
set_option linter.unusedSectionVars false
namespace Cp
open Go Go.Proofs
set_option maxRecDepth 10000
set_option maxHeartbeats 4000000
theorem rlacks_ok (n : NetT) (hF : NetF n) (l : List Int) (hl : l.length ≤ 20) (hal : ∀ a ∈ l, (headAt n.heads a).isSome = true) (out : List Int) (hno : outOK n out = true) (best : Bool) :
  PureC Try.prog 98 [encNet n, .lst 1 (ints l), .lst 1 (ints out), .bool best] (.tup [.int .i64 (lackS n (openH n.heads l) out best).1, .bool (lackS n (openH n.heads l) out best).2]) := by
 have hhl := hF.heads
 have hmn := hF.mins
 have hat := fun id => at_ok n (by omega) id
 have hrp := fun k h hk => rpress_ok n hF l hl hal out hno k h hk best
 have hfl := flow_ok n hF l (by omega) hal
 have h5 := openH_500 hF l
 have hnb := needs_bnd h5
 have hlen := openH_len' hal
 have hge := fun k a x ha hx => openH_get (k := k) (a := a) (x := x) hal ha hx
 obtain ⟨L, hL⟩ : ∃ L, openH n.heads l = L := ⟨_, rfl⟩
 simp only [hL] at hrp hfl hlen hnb hge ⊢
 have hmul : 0 ≤ needs L * n.mins ∧ needs L * n.mins ≤ 10000 * 600 := ⟨Int.mul_nonneg (by omega) hmn.1, Int.mul_le_mul (by omega) hmn.2 hmn.1 (by omega)⟩
 simp only [encNet, cNet] at hat hrp hfl
 refine PureC_of (fn := Try.f98) tabOK (by kernel_rfl) rfl (by kernel_rfl) (by simp [Try.f98]) (by simp [noids, noid, noidss, go_sem, encNet, cNet]) (by first | rfl | simp [noids, noid, noidss, go_sem, encNet, cNet]) ?_
 intro X hX0 hXs
 repeat' (first | ((fail_if_success (with_reducible refine AW_at (id := 1) ?_)); with_reducible refine sk ?_; intro K hK) | ((with_reducible first | refine rg (h := ?_) | refine nx ?_); try simp (disch := omega) only [encNet, cNet,go_sem, simprocAttr]) | (with_reducible refine bk ?_) | ((with_reducible refine' cE ?hv ?_ ?_); (case hv => first | rfl | (simp only [encNet, cNet,go_sem, simprocAttr]; rfl)); all_goals (intro hc; (try simp only [go_sem, simprocAttr] at hc); try (exfalso; omega))) | ((with_reducible refine fe ?_); refine ⟨_, (by simp only [Try.f98, encNet, cNet,go_sem, simprocAttr]; rfl), ?_⟩; first | rfl | (try simp only [encNet, cNet,go_sem, simprocAttr, seval])) | with_reducible intro (ep : Nat → Nat) | with_reducible apply_assumption -exfalso -symm only [*])
 have hcut : ∀ f H, f 1 = .lst 1 (ints l) → f 3 = .bool best → f 4 = .pim (cNet n) → lackF n L out best L = none → K f H := by
  intro f H h1 h3 h4 hno
  refine hK f H ?_
  clear hK
  unfold lackS
  rw [hno]
  have htk : tankH n best = if best = true then n.tank.hi else n.tank.lo := rfl
  simp only [htk]
  cases best
  ·by_cases hlt : n.tank.lo < needs L * n.mins
   ·repeat' (first | (with_reducible refine sk ?_; intro K hK) | ((first | (with_reducible first | refine rg (h := ?_) | refine nx ?_) | refine pK (hfl) ?_); try simp (disch := omega) only [h1, h3, h4, hlt, cNet,go_sem, simprocAttr]) | (with_reducible refine bk ?_) | ((with_reducible refine' cE ?hv ?_ ?_); (case hv => first | rfl | (simp only [h1, h3, h4, hlt, cNet,go_sem, simprocAttr]; rfl)); all_goals (intro hc; (try simp only [go_sem, simprocAttr] at hc); try (exfalso; omega))) | ((with_reducible refine fe ?_); refine ⟨_, (by simp only [Try.f98, h1, h3, h4, hlt, cNet,go_sem, simprocAttr]; rfl), ?_⟩; first | rfl | (try simp only [h1, h3, h4, hlt, cNet,go_sem, simprocAttr, seval])) | with_reducible intro (ep : Nat → Nat) | with_reducible apply_assumption -exfalso -symm only [*])
   ·repeat' (first | (with_reducible refine sk ?_; intro K hK) | ((first | (with_reducible first | refine rg (h := ?_) | refine nx ?_) | refine pK (hfl) ?_); try simp (disch := omega) only [h1, h3, h4, hlt, cNet,go_sem, simprocAttr]) | (with_reducible refine bk ?_) | ((with_reducible refine' cE ?hv ?_ ?_); (case hv => first | rfl | (simp only [h1, h3, h4, hlt, cNet,go_sem, simprocAttr]; rfl)); all_goals (intro hc; (try simp only [go_sem, simprocAttr] at hc); try (exfalso; omega))) | ((with_reducible refine fe ?_); refine ⟨_, (by simp only [Try.f98, h1, h3, h4, hlt, cNet,go_sem, simprocAttr]; rfl), ?_⟩; first | rfl | (try simp only [h1, h3, h4, hlt, cNet,go_sem, simprocAttr, seval])) | with_reducible intro (ep : Nat → Nat) | with_reducible apply_assumption -exfalso -symm only [*])
  ·by_cases hlt : n.tank.hi < needs L * n.mins
   ·repeat' (first | (with_reducible refine sk ?_; intro K hK) | ((first | (with_reducible first | refine rg (h := ?_) | refine nx ?_) | refine pK (hfl) ?_); try simp (disch := omega) only [h1, h3, h4, hlt, cNet,go_sem, simprocAttr]) | (with_reducible refine bk ?_) | ((with_reducible refine' cE ?hv ?_ ?_); (case hv => first | rfl | (simp only [h1, h3, h4, hlt, cNet,go_sem, simprocAttr]; rfl)); all_goals (intro hc; (try simp only [go_sem, simprocAttr] at hc); try (exfalso; omega))) | ((with_reducible refine fe ?_); refine ⟨_, (by simp only [Try.f98, h1, h3, h4, hlt, cNet,go_sem, simprocAttr]; rfl), ?_⟩; first | rfl | (try simp only [h1, h3, h4, hlt, cNet,go_sem, simprocAttr, seval])) | with_reducible intro (ep : Nat → Nat) | with_reducible apply_assumption -exfalso -symm only [*])
   ·repeat' (first | (with_reducible refine sk ?_; intro K hK) | ((first | (with_reducible first | refine rg (h := ?_) | refine nx ?_) | refine pK (hfl) ?_); try simp (disch := omega) only [h1, h3, h4, hlt, cNet,go_sem, simprocAttr]) | (with_reducible refine bk ?_) | ((with_reducible refine' cE ?hv ?_ ?_); (case hv => first | rfl | (simp only [h1, h3, h4, hlt, cNet,go_sem, simprocAttr]; rfl)); all_goals (intro hc; (try simp only [go_sem, simprocAttr] at hc); try (exfalso; omega))) | ((with_reducible refine fe ?_); refine ⟨_, (by simp only [Try.f98, h1, h3, h4, hlt, cNet,go_sem, simprocAttr]; rfl), ?_⟩; first | rfl | (try simp only [h1, h3, h4, hlt, cNet,go_sem, simprocAttr, seval])) | with_reducible intro (ep : Nat → Nat) | with_reducible apply_assumption -exfalso -symm only [*])
 clear hK
 repeat' (first | (with_reducible refine sk ?_; intro K hK) | ((with_reducible first | refine rg (h := ?_) | refine nx ?_); try simp (disch := omega) only [go_sem, simprocAttr]) | (with_reducible refine bk ?_) | ((with_reducible refine' cE ?hv ?_ ?_); (case hv => first | rfl | (simp only [go_sem, simprocAttr]; rfl)); all_goals (intro hc; (try simp only [go_sem, simprocAttr] at hc); try (exfalso; omega))) | with_reducible intro (ep : Nat → Nat) | with_reducible apply_assumption -exfalso -symm only [*])
 refine AW_block (AW_loop (fun m f H => ∃ k : Nat, m = l.length - k ∧ k ≤ l.length ∧ (f 1 = .lst 1 (ints l) ∧ f 2 = .lst 1 (ints out) ∧ f 3 = .bool best ∧ f 4 = .pim (cNet n) ∧ f 10 = .int .i64 k) ∧ lackF n L out best L = lackF n L out best (L.drop k)) l.length
  ⟨0, by simp, Nat.zero_le _, by (and_intros <;> first | rfl | (simp only [cNet, go_sem, simprocAttr]; done) | (simp only [cNet, go_sem, simprocAttr]; rfl)), by simp⟩ ?_)
 rintro m f H ⟨k, rfl, hk, ⟨h1, h2, h3, h4, h10⟩, hr⟩
 by_cases hlt : k < l.length
 ·clear hcut
  obtain ⟨a, ha⟩ : ∃ a, l[k]? = some a := ⟨_, List.getElem?_eq_getElem hlt⟩
  rcases @atI_at n.heads a with ⟨a1, a2⟩ | ⟨i, y, a0, a1, a2⟩
  ·have := hal a (List.mem_of_getElem? ha); rw [a1] at this; simp at this
  ·have hLk := hge k a y ha a1
   have hp := hrp i y a0
   have hya : y.id = a := (headAt_mem a1).2
   rw [drop_cons hLk] at hr
   simp only [lackF, List.find?_cons] at hr
   refine AW_keep [] ?_
   have hyc : cHead y = [.int .i64 y.id, .int .i64 y.node, .int .i64 y.need, .int .i64 y.least, .int .i64 y.bulb.lo, .int .i64 y.bulb.hi, .int .i64 y.slow.lo, .int .i64 y.slow.hi] := rfl
   by_cases hpl : pressS n L out best y < y.least
   ·rw [decide_eq_true hpl] at hr
    have hr2 : lackF n L out best L = some y := hr
    have hls : lackS n L out best = (a, true) := by unfold lackS; rw [hr2, ← hya]
    rw [hls]
    repeat' (first | (with_reducible refine sk ?_; intro K hK) | ((first | (with_reducible first | refine rg (h := ?_) | refine nx ?_) | refine pK (hat a) ?_ | refine pK (hp) ?_); try simp (disch := omega) only [h1, h2, h3, h4, h10, ha, a0, a2, hpl, hyc, cNet,go_sem, simprocAttr]) | (with_reducible refine bk ?_) | ((with_reducible refine' cE ?hv ?_ ?_); (case hv => first | rfl | (simp only [h1, h2, h3, h4, h10, ha, a0, a2, hpl, hyc, cNet,go_sem, simprocAttr]; rfl)); all_goals (intro hc; (try simp only [go_sem, simprocAttr] at hc); try (exfalso; omega))) | ((with_reducible refine fe ?_); refine ⟨_, (by simp only [Try.f98, h1, h2, h3, h4, h10, ha, a0, a2, hpl, hyc, cNet,go_sem, simprocAttr]; rfl), ?_⟩; first | rfl | (try simp only [h1, h2, h3, h4, h10, ha, a0, a2, hpl, hyc, cNet,go_sem, simprocAttr, seval])) | with_reducible intro (ep : Nat → Nat) | with_reducible apply_assumption -exfalso -symm only [*])
   ·rw [decide_eq_false hpl] at hr
    repeat' (first | (with_reducible refine sk ?_; intro K hK) | ((first | (with_reducible first | refine rg (h := ?_) | refine nx ?_) | refine pK (hat a) ?_ | refine pK (hp) ?_); try simp (disch := omega) only [h1, h2, h3, h4, h10, ha, a0, a2, hpl, hyc, cNet,go_sem, simprocAttr]) | (with_reducible refine bk ?_) | ((with_reducible refine' cE ?hv ?_ ?_); (case hv => first | rfl | (simp only [h1, h2, h3, h4, h10, ha, a0, a2, hpl, hyc, cNet,go_sem, simprocAttr]; rfl)); all_goals (intro hc; (try simp only [go_sem, simprocAttr] at hc); try (exfalso; omega))) | with_reducible intro (ep : Nat → Nat) | with_reducible apply_assumption -exfalso -symm only [*])
    exact ⟨l.length - (k + 1), by omega, k + 1, rfl, by omega, by (and_intros <;> first | rfl | (simp only [h1, h2, h3, h4, cNet, go_sem, simprocAttr]; done) | (simp only [h1, h2, h3, h4, cNet, go_sem, simprocAttr]; rfl)), hr⟩
 ·obtain rfl : k = l.length := by omega
  rw [← hlen, List.drop_length] at hr
  repeat' (first | (with_reducible refine sk ?_; intro K hK) | ((with_reducible first | refine rg (h := ?_) | refine nx ?_); try simp (disch := omega) only [h1, h2, h3, h4, h10,go_sem, simprocAttr]) | (with_reducible refine bk ?_) | ((with_reducible refine' cE ?hv ?_ ?_); (case hv => first | rfl | (simp only [h1, h2, h3, h4, h10,go_sem, simprocAttr]; rfl)); all_goals (intro hc; (try simp only [go_sem, simprocAttr] at hc); try (exfalso; omega))) | with_reducible intro (ep : Nat → Nat) | with_reducible apply_assumption -exfalso -symm only [*])
end Cp
namespace Cp
open Go Go.Proofs
set_option maxRecDepth 10000
set_option maxHeartbeats 4000000
def cFnd (t : LackT) : List Val := [.int .u8 0, .int .i64 t.head, if t.known = 2 then .nils else .lst 1 (ints t.out)]
theorem getF_hd {n : NetT} {hs : List HeadT} : ∀ (k : Nat) (L : List (List Int)), (getF n hs (L.take k)).1.known = 2 → (getF n hs (L.take k)).1.head = 0
 | 0, L, _ => rfl
 | k + 1, L, h => by
  cases hl : L[k]? with
  | some l =>
   rw [getF_snoc hl] at h ⊢
   unfold getStep at h ⊢
   simp only at h ⊢
   split at h
   ·simp at h
   ·rename_i h1
    rw [if_neg h1]
    exact getF_hd k L h
  | none =>
   have hk : L.length ≤ k := List.getElem?_eq_none_iff.1 hl
   have := getF_hd (n := n) (hs := hs) k L
   rw [List.take_of_length_le hk] at this
   rw [List.take_of_length_le (by omega)] at h ⊢
   exact this h
theorem rgets_ok0 (n : NetT) (hF : NetF n) (l : List Int) (hl : l.length ≤ 20) (hal : ∀ a ∈ l, (headAt n.heads a).isSome = true) :
  PureC Try.prog 70 [encNet n, .lst 1 (ints l)] (.agg (cTold (getsS n (openH n.heads l)))) := by
 have hgf := gets_facts hF.out.1 (openH n.heads l)
 have hnoid : noid (.agg (cTold (getsS n (openH n.heads l)))) = true := by
  simp only [cTold]; split <;> (simp only [noid, noids, noid_ints]; rfl)
 have ho := routs_ok n hF
 have hll := @outsL_len n.pumps.length n.out.toNat hF.pumps.2 (by have := hF.out.2; have := hF.pumps.2; omega)
 have hmo := fun l => @mem_outs n hF.out.1 l
 have hrl := fun out hno best => rlacks_ok n hF l hl hal out hno best
 obtain ⟨L, hL⟩ : ∃ L, openH n.heads l = L := ⟨_, rfl⟩
 obtain ⟨G, hG⟩ : ∃ G, getsS n L = G := ⟨_, rfl⟩
 obtain ⟨OL, hOL⟩ : ∃ O, outsL n.pumps.length n.out.toNat = O := ⟨_, rfl⟩
 simp only [hOL] at ho hll hmo
 simp only [hL] at hgf hnoid hrl hG ⊢
 have hgs := hG
 unfold getsS at hgs
 rw [hOL] at hgs
 rw [hG] at hnoid ⊢
 simp only [encNet, cNet] at hrl
 simp only [cNet] at ho
 have hnoid2 : noids (cTold G) = true := hnoid
 refine PureC_of (fn := Try.f70) tabOK (by kernel_rfl) rfl (by kernel_rfl) (by simp [Try.f70]) (by simp [noids, noid, noidss, go_sem, encNet, cNet, hnoid2]) (by first | rfl | simp [noids, noid, noidss, go_sem, encNet, cNet, hnoid2]) ?_
 intro X hX0 hXs
 repeat' (first | ((fail_if_success (with_reducible refine AW_at (id := 4) ?_)); with_reducible refine sk ?_; intro K hK) | ((first | (with_reducible first | refine rg (md := { base := 0, own := [4, 6] }) (h := ?_) | refine rgS [4, 6, 42, 43] (md := { base := 0, own := [4, 6] }) (h := ?_) | refine nx ?_) | refine pK (ho) ?_); try simp (disch := omega) only [encNet, cNet,go_sem, simprocAttr]) | (with_reducible refine bk ?_) | ((with_reducible refine' cE ?hv ?_ ?_); (case hv => first | rfl | (simp only [encNet, cNet,go_sem, simprocAttr]; rfl)); all_goals (intro hc; (try simp only [go_sem, simprocAttr] at hc); try (exfalso; omega))) | ((with_reducible first | refine grdS_split ?_ ?_ | refine lkG_split ?_ ?_) <;> intro hg <;> (try simp (disch := omega) only [hg, encNet, cNet,go_sem, simprocAttr]) <;> (try simp only [go_sem, simprocAttr] at hg) <;> (try (exfalso; omega))) | with_reducible intro (ep : Nat → Nat) | with_reducible apply_assumption -exfalso -symm only [*])
 have hcut : ∀ f H, (∃ e4 e6 t g, getF n L OL = (t, g) ∧ (f 4 = .ptr 4 e4 3 0 0 ∧ f 6 = .ptr 6 e6 3 0 0 ∧ f 7 = .bool (decide (t.known = 0)) ∧ f 8 = .bool g) ∧ H 4 = some (e4, .arr 3 [[.int .u8 0, .int .i64 0, .nils]]) ∧ H 6 = some (e6, .arr 3 [cFnd t])) → K f H := by
  rintro f H ⟨e4, e6, ⟨kn, hd, ou⟩, g, hfin, ⟨h4, h6, h7, h8⟩, k4, k6⟩
  refine hK f H ?_
  clear hK
  have hkn := @getF_kn n L OL.length OL
  have hhd := @getF_hd n L OL.length OL
  rw [List.take_of_length_le (Nat.le_refl _), hfin] at hkn hhd
  simp only at hkn hhd
  rw [hfin] at hgs
  rcases hkn with rfl | rfl
  ·simp only [cFnd] at k6
   cases g with
   | true =>
    simp only [and_self, if_true] at hgs
    rw [← hgs]
    repeat' (first | (with_reducible refine sk ?_; intro K hK) | ((with_reducible first | refine rg (md := { base := 0, own := [4, 6] }) (h := ?_) | refine rgS [4, 6, 42, 43] (md := { base := 0, own := [4, 6] }) (h := ?_) | refine nx ?_); try simp (disch := omega) only [h4, h6, h7, h8, k4, k6, cTold, decide_true,go_sem, simprocAttr]) | (with_reducible refine bk ?_) | ((with_reducible refine' cE ?hv ?_ ?_); (case hv => first | rfl | (simp only [h4, h6, h7, h8, k4, k6, cTold, decide_true,go_sem, simprocAttr]; rfl)); all_goals (intro hc; (try simp only [go_sem, simprocAttr] at hc); try (exfalso; omega))) | ((with_reducible first | refine grdS_split ?_ ?_ | refine lkG_split ?_ ?_) <;> intro hg <;> (try simp (disch := omega) only [hg, h4, h6, h7, h8, k4, k6, cTold, decide_true,go_sem, simprocAttr]) <;> (try simp only [go_sem, simprocAttr] at hg) <;> (try (exfalso; omega))) | ((with_reducible refine fe ?_); refine ⟨_, (by simp only [Try.f70, h4, h6, h7, h8, k4, k6, cTold, decide_true,go_sem, simprocAttr]; rfl), ?_⟩; first | rfl | (try simp only [h4, h6, h7, h8, k4, k6, cTold, decide_true,go_sem, simprocAttr, seval])) | with_reducible intro (ep : Nat → Nat) | with_reducible apply_assumption -exfalso -symm only [*])
   | false =>
    simp only [Bool.false_eq_true, false_and, if_false] at hgs
    rw [← hgs]
    repeat' (first | (with_reducible refine sk ?_; intro K hK) | ((with_reducible first | refine rg (md := { base := 0, own := [4, 6] }) (h := ?_) | refine rgS [4, 6, 42, 43] (md := { base := 0, own := [4, 6] }) (h := ?_) | refine nx ?_); try simp (disch := omega) only [h4, h6, h7, h8, k4, k6, cTold, decide_true,go_sem, simprocAttr]) | (with_reducible refine bk ?_) | ((with_reducible refine' cE ?hv ?_ ?_); (case hv => first | rfl | (simp only [h4, h6, h7, h8, k4, k6, cTold, decide_true,go_sem, simprocAttr]; rfl)); all_goals (intro hc; (try simp only [go_sem, simprocAttr] at hc); try (exfalso; omega))) | ((with_reducible first | refine grdS_split ?_ ?_ | refine lkG_split ?_ ?_) <;> intro hg <;> (try simp (disch := omega) only [hg, h4, h6, h7, h8, k4, k6, cTold, decide_true,go_sem, simprocAttr]) <;> (try simp only [go_sem, simprocAttr] at hg) <;> (try (exfalso; omega))) | ((with_reducible refine fe ?_); refine ⟨_, (by simp only [Try.f70, h4, h6, h7, h8, k4, k6, cTold, decide_true,go_sem, simprocAttr]; rfl), ?_⟩; first | rfl | (try simp only [h4, h6, h7, h8, k4, k6, cTold, decide_true,go_sem, simprocAttr, seval])) | with_reducible intro (ep : Nat → Nat) | with_reducible apply_assumption -exfalso -symm only [*])
  ·simp only [cFnd] at k6
   have e := hhd rfl
   subst e
   have hgs2 : G.known = 2 ∧ G.head = 0 := by rw [← hgs]; simp
   repeat' (first | (with_reducible refine sk ?_; intro K hK) | ((with_reducible first | refine rg (md := { base := 0, own := [4, 6] }) (h := ?_) | refine rgS [4, 6, 42, 43] (md := { base := 0, own := [4, 6] }) (h := ?_) | refine nx ?_); try simp (disch := omega) only [h4, h6, h7, h8, k4, k6, cTold, decide_false, hgs2.1, hgs2.2,go_sem, simprocAttr]) | (with_reducible refine bk ?_) | ((with_reducible refine' cE ?hv ?_ ?_); (case hv => first | rfl | (simp only [h4, h6, h7, h8, k4, k6, cTold, decide_false, hgs2.1, hgs2.2,go_sem, simprocAttr]; rfl)); all_goals (intro hc; (try simp only [go_sem, simprocAttr] at hc); try (exfalso; omega))) | ((with_reducible first | refine grdS_split ?_ ?_ | refine lkG_split ?_ ?_) <;> intro hg <;> (try simp (disch := omega) only [hg, h4, h6, h7, h8, k4, k6, cTold, decide_false, hgs2.1, hgs2.2,go_sem, simprocAttr]) <;> (try simp only [go_sem, simprocAttr] at hg) <;> (try (exfalso; omega))) | ((with_reducible refine fe ?_); refine ⟨_, (by simp only [Try.f70, h4, h6, h7, h8, k4, k6, cTold, decide_false, hgs2.1, hgs2.2,go_sem, simprocAttr]; rfl), ?_⟩; first | rfl | (try simp only [h4, h6, h7, h8, k4, k6, cTold, decide_false, hgs2.1, hgs2.2,go_sem, simprocAttr, seval])) | with_reducible intro (ep : Nat → Nat) | with_reducible apply_assumption -exfalso -symm only [*])
 clear hK
 repeat' (first | (with_reducible refine sk ?_; intro K hK) | ((with_reducible first | refine rg (md := { base := 0, own := [4, 6] }) (h := ?_) | refine rgS [4, 6, 42, 43] (md := { base := 0, own := [4, 6] }) (h := ?_) | refine nx ?_); try simp (disch := omega) only [go_sem, simprocAttr]) | (with_reducible refine bk ?_) | ((with_reducible refine' cE ?hv ?_ ?_); (case hv => first | rfl | (simp only [go_sem, simprocAttr]; rfl)); all_goals (intro hc; (try simp only [go_sem, simprocAttr] at hc); try (exfalso; omega))) | ((with_reducible first | refine grdS_split ?_ ?_ | refine lkG_split ?_ ?_) <;> intro hg <;> (try simp (disch := omega) only [hg, go_sem, simprocAttr]) <;> (try simp only [go_sem, simprocAttr] at hg) <;> (try (exfalso; omega))) | with_reducible intro (ep : Nat → Nat) | with_reducible apply_assumption -exfalso -symm only [*])
 refine AW_block (AW_loop (fun m f H => ∃ k : Nat, m = OL.length - k ∧ k ≤ OL.length ∧ ∃ e4 e6 t g, getF n L (OL.take k) = (t, g) ∧ (f 1 = .lst 1 (ints l) ∧ f 2 = .pim (cNet n) ∧ f 5 = .lst 1 (OL.map fun l => [.lst 1 (ints l)]) ∧ f 4 = .ptr 4 e4 3 0 0 ∧ f 6 = .ptr 6 e6 3 0 0 ∧ f 7 = .bool (decide (t.known = 0)) ∧ f 8 = .bool g ∧ f 9 = .int .i64 k) ∧ H 4 = some (e4, .arr 3 [[.int .u8 0, .int .i64 0, .nils]]) ∧ H 6 = some (e6, .arr 3 [cFnd t])) OL.length
  ⟨0, by simp, Nat.zero_le _, _, _, ⟨2, 0, []⟩, false, rfl, by (and_intros <;> first | rfl | (simp only [cNet, go_sem, simprocAttr]; done) | (simp only [cNet, go_sem, simprocAttr]; rfl)), by (and_intros <;> first | rfl | (simp only [go_sem, simprocAttr]; done) | (simp only [go_sem, simprocAttr]; rfl))⟩ ?_)
 rintro m f H ⟨k, rfl, hk, e4, e6, ⟨kn, hd, ou⟩, g, hst, ⟨h1, h2, h5, h4, h6, h7, h8, h9⟩, k4, k6⟩
 by_cases hlt : k < OL.length
 ·clear hcut hgs
  obtain ⟨o, hok⟩ : ∃ o, OL[k]? = some o := ⟨_, List.getElem?_eq_getElem hlt⟩
  have hla := outs_at hok
  have hoo := (hmo o).1 (List.mem_of_getElem? hok)
  have r0 := hrl o hoo false
  have r1 := hrl o hoo true
  have hsn := @getF_snoc n L OL k o hok
  have hkn := @getF_kn n L k OL
  rw [hst] at hsn hkn
  simp only [getStep] at hsn
  simp only at hkn
  obtain ⟨⟨i0, c0⟩, hl0⟩ : ∃ p, lackS n L o false = p := ⟨_, rfl⟩
  obtain ⟨⟨i1, c1⟩, hl1⟩ : ∃ p, lackS n L o true = p := ⟨_, rfl⟩
  rw [hl0] at r0 hsn
  rw [hl1] at r1 hsn
  refine AW_keep [4, 6] ?_
  have q4 : keep H [4, 6] 4 = _ := k4
  have q6 : keep H [4, 6] 6 = _ := k6
  generalize keep H [4, 6] = H2 at q4 q6 ⊢
  clear k4 k6
  rcases hkn with rfl | rfl <;> cases c0 <;> cases c1 <;> cases g
  all_goals (simp only [cFnd, Bool.false_eq_true, false_and, true_and, and_true, and_false, if_false, if_true, Bool.not_true, Bool.not_false, Bool.or_true, Bool.or_false, Bool.true_or, Bool.false_or, Int.reduceEq, reduceIte, decide_true, decide_false] at q6 hsn h7)
  all_goals
   repeat' (first | (with_reducible refine sk ?_; intro K hK) | ((first | (with_reducible first | refine rg (md := { base := 0, own := [4, 6] }) (h := ?_) | refine rgS [4, 6, 42, 43] (md := { base := 0, own := [4, 6] }) (h := ?_) | refine nx ?_) | refine pK (r0) ?_ | refine pK (r1) ?_); try simp (disch := omega) only [h1, h2, h4, h5, h6, h7, h8, h9, q4, q6, hla, cNet,go_sem, simprocAttr]) | (with_reducible refine bk ?_) | ((with_reducible refine' cE ?hv ?_ ?_); (case hv => first | rfl | (simp only [h1, h2, h4, h5, h6, h7, h8, h9, q4, q6, hla, cNet,go_sem, simprocAttr]; rfl)); all_goals (intro hc; (try simp only [go_sem, simprocAttr] at hc); try (exfalso; omega))) | ((with_reducible first | refine grdS_split ?_ ?_ | refine lkG_split ?_ ?_) <;> intro hg <;> (try simp (disch := omega) only [hg, h1, h2, h4, h5, h6, h7, h8, h9, q4, q6, hla, cNet,go_sem, simprocAttr]) <;> (try simp only [go_sem, simprocAttr] at hg) <;> (try (exfalso; omega))) | with_reducible intro (ep : Nat → Nat) | with_reducible apply_assumption -exfalso -symm only [*])
  all_goals (exact ⟨OL.length - (k + 1), by omega, k + 1, rfl, by omega, e4, e6, _, _, hsn, by (and_intros <;> first | rfl | (simp only [h1, h2, h4, h5, h6, h7, h8, cNet, decide_true, decide_false, go_sem, simprocAttr]; done) | (simp only [h1, h2, h4, h5, h6, h7, h8, cNet, decide_true, decide_false, go_sem, simprocAttr]; rfl)), by (first | rfl | (simp only [q4, go_sem, simprocAttr]; done) | (simp only [q4, go_sem, simprocAttr]; rfl)), by (first | rfl | (simp only [q6, cFnd, go_sem, simprocAttr]; done) | (simp only [q6, cFnd, go_sem, simprocAttr]; rfl))⟩)
 ·obtain rfl : k = OL.length := by omega
  rw [List.take_of_length_le (Nat.le_refl _)] at hst
  repeat' (first | (with_reducible refine sk ?_; intro K hK) | ((with_reducible first | refine rg (md := { base := 0, own := [4, 6] }) (h := ?_) | refine rgS [4, 6, 42, 43] (md := { base := 0, own := [4, 6] }) (h := ?_) | refine nx ?_); try simp (disch := omega) only [h1, h2, h4, h5, h6, h7, h8, h9,go_sem, simprocAttr]) | (with_reducible refine bk ?_) | ((with_reducible refine' cE ?hv ?_ ?_); (case hv => first | rfl | (simp only [h1, h2, h4, h5, h6, h7, h8, h9,go_sem, simprocAttr]; rfl)); all_goals (intro hc; (try simp only [go_sem, simprocAttr] at hc); try (exfalso; omega))) | ((with_reducible first | refine grdS_split ?_ ?_ | refine lkG_split ?_ ?_) <;> intro hg <;> (try simp (disch := omega) only [hg, h1, h2, h4, h5, h6, h7, h8, h9,go_sem, simprocAttr]) <;> (try simp only [go_sem, simprocAttr] at hg) <;> (try (exfalso; omega))) | with_reducible intro (ep : Nat → Nat) | with_reducible apply_assumption -exfalso -symm only [*])
  exact ⟨e4, e6, _, g, hst, by (and_intros <;> first | rfl | (simp only [h4, h6, h7, h8, go_sem, simprocAttr]; done) | (simp only [h4, h6, h7, h8, go_sem, simprocAttr]; rfl)), k4, k6⟩
end Cp
namespace Cp
open Go Go.Proofs
set_option maxRecDepth 10000
set_option maxHeartbeats 4000000
theorem rgets_ok (n : NetT) (hF : NetF n) (l : List Int) (hl : l.length ≤ 20) (hal : ∀ a ∈ l, (headAt n.heads a).isSome = true) :
  PureC Try.prog 70 [encNet n, .lst 1 (ints l)] (lackV (getsS n (openH n.heads l))) :=
 (rgets_ok0 n hF l hl hal).weak lackV_noid fun G w x h => cTold_weak n hF.out.1 _ h
end Cp
namespace Cp
open Go Go.Proofs
set_option maxRecDepth 10000
set_option maxHeartbeats 4000000
theorem rFire_ok0 (n : NetT) (hs : NetS n) (ls : List (List Int)) (hll : ls.length ≤ 100000) (hl : ∀ l ∈ ls, l.length ≤ 100000) : PureC Try.prog 34 [encNet n, .lst 1 (ls.map cInts)] (fireD .nils lackN n ls) := by
 have hnoid : noid (fireD .nils lackN n ls) = true := by unfold fireD; split <;> (try split) <;> (try split) <;> (simp only [noid, noids, noidss, lackN, lackV_noid, go_sem, simprocAttr]; rfl)
 have hll2 : noidss (ls.map cInts) = true := noidss_map fun l => by simp only [cInts, noids, noid, ints_noid, Bool.and_self]
 have hn := rNet_ok n hs
 simp only [encNet, cNet] at hn
 refine PureC_of (fn := Try.f34) tabOK (by kernel_rfl) rfl (by kernel_rfl) (by simp [Try.f34]) (by simp [noids, noid, noidss, go_sem, encNet, cNet, hnoid, hll2]) (by first | rfl | simp [noids, noid, noidss, go_sem, encNet, cNet, hnoid, hll2]) ?_
 intro X hX0 hXs
 unfold fireD
 cases hN : netOK n with
 | false =>
  rw [hN] at hn
  repeat' (first | (with_reducible refine sk ?_; intro K hK) | ((first | (with_reducible first | refine rg (md := { base := 0, own := [6, 59, 70], fz := [75] }) (h := ?_) | refine rgS [6] (md := { base := 0, own := [6, 59, 70], fz := [75] }) (h := ?_) | refine nx ?_) | refine pK (hn) ?_); try simp (disch := omega) only [encNet, cNet, lackN,go_sem, simprocAttr]) | (with_reducible refine bk ?_) | ((with_reducible refine' cE ?hv ?_ ?_); (case hv => first | rfl | (simp only [encNet, cNet, lackN,go_sem, simprocAttr]; rfl)); all_goals (intro hc; (try simp only [go_sem, simprocAttr] at hc); try (exfalso; omega))) | ((with_reducible refine fe ?_); refine ⟨_, (by simp only [Try.f34, encNet, cNet, lackN,go_sem, simprocAttr]; rfl), ?_⟩; first | rfl | (try simp only [encNet, cNet, lackN,go_sem, simprocAttr, seval])) | with_reducible intro (ep : Nat → Nat) | with_reducible apply_assumption -exfalso -symm only [*])
 | true =>
  rw [hN] at hn
  have hF := net_facts hN
  have hhl := hF.heads
  by_cases hlen : ls.length = n.heads.length
  ·simp only [if_true, hlen]
   have hlen' : (ls.length : Int) = n.heads.length := by omega
   have hbu := fun (h : HeadT) (hm : h ∈ n.heads) (l : List Int) (hl : l.length ≤ 100000) => rBursts_ok h l hl
   repeat' (first | ((fail_if_success (with_reducible refine AW_at (id := 6) ?_)); with_reducible refine sk ?_; intro K hK) | ((first | (with_reducible first | refine rg (md := { base := 0, own := [6, 59, 70], fz := [75] }) (h := ?_) | refine rgS [6] (md := { base := 0, own := [6, 59, 70], fz := [75] }) (h := ?_) | refine nx ?_) | refine pK (hn) ?_); try simp (disch := omega) only [encNet, cNet, hlen',go_sem, simprocAttr]) | (with_reducible refine bk ?_) | ((with_reducible refine' cE ?hv ?_ ?_); (case hv => first | rfl | (simp only [encNet, cNet, hlen',go_sem, simprocAttr]; rfl)); all_goals (intro hc; (try simp only [go_sem, simprocAttr] at hc); try (exfalso; omega))) | with_reducible intro (ep : Nat → Nat) | with_reducible apply_assumption -exfalso -symm only [*])
   have hcut : ∀ f H, (∃ e6, (f 2 = .pim (cNet n) ∧ f 6 = .ptr 6 e6 3 0 0) ∧ H 6 = some (e6, .arr 3 [[.int .u8 0, .int .i64 0, .nils]]) ∧ LstG 59 (sureF n.heads ls) (f 8) H ∧ LstG 70 (mayF n.heads ls) (f 9) H ∧ ls.all heatOK = true) → K f H := by
    rintro f H ⟨e6, ⟨h2, h6⟩, g6, g8, g9, hall⟩
    refine hK f H ?_
    clear hK
    rw [hall]
    simp only [if_true]
    have hop := ids_open hF (mayF_sub n.heads ls)
    have hml : (mayF n.heads ls).length ≤ 20 := by
     have h1 := (mayF_sub n.heads ls).length_le
     simp only [List.length_map] at h1; omega
    have hgt := rgets_ok n hF (mayF n.heads ls) hml (okL_none hop).1
    generalize getsS n (openH n.heads (mayF n.heads ls)) = T at *
    generalize sureF n.heads ls = SU at *
    generalize mayF n.heads ls = MA at *
    simp only [encNet, cNet, lackV] at hgt
    refine AW_lstG g8 fun f' H' f8 fs Hs => ?_
    refine AW_lstG (t := 9) (k := 70) (L := MA) (by rw [fs _ (by decide)]; exact g9.same (Hs _ (by decide))) fun f2 H2 f9 fs2 Hs2 => ?_
    have w8 := (fs2 8 (by decide)).trans f8
    have w2 := ((fs2 2 (by decide)).trans (fs 2 (by decide))).trans h2
    have w6 := ((fs2 6 (by decide)).trans (fs 6 (by decide))).trans h6
    have q6 := ((Hs2 6 (by decide)).trans (Hs 6 (by decide))).trans g6
    clear fs fs2 Hs Hs2 f8 h2 h6 g6 g8 g9
    repeat' (first | (with_reducible refine sk ?_; intro K hK) | ((first | (with_reducible first | refine rg (md := { base := 0, own := [6, 59, 70], fz := [75] }) (h := ?_) | refine rgS [6] (md := { base := 0, own := [6, 59, 70], fz := [75] }) (h := ?_) | refine nx ?_) | refine pK (hgt) ?_); try simp (disch := omega) only [f9, w8, w2, w6, q6, cNet, lackV,go_sem, simprocAttr]) | (with_reducible refine bk ?_) | ((with_reducible refine' cE ?hv ?_ ?_); (case hv => first | rfl | (simp only [f9, w8, w2, w6, q6, cNet, lackV,go_sem, simprocAttr]; rfl)); all_goals (intro hc; (try simp only [go_sem, simprocAttr] at hc); try (exfalso; omega))) | ((with_reducible refine fe ?_); refine ⟨_, (by simp only [Try.f34, f9, w8, w2, w6, q6, cNet, lackV,go_sem, simprocAttr]; rfl), ?_⟩; first | rfl | (try simp only [f9, w8, w2, w6, q6, cNet, lackV,go_sem, simprocAttr, seval])) | with_reducible intro (ep : Nat → Nat) | with_reducible apply_assumption -exfalso -symm only [*])
   clear hK
   repeat' (first | (with_reducible refine sk ?_; intro K hK) | ((with_reducible first | refine rg (md := { base := 0, own := [6, 59, 70], fz := [75] }) (h := ?_) | refine rgS [6] (md := { base := 0, own := [6, 59, 70], fz := [75] }) (h := ?_) | refine nx ?_); try simp (disch := omega) only [go_sem, simprocAttr]) | (with_reducible refine bk ?_) | ((with_reducible refine' cE ?hv ?_ ?_); (case hv => first | rfl | (simp only [go_sem, simprocAttr]; rfl)); all_goals (intro hc; (try simp only [go_sem, simprocAttr] at hc); try (exfalso; omega))) | with_reducible intro (ep : Nat → Nat) | with_reducible apply_assumption -exfalso -symm only [*])
   refine AW_block (AW_loop (fun m f H => ∃ k : Nat, m = ls.length - k ∧ k ≤ ls.length ∧ ∃ e6, (f 1 = .lst 1 (ls.map cInts) ∧ f 2 = .pim (cNet n) ∧ f 6 = .ptr 6 e6 3 0 0 ∧ f 10 = .int .i64 k) ∧ H 6 = some (e6, .arr 3 [[.int .u8 0, .int .i64 0, .nils]]) ∧ LstG 59 (sureF (n.heads.take k) (ls.take k)) (f 8) H ∧ LstG 70 (mayF (n.heads.take k) (ls.take k)) (f 9) H ∧ (ls.take k).all heatOK = true) ls.length
    ⟨0, by simp, Nat.zero_le _, _, by (and_intros <;> first | rfl | (simp only [cNet, go_sem, simprocAttr]; done) | (simp only [cNet, go_sem, simprocAttr]; rfl)), by (first | rfl | (simp only [go_sem, simprocAttr]; done) | (simp only [go_sem, simprocAttr]; rfl)), .inl ⟨rfl, rfl⟩, .inl ⟨rfl, rfl⟩, rfl⟩ ?_)
   rintro m f H ⟨k, rfl, hk', e6, ⟨h1, h2, h6, h10⟩, g6, g8, g9, hall⟩
   by_cases hk : k < ls.length
   ·clear hcut
    obtain ⟨x, hx⟩ : ∃ x, n.heads[k]? = some x := ⟨_, List.getElem?_eq_getElem (by omega)⟩
    obtain ⟨l, hlk⟩ : ∃ l, ls[k]? = some l := ⟨_, List.getElem?_eq_getElem hk⟩
    have hxm := List.mem_of_getElem? hx
    have hlm := List.mem_of_getElem? hlk
    have hb := hbu x hxm l (hl l hlm)
    have htk := take_snoc' hlk
    have hms := mayF_snoc hx hlk
    have hss := sureF_snoc hx hlk
    have hsl : (sureF (n.heads.take k) (ls.take k)).length ≤ 100000 := by
     have h1 := (sureF_sub (n.heads.take k) (ls.take k)).length_le
     simp only [List.length_map, List.length_take] at h1; omega
    have hml : (mayF (n.heads.take k) (ls.take k)).length ≤ 100000 := by
     have h1 := (mayF_sub (n.heads.take k) (ls.take k)).length_le
     simp only [List.length_map, List.length_take] at h1; omega
    unfold burstsT at hb
    rw [if_pos (made_net hF hxm)] at hb
    generalize sureF (n.heads.take k) (ls.take k) = SU at *
    generalize mayF (n.heads.take k) (ls.take k) = MA at *
    have hxc : cHead x = [.int .i64 x.id, .int .i64 x.node, .int .i64 x.need, .int .i64 x.least, .int .i64 x.bulb.lo, .int .i64 x.bulb.hi, .int .i64 x.slow.lo, .int .i64 x.slow.hi] := rfl
    refine AW_keep [6, 59, 70] ?_
    have k6 : keep H [6, 59, 70] 6 = some (e6, .arr 3 [[.int .u8 0, .int .i64 0, .nils]]) := g6
    have k8 : LstG 59 SU (f 8) (keep H [6, 59, 70]) := g8.same rfl
    have k9 : LstG 70 MA (f 9) (keep H [6, 59, 70]) := g9.same rfl
    generalize keep H [6, 59, 70] = H2 at k6 k8 k9 ⊢
    clear g6 g8 g9
    simp only [encHead, cHead] at hb
    cases hh : heatOK l with
    | false =>
     rw [hh] at hb
     simp only [Bool.false_eq_true, if_false] at hb
     have hfa : ls.all heatOK = false := List.all_eq_false.2 ⟨l, hlm, by rw [hh]; simp⟩
     rw [hfa]
     simp only [Bool.false_eq_true, if_false]
     repeat' (first | (with_reducible refine sk ?_; intro K hK) | ((first | (with_reducible first | refine rg (md := { base := 0, own := [6, 59, 70], fz := [75] }) (h := ?_) | refine rgS [6] (md := { base := 0, own := [6, 59, 70], fz := [75] }) (h := ?_) | refine nx ?_) | refine pK (hb) ?_); try simp (disch := omega) only [h1, h2, h6, h10, k6, hx, hlk, cNet, cHead, cInts, lackN,go_sem, simprocAttr]) | (with_reducible refine bk ?_) | ((with_reducible refine' cE ?hv ?_ ?_); (case hv => first | rfl | (simp only [h1, h2, h6, h10, k6, hx, hlk, cNet, cHead, cInts, lackN,go_sem, simprocAttr]; rfl)); all_goals (intro hc; (try simp only [go_sem, simprocAttr] at hc); try (exfalso; omega))) | ((with_reducible refine fe ?_); refine ⟨_, (by simp only [Try.f34, h1, h2, h6, h10, k6, hx, hlk, cNet, cHead, cInts, lackN,go_sem, simprocAttr]; rfl), ?_⟩; first | rfl | (try simp only [h1, h2, h6, h10, k6, hx, hlk, cNet, cHead, cInts, lackN,go_sem, simprocAttr, seval])) | with_reducible intro (ep : Nat → Nat) | with_reducible apply_assumption -exfalso -symm only [*])
    | true =>
     rw [hh] at hb
     simp only [if_true] at hb
     have hta : (ls.take (k + 1)).all heatOK = true := by rw [htk, List.all_append, hall]; simp [hh]
     obtain ⟨b1, hb1⟩ : ∃ b, burstS l x.bulb.lo x.slow.lo = b := ⟨_, rfl⟩
     obtain ⟨b2, hb2⟩ : ∃ b, burstS l x.bulb.hi x.slow.hi = b := ⟨_, rfl⟩
     rw [hb1] at hb hms
     rw [hb2] at hb hss
     repeat' (first | ((fail_if_success (with_reducible refine AW_at (id := 12) ?_)); with_reducible refine sk ?_; intro K hK) | ((first | (with_reducible first | refine rg (md := { base := 0, own := [6, 59, 70], fz := [75] }) (h := ?_) | refine rgS [6] (md := { base := 0, own := [6, 59, 70], fz := [75] }) (h := ?_) | refine nx ?_) | refine pK (hb) ?_); try simp (disch := omega) only [h1, h2, h6, h10, k6, hx, hlk, cNet, cHead, cInts,go_sem, simprocAttr]) | (with_reducible refine bk ?_) | ((with_reducible refine' cE ?hv ?_ ?_); (case hv => first | rfl | (simp only [h1, h2, h6, h10, k6, hx, hlk, cNet, cHead, cInts,go_sem, simprocAttr]; rfl)); all_goals (intro hc; (try simp only [go_sem, simprocAttr] at hc); try (exfalso; omega))) | with_reducible intro (ep : Nat → Nat) | with_reducible apply_assumption -exfalso -symm only [*])
     have hcutM : ∀ f H, ((f 1 = .lst 1 (ls.map cInts) ∧ f 2 = .pim (cNet n) ∧ f 6 = .ptr 6 e6 3 0 0 ∧ f 10 = .int .i64 k ∧ f 11 = .int .i64 b1) ∧ H 6 = some (e6, .arr 3 [[.int .u8 0, .int .i64 0, .nils]]) ∧ LstG 59 (SU ++ (if 0 < b2 then [x.id] else [])) (f 8) H ∧ LstG 70 MA (f 9) H) → K f H := by
      clear h1 h2 h6 h10 k6 k8 k9
      rintro f H ⟨⟨h1, h2, h6, h10, h11⟩, k6, k8, k9⟩
      refine hK f H ?_
      clear hK
      rw [← hss] at k8
      by_cases hp : 0 < b1
      ·rw [if_pos hp] at hms
       rcases k9 with ⟨rfl, h9⟩ | ⟨hne, ea, h9, k70⟩
       ·refine AW_lose 70 fun H3 g70 hs3 => ?_
        have q6 := (hs3 6 (by decide)).trans k6
        have q8 := k8.same (hs3 59 (by decide))
        clear hs3 k6 k8
        repeat' (first | (with_reducible refine sk ?_; intro K hK) | ((with_reducible first | refine rg (md := { base := 0, own := [6, 59, 70], fz := [75] }) (h := ?_) | refine rgS [6] (md := { base := 0, own := [6, 59, 70], fz := [75] }) (h := ?_) | refine nx ?_); try simp (disch := omega) only [h1, h2, h6, h9, h10, h11, q6, g70, hp, hx, hxc, cNet,go_sem, simprocAttr]) | (with_reducible refine bk ?_) | ((with_reducible refine' cE ?hv ?_ ?_); (case hv => first | rfl | (simp only [h1, h2, h6, h9, h10, h11, q6, g70, hp, hx, hxc, cNet,go_sem, simprocAttr]; rfl)); all_goals (intro hc; (try simp only [go_sem, simprocAttr] at hc); try (exfalso; omega))) | with_reducible intro (ep : Nat → Nat) | with_reducible apply_assumption -exfalso -symm only [*])
        exact ⟨ls.length - (k + 1), by omega, k + 1, rfl, by omega, e6, by (and_intros <;> first | rfl | (simp only [h1, h2, h6, cNet, go_sem, simprocAttr]; done) | (simp only [h1, h2, h6, cNet, go_sem, simprocAttr]; rfl)), by (first | rfl | (simp only [q6, go_sem, simprocAttr]; done) | (simp only [q6, go_sem, simprocAttr]; rfl)), q8.same (by (first | rfl | (simp only [go_sem, simprocAttr]; done) | (simp only [go_sem, simprocAttr]; rfl))), by rw [hms]; exact .one (by (first | rfl | (simp only [go_sem, simprocAttr]; done) | (simp only [go_sem, simprocAttr]; rfl))), hta⟩
       ·have hkb : MA.length ≤ 1073741823 := by omega
        repeat' (first | (with_reducible refine sk ?_; intro K hK) | ((with_reducible first | refine rg (md := { base := 0, own := [6, 59, 70], fz := [75] }) (h := ?_) | refine rgS [6] (md := { base := 0, own := [6, 59, 70], fz := [75] }) (h := ?_) | refine nx ?_); try simp (disch := omega) only [h1, h2, h6, h9, h10, h11, k6, k70, hp, hx, hkb, hxc, cNet,go_sem, simprocAttr]) | (with_reducible refine bk ?_) | ((with_reducible refine' cE ?hv ?_ ?_); (case hv => first | rfl | (simp only [h1, h2, h6, h9, h10, h11, k6, k70, hp, hx, hkb, hxc, cNet,go_sem, simprocAttr]; rfl)); all_goals (intro hc; (try simp only [go_sem, simprocAttr] at hc); try (exfalso; omega))) | with_reducible intro (ep : Nat → Nat) | with_reducible apply_assumption -exfalso -symm only [*])
        exact ⟨ls.length - (k + 1), by omega, k + 1, rfl, by omega, e6, by (and_intros <;> first | rfl | (simp only [h1, h2, h6, cNet, go_sem, simprocAttr]; done) | (simp only [h1, h2, h6, cNet, go_sem, simprocAttr]; rfl)), by (first | rfl | (simp only [k6, go_sem, simprocAttr]; done) | (simp only [k6, go_sem, simprocAttr]; rfl)), k8.same (by (first | rfl | (simp only [go_sem, simprocAttr]; done) | (simp only [go_sem, simprocAttr]; rfl))), by rw [hms]; exact .snoc (by (first | rfl | (simp only [go_sem, simprocAttr]; done) | (simp only [go_sem, simprocAttr]; rfl))), hta⟩
      ·rw [if_neg hp, List.append_nil] at hms
       repeat' (first | (with_reducible refine sk ?_; intro K hK) | ((with_reducible first | refine rg (md := { base := 0, own := [6, 59, 70], fz := [75] }) (h := ?_) | refine rgS [6] (md := { base := 0, own := [6, 59, 70], fz := [75] }) (h := ?_) | refine nx ?_); try simp (disch := omega) only [h1, h2, h6, h10, h11, k6, hp, cNet,go_sem, simprocAttr]) | (with_reducible refine bk ?_) | ((with_reducible refine' cE ?hv ?_ ?_); (case hv => first | rfl | (simp only [h1, h2, h6, h10, h11, k6, hp, cNet,go_sem, simprocAttr]; rfl)); all_goals (intro hc; (try simp only [go_sem, simprocAttr] at hc); try (exfalso; omega))) | with_reducible intro (ep : Nat → Nat) | with_reducible apply_assumption -exfalso -symm only [*])
       exact ⟨ls.length - (k + 1), by omega, k + 1, rfl, by omega, e6, by (and_intros <;> first | rfl | (simp only [h1, h2, h6, cNet, go_sem, simprocAttr]; done) | (simp only [h1, h2, h6, cNet, go_sem, simprocAttr]; rfl)), by (first | rfl | (simp only [k6, go_sem, simprocAttr]; done) | (simp only [k6, go_sem, simprocAttr]; rfl)), k8, by rw [hms]; exact k9, hta⟩
     clear hK
     generalize hfB : (upd _ _ _ : Fr) = fB
     obtain ⟨a1, a2, a6, a10, a11, a12, B8, B9⟩ : fB 1 = .lst 1 (ls.map cInts) ∧ fB 2 = .pim (cNet n) ∧ fB 6 = .ptr 6 e6 3 0 0 ∧ fB 10 = .int .i64 k ∧ fB 11 = .int .i64 b1 ∧ fB 12 = .int .i64 b2 ∧ LstG 59 SU (fB 8) H2 ∧ LstG 70 MA (fB 9) H2 := by
      rw [← hfB]
      refine ⟨by (first | rfl | (simp only [h1, go_sem, simprocAttr]; done) | (simp only [h1, go_sem, simprocAttr]; rfl)), by (first | rfl | (simp only [h2, cNet, go_sem, simprocAttr]; done) | (simp only [h2, cNet, go_sem, simprocAttr]; rfl)), by (first | rfl | (simp only [h6, go_sem, simprocAttr]; done) | (simp only [h6, go_sem, simprocAttr]; rfl)), by (first | rfl | (simp only [h10, go_sem, simprocAttr]; done) | (simp only [h10, go_sem, simprocAttr]; rfl)), rfl, rfl, k8, k9⟩
     clear hfB h1 h2 h6 h10 k8 k9
     by_cases hp : 0 < b2
     ·rw [if_pos hp] at hcutM
      rcases B8 with ⟨rfl, h8⟩ | ⟨hne, ea, h8, k59⟩
      ·refine AW_lose 59 fun H3 g59 hs3 => ?_
       have q6 := (hs3 6 (by decide)).trans k6
       have q9 := B9.same (hs3 70 (by decide))
       clear hs3 k6 B9
       repeat' (first | (with_reducible refine sk ?_; intro K hK) | ((with_reducible first | refine rg (md := { base := 0, own := [6, 59, 70], fz := [75] }) (h := ?_) | refine rgS [6] (md := { base := 0, own := [6, 59, 70], fz := [75] }) (h := ?_) | refine nx ?_); try simp (disch := omega) only [a1, a2, a6, h8, a10, a11, a12, q6, g59, hp, hx, hxc, cNet,go_sem, simprocAttr]) | (with_reducible refine bk ?_) | ((with_reducible refine' cE ?hv ?_ ?_); (case hv => first | rfl | (simp only [a1, a2, a6, h8, a10, a11, a12, q6, g59, hp, hx, hxc, cNet,go_sem, simprocAttr]; rfl)); all_goals (intro hc; (try simp only [go_sem, simprocAttr] at hc); try (exfalso; omega))) | with_reducible intro (ep : Nat → Nat) | with_reducible apply_assumption -exfalso -symm only [*])
       exact ⟨by (and_intros <;> first | rfl | (simp only [a1, a2, a6, a10, a11, cNet, go_sem, simprocAttr]; done) | (simp only [a1, a2, a6, a10, a11, cNet, go_sem, simprocAttr]; rfl)), by (first | rfl | (simp only [q6, go_sem, simprocAttr]; done) | (simp only [q6, go_sem, simprocAttr]; rfl)), .one (by (first | rfl | (simp only [go_sem, simprocAttr]; done) | (simp only [go_sem, simprocAttr]; rfl))), q9.same (by (first | rfl | (simp only [go_sem, simprocAttr]; done) | (simp only [go_sem, simprocAttr]; rfl)))⟩
      ·have hkb : SU.length ≤ 1073741823 := by omega
       repeat' (first | (with_reducible refine sk ?_; intro K hK) | ((with_reducible first | refine rg (md := { base := 0, own := [6, 59, 70], fz := [75] }) (h := ?_) | refine rgS [6] (md := { base := 0, own := [6, 59, 70], fz := [75] }) (h := ?_) | refine nx ?_); try simp (disch := omega) only [a1, a2, a6, h8, a10, a11, a12, k6, k59, hp, hx, hkb, hxc, cNet,go_sem, simprocAttr]) | (with_reducible refine bk ?_) | ((with_reducible refine' cE ?hv ?_ ?_); (case hv => first | rfl | (simp only [a1, a2, a6, h8, a10, a11, a12, k6, k59, hp, hx, hkb, hxc, cNet,go_sem, simprocAttr]; rfl)); all_goals (intro hc; (try simp only [go_sem, simprocAttr] at hc); try (exfalso; omega))) | with_reducible intro (ep : Nat → Nat) | with_reducible apply_assumption -exfalso -symm only [*])
       exact ⟨by (and_intros <;> first | rfl | (simp only [a1, a2, a6, a10, a11, cNet, go_sem, simprocAttr]; done) | (simp only [a1, a2, a6, a10, a11, cNet, go_sem, simprocAttr]; rfl)), by (first | rfl | (simp only [k6, go_sem, simprocAttr]; done) | (simp only [k6, go_sem, simprocAttr]; rfl)), .snoc (by (first | rfl | (simp only [go_sem, simprocAttr]; done) | (simp only [go_sem, simprocAttr]; rfl))), B9.same (by (first | rfl | (simp only [go_sem, simprocAttr]; done) | (simp only [go_sem, simprocAttr]; rfl)))⟩
     ·rw [if_neg hp, List.append_nil] at hcutM
      repeat' (first | (with_reducible refine sk ?_; intro K hK) | ((with_reducible first | refine rg (md := { base := 0, own := [6, 59, 70], fz := [75] }) (h := ?_) | refine rgS [6] (md := { base := 0, own := [6, 59, 70], fz := [75] }) (h := ?_) | refine nx ?_); try simp (disch := omega) only [a1, a2, a6, a10, a11, a12, k6, hp, cNet,go_sem, simprocAttr]) | (with_reducible refine bk ?_) | ((with_reducible refine' cE ?hv ?_ ?_); (case hv => first | rfl | (simp only [a1, a2, a6, a10, a11, a12, k6, hp, cNet,go_sem, simprocAttr]; rfl)); all_goals (intro hc; (try simp only [go_sem, simprocAttr] at hc); try (exfalso; omega))) | with_reducible intro (ep : Nat → Nat) | with_reducible apply_assumption -exfalso -symm only [*])
      exact ⟨by (and_intros <;> first | rfl | (simp only [a1, a2, a6, a10, a11, cNet, go_sem, simprocAttr]; done) | (simp only [a1, a2, a6, a10, a11, cNet, go_sem, simprocAttr]; rfl)), by (first | rfl | (simp only [k6, go_sem, simprocAttr]; done) | (simp only [k6, go_sem, simprocAttr]; rfl)), B8, B9⟩
   ·obtain rfl : k = ls.length := by omega
    rw [List.take_of_length_le (by omega), List.take_of_length_le (Nat.le_refl _)] at g8 g9
    rw [List.take_of_length_le (by omega)] at hall
    repeat' (first | (with_reducible refine sk ?_; intro K hK) | ((with_reducible first | refine rg (md := { base := 0, own := [6, 59, 70], fz := [75] }) (h := ?_) | refine rgS [6] (md := { base := 0, own := [6, 59, 70], fz := [75] }) (h := ?_) | refine nx ?_); try simp (disch := omega) only [h1, h2, h6, h10,go_sem, simprocAttr]) | (with_reducible refine bk ?_) | ((with_reducible refine' cE ?hv ?_ ?_); (case hv => first | rfl | (simp only [h1, h2, h6, h10,go_sem, simprocAttr]; rfl)); all_goals (intro hc; (try simp only [go_sem, simprocAttr] at hc); try (exfalso; omega))) | with_reducible intro (ep : Nat → Nat) | with_reducible apply_assumption -exfalso -symm only [*])
    exact ⟨e6, by (and_intros <;> first | rfl | (simp only [h2, h6, go_sem, simprocAttr]; done) | (simp only [h2, h6, go_sem, simprocAttr]; rfl)), by (first | rfl | (simp only [g6, go_sem, simprocAttr]; done) | (simp only [g6, go_sem, simprocAttr]; rfl)), by (first | rfl | (simp only [g8, go_sem, simprocAttr]; done) | (simp only [g8, go_sem, simprocAttr]; rfl)), by (first | rfl | (simp only [g9, go_sem, simprocAttr]; done) | (simp only [g9, go_sem, simprocAttr]; rfl)), hall⟩
  ·have hlen' : ¬ (ls.length : Int) = n.heads.length := by omega
   simp only [if_true, hlen, if_false]
   repeat' (first | (with_reducible refine sk ?_; intro K hK) | ((first | (with_reducible first | refine rg (md := { base := 0, own := [6, 59, 70], fz := [75] }) (h := ?_) | refine rgS [6] (md := { base := 0, own := [6, 59, 70], fz := [75] }) (h := ?_) | refine nx ?_) | refine pK (hn) ?_); try simp (disch := omega) only [encNet, cNet, lackN, hlen',go_sem, simprocAttr]) | (with_reducible refine bk ?_) | ((with_reducible refine' cE ?hv ?_ ?_); (case hv => first | rfl | (simp only [encNet, cNet, lackN, hlen',go_sem, simprocAttr]; rfl)); all_goals (intro hc; (try simp only [go_sem, simprocAttr] at hc); try (exfalso; omega))) | ((with_reducible refine fe ?_); refine ⟨_, (by simp only [Try.f34, encNet, cNet, lackN, hlen',go_sem, simprocAttr]; rfl), ?_⟩; first | rfl | (try simp only [encNet, cNet, lackN, hlen',go_sem, simprocAttr, seval])) | with_reducible intro (ep : Nat → Nat) | with_reducible apply_assumption -exfalso -symm only [*])
end Cp
namespace Cp
open Go Go.Proofs
set_option maxRecDepth 10000
set_option maxHeartbeats 4000000
theorem fireD_weak {n : NetT} {ls : List (List Int)} {fid : FuncId} {args : List Val} (h : PureC Try.prog fid args (fireD .nils lackN n ls)) : PureC Try.prog fid args (fireD (.lst 1 []) (lackV lackZ) n ls) := by
 refine h.weak ?_ fun G w x h => ?_
 ·unfold fireD; split <;> (try split) <;> (try split) <;> (simp only [noid, noids, noidss, lackV_noid, go_sem, simprocAttr]; rfl)
 ·have key : ∀ e, VR G w (.tup [.nils, .nils, lackN, .int .i64 e]) x → VR G w (.tup [.lst 1 [], .lst 1 [], lackV lackZ, .int .i64 e]) x := fun e h => by
   refine VR.tup_imp (vs := [.nils, .nils, lackN, .int .i64 e]) rfl (fun i v v' h1 h2 y hy => ?_) h
   match i, h1, h2 with
   | 0, h1, h2 => cases h1; cases h2; exact hy.nils_lst 1
   | 1, h1, h2 => cases h1; cases h2; exact hy.nils_lst 1
   | 2, h1, h2 => cases h1; cases h2; exact hy.agg3_nils
   | 3, h1, h2 => cases h1; cases h2; exact hy
  unfold fireD at h ⊢
  split
  ·rename_i hN
   rw [if_pos hN] at h
   split
   ·rename_i hO
    rw [if_pos hO] at h
    split
    ·rename_i hA
     rw [if_pos hA] at h
     exact h
    ·rename_i hA
     rw [if_neg hA] at h
     exact key _ h
   ·rename_i hO
    rw [if_neg hO] at h
    exact key _ h
  ·rename_i hN
   rw [if_neg hN] at h
   exact key _ h
theorem gets_out_len {n : NetT} (hF : NetF n) (L : List HeadT) : (getsS n L).out.length ≤ 100000 := by
 have hgf := gets_facts hF.out.1 L
 by_cases h2 : (getsS n L).known = 2
 ·rw [(hgf.yes h2).2.1]; simp
 ·have := (out_facts (hgf.bad h2).1).2.2; have := hF.out; have := hF.pumps; omega
theorem fireD_shape (n : NetT) (ls : List (List Int)) : ∃ (S M : List Int) (T : LackT) (e : Int), fireD (.lst 1 []) (lackV lackZ) n ls = .tup [.lst 1 (ints S), .lst 1 (ints M), lackV T, .int .i64 e] ∧ S.length ≤ n.heads.length ∧ M.length ≤ n.heads.length ∧ T.out.length ≤ 100000 := by
 have h1 := (sureF_sub n.heads ls).length_le
 have h2 := (mayF_sub n.heads ls).length_le
 simp only [List.length_map] at h1 h2
 unfold fireD
 split
 ·rename_i hN
  split
  ·split
   ·exact ⟨_, _, _, _, rfl, h1, h2, gets_out_len (net_facts hN) _⟩
   ·exact ⟨[], [], lackZ, _, rfl, by simp, by simp, by simp [lackZ]⟩
  ·exact ⟨[], [], lackZ, _, rfl, by simp, by simp, by simp [lackZ]⟩
 ·exact ⟨[], [], lackZ, _, rfl, by simp, by simp, by simp [lackZ]⟩
theorem bursts_shape (h : HeadT) (l : List Int) : ∃ x y e : Int, burstsT h l = .tup [.int .i64 x, .int .i64 y, .int .i64 e] := by
 unfold burstsT
 split
 ·split
  ·exact ⟨_, _, _, rfl⟩
  ·exact ⟨_, _, _, rfl⟩
 ·exact ⟨_, _, _, rfl⟩
theorem fires_law (n : NetT) (h : HeadT) (ls : List (List Int)) : PureC Try.prog 5 [encNet n, encHead h, .lst 1 (ls.map cInts)] (.bool true) := by
 have hll2 : noidss (ls.map cInts) = true := noidss_map fun l => by simp only [cInts, noids, noid, ints_noid, Bool.and_self]
 have hg := great_ok n
 simp only [encNet, cNet] at hg
 cases hgr : greatN n with
 | true =>
  rw [hgr] at hg
  refine PureC_of (fn := Try.f5) tabOK (by kernel_rfl) rfl (by kernel_rfl) (by simp [Try.f5]) (by simp [noids, noid, noidss, go_sem, encNet, cNet, encHead, cHead, hll2]) (by first | rfl | simp [noids, noid, noidss, go_sem, encNet, cNet, encHead, cHead, hll2]) ?_
  intro X hX0 hXs
  repeat' (first | (with_reducible refine sk ?_; intro K hK) | ((first | (with_reducible first | refine rg (md := { base := 0, own := [11, 20, 24, 35, 51] }) (h := ?_) | refine rgS [11, 20, 24] (md := { base := 0, own := [11, 20, 24, 35, 51] }) (h := ?_) | refine nx ?_) | refine pK (hg) ?_); try simp (disch := omega) only [encNet, cNet, encHead, cHead,go_sem, simprocAttr]) | (with_reducible refine bk ?_) | ((with_reducible refine' cE ?hv ?_ ?_); (case hv => first | rfl | (simp only [encNet, cNet, encHead, cHead,go_sem, simprocAttr]; rfl)); all_goals (intro hc; (try simp only [go_sem, simprocAttr] at hc); try (exfalso; omega))) | ((with_reducible first | refine grdS_split ?_ ?_ | refine lkG_split ?_ ?_) <;> intro hg <;> (try simp (disch := omega) only [hg, encNet, cNet, encHead, cHead,go_sem, simprocAttr]) <;> (try simp only [go_sem, simprocAttr] at hg) <;> (try (exfalso; omega))) | ((with_reducible refine fe ?_); refine ⟨_, (by simp only [Try.f5, encNet, cNet, encHead, cHead,go_sem, simprocAttr]; rfl), ?_⟩; first | rfl | (try simp only [encNet, cNet, encHead, cHead,go_sem, simprocAttr, seval])) | with_reducible intro (ep : Nat → Nat) | with_reducible apply_assumption -exfalso -symm only [*])
 | false =>
  rw [hgr] at hg
  have hs := great_small hgr
  have hsh := hs.heads
  by_cases hlen : (20 : Int) < ls.length
  ·refine PureC_of (fn := Try.f5) tabOK (by kernel_rfl) rfl (by kernel_rfl) (by simp [Try.f5]) (by simp [noids, noid, noidss, go_sem, encNet, cNet, encHead, cHead, hll2]) (by first | rfl | simp [noids, noid, noidss, go_sem, encNet, cNet, encHead, cHead, hll2]) ?_
   intro X hX0 hXs
   repeat' (first | (with_reducible refine sk ?_; intro K hK) | ((first | (with_reducible first | refine rg (md := { base := 0, own := [11, 20, 24, 35, 51] }) (h := ?_) | refine rgS [11, 20, 24] (md := { base := 0, own := [11, 20, 24, 35, 51] }) (h := ?_) | refine nx ?_) | refine pK (hg) ?_); try simp (disch := omega) only [encNet, cNet, encHead, cHead, hlen,go_sem, simprocAttr]) | (with_reducible refine bk ?_) | ((with_reducible refine' cE ?hv ?_ ?_); (case hv => first | rfl | (simp only [encNet, cNet, encHead, cHead, hlen,go_sem, simprocAttr]; rfl)); all_goals (intro hc; (try simp only [go_sem, simprocAttr] at hc); try (exfalso; omega))) | ((with_reducible first | refine grdS_split ?_ ?_ | refine lkG_split ?_ ?_) <;> intro hg <;> (try simp (disch := omega) only [hg, encNet, cNet, encHead, cHead, hlen,go_sem, simprocAttr]) <;> (try simp only [go_sem, simprocAttr] at hg) <;> (try (exfalso; omega))) | ((with_reducible refine fe ?_); refine ⟨_, (by simp only [Try.f5, encNet, cNet, encHead, cHead, hlen,go_sem, simprocAttr]; rfl), ?_⟩; first | rfl | (try simp only [encNet, cNet, encHead, cHead, hlen,go_sem, simprocAttr, seval])) | with_reducible intro (ep : Nat → Nat) | with_reducible apply_assumption -exfalso -symm only [*])
  ·refine PureC_of (fn := Try.f5) tabOK (by kernel_rfl) rfl (by kernel_rfl) (by simp [Try.f5]) (by simp [noids, noid, noidss, go_sem, encNet, cNet, encHead, cHead, hll2]) (by first | rfl | simp [noids, noid, noidss, go_sem, encNet, cNet, encHead, cHead, hll2]) ?_
   intro X hX0 hXs
   repeat' (first | ((fail_if_success (with_reducible refine AW_at (id := 5) ?_)); with_reducible refine sk ?_; intro K hK) | ((first | (with_reducible first | refine rg (md := { base := 0, own := [11, 20, 24, 35, 51] }) (h := ?_) | refine rgS [11, 20, 24] (md := { base := 0, own := [11, 20, 24, 35, 51] }) (h := ?_) | refine nx ?_) | refine pK (hg) ?_); try simp (disch := omega) only [encNet, cNet, encHead, cHead, hlen,go_sem, simprocAttr]) | (with_reducible refine bk ?_) | ((with_reducible refine' cE ?hv ?_ ?_); (case hv => first | rfl | (simp only [encNet, cNet, encHead, cHead, hlen,go_sem, simprocAttr]; rfl)); all_goals (intro hc; (try simp only [go_sem, simprocAttr] at hc); try (exfalso; omega))) | ((with_reducible first | refine grdS_split ?_ ?_ | refine lkG_split ?_ ?_) <;> intro hg <;> (try simp (disch := omega) only [hg, encNet, cNet, encHead, cHead, hlen,go_sem, simprocAttr]) <;> (try simp only [go_sem, simprocAttr] at hg) <;> (try (exfalso; omega))) | with_reducible intro (ep : Nat → Nat) | with_reducible apply_assumption -exfalso -symm only [*])
   have hcut : ∀ f H, (∃ hl : List Int, hl.length ≤ 100 ∧ (f 2 = .lst 1 (ls.map cInts) ∧ f 3 = .pim (cNet n) ∧ f 4 = .pim (cHead h) ∧ f 7 = .lst 1 (ints hl)) ∧ (∀ l ∈ ls, l.length ≤ 100) ∧ ∃ e, f 8 = .gr 35 e ls.length ∧ H 35 = some (e, .arr 1 (ls.map cInts))) → K f H := by
    rintro f H ⟨hl, hhl, ⟨h2, h3, h4, h7⟩, hall, e, h8, g35⟩
    refine hK f H ?_
    clear hK
    refine AW_freeze 35 g35 ?_
    refine AW_retell8 (v := .lst 1 (ls.map cInts)) 8 6 ?_ ?_
    ·rw [h8]
     simp only [fzd, upd_same, List.length_map, and_self, if_true]
     refine congrArg _ ?_
     rw [List.map_map]
     refine List.map_congr_left fun l _ => ?_
     show [fzd _ 5 (.lst 1 (ints l))] = cInts l
     simp only [fzd_lst, fzd_ints]; rfl
    have w2 := (upd_ne f (.lst 1 (ls.map cInts)) (show ¬ 2 = 8 by decide)).trans h2
    have w3 := (upd_ne f (.lst 1 (ls.map cInts)) (show ¬ 3 = 8 by decide)).trans h3
    have w4 := (upd_ne f (.lst 1 (ls.map cInts)) (show ¬ 4 = 8 by decide)).trans h4
    have w7 := (upd_ne f (.lst 1 (ls.map cInts)) (show ¬ 7 = 8 by decide)).trans h7
    have w8 : upd f 8 (.lst 1 (ls.map cInts)) 8 = _ := upd_same _ _ _
    generalize upd f 8 (.lst 1 (ls.map cInts)) = f2 at w2 w3 w4 w7 w8 ⊢
    clear h2 h3 h4 h7 h8 g35
    refine AW_keep [] ?_
    have hlh : ∀ l ∈ ls, l.length ≤ 100000 := fun l hl => by have := hall l hl; omega
    have tw := twin_ok n hs
    have sm := same_self n hs
    have b1 := Bursts_ok h hl (by omega)
    have b2 := rBursts_ok h hl (by omega)
    have f1 := Fire_ok n hs ls (by omega) hlh
    have f2' := fireD_weak (rFire_ok0 n hs ls (by omega) hlh)
    obtain ⟨x, y, e1, hb⟩ := bursts_shape h hl
    obtain ⟨S, M, T, e2, hf, hS, hM, hT⟩ := fireD_shape n ls
    rw [hb] at b1 b2
    rw [hf] at f1 f2'
    have s1 := sameInts_ok S S (by omega)
    have s2 := sameInts_ok M M (by omega)
    have s3 := sameLacks_ok T T hT
    have s4 := fun (l : List Int) (hl : l ∈ ls) => sameInts_ok l l (by have := hall l hl; omega)
    simp only [decide_true] at s1 s2 s3 s4
    have hlb : hl.length ≤ 1073741824 := by omega
    simp only [encNet, cNet, encHead, cHead, lackV] at tw sm b1 b2 f1 f2' s3
    repeat' (first | ((fail_if_success (with_reducible refine AW_at (id := 19) ?_)); with_reducible refine sk ?_; intro K hK) | ((first | (with_reducible first | refine rg (md := { base := 0, own := [11, 20, 24, 35, 51] }) (h := ?_) | refine rgS [11, 20, 24] (md := { base := 0, own := [11, 20, 24, 35, 51] }) (h := ?_) | refine nx ?_) | refine pK (tw) ?_ | refine pK (b1) ?_ | refine pK (b2) ?_ | refine pK (f1) ?_ | refine pK (f2') ?_ | refine pK (s1) ?_ | refine pK (s2) ?_ | refine pK (s3) ?_ | refine pK (sm) ?_); try simp (disch := omega) only [w2, w3, w4, w7, w8, hlb, cNet, cHead,go_sem, simprocAttr]) | (with_reducible refine bk ?_) | ((with_reducible refine' cE ?hv ?_ ?_); (case hv => first | rfl | (simp only [w2, w3, w4, w7, w8, hlb, cNet, cHead,go_sem, simprocAttr]; rfl)); all_goals (intro hc; (try simp only [go_sem, simprocAttr] at hc); try (exfalso; omega))) | ((with_reducible first | refine grdS_split ?_ ?_ | refine lkG_split ?_ ?_) <;> intro hg <;> (try simp (disch := omega) only [hg, w2, w3, w4, w7, w8, hlb, cNet, cHead,go_sem, simprocAttr]) <;> (try simp only [go_sem, simprocAttr] at hg) <;> (try (exfalso; omega))) | ((with_reducible refine fe ?_); refine ⟨_, (by simp only [Try.f5, w2, w3, w4, w7, w8, hlb, cNet, cHead,go_sem, simprocAttr]; rfl), ?_⟩; first | rfl | (try simp only [w2, w3, w4, w7, w8, hlb, cNet, cHead,go_sem, simprocAttr, seval])) | with_reducible intro (ep : Nat → Nat) | with_reducible apply_assumption -exfalso -symm only [*])
    have hcut2 : ∀ f H, f 26 = .bool true → K f H := by
     intro f H h26
     refine hK f H ?_
     clear hK
     repeat' (first | (with_reducible refine sk ?_; intro K hK) | ((with_reducible first | refine rg (md := { base := 0, own := [11, 20, 24, 35, 51] }) (h := ?_) | refine rgS [11, 20, 24] (md := { base := 0, own := [11, 20, 24, 35, 51] }) (h := ?_) | refine nx ?_); try simp (disch := omega) only [h26,go_sem, simprocAttr]) | (with_reducible refine bk ?_) | ((with_reducible refine' cE ?hv ?_ ?_); (case hv => first | rfl | (simp only [h26,go_sem, simprocAttr]; rfl)); all_goals (intro hc; (try simp only [go_sem, simprocAttr] at hc); try (exfalso; omega))) | ((with_reducible first | refine grdS_split ?_ ?_ | refine lkG_split ?_ ?_) <;> intro hg <;> (try simp (disch := omega) only [hg, h26,go_sem, simprocAttr]) <;> (try simp only [go_sem, simprocAttr] at hg) <;> (try (exfalso; omega))) | ((with_reducible refine fe ?_); refine ⟨_, (by simp only [Try.f5, h26,go_sem, simprocAttr]; rfl), ?_⟩; first | rfl | (try simp only [h26,go_sem, simprocAttr, seval])) | with_reducible intro (ep : Nat → Nat) | with_reducible apply_assumption -exfalso -symm only [*])
    clear hK
    repeat' (first | (with_reducible refine sk ?_; intro K hK) | ((with_reducible first | refine rg (md := { base := 0, own := [11, 20, 24, 35, 51] }) (h := ?_) | refine rgS [11, 20, 24] (md := { base := 0, own := [11, 20, 24, 35, 51] }) (h := ?_) | refine nx ?_); try simp (disch := omega) only [w2,go_sem, simprocAttr]) | (with_reducible refine bk ?_) | ((with_reducible refine' cE ?hv ?_ ?_); (case hv => first | rfl | (simp only [w2,go_sem, simprocAttr]; rfl)); all_goals (intro hc; (try simp only [go_sem, simprocAttr] at hc); try (exfalso; omega))) | ((with_reducible first | refine grdS_split ?_ ?_ | refine lkG_split ?_ ?_) <;> intro hg <;> (try simp (disch := omega) only [hg, w2,go_sem, simprocAttr]) <;> (try simp only [go_sem, simprocAttr] at hg) <;> (try (exfalso; omega))) | with_reducible intro (ep : Nat → Nat) | with_reducible apply_assumption -exfalso -symm only [*])
    refine AW_range tabOK ls.length (fun k f H => f 2 = .lst 1 (ls.map cInts) ∧ f 8 = .lst 1 (ls.map cInts) ∧ f 26 = .bool true) (by omega) (by rw [hXs]; decide) (by decide) (by (first | rfl | (simp only [go_sem, simprocAttr]; done) | (simp only [go_sem, simprocAttr]; rfl))) (by (first | rfl | (simp only [w2, go_sem, simprocAttr]; done) | (simp only [w2, go_sem, simprocAttr]; rfl)))
     ⟨by (first | rfl | (simp only [w2, go_sem, simprocAttr]; done) | (simp only [w2, go_sem, simprocAttr]; rfl)), by (first | rfl | (simp only [w8, go_sem, simprocAttr]; done) | (simp only [w8, go_sem, simprocAttr]; rfl)), by (first | rfl | (simp only [go_sem, simprocAttr]; done) | (simp only [go_sem, simprocAttr]; rfl))⟩ ?_ ?_
    ·clear hcut2 w2 w3 w4 w7 w8
     rintro k f H hk h127 h126 ⟨h2, h8, h26⟩
     obtain ⟨l, hlk⟩ : ∃ l, ls[k]? = some l := ⟨_, List.getElem?_eq_getElem hk⟩
     have hci : cInts l = [.lst 1 (ints l)] := rfl
     have s5 := s4 l (List.mem_of_getElem? hlk)
     refine AW_keep [] ?_
     repeat' (first | (with_reducible refine sk ?_; intro K hK) | ((first | (with_reducible first | refine rg (md := { base := 0, own := [11, 20, 24, 35, 51] }) (h := ?_) | refine rgS [11, 20, 24] (md := { base := 0, own := [11, 20, 24, 35, 51] }) (h := ?_) | refine nx ?_) | refine pK (s5) ?_); try simp (disch := omega) only [h2, h8, h26, h126, h127, hlk, hci,go_sem, simprocAttr]) | (with_reducible refine bk ?_) | ((with_reducible refine' cE ?hv ?_ ?_); (case hv => first | rfl | (simp only [h2, h8, h26, h126, h127, hlk, hci,go_sem, simprocAttr]; rfl)); all_goals (intro hc; (try simp only [go_sem, simprocAttr] at hc); try (exfalso; omega))) | ((with_reducible first | refine grdS_split ?_ ?_ | refine lkG_split ?_ ?_) <;> intro hg <;> (try simp (disch := omega) only [hg, h2, h8, h26, h126, h127, hlk, hci,go_sem, simprocAttr]) <;> (try simp only [go_sem, simprocAttr] at hg) <;> (try (exfalso; omega))) | with_reducible intro (ep : Nat → Nat) | with_reducible apply_assumption -exfalso -symm only [*])
    ·rintro f H h127 h126 ⟨h2, h8, h26⟩
     exact hcut2 _ _ (by (first | rfl | (simp only [h26, go_sem, simprocAttr]; done) | (simp only [h26, go_sem, simprocAttr]; rfl)))
   clear hK
   repeat' (first | (with_reducible refine sk ?_; intro K hK) | ((with_reducible first | refine rg (md := { base := 0, own := [11, 20, 24, 35, 51] }) (h := ?_) | refine rgS [11, 20, 24] (md := { base := 0, own := [11, 20, 24, 35, 51] }) (h := ?_) | refine nx ?_); try simp (disch := omega) only [go_sem, simprocAttr]) | (with_reducible refine bk ?_) | ((with_reducible refine' cE ?hv ?_ ?_); (case hv => first | rfl | (simp only [go_sem, simprocAttr]; rfl)); all_goals (intro hc; (try simp only [go_sem, simprocAttr] at hc); try (exfalso; omega))) | ((with_reducible first | refine grdS_split ?_ ?_ | refine lkG_split ?_ ?_) <;> intro hg <;> (try simp (disch := omega) only [hg, go_sem, simprocAttr]) <;> (try simp only [go_sem, simprocAttr] at hg) <;> (try (exfalso; omega))) | with_reducible intro (ep : Nat → Nat) | with_reducible apply_assumption -exfalso -symm only [*])
   refine AW_nils 7 1 (by (first | rfl | (simp only [go_sem, simprocAttr]; done) | (simp only [go_sem, simprocAttr]; rfl))) ?_
   refine AW_range tabOK ls.length (fun k f H => ∃ hl : List Int, hl.length ≤ 100 ∧ (f 2 = .lst 1 (ls.map cInts) ∧ f 3 = .pim (cNet n) ∧ f 4 = .pim (cHead h) ∧ f 36 = .lst 1 (ls.map cInts) ∧ f 7 = .lst 1 (ints hl)) ∧ (∀ j l, j < k → ls[j]? = some l → l.length ≤ 100) ∧ ∃ e, f 8 = .gr 35 e k ∧ H 35 = some (e, .arr 1 ((ls.take k).map cInts))) (by omega) (by rw [hXs]; decide) (by decide) (by (first | rfl | (simp only [go_sem, simprocAttr]; done) | (simp only [go_sem, simprocAttr]; rfl))) (by (first | rfl | (simp only [go_sem, simprocAttr]; done) | (simp only [go_sem, simprocAttr]; rfl)))
    ⟨[], by simp, by (and_intros <;> first | rfl | (simp only [cNet, cHead, ints, go_sem, simprocAttr]; done) | (simp only [cNet, cHead, ints, go_sem, simprocAttr]; rfl)), fun j l hj => by omega, _, by (first | rfl | (simp only [go_sem, simprocAttr]; done) | (simp only [go_sem, simprocAttr]; rfl)), by (first | rfl | (simp only [go_sem, simprocAttr]; done) | (simp only [go_sem, simprocAttr]; rfl))⟩ ?_ ?_
   ·clear hcut
    rintro k f H hk h38 h37 ⟨hl, hhl, ⟨h2, h3, h4, h36, h7⟩, hall, e, h8, g35⟩
    obtain ⟨l, hlk⟩ : ∃ l, ls[k]? = some l := ⟨_, List.getElem?_eq_getElem hk⟩
    have hci : cInts l = [.lst 1 (ints l)] := rfl
    have htk := take_snoc' hlk
    have htl : ((ls.take k).map cInts).length = k := by simp; omega
    have hkb : k ≤ 1073741823 := by omega
    refine AW_keep [35] ?_
    by_cases hl1 : (100 : Int) < l.length
    ·repeat' (first | (with_reducible refine sk ?_; intro K hK) | ((with_reducible first | refine rg (md := { base := 0, own := [11, 20, 24, 35, 51] }) (h := ?_) | refine rgS [11, 20, 24] (md := { base := 0, own := [11, 20, 24, 35, 51] }) (h := ?_) | refine nx ?_); try simp (disch := omega) only [h2, h3, h4, h7, h8, h36, h37, h38, g35, hlk, hl1, hci,go_sem, simprocAttr]) | (with_reducible refine bk ?_) | ((with_reducible refine' cE ?hv ?_ ?_); (case hv => first | rfl | (simp only [h2, h3, h4, h7, h8, h36, h37, h38, g35, hlk, hl1, hci,go_sem, simprocAttr]; rfl)); all_goals (intro hc; (try simp only [go_sem, simprocAttr] at hc); try (exfalso; omega))) | ((with_reducible first | refine grdS_split ?_ ?_ | refine lkG_split ?_ ?_) <;> intro hg <;> (try simp (disch := omega) only [hg, h2, h3, h4, h7, h8, h36, h37, h38, g35, hlk, hl1, hci,go_sem, simprocAttr]) <;> (try simp only [go_sem, simprocAttr] at hg) <;> (try (exfalso; omega))) | ((with_reducible refine fe ?_); refine ⟨_, (by simp only [Try.f5, h2, h3, h4, h7, h8, h36, h37, h38, g35, hlk, hl1, hci,go_sem, simprocAttr]; rfl), ?_⟩; first | rfl | (try simp only [h2, h3, h4, h7, h8, h36, h37, h38, g35, hlk, hl1, hci,go_sem, simprocAttr, seval])) | with_reducible intro (ep : Nat → Nat) | with_reducible apply_assumption -exfalso -symm only [*])
    ·have hlb : l.length ≤ 1073741824 := by omega
     repeat' (first | (with_reducible refine sk ?_; intro K hK) | ((with_reducible first | refine rg (md := { base := 0, own := [11, 20, 24, 35, 51] }) (h := ?_) | refine rgS [11, 20, 24] (md := { base := 0, own := [11, 20, 24, 35, 51] }) (h := ?_) | refine nx ?_); try simp (disch := omega) only [h2, h3, h4, h7, h8, h36, h37, h38, g35, hlk, hl1, hlb, hci, htl, hkb,go_sem, simprocAttr]) | (with_reducible refine bk ?_) | ((with_reducible refine' cE ?hv ?_ ?_); (case hv => first | rfl | (simp only [h2, h3, h4, h7, h8, h36, h37, h38, g35, hlk, hl1, hlb, hci, htl, hkb,go_sem, simprocAttr]; rfl)); all_goals (intro hc; (try simp only [go_sem, simprocAttr] at hc); try (exfalso; omega))) | ((with_reducible first | refine grdS_split ?_ ?_ | refine lkG_split ?_ ?_) <;> intro hg <;> (try simp (disch := omega) only [hg, h2, h3, h4, h7, h8, h36, h37, h38, g35, hlk, hl1, hlb, hci, htl, hkb,go_sem, simprocAttr]) <;> (try simp only [go_sem, simprocAttr] at hg) <;> (try (exfalso; omega))) | with_reducible intro (ep : Nat → Nat) | with_reducible apply_assumption -exfalso -symm only [*])
     exact ⟨l, by omega, rfl, fun j l' hj hl' => by
      by_cases hjk : j = k
      ·subst hjk; rw [hlk] at hl'; cases hl'; omega
      ·exact hall j l' (by omega) hl', _, rfl, by rw [htk, List.map_append]; rfl⟩
   ·rintro f H h38 h37 ⟨hl, hhl, ⟨h2, h3, h4, h36, h7⟩, hall, e, h8, g35⟩
    rw [List.take_length] at g35
    exact hcut _ _ ⟨hl, hhl, by (and_intros <;> first | rfl | (simp only [h2, h3, h4, h7, go_sem, simprocAttr]; done) | (simp only [h2, h3, h4, h7, go_sem, simprocAttr]; rfl)), fun l hl => by
     obtain ⟨j, hj⟩ := List.mem_iff_getElem?.1 hl
     exact hall j l (List.getElem?_eq_some_iff.1 hj).1 hj, e, by (first | rfl | (simp only [h8, go_sem, simprocAttr]; done) | (simp only [h8, go_sem, simprocAttr]; rfl)), by (first | rfl | (simp only [g35, go_sem, simprocAttr]; done) | (simp only [g35, go_sem, simprocAttr]; rfl))⟩
end Cp
