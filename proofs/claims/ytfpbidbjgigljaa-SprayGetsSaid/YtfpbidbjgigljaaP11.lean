/- Rules, facts and contracts that the statement's proof leans on. Conditions: none. -/
import Derived.Test.YtfpbidbjgigljaaP10
set_option linter.unusedVariables false
set_option linter.unusedSimpArgs false
set_option linter.unusedSectionVars false
namespace Cp
open Go Go.Proofs
set_option maxRecDepth 10000
set_option maxHeartbeats 4000000
theorem rlacks_ok (n : NetT) (hF : NetF n) (l : List Int) (hl : l.length ≤ 20) (hal : ∀ a ∈ l, (headAt n.heads a).isSome = true) (out : List Int) (hno : outOK n out = true) (best : Bool) :
  PureC Try.prog 98 [encNet n, .lst 1 (ints l), .lst 1 (ints out), .bool best] (.tup [.int .i64 (lackS n (openH n.heads l) out best).1, .bool (lackS n (openH n.heads l) out best).2]) := by
 have hhl := hF.heads
 have hmn := hF.mins
 have hat := fun id => at_ok n (by omega) id
 have hrp := fun k h hk => rpress_ok n hF l hl hal out hno k h hk best
 have hfl := flow_ok n hF l (by omega) hal
 have h5 := openH_500 hF l
 have hnb := needs_bnd h5
 have hlen := openH_len' hal
 have hge := fun k a x ha hx => openH_get (k := k) (a := a) (x := x) hal ha hx
 obtain ⟨L, hL⟩ : ∃ L, openH n.heads l = L := ⟨_, rfl⟩
 simp only [hL] at hrp hfl hlen hnb hge ⊢
 have hmul : 0 ≤ needs L * n.mins ∧ needs L * n.mins ≤ 10000 * 600 := ⟨Int.mul_nonneg (by omega) hmn.1, Int.mul_le_mul (by omega) hmn.2 hmn.1 (by omega)⟩
 simp only [encNet, cNet] at hat hrp hfl
 refine PureC_of (fn := Try.f98) tabOK (by kernel_rfl) rfl (by kernel_rfl) (by simp [Try.f98]) (by simp [noids, noid, noidss, go_sem, encNet, cNet]) (by first | rfl | simp [noids, noid, noidss, go_sem, encNet, cNet]) ?_
 intro X hX0 hXs
 repeat' (first | ((fail_if_success (with_reducible refine AW_at (id := 1) ?_)); with_reducible refine sk ?_; intro K hK) | ((with_reducible first | refine rg (h := ?_) | refine nx ?_); try simp (disch := omega) only [encNet, cNet,go_sem, simprocAttr]) | (with_reducible refine bk ?_) | ((with_reducible refine' cE ?hv ?_ ?_); (case hv => first | rfl | (simp only [encNet, cNet,go_sem, simprocAttr]; rfl)); all_goals (intro hc; (try simp only [go_sem, simprocAttr] at hc); try (exfalso; omega))) | ((with_reducible refine fe ?_); refine ⟨_, (by simp only [Try.f98, encNet, cNet,go_sem, simprocAttr]; rfl), ?_⟩; first | rfl | (try simp only [encNet, cNet,go_sem, simprocAttr, seval])) | with_reducible intro (ep : Nat → Nat) | with_reducible apply_assumption -exfalso -symm only [*])
 have hcut : ∀ f H, f 1 = .lst 1 (ints l) → f 3 = .bool best → f 4 = .pim (cNet n) → lackF n L out best L = none → K f H := by
  intro f H h1 h3 h4 hno
  refine hK f H ?_
  clear hK
  unfold lackS
  rw [hno]
  have htk : tankH n best = if best = true then n.tank.hi else n.tank.lo := rfl
  simp only [htk]
  cases best
  ·by_cases hlt : n.tank.lo < needs L * n.mins
   ·repeat' (first | (with_reducible refine sk ?_; intro K hK) | ((first | (with_reducible first | refine rg (h := ?_) | refine nx ?_) | refine pK (hfl) ?_); try simp (disch := omega) only [h1, h3, h4, hlt, cNet,go_sem, simprocAttr]) | (with_reducible refine bk ?_) | ((with_reducible refine' cE ?hv ?_ ?_); (case hv => first | rfl | (simp only [h1, h3, h4, hlt, cNet,go_sem, simprocAttr]; rfl)); all_goals (intro hc; (try simp only [go_sem, simprocAttr] at hc); try (exfalso; omega))) | ((with_reducible refine fe ?_); refine ⟨_, (by simp only [Try.f98, h1, h3, h4, hlt, cNet,go_sem, simprocAttr]; rfl), ?_⟩; first | rfl | (try simp only [h1, h3, h4, hlt, cNet,go_sem, simprocAttr, seval])) | with_reducible intro (ep : Nat → Nat) | with_reducible apply_assumption -exfalso -symm only [*])
   ·repeat' (first | (with_reducible refine sk ?_; intro K hK) | ((first | (with_reducible first | refine rg (h := ?_) | refine nx ?_) | refine pK (hfl) ?_); try simp (disch := omega) only [h1, h3, h4, hlt, cNet,go_sem, simprocAttr]) | (with_reducible refine bk ?_) | ((with_reducible refine' cE ?hv ?_ ?_); (case hv => first | rfl | (simp only [h1, h3, h4, hlt, cNet,go_sem, simprocAttr]; rfl)); all_goals (intro hc; (try simp only [go_sem, simprocAttr] at hc); try (exfalso; omega))) | ((with_reducible refine fe ?_); refine ⟨_, (by simp only [Try.f98, h1, h3, h4, hlt, cNet,go_sem, simprocAttr]; rfl), ?_⟩; first | rfl | (try simp only [h1, h3, h4, hlt, cNet,go_sem, simprocAttr, seval])) | with_reducible intro (ep : Nat → Nat) | with_reducible apply_assumption -exfalso -symm only [*])
  ·by_cases hlt : n.tank.hi < needs L * n.mins
   ·repeat' (first | (with_reducible refine sk ?_; intro K hK) | ((first | (with_reducible first | refine rg (h := ?_) | refine nx ?_) | refine pK (hfl) ?_); try simp (disch := omega) only [h1, h3, h4, hlt, cNet,go_sem, simprocAttr]) | (with_reducible refine bk ?_) | ((with_reducible refine' cE ?hv ?_ ?_); (case hv => first | rfl | (simp only [h1, h3, h4, hlt, cNet,go_sem, simprocAttr]; rfl)); all_goals (intro hc; (try simp only [go_sem, simprocAttr] at hc); try (exfalso; omega))) | ((with_reducible refine fe ?_); refine ⟨_, (by simp only [Try.f98, h1, h3, h4, hlt, cNet,go_sem, simprocAttr]; rfl), ?_⟩; first | rfl | (try simp only [h1, h3, h4, hlt, cNet,go_sem, simprocAttr, seval])) | with_reducible intro (ep : Nat → Nat) | with_reducible apply_assumption -exfalso -symm only [*])
   ·repeat' (first | (with_reducible refine sk ?_; intro K hK) | ((first | (with_reducible first | refine rg (h := ?_) | refine nx ?_) | refine pK (hfl) ?_); try simp (disch := omega) only [h1, h3, h4, hlt, cNet,go_sem, simprocAttr]) | (with_reducible refine bk ?_) | ((with_reducible refine' cE ?hv ?_ ?_); (case hv => first | rfl | (simp only [h1, h3, h4, hlt, cNet,go_sem, simprocAttr]; rfl)); all_goals (intro hc; (try simp only [go_sem, simprocAttr] at hc); try (exfalso; omega))) | ((with_reducible refine fe ?_); refine ⟨_, (by simp only [Try.f98, h1, h3, h4, hlt, cNet,go_sem, simprocAttr]; rfl), ?_⟩; first | rfl | (try simp only [h1, h3, h4, hlt, cNet,go_sem, simprocAttr, seval])) | with_reducible intro (ep : Nat → Nat) | with_reducible apply_assumption -exfalso -symm only [*])
 clear hK
 repeat' (first | (with_reducible refine sk ?_; intro K hK) | ((with_reducible first | refine rg (h := ?_) | refine nx ?_); try simp (disch := omega) only [go_sem, simprocAttr]) | (with_reducible refine bk ?_) | ((with_reducible refine' cE ?hv ?_ ?_); (case hv => first | rfl | (simp only [go_sem, simprocAttr]; rfl)); all_goals (intro hc; (try simp only [go_sem, simprocAttr] at hc); try (exfalso; omega))) | with_reducible intro (ep : Nat → Nat) | with_reducible apply_assumption -exfalso -symm only [*])
 refine AW_block (AW_loop (fun m f H => ∃ k : Nat, m = l.length - k ∧ k ≤ l.length ∧ (f 1 = .lst 1 (ints l) ∧ f 2 = .lst 1 (ints out) ∧ f 3 = .bool best ∧ f 4 = .pim (cNet n) ∧ f 10 = .int .i64 k) ∧ lackF n L out best L = lackF n L out best (L.drop k)) l.length
  ⟨0, by simp, Nat.zero_le _, by (and_intros <;> first | rfl | (simp only [cNet, go_sem, simprocAttr]; done) | (simp only [cNet, go_sem, simprocAttr]; rfl)), by simp⟩ ?_)
 rintro m f H ⟨k, rfl, hk, ⟨h1, h2, h3, h4, h10⟩, hr⟩
 by_cases hlt : k < l.length
 ·clear hcut
  obtain ⟨a, ha⟩ : ∃ a, l[k]? = some a := ⟨_, List.getElem?_eq_getElem hlt⟩
  rcases @atI_at n.heads a with ⟨a1, a2⟩ | ⟨i, y, a0, a1, a2⟩
  ·have := hal a (List.mem_of_getElem? ha); rw [a1] at this; simp at this
  ·have hLk := hge k a y ha a1
   have hp := hrp i y a0
   have hya : y.id = a := (headAt_mem a1).2
   rw [drop_cons hLk] at hr
   simp only [lackF, List.find?_cons] at hr
   refine AW_keep [] ?_
   have hyc : cHead y = [.int .i64 y.id, .int .i64 y.node, .int .i64 y.need, .int .i64 y.least, .int .i64 y.bulb.lo, .int .i64 y.bulb.hi, .int .i64 y.slow.lo, .int .i64 y.slow.hi] := rfl
   by_cases hpl : pressS n L out best y < y.least
   ·rw [decide_eq_true hpl] at hr
    have hr2 : lackF n L out best L = some y := hr
    have hls : lackS n L out best = (a, true) := by unfold lackS; rw [hr2, ← hya]
    rw [hls]
    repeat' (first | (with_reducible refine sk ?_; intro K hK) | ((first | (with_reducible first | refine rg (h := ?_) | refine nx ?_) | refine pK (hat a) ?_ | refine pK (hp) ?_); try simp (disch := omega) only [h1, h2, h3, h4, h10, ha, a0, a2, hpl, hyc, cNet,go_sem, simprocAttr]) | (with_reducible refine bk ?_) | ((with_reducible refine' cE ?hv ?_ ?_); (case hv => first | rfl | (simp only [h1, h2, h3, h4, h10, ha, a0, a2, hpl, hyc, cNet,go_sem, simprocAttr]; rfl)); all_goals (intro hc; (try simp only [go_sem, simprocAttr] at hc); try (exfalso; omega))) | ((with_reducible refine fe ?_); refine ⟨_, (by simp only [Try.f98, h1, h2, h3, h4, h10, ha, a0, a2, hpl, hyc, cNet,go_sem, simprocAttr]; rfl), ?_⟩; first | rfl | (try simp only [h1, h2, h3, h4, h10, ha, a0, a2, hpl, hyc, cNet,go_sem, simprocAttr, seval])) | with_reducible intro (ep : Nat → Nat) | with_reducible apply_assumption -exfalso -symm only [*])
   ·rw [decide_eq_false hpl] at hr
    repeat' (first | (with_reducible refine sk ?_; intro K hK) | ((first | (with_reducible first | refine rg (h := ?_) | refine nx ?_) | refine pK (hat a) ?_ | refine pK (hp) ?_); try simp (disch := omega) only [h1, h2, h3, h4, h10, ha, a0, a2, hpl, hyc, cNet,go_sem, simprocAttr]) | (with_reducible refine bk ?_) | ((with_reducible refine' cE ?hv ?_ ?_); (case hv => first | rfl | (simp only [h1, h2, h3, h4, h10, ha, a0, a2, hpl, hyc, cNet,go_sem, simprocAttr]; rfl)); all_goals (intro hc; (try simp only [go_sem, simprocAttr] at hc); try (exfalso; omega))) | with_reducible intro (ep : Nat → Nat) | with_reducible apply_assumption -exfalso -symm only [*])
    exact ⟨l.length - (k + 1), by omega, k + 1, rfl, by omega, by (and_intros <;> first | rfl | (simp only [h1, h2, h3, h4, cNet, go_sem, simprocAttr]; done) | (simp only [h1, h2, h3, h4, cNet, go_sem, simprocAttr]; rfl)), hr⟩
 ·obtain rfl : k = l.length := by omega
  rw [← hlen, List.drop_length] at hr
  repeat' (first | (with_reducible refine sk ?_; intro K hK) | ((with_reducible first | refine rg (h := ?_) | refine nx ?_); try simp (disch := omega) only [h1, h2, h3, h4, h10,go_sem, simprocAttr]) | (with_reducible refine bk ?_) | ((with_reducible refine' cE ?hv ?_ ?_); (case hv => first | rfl | (simp only [h1, h2, h3, h4, h10,go_sem, simprocAttr]; rfl)); all_goals (intro hc; (try simp only [go_sem, simprocAttr] at hc); try (exfalso; omega))) | with_reducible intro (ep : Nat → Nat) | with_reducible apply_assumption -exfalso -symm only [*])
end Cp
namespace Cp
open Go Go.Proofs
set_option maxRecDepth 10000
set_option maxHeartbeats 4000000
def cFnd (t : LackT) : List Val := [.int .u8 0, .int .i64 t.head, if t.known = 2 then .nils else .lst 1 (ints t.out)]
theorem getF_hd {n : NetT} {hs : List HeadT} : ∀ (k : Nat) (L : List (List Int)), (getF n hs (L.take k)).1.known = 2 → (getF n hs (L.take k)).1.head = 0
 | 0, L, _ => rfl
 | k + 1, L, h => by
  cases hl : L[k]? with
  | some l =>
   rw [getF_snoc hl] at h ⊢
   unfold getStep at h ⊢
   simp only at h ⊢
   split at h
   ·simp at h
   ·rename_i h1
    rw [if_neg h1]
    exact getF_hd k L h
  | none =>
   have hk : L.length ≤ k := List.getElem?_eq_none_iff.1 hl
   have := getF_hd (n := n) (hs := hs) k L
   rw [List.take_of_length_le hk] at this
   rw [List.take_of_length_le (by omega)] at h ⊢
   exact this h
theorem rgets_ok0 (n : NetT) (hF : NetF n) (l : List Int) (hl : l.length ≤ 20) (hal : ∀ a ∈ l, (headAt n.heads a).isSome = true) :
  PureC Try.prog 70 [encNet n, .lst 1 (ints l)] (.agg (cTold (getsS n (openH n.heads l)))) := by
 have hgf := gets_facts hF.out.1 (openH n.heads l)
 have hnoid : noid (.agg (cTold (getsS n (openH n.heads l)))) = true := by
  simp only [cTold]; split <;> (simp only [noid, noids, noid_ints]; rfl)
 have ho := routs_ok n hF
 have hll := @outsL_len n.pumps.length n.out.toNat hF.pumps.2 (by have := hF.out.2; have := hF.pumps.2; omega)
 have hmo := fun l => @mem_outs n hF.out.1 l
 have hrl := fun out hno best => rlacks_ok n hF l hl hal out hno best
 obtain ⟨L, hL⟩ : ∃ L, openH n.heads l = L := ⟨_, rfl⟩
 obtain ⟨G, hG⟩ : ∃ G, getsS n L = G := ⟨_, rfl⟩
 obtain ⟨OL, hOL⟩ : ∃ O, outsL n.pumps.length n.out.toNat = O := ⟨_, rfl⟩
 simp only [hOL] at ho hll hmo
 simp only [hL] at hgf hnoid hrl hG ⊢
 have hgs := hG
 unfold getsS at hgs
 rw [hOL] at hgs
 rw [hG] at hnoid ⊢
 simp only [encNet, cNet] at hrl
 simp only [cNet] at ho
 have hnoid2 : noids (cTold G) = true := hnoid
 refine PureC_of (fn := Try.f70) tabOK (by kernel_rfl) rfl (by kernel_rfl) (by simp [Try.f70]) (by simp [noids, noid, noidss, go_sem, encNet, cNet, hnoid2]) (by first | rfl | simp [noids, noid, noidss, go_sem, encNet, cNet, hnoid2]) ?_
 intro X hX0 hXs
 repeat' (first | ((fail_if_success (with_reducible refine AW_at (id := 4) ?_)); with_reducible refine sk ?_; intro K hK) | ((first | (with_reducible first | refine rg (md := { base := 0, own := [4, 6] }) (h := ?_) | refine rgS [4, 6, 42, 43] (md := { base := 0, own := [4, 6] }) (h := ?_) | refine nx ?_) | refine pK (ho) ?_); try simp (disch := omega) only [encNet, cNet,go_sem, simprocAttr]) | (with_reducible refine bk ?_) | ((with_reducible refine' cE ?hv ?_ ?_); (case hv => first | rfl | (simp only [encNet, cNet,go_sem, simprocAttr]; rfl)); all_goals (intro hc; (try simp only [go_sem, simprocAttr] at hc); try (exfalso; omega))) | ((with_reducible first | refine grdS_split ?_ ?_ | refine lkG_split ?_ ?_) <;> intro hg <;> (try simp (disch := omega) only [hg, encNet, cNet,go_sem, simprocAttr]) <;> (try simp only [go_sem, simprocAttr] at hg) <;> (try (exfalso; omega))) | with_reducible intro (ep : Nat → Nat) | with_reducible apply_assumption -exfalso -symm only [*])
 have hcut : ∀ f H, (∃ e4 e6 t g, getF n L OL = (t, g) ∧ (f 4 = .ptr 4 e4 3 0 0 ∧ f 6 = .ptr 6 e6 3 0 0 ∧ f 7 = .bool (decide (t.known = 0)) ∧ f 8 = .bool g) ∧ H 4 = some (e4, .arr 3 [[.int .u8 0, .int .i64 0, .nils]]) ∧ H 6 = some (e6, .arr 3 [cFnd t])) → K f H := by
  rintro f H ⟨e4, e6, ⟨kn, hd, ou⟩, g, hfin, ⟨h4, h6, h7, h8⟩, k4, k6⟩
  refine hK f H ?_
  clear hK
  have hkn := @getF_kn n L OL.length OL
  have hhd := @getF_hd n L OL.length OL
  rw [List.take_of_length_le (Nat.le_refl _), hfin] at hkn hhd
  simp only at hkn hhd
  rw [hfin] at hgs
  rcases hkn with rfl | rfl
  ·simp only [cFnd] at k6
   cases g with
   | true =>
    simp only [and_self, if_true] at hgs
    rw [← hgs]
    repeat' (first | (with_reducible refine sk ?_; intro K hK) | ((with_reducible first | refine rg (md := { base := 0, own := [4, 6] }) (h := ?_) | refine rgS [4, 6, 42, 43] (md := { base := 0, own := [4, 6] }) (h := ?_) | refine nx ?_); try simp (disch := omega) only [h4, h6, h7, h8, k4, k6, cTold, decide_true,go_sem, simprocAttr]) | (with_reducible refine bk ?_) | ((with_reducible refine' cE ?hv ?_ ?_); (case hv => first | rfl | (simp only [h4, h6, h7, h8, k4, k6, cTold, decide_true,go_sem, simprocAttr]; rfl)); all_goals (intro hc; (try simp only [go_sem, simprocAttr] at hc); try (exfalso; omega))) | ((with_reducible first | refine grdS_split ?_ ?_ | refine lkG_split ?_ ?_) <;> intro hg <;> (try simp (disch := omega) only [hg, h4, h6, h7, h8, k4, k6, cTold, decide_true,go_sem, simprocAttr]) <;> (try simp only [go_sem, simprocAttr] at hg) <;> (try (exfalso; omega))) | ((with_reducible refine fe ?_); refine ⟨_, (by simp only [Try.f70, h4, h6, h7, h8, k4, k6, cTold, decide_true,go_sem, simprocAttr]; rfl), ?_⟩; first | rfl | (try simp only [h4, h6, h7, h8, k4, k6, cTold, decide_true,go_sem, simprocAttr, seval])) | with_reducible intro (ep : Nat → Nat) | with_reducible apply_assumption -exfalso -symm only [*])
   | false =>
    simp only [Bool.false_eq_true, false_and, if_false] at hgs
    rw [← hgs]
    repeat' (first | (with_reducible refine sk ?_; intro K hK) | ((with_reducible first | refine rg (md := { base := 0, own := [4, 6] }) (h := ?_) | refine rgS [4, 6, 42, 43] (md := { base := 0, own := [4, 6] }) (h := ?_) | refine nx ?_); try simp (disch := omega) only [h4, h6, h7, h8, k4, k6, cTold, decide_true,go_sem, simprocAttr]) | (with_reducible refine bk ?_) | ((with_reducible refine' cE ?hv ?_ ?_); (case hv => first | rfl | (simp only [h4, h6, h7, h8, k4, k6, cTold, decide_true,go_sem, simprocAttr]; rfl)); all_goals (intro hc; (try simp only [go_sem, simprocAttr] at hc); try (exfalso; omega))) | ((with_reducible first | refine grdS_split ?_ ?_ | refine lkG_split ?_ ?_) <;> intro hg <;> (try simp (disch := omega) only [hg, h4, h6, h7, h8, k4, k6, cTold, decide_true,go_sem, simprocAttr]) <;> (try simp only [go_sem, simprocAttr] at hg) <;> (try (exfalso; omega))) | ((with_reducible refine fe ?_); refine ⟨_, (by simp only [Try.f70, h4, h6, h7, h8, k4, k6, cTold, decide_true,go_sem, simprocAttr]; rfl), ?_⟩; first | rfl | (try simp only [h4, h6, h7, h8, k4, k6, cTold, decide_true,go_sem, simprocAttr, seval])) | with_reducible intro (ep : Nat → Nat) | with_reducible apply_assumption -exfalso -symm only [*])
  ·simp only [cFnd] at k6
   have e := hhd rfl
   subst e
   have hgs2 : G.known = 2 ∧ G.head = 0 := by rw [← hgs]; simp
   repeat' (first | (with_reducible refine sk ?_; intro K hK) | ((with_reducible first | refine rg (md := { base := 0, own := [4, 6] }) (h := ?_) | refine rgS [4, 6, 42, 43] (md := { base := 0, own := [4, 6] }) (h := ?_) | refine nx ?_); try simp (disch := omega) only [h4, h6, h7, h8, k4, k6, cTold, decide_false, hgs2.1, hgs2.2,go_sem, simprocAttr]) | (with_reducible refine bk ?_) | ((with_reducible refine' cE ?hv ?_ ?_); (case hv => first | rfl | (simp only [h4, h6, h7, h8, k4, k6, cTold, decide_false, hgs2.1, hgs2.2,go_sem, simprocAttr]; rfl)); all_goals (intro hc; (try simp only [go_sem, simprocAttr] at hc); try (exfalso; omega))) | ((with_reducible first | refine grdS_split ?_ ?_ | refine lkG_split ?_ ?_) <;> intro hg <;> (try simp (disch := omega) only [hg, h4, h6, h7, h8, k4, k6, cTold, decide_false, hgs2.1, hgs2.2,go_sem, simprocAttr]) <;> (try simp only [go_sem, simprocAttr] at hg) <;> (try (exfalso; omega))) | ((with_reducible refine fe ?_); refine ⟨_, (by simp only [Try.f70, h4, h6, h7, h8, k4, k6, cTold, decide_false, hgs2.1, hgs2.2,go_sem, simprocAttr]; rfl), ?_⟩; first | rfl | (try simp only [h4, h6, h7, h8, k4, k6, cTold, decide_false, hgs2.1, hgs2.2,go_sem, simprocAttr, seval])) | with_reducible intro (ep : Nat → Nat) | with_reducible apply_assumption -exfalso -symm only [*])
 clear hK
 repeat' (first | (with_reducible refine sk ?_; intro K hK) | ((with_reducible first | refine rg (md := { base := 0, own := [4, 6] }) (h := ?_) | refine rgS [4, 6, 42, 43] (md := { base := 0, own := [4, 6] }) (h := ?_) | refine nx ?_); try simp (disch := omega) only [go_sem, simprocAttr]) | (with_reducible refine bk ?_) | ((with_reducible refine' cE ?hv ?_ ?_); (case hv => first | rfl | (simp only [go_sem, simprocAttr]; rfl)); all_goals (intro hc; (try simp only [go_sem, simprocAttr] at hc); try (exfalso; omega))) | ((with_reducible first | refine grdS_split ?_ ?_ | refine lkG_split ?_ ?_) <;> intro hg <;> (try simp (disch := omega) only [hg, go_sem, simprocAttr]) <;> (try simp only [go_sem, simprocAttr] at hg) <;> (try (exfalso; omega))) | with_reducible intro (ep : Nat → Nat) | with_reducible apply_assumption -exfalso -symm only [*])
 refine AW_block (AW_loop (fun m f H => ∃ k : Nat, m = OL.length - k ∧ k ≤ OL.length ∧ ∃ e4 e6 t g, getF n L (OL.take k) = (t, g) ∧ (f 1 = .lst 1 (ints l) ∧ f 2 = .pim (cNet n) ∧ f 5 = .lst 1 (OL.map fun l => [.lst 1 (ints l)]) ∧ f 4 = .ptr 4 e4 3 0 0 ∧ f 6 = .ptr 6 e6 3 0 0 ∧ f 7 = .bool (decide (t.known = 0)) ∧ f 8 = .bool g ∧ f 9 = .int .i64 k) ∧ H 4 = some (e4, .arr 3 [[.int .u8 0, .int .i64 0, .nils]]) ∧ H 6 = some (e6, .arr 3 [cFnd t])) OL.length
  ⟨0, by simp, Nat.zero_le _, _, _, ⟨2, 0, []⟩, false, rfl, by (and_intros <;> first | rfl | (simp only [cNet, go_sem, simprocAttr]; done) | (simp only [cNet, go_sem, simprocAttr]; rfl)), by (and_intros <;> first | rfl | (simp only [go_sem, simprocAttr]; done) | (simp only [go_sem, simprocAttr]; rfl))⟩ ?_)
 rintro m f H ⟨k, rfl, hk, e4, e6, ⟨kn, hd, ou⟩, g, hst, ⟨h1, h2, h5, h4, h6, h7, h8, h9⟩, k4, k6⟩
 by_cases hlt : k < OL.length
 ·clear hcut hgs
  obtain ⟨o, hok⟩ : ∃ o, OL[k]? = some o := ⟨_, List.getElem?_eq_getElem hlt⟩
  have hla := outs_at hok
  have hoo := (hmo o).1 (List.mem_of_getElem? hok)
  have r0 := hrl o hoo false
  have r1 := hrl o hoo true
  have hsn := @getF_snoc n L OL k o hok
  have hkn := @getF_kn n L k OL
  rw [hst] at hsn hkn
  simp only [getStep] at hsn
  simp only at hkn
  obtain ⟨⟨i0, c0⟩, hl0⟩ : ∃ p, lackS n L o false = p := ⟨_, rfl⟩
  obtain ⟨⟨i1, c1⟩, hl1⟩ : ∃ p, lackS n L o true = p := ⟨_, rfl⟩
  rw [hl0] at r0 hsn
  rw [hl1] at r1 hsn
  refine AW_keep [4, 6] ?_
  have q4 : keep H [4, 6] 4 = _ := k4
  have q6 : keep H [4, 6] 6 = _ := k6
  generalize keep H [4, 6] = H2 at q4 q6 ⊢
  clear k4 k6
  rcases hkn with rfl | rfl <;> cases c0 <;> cases c1 <;> cases g
  all_goals (simp only [cFnd, Bool.false_eq_true, false_and, true_and, and_true, and_false, if_false, if_true, Bool.not_true, Bool.not_false, Bool.or_true, Bool.or_false, Bool.true_or, Bool.false_or, Int.reduceEq, reduceIte, decide_true, decide_false] at q6 hsn h7)
  all_goals
   repeat' (first | (with_reducible refine sk ?_; intro K hK) | ((first | (with_reducible first | refine rg (md := { base := 0, own := [4, 6] }) (h := ?_) | refine rgS [4, 6, 42, 43] (md := { base := 0, own := [4, 6] }) (h := ?_) | refine nx ?_) | refine pK (r0) ?_ | refine pK (r1) ?_); try simp (disch := omega) only [h1, h2, h4, h5, h6, h7, h8, h9, q4, q6, hla, cNet,go_sem, simprocAttr]) | (with_reducible refine bk ?_) | ((with_reducible refine' cE ?hv ?_ ?_); (case hv => first | rfl | (simp only [h1, h2, h4, h5, h6, h7, h8, h9, q4, q6, hla, cNet,go_sem, simprocAttr]; rfl)); all_goals (intro hc; (try simp only [go_sem, simprocAttr] at hc); try (exfalso; omega))) | ((with_reducible first | refine grdS_split ?_ ?_ | refine lkG_split ?_ ?_) <;> intro hg <;> (try simp (disch := omega) only [hg, h1, h2, h4, h5, h6, h7, h8, h9, q4, q6, hla, cNet,go_sem, simprocAttr]) <;> (try simp only [go_sem, simprocAttr] at hg) <;> (try (exfalso; omega))) | with_reducible intro (ep : Nat → Nat) | with_reducible apply_assumption -exfalso -symm only [*])
  all_goals (exact ⟨OL.length - (k + 1), by omega, k + 1, rfl, by omega, e4, e6, _, _, hsn, by (and_intros <;> first | rfl | (simp only [h1, h2, h4, h5, h6, h7, h8, cNet, decide_true, decide_false, go_sem, simprocAttr]; done) | (simp only [h1, h2, h4, h5, h6, h7, h8, cNet, decide_true, decide_false, go_sem, simprocAttr]; rfl)), by (first | rfl | (simp only [q4, go_sem, simprocAttr]; done) | (simp only [q4, go_sem, simprocAttr]; rfl)), by (first | rfl | (simp only [q6, cFnd, go_sem, simprocAttr]; done) | (simp only [q6, cFnd, go_sem, simprocAttr]; rfl))⟩)
 ·obtain rfl : k = OL.length := by omega
  rw [List.take_of_length_le (Nat.le_refl _)] at hst
  repeat' (first | (with_reducible refine sk ?_; intro K hK) | ((with_reducible first | refine rg (md := { base := 0, own := [4, 6] }) (h := ?_) | refine rgS [4, 6, 42, 43] (md := { base := 0, own := [4, 6] }) (h := ?_) | refine nx ?_); try simp (disch := omega) only [h1, h2, h4, h5, h6, h7, h8, h9,go_sem, simprocAttr]) | (with_reducible refine bk ?_) | ((with_reducible refine' cE ?hv ?_ ?_); (case hv => first | rfl | (simp only [h1, h2, h4, h5, h6, h7, h8, h9,go_sem, simprocAttr]; rfl)); all_goals (intro hc; (try simp only [go_sem, simprocAttr] at hc); try (exfalso; omega))) | ((with_reducible first | refine grdS_split ?_ ?_ | refine lkG_split ?_ ?_) <;> intro hg <;> (try simp (disch := omega) only [hg, h1, h2, h4, h5, h6, h7, h8, h9,go_sem, simprocAttr]) <;> (try simp only [go_sem, simprocAttr] at hg) <;> (try (exfalso; omega))) | with_reducible intro (ep : Nat → Nat) | with_reducible apply_assumption -exfalso -symm only [*])
  exact ⟨e4, e6, _, g, hst, by (and_intros <;> first | rfl | (simp only [h4, h6, h7, h8, go_sem, simprocAttr]; done) | (simp only [h4, h6, h7, h8, go_sem, simprocAttr]; rfl)), k4, k6⟩
end Cp
namespace Cp
open Go Go.Proofs
set_option maxRecDepth 10000
set_option maxHeartbeats 4000000
theorem rgets_ok (n : NetT) (hF : NetF n) (l : List Int) (hl : l.length ≤ 20) (hal : ∀ a ∈ l, (headAt n.heads a).isSome = true) :
  PureC Try.prog 70 [encNet n, .lst 1 (ints l)] (lackV (getsS n (openH n.heads l))) :=
 (rgets_ok0 n hF l hl hal).weak lackV_noid fun G w x h => cTold_weak n hF.out.1 _ h
theorem rGets_ok0 (n : NetT) (hs : NetS n) (l : List Int) (hl : l.length ≤ 20) : PureC Try.prog 27 [encNet n, .lst 1 (ints l)] (getsD lackN n l) := by
 have hnoid : noid (getsD lackN n l) = true := by unfold getsD; split <;> (try split) <;> (simp only [noid, noids, noidss, lackN, lackV_noid, go_sem, simprocAttr]; rfl)
 have hn := rNet_ok n hs
 have ho := open_ok n (by have := hs.heads; omega) l (by omega)
 simp only [encNet, cNet] at hn ho
 refine PureC_of (fn := Try.f27) tabOK (by kernel_rfl) rfl (by kernel_rfl) (by simp [Try.f27]) (by simp [noids, noid, noidss, go_sem, encNet, cNet, hnoid]) (by first | rfl | simp [noids, noid, noidss, go_sem, encNet, cNet, hnoid]) ?_
 intro X hX0 hXs
 unfold getsD
 cases hN : netOK n with
 | false =>
  rw [hN] at hn
  repeat' (first | (with_reducible refine sk ?_; intro K hK) | ((first | (with_reducible first | refine rg (md := { base := 0, own := [4] }) (h := ?_) | refine rgS [4] (md := { base := 0, own := [4] }) (h := ?_) | refine nx ?_) | refine pK (hn) ?_); try simp (disch := omega) only [encNet, cNet, lackN,go_sem, simprocAttr]) | (with_reducible refine bk ?_) | ((with_reducible refine' cE ?hv ?_ ?_); (case hv => first | rfl | (simp only [encNet, cNet, lackN,go_sem, simprocAttr]; rfl)); all_goals (intro hc; (try simp only [go_sem, simprocAttr] at hc); try (exfalso; omega))) | ((with_reducible refine fe ?_); refine ⟨_, (by simp only [Try.f27, encNet, cNet, lackN,go_sem, simprocAttr]; rfl), ?_⟩; first | rfl | (try simp only [encNet, cNet, lackN,go_sem, simprocAttr, seval])) | with_reducible intro (ep : Nat → Nat) | with_reducible apply_assumption -exfalso -symm only [*])
 | true =>
  rw [hN] at hn
  have hF := net_facts hN
  cases hO : openOK n.heads l with
  | false =>
   rw [hO] at ho
   repeat' (first | (with_reducible refine sk ?_; intro K hK) | ((first | (with_reducible first | refine rg (md := { base := 0, own := [4] }) (h := ?_) | refine rgS [4] (md := { base := 0, own := [4] }) (h := ?_) | refine nx ?_) | refine pK (hn) ?_ | refine pK (ho) ?_); try simp (disch := omega) only [encNet, cNet, lackN,go_sem, simprocAttr]) | (with_reducible refine bk ?_) | ((with_reducible refine' cE ?hv ?_ ?_); (case hv => first | rfl | (simp only [encNet, cNet, lackN,go_sem, simprocAttr]; rfl)); all_goals (intro hc; (try simp only [go_sem, simprocAttr] at hc); try (exfalso; omega))) | ((with_reducible refine fe ?_); refine ⟨_, (by simp only [Try.f27, encNet, cNet, lackN,go_sem, simprocAttr]; rfl), ?_⟩; first | rfl | (try simp only [encNet, cNet, lackN,go_sem, simprocAttr, seval])) | with_reducible intro (ep : Nat → Nat) | with_reducible apply_assumption -exfalso -symm only [*])
  | true =>
   rw [hO] at ho
   have hg := rgets_ok n hF l hl (okL_none hO).1
   simp only [encNet, cNet, lackV] at hg
   repeat' (first | (with_reducible refine sk ?_; intro K hK) | ((first | (with_reducible first | refine rg (md := { base := 0, own := [4] }) (h := ?_) | refine rgS [4] (md := { base := 0, own := [4] }) (h := ?_) | refine nx ?_) | refine pK (hn) ?_ | refine pK (ho) ?_ | refine pK (hg) ?_); try simp (disch := omega) only [encNet, cNet, lackV,go_sem, simprocAttr]) | (with_reducible refine bk ?_) | ((with_reducible refine' cE ?hv ?_ ?_); (case hv => first | rfl | (simp only [encNet, cNet, lackV,go_sem, simprocAttr]; rfl)); all_goals (intro hc; (try simp only [go_sem, simprocAttr] at hc); try (exfalso; omega))) | ((with_reducible refine fe ?_); refine ⟨_, (by simp only [Try.f27, encNet, cNet, lackV,go_sem, simprocAttr]; rfl), ?_⟩; first | rfl | (try simp only [encNet, cNet, lackV,go_sem, simprocAttr, seval])) | with_reducible intro (ep : Nat → Nat) | with_reducible apply_assumption -exfalso -symm only [*])
theorem getsD_weak {n : NetT} {l : List Int} {fid : FuncId} {args : List Val} (h : PureC Try.prog fid args (getsD lackN n l)) : PureC Try.prog fid args (getsD (lackV lackZ) n l) := by
 refine h.weak ?_ fun G w x h => ?_
 ·unfold getsD; split <;> (try split) <;> (simp only [noid, noids, noidss, lackV_noid, go_sem, simprocAttr]; rfl)
 ·have key : ∀ e, VR G w (.tup [lackN, .int .i64 e]) x → VR G w (.tup [lackV lackZ, .int .i64 e]) x := fun e h => by
   refine VR.tup_imp (vs := [lackN, .int .i64 e]) rfl (fun i v v' h1 h2 y hy => ?_) h
   match i, h1, h2 with
   | 0, h1, h2 => cases h1; cases h2; exact hy.agg3_nils
   | 1, h1, h2 => cases h1; cases h2; exact hy
  unfold getsD at h ⊢
  split
  ·rename_i hN
   rw [if_pos hN] at h
   split
   ·rename_i hO
    rw [if_pos hO] at h
    exact h
   ·rename_i hO
    rw [if_neg hO] at h
    exact key _ h
  ·rename_i hN
   rw [if_neg hN] at h
   exact key _ h
theorem rGets_ok (n : NetT) (hs : NetS n) (l : List Int) (hl : l.length ≤ 20) : PureC Try.prog 27 [encNet n, .lst 1 (ints l)] (getsD (lackV lackZ) n l) := getsD_weak (rGets_ok0 n hs l hl)
end Cp
namespace Cp
open Go
structure BetP (p p' : PipeT) : Prop where
 frm : p'.frm = p.frm
 to : p'.to = p.to
 foul : 0 ≤ p'.foul.lo ∧ p'.foul.lo ≤ p.foul.lo ∧ p'.foul.lo ≤ p'.foul.hi ∧ p'.foul.hi ≤ p.foul.hi
structure BetQ (p p' : PumpT) : Prop where
 full : p.full.lo ≤ p'.full.lo ∧ p'.full.lo ≤ p'.full.hi ∧ p.full.hi ≤ p'.full.hi ∧ p'.full.hi ≤ 100000
 slope : 0 ≤ p'.slope ∧ p'.slope ≤ p.slope
end Cp
namespace Cp
open Go
def idsL (n : NetT) : List Int := n.heads.map (·.id)
def chO (n : NetT) (pre : List Int) (i k : Nat) : Option (List Int) := ((combos k ((idsL n).drop i)).map (pre ++ ·)).find? (badM n)
theorem chO_zero {n : NetT} {pre : List Int} {i : Nat} : chO n pre i 0 = if badM n pre = true then some pre else none := by
 simp only [chO, combos, List.map_cons, List.map_nil, List.append_nil, List.find?_cons, List.find?_nil]
 split
 ·rename_i h; rw [if_pos h]
 ·rename_i h; rw [if_neg (by simp [h])]
theorem chO_step {n : NetT} {pre : List Int} {i k : Nat} {x : HeadT} (hx : n.heads[i]? = some x) : chO n pre i (k + 1) = (chO n (pre ++ [x.id]) (i + 1) k).or (chO n pre (i + 1) (k + 1)) := by
 have hd : (idsL n).drop i = x.id :: (idsL n).drop (i + 1) := by
  unfold idsL
  rw [List.drop_eq_getElem?_toList_append]
  simp [hx]
 unfold chO
 rw [hd]
 simp only [combos, List.map_append, List.map_map, List.find?_append]
 have e : ((fun c => pre ++ c) ∘ fun c => x.id :: c) = fun c => (pre ++ [x.id]) ++ c := by funext c; simp
 rw [e]
theorem chO_end {n : NetT} {pre : List Int} {i k : Nat} (h : n.heads.length < i + k) (hk : 0 < k) : chO n pre i k = none := by
 have : combos k ((idsL n).drop i) = [] := by
  refine List.eq_nil_iff_forall_not_mem.2 fun c hc => ?_
  obtain ⟨h1, h2⟩ := mem_combos.1 hc
  have := h1.length_le
  simp only [List.length_drop, idsL, List.length_map] at this
  omega
 unfold chO; rw [this]; rfl
theorem ids_pair {n : NetT} (hF : NetF n) : (idsL n).Pairwise (· < ·) := by unfold idsL; rw [List.pairwise_map]; exact hF.ids
theorem chO_some {n : NetT} (hF : NetF n) {k : Nat} {c : List Int} (h : chO n [] 0 k = some c) : openOK n.heads c = true ∧ c.length = k ∧ badM n c = true ∧ ∀ o, openOK n.heads o = true → o.length = k → badM n o = true → o = c ∨ lexB c o := by
 unfold chO at h
 simp only [List.drop_zero, List.nil_append, List.map_id'] at h
 obtain ⟨h1, h2, h3⟩ := find_first (combos_pair (ids_pair hF)) h
 obtain ⟨q1, q2⟩ := mem_combos.1 h1
 exact ⟨ids_open hF q1, q2, h2, fun o ho hl hb => h3 o (mem_combos.2 ⟨open_sub hF ho, hl⟩) hb⟩
theorem chO_none {n : NetT} (hF : NetF n) {k : Nat} (h : chO n [] 0 k = none) : ∀ o, openOK n.heads o = true → o.length = k → badM n o = false := fun o ho hl => by
 unfold chO at h
 simp only [List.drop_zero, List.nil_append, List.map_id'] at h
 have := List.find?_eq_none.1 h o (mem_combos.2 ⟨open_sub hF ho, hl⟩)
 simpa using this
theorem most_uniq {n : NetT} {s s' : Int × List Int} (h : MostF n s) (h' : MostF n s') : s = s' := by
 obtain ⟨m, l⟩ := s
 obtain ⟨m', l'⟩ := s'
 rcases h.cases with ⟨a1, a2⟩ | ⟨a1, a2, a3, a4⟩ <;> rcases h'.cases with ⟨b1, b2⟩ | ⟨b1, b2, b3, b4⟩ <;> simp only at *
 ·subst a2 b2; rw [a1, b1]
 ·exact ((h.least _ b1 b2).1 a2).elim
 ·exact ((h'.least _ a1 a2).1 b2).elim
 ·have e : l = l' := by
   rcases (h'.least _ a1 a2).2 with e | e
   ·exact e
   ·rcases (h.least _ b1 b2).2 with e2 | e2
    ·exact e2.symm
    ·exact (bef_irr (bef_trans e e2)).elim
  subst e; rw [a3, b3]
theorem most_found {n : NetT} (hF : NetF n) {k : Nat} {c : List Int} (hk : 0 < k) (hb : ∀ j, 0 < j → j < k → chO n [] 0 j = none) (h : chO n [] 0 k = some c) : mostS n = ((k : Int) - 1, c) := by
 obtain ⟨h1, h2, h3, h4⟩ := chO_some hF h
 have hne : ¬ c = [] := fun e => by subst e; simp at h2; omega
 refine most_uniq (most_facts hF) ⟨.inr ⟨h1, h3, by simp only; omega, hne⟩, fun o ho hbo => ⟨hne, ?_⟩⟩
 have h0 : ¬ o = [] := fun e => by subst e; rw [bad_nil hF] at hbo; cases hbo
 have hpos : 0 < o.length := List.length_pos_iff.2 h0
 by_cases hlt : o.length < k
 ·have := chO_none hF (hb o.length hpos hlt) o ho rfl
  rw [this] at hbo; cases hbo
 ·by_cases he : o.length = k
  ·rcases h4 o ho he hbo with e | e
   ·exact .inl e
   ·exact .inr (.inr ⟨by simp only; omega, e⟩)
  ·exact .inr (.inl (by simp only; omega))
theorem most_none {n : NetT} (hF : NetF n) (hb : ∀ j, 0 < j → j ≤ n.heads.length → chO n [] 0 j = none) : mostS n = ((n.heads.length : Int), []) := by
 refine most_uniq (most_facts hF) ⟨.inl ⟨rfl, rfl⟩, fun o ho hbo => ?_⟩
 have h0 : ¬ o = [] := fun e => by subst e; rw [bad_nil hF] at hbo; cases hbo
 have := chO_none hF (hb o.length (List.length_pos_iff.2 h0) (open_le hF.ids ho)) o ho rfl
 rw [this] at hbo; cases hbo
end Cp
namespace Cp
open Go
theorem PureC.acall_frz {P : Program} {fid : FuncId} {args args' : List Val} {v : Val} {H : Hp} {k e sz : Nat} {xss : List (List Val)} (h : PureC P fid args' v) (hk : H k = some (e, .arr sz xss)) (ha : args.map (fzd (upd H k (some (e, .fro sz xss))) 6) = args') :
  ACall P fid args H fun v' H' => v' = v ∧ H' = upd H k (some (e, .fro sz xss)) := by
 have hA := h.acall (upd H k (some (e, .fro sz xss)))
 refine ⟨hA.1, fun G w xs hR hv => ?_⟩
 have t := Tr.frz hR hk
 have hR2 := hR.frz hk
 have hv2 : VRs (G.frz k) w args' xs := by
  subst ha
  refine ⟨by rw [hv.1, List.length_map], fun i u hi => ?_⟩
  rw [List.getElem?_map, Option.map_eq_some_iff] at hi
  obtain ⟨a, ha, rfl⟩ := hi
  exact fzd_ok hR2 6 a _ ((hv.2 i a ha).mono hR.imm t)
 refine Calls.mono (hA.2 _ w xs hR2 hv2) ?_
 rintro ex w' ⟨v', x, G', H', h1, t2, h3, h4, h5, h6⟩
 exact ⟨v', x, G', H', h1, t.trans t2, h3, h4, h5, h6⟩
theorem PureC.arg_nils {P : Program} {fid : FuncId} {a1 a2 : List Val} {n : Nat} {v : Val} (h : PureC P fid (a1 ++ .lst n [] :: a2) v) : PureC P fid (a1 ++ .nils :: a2) v := by
 refine ⟨h.1, ?_, h.2.2.1, fun G w xs hR hv => h.2.2.2 G w xs hR ⟨by simpa using hv.1, fun i u hi => ?_⟩⟩
 ·have := h.2.1
  clear h
  induction a1 with
  | nil => simp only [List.nil_append, noids, Bool.and_eq_true] at this ⊢; exact ⟨rfl, this.2⟩
  | cons a l ih => simp only [List.cons_append, noids, Bool.and_eq_true] at this ⊢; exact ⟨this.1, ih this.2⟩
 ·by_cases hlt : i < a1.length
  ·exact hv.2 i u (by rw [List.getElem?_append_left hlt] at hi ⊢; exact hi)
  ·rw [List.getElem?_append_right (by omega)] at hi
   cases hd : i - a1.length with
   | zero =>
    rw [hd] at hi
    cases hi
    have := hv.2 i .nils (by rw [List.getElem?_append_right (by omega), hd]; rfl)
    exact this.nils_lst n
   | succ j =>
    rw [hd] at hi
    exact hv.2 i u (by rw [List.getElem?_append_right (by omega), hd]; exact hi)
end Cp
namespace Cp
open Go Go.Proofs
set_option maxRecDepth 10000
set_option maxHeartbeats 4000000
def chV (z : Val) (n : NetT) (pre : List Int) (i k : Nat) : Val := if k = 0 then .tup [.lst 1 (ints pre), .bool (badM n pre)] else match chO n pre i k with | some c => .tup [.lst 1 (ints c), .bool true] | none => .tup [z, .bool false]
theorem chV_noid {n : NetT} {pre : List Int} {i k : Nat} {z : Val} (hz : noid z = true) : noid (chV z n pre i k) = true := by
 unfold chV
 split
 ·simp only [noid, noids, noid_ints]; rfl
 ·split
  ·simp only [noid, noids, noid_ints]; rfl
  ·simp only [noid, noids, hz]; rfl
theorem chV_cases {n : NetT} {pre : List Int} {i k : Nat} : ∃ c b, chV (.lst 1 []) n pre i k = .tup [.lst 1 (ints c), .bool b] ∧ chO n pre i k = if b = true then some c else none := by
 unfold chV
 by_cases hk : k = 0
 ·subst hk
  rw [if_pos rfl, chO_zero]
  exact ⟨pre, badM n pre, rfl, rfl⟩
 ·rw [if_neg hk]
  cases h : chO n pre i k with
  | some c => exact ⟨c, true, rfl, by simp⟩
  | none => exact ⟨[], false, rfl, by simp⟩
theorem chV_weak {n : NetT} {pre : List Int} {i k : Nat} {fid : FuncId} {args : List Val} (h : PureC Try.prog fid args (chV .nils n pre i k)) : PureC Try.prog fid args (chV (.lst 1 []) n pre i k) := by
 refine h.weak (chV_noid rfl) fun G w x h => ?_
 unfold chV at h ⊢
 split
 ·rename_i hk; rw [if_pos hk] at h; exact h
 ·rename_i hk
  rw [if_neg hk] at h
  cases hc : chO n pre i k with
  | some c => rw [hc] at h; exact h
  | none => rw [hc] at h; exact h.tup_nils
theorem xf49 {a h : Int} {L : List (List Val)} : xfield tab 49 (.agg [.int .u8 a, .int .i64 h, .lst 1 L]) 0 = some (.int .u8 a) := by rfl
theorem rchoose_ok (n : NetT) (hF : NetF n) : ∀ (k : Nat) (pre : List Int) (i : Nat), i ≤ 20 → k ≤ 20 → pre.length + k ≤ 20 → (∀ a ∈ pre, (headAt n.heads a).isSome = true) →
  PureC Try.prog 72 [encNet n, .lst 1 (ints pre), .int .i64 i, .int .i64 k] (chV (.lst 1 []) n pre i k)
 | 0, pre, i, hi, hk, hp, hal => by
  have hg := rgets_ok n hF pre (by omega) hal
  have hb : badM n pre = decide (¬ (getsS n (openH n.heads pre)).known = 2) := rfl
  obtain ⟨⟨kn, hd, ou⟩, hG⟩ : ∃ G, getsS n (openH n.heads pre) = G := ⟨_, rfl⟩
  rw [hG] at hg hb
  simp only [encNet, cNet, lackV] at hg
  have hv : chV (.lst 1 []) n pre i 0 = .tup [.lst 1 (ints pre), .bool (decide (¬ kn = 2))] := by unfold chV; rw [if_pos rfl, hb]
  rw [hv]
  refine PureC_of (fn := Try.f72) tabOK (by kernel_rfl) rfl (by kernel_rfl) (by simp [Try.f72]) (by simp [noids, noid, noidss, go_sem, encNet, cNet]) (by first | rfl | simp [noids, noid, noidss, go_sem, encNet, cNet]) ?_
  intro X hX0 hXs
  repeat' (first | (with_reducible refine sk ?_; intro K hK) | ((first | (with_reducible first | (refine AW_drawP (id := 6) (l := ?l) tabOK mix { base := 0, own := [33, 35, 43], imp := [48] } [33, 35, 43] [] [0, 2, 4, 5, 6, 7, 8, 9, 1, 3, 10, 11, 12, 13, 14, 15, 16, 17, 18, 19, 20, 21] ?hsz ?hok ?hl ?_; (case hsz => rw [hXs]; decide +kernel); (case hok => decide +kernel); (case hl => simp only [ordOps, pickO, List.toList_toArray]; rfl)) | refine rg (md := { base := 0, own := [33, 35, 43], imp := [48] }) (h := ?_) | refine rgS [33, 35, 43] (md := { base := 0, own := [33, 35, 43], imp := [48] }) (h := ?_) | refine nx ?_) | refine pK (hg) ?_); try simp (disch := omega) only [encNet, cNet, xf49,go_sem, simprocAttr]) | (with_reducible refine bk ?_) | ((with_reducible refine' cE ?hv ?_ ?_); (case hv => first | rfl | (simp only [encNet, cNet, xf49,go_sem, simprocAttr]; rfl)); all_goals (intro hc; (try simp only [go_sem, simprocAttr] at hc); try (exfalso; omega))) | (first | refine iK (hg) ?_) | ((with_reducible refine fe ?_); refine ⟨_, (by simp only [Try.f72, encNet, cNet, xf49,go_sem, simprocAttr]; rfl), ?_⟩; first | rfl | (try simp only [encNet, cNet, xf49,go_sem, simprocAttr, seval])) | with_reducible intro (ep : Nat → Nat) | with_reducible apply_assumption -exfalso -symm only [*])
  all_goals (by_cases h2 : kn = 2 <;> simp [h2])
 | k + 1, pre, i, hi, hk, hp, hal => by
  refine chV_weak ?_
  have hhl := hF.heads
  have hnoid : noid (chV .nils n pre i (k + 1)) = true := chV_noid rfl
  have hk0 : ¬ ((k + 1 : Nat) : Int) = 0 := by omega
  obtain ⟨V, hV⟩ : ∃ V, chV .nils n pre i (k + 1) = V := ⟨_, rfl⟩
  rw [hV] at hnoid ⊢
  refine PureC_of (fn := Try.f72) tabOK (by kernel_rfl) rfl (by kernel_rfl) (by simp [Try.f72]) (by simp [noids, noid, noidss, go_sem, encNet, cNet, hnoid]) (by first | rfl | simp [noids, noid, noidss, go_sem, encNet, cNet, hnoid]) ?_
  intro X hX0 hXs
  repeat' (first | ((fail_if_success (with_reducible refine AW_at (id := 3) ?_)); with_reducible refine sk ?_; intro K hK) | ((with_reducible first | (refine AW_drawP (id := 6) (l := ?l) tabOK mix { base := 0, own := [33, 35, 43], imp := [48] } [33, 35, 43] [] [0, 2, 4, 5, 6, 7, 8, 9, 1, 3, 10, 11, 12, 13, 14, 15, 16, 17, 18, 19, 20, 21] ?hsz ?hok ?hl ?_; (case hsz => rw [hXs]; decide +kernel); (case hok => decide +kernel); (case hl => simp only [ordOps, pickO, List.toList_toArray]; rfl)) | refine rg (md := { base := 0, own := [33, 35, 43], imp := [48] }) (h := ?_) | refine rgS [33, 35, 43] (md := { base := 0, own := [33, 35, 43], imp := [48] }) (h := ?_) | refine nx ?_); try simp (disch := omega) only [encNet, cNet, hk0,go_sem, simprocAttr]) | (with_reducible refine bk ?_) | ((with_reducible refine' cE ?hv ?_ ?_); (case hv => first | rfl | (simp only [encNet, cNet, hk0,go_sem, simprocAttr]; rfl)); all_goals (intro hc; (try simp only [go_sem, simprocAttr] at hc); try (exfalso; omega))) | ((with_reducible refine fe ?_); refine ⟨_, (by simp only [Try.f72, encNet, cNet, hk0,go_sem, simprocAttr]; rfl), ?_⟩; first | rfl | (try simp only [encNet, cNet, hk0,go_sem, simprocAttr, seval])) | with_reducible intro (ep : Nat → Nat) | with_reducible apply_assumption -exfalso -symm only [*])
  have hcut : ∀ f H, chO n pre i (k + 1) = none → K f H := by
   intro f H hno
   refine hK f H ?_
   clear hK
   have hv : V = .tup [.nils, .bool false] := by rw [← hV]; unfold chV; rw [if_neg (by omega), hno]
   subst hv
   repeat' (first | (with_reducible refine sk ?_; intro K hK) | ((with_reducible first | (refine AW_drawP (id := 6) (l := ?l) tabOK mix { base := 0, own := [33, 35, 43], imp := [48] } [33, 35, 43] [] [0, 2, 4, 5, 6, 7, 8, 9, 1, 3, 10, 11, 12, 13, 14, 15, 16, 17, 18, 19, 20, 21] ?hsz ?hok ?hl ?_; (case hsz => rw [hXs]; decide +kernel); (case hok => decide +kernel); (case hl => simp only [ordOps, pickO, List.toList_toArray]; rfl)) | refine rg (md := { base := 0, own := [33, 35, 43], imp := [48] }) (h := ?_) | refine rgS [33, 35, 43] (md := { base := 0, own := [33, 35, 43], imp := [48] }) (h := ?_) | refine nx ?_); try simp (disch := omega) only [go_sem, simprocAttr]) | (with_reducible refine bk ?_) | ((with_reducible refine' cE ?hv ?_ ?_); (case hv => first | rfl | (simp only [go_sem, simprocAttr]; rfl)); all_goals (intro hc; (try simp only [go_sem, simprocAttr] at hc); try (exfalso; omega))) | ((with_reducible refine fe ?_); refine ⟨_, (by simp only [Try.f72, go_sem, simprocAttr]; rfl), ?_⟩; first | rfl | (try simp only [go_sem, simprocAttr, seval])) | with_reducible intro (ep : Nat → Nat) | with_reducible apply_assumption -exfalso -symm only [*])
  clear hK
  repeat' (first | (with_reducible refine sk ?_; intro K hK) | ((with_reducible first | (refine AW_drawP (id := 6) (l := ?l) tabOK mix { base := 0, own := [33, 35, 43], imp := [48] } [33, 35, 43] [] [0, 2, 4, 5, 6, 7, 8, 9, 1, 3, 10, 11, 12, 13, 14, 15, 16, 17, 18, 19, 20, 21] ?hsz ?hok ?hl ?_; (case hsz => rw [hXs]; decide +kernel); (case hok => decide +kernel); (case hl => simp only [ordOps, pickO, List.toList_toArray]; rfl)) | refine rg (md := { base := 0, own := [33, 35, 43], imp := [48] }) (h := ?_) | refine rgS [33, 35, 43] (md := { base := 0, own := [33, 35, 43], imp := [48] }) (h := ?_) | refine nx ?_); try simp (disch := omega) only [go_sem, simprocAttr]) | (with_reducible refine bk ?_) | ((with_reducible refine' cE ?hv ?_ ?_); (case hv => first | rfl | (simp only [go_sem, simprocAttr]; rfl)); all_goals (intro hc; (try simp only [go_sem, simprocAttr] at hc); try (exfalso; omega))) | with_reducible intro (ep : Nat → Nat) | with_reducible apply_assumption -exfalso -symm only [*])
  refine AW_block (AW_loop (fun m f H => ∃ j : Nat, m = 21 - j ∧ j ≤ 21 ∧ (f 1 = .lst 1 (ints pre) ∧ f 3 = .int .i64 ((k + 1 : Nat) : Int) ∧ f 4 = .pim (cNet n) ∧ f 10 = .int .i64 j) ∧ chO n pre i (k + 1) = chO n pre j (k + 1)) (21 - i)
   ⟨i, rfl, by omega, by (and_intros <;> first | rfl | (simp only [cNet, go_sem, simprocAttr]; done) | (simp only [cNet, go_sem, simprocAttr]; rfl)), rfl⟩ ?_)
  rintro m f H ⟨j, rfl, hj, ⟨h1, h3, h4, h10⟩, hr⟩
  by_cases hlt : (j : Int) ≤ (n.heads.length : Int) - ((k + 1 : Nat) : Int)
  ·clear hcut
   obtain ⟨x, hx⟩ : ∃ x, n.heads[j]? = some x := ⟨_, List.getElem?_eq_getElem (by omega)⟩
   have hxm := List.mem_of_getElem? hx
   have ih := rchoose_ok n hF k (pre ++ [x.id]) (j + 1) (by omega) (by omega) (by simp; omega) (fun a ha => by
    rcases List.mem_append.1 ha with ha | ha
    ·exact hal a ha
    ·simp at ha; subst ha; rw [headAt_of hF.ids hxm]; rfl)
   obtain ⟨c, b, hb1, hb2⟩ := @chV_cases n (pre ++ [x.id]) (j + 1) k
   rw [hb1] at ih
   rw [chO_step hx, hb2] at hr
   have hkk : ((k + 1 : Nat) : Int) - 1 = (k : Int) := by omega
   have hpl : pre.length ≤ 1073741824 := by omega
   have hpl1 : pre.length + 1 ≤ 1073741824 := by omega
   have hxc : cHead x = [.int .i64 x.id, .int .i64 x.node, .int .i64 x.need, .int .i64 x.least, .int .i64 x.bulb.lo, .int .i64 x.bulb.hi, .int .i64 x.slow.lo, .int .i64 x.slow.hi] := rfl
   refine AW_keep [] ?_
   repeat' (first | (with_reducible refine sk ?_; intro K hK) | ((with_reducible first | (refine AW_drawP (id := 6) (l := ?l) tabOK mix { base := 0, own := [33, 35, 43], imp := [48] } [33, 35, 43] [] [0, 2, 4, 5, 6, 7, 8, 9, 1, 3, 10, 11, 12, 13, 14, 15, 16, 17, 18, 19, 20, 21] ?hsz ?hok ?hl ?_; (case hsz => rw [hXs]; decide +kernel); (case hok => decide +kernel); (case hl => simp only [ordOps, pickO, List.toList_toArray]; rfl)) | refine rg (md := { base := 0, own := [33, 35, 43], imp := [48] }) (h := ?_) | refine rgS [33, 35, 43] (md := { base := 0, own := [33, 35, 43], imp := [48] }) (h := ?_) | refine nx ?_); try simp (disch := omega) only [h1, h3, h4, h10, hlt, hx, hxc, hpl, hpl1, hkk, Nat.zero_add, cNet,go_sem, simprocAttr]) | (with_reducible refine bk ?_) | ((with_reducible refine' cE ?hv ?_ ?_); (case hv => first | rfl | (simp only [h1, h3, h4, h10, hlt, hx, hxc, hpl, hpl1, hkk, Nat.zero_add, cNet,go_sem, simprocAttr]; rfl)); all_goals (intro hc; (try simp only [go_sem, simprocAttr] at hc); try (exfalso; omega))) | with_reducible intro (ep : Nat → Nat) | with_reducible apply_assumption -exfalso -symm only [*])
   simp only [encNet, cNet] at ih
   refine iK (ih.acall_frz (k := 33) (by (first | rfl | (simp only [go_sem, simprocAttr]; done) | (simp only [go_sem, simprocAttr]; rfl))) ?_) ?_
   ·simp only [List.map_cons, List.map_nil, go_sem, simprocAttr]
    simp only [ints, List.map_append, List.map_map]
    simp
    exact ⟨fun _ _ => rfl, rfl⟩
   rintro v H3 ⟨rfl, rfl⟩
   cases b with
   | true =>
    simp only [if_true, Option.some_or] at hr
    have hv : V = .tup [.lst 1 (ints c), .bool true] := by rw [← hV]; unfold chV; rw [if_neg (by omega), hr]
    subst hv
    simp only [go_sem, simprocAttr]
    repeat' (first | (with_reducible refine sk ?_; intro K hK) | ((with_reducible first | (refine AW_drawP (id := 6) (l := ?l) tabOK mix { base := 0, own := [33, 35, 43], imp := [48] } [33, 35, 43] [] [0, 2, 4, 5, 6, 7, 8, 9, 1, 3, 10, 11, 12, 13, 14, 15, 16, 17, 18, 19, 20, 21] ?hsz ?hok ?hl ?_; (case hsz => rw [hXs]; decide +kernel); (case hok => decide +kernel); (case hl => simp only [ordOps, pickO, List.toList_toArray]; rfl)) | refine rg (md := { base := 0, own := [33, 35, 43], imp := [48] }) (h := ?_) | refine rgS [33, 35, 43] (md := { base := 0, own := [33, 35, 43], imp := [48] }) (h := ?_) | refine nx ?_); try simp (disch := omega) only [h1, h3, h4, h10, cNet,go_sem, simprocAttr]) | (with_reducible refine bk ?_) | ((with_reducible refine' cE ?hv ?_ ?_); (case hv => first | rfl | (simp only [h1, h3, h4, h10, cNet,go_sem, simprocAttr]; rfl)); all_goals (intro hc; (try simp only [go_sem, simprocAttr] at hc); try (exfalso; omega))) | ((with_reducible refine fe ?_); refine ⟨_, (by simp only [Try.f72, h1, h3, h4, h10, cNet,go_sem, simprocAttr]; rfl), ?_⟩; first | rfl | (try simp only [h1, h3, h4, h10, cNet,go_sem, simprocAttr, seval])) | with_reducible intro (ep : Nat → Nat) | with_reducible apply_assumption -exfalso -symm only [*])
   | false =>
    simp only [Bool.false_eq_true, if_false, Option.none_or] at hr
    simp only [go_sem, simprocAttr]
    repeat' (first | (with_reducible refine sk ?_; intro K hK) | ((with_reducible first | (refine AW_drawP (id := 6) (l := ?l) tabOK mix { base := 0, own := [33, 35, 43], imp := [48] } [33, 35, 43] [] [0, 2, 4, 5, 6, 7, 8, 9, 1, 3, 10, 11, 12, 13, 14, 15, 16, 17, 18, 19, 20, 21] ?hsz ?hok ?hl ?_; (case hsz => rw [hXs]; decide +kernel); (case hok => decide +kernel); (case hl => simp only [ordOps, pickO, List.toList_toArray]; rfl)) | refine rg (md := { base := 0, own := [33, 35, 43], imp := [48] }) (h := ?_) | refine rgS [33, 35, 43] (md := { base := 0, own := [33, 35, 43], imp := [48] }) (h := ?_) | refine nx ?_); try simp (disch := omega) only [h1, h3, h4, h10, cNet,go_sem, simprocAttr]) | (with_reducible refine bk ?_) | ((with_reducible refine' cE ?hv ?_ ?_); (case hv => first | rfl | (simp only [h1, h3, h4, h10, cNet,go_sem, simprocAttr]; rfl)); all_goals (intro hc; (try simp only [go_sem, simprocAttr] at hc); try (exfalso; omega))) | with_reducible intro (ep : Nat → Nat) | with_reducible apply_assumption -exfalso -symm only [*])
    exact ⟨21 - (j + 1), by omega, j + 1, rfl, by omega, by (and_intros <;> first | rfl | (simp only [h1, h3, h4, cNet, go_sem, simprocAttr]; done) | (simp only [h1, h3, h4, cNet, go_sem, simprocAttr]; rfl)), hr⟩
  ·repeat' (first | (with_reducible refine sk ?_; intro K hK) | ((with_reducible first | (refine AW_drawP (id := 6) (l := ?l) tabOK mix { base := 0, own := [33, 35, 43], imp := [48] } [33, 35, 43] [] [0, 2, 4, 5, 6, 7, 8, 9, 1, 3, 10, 11, 12, 13, 14, 15, 16, 17, 18, 19, 20, 21] ?hsz ?hok ?hl ?_; (case hsz => rw [hXs]; decide +kernel); (case hok => decide +kernel); (case hl => simp only [ordOps, pickO, List.toList_toArray]; rfl)) | refine rg (md := { base := 0, own := [33, 35, 43], imp := [48] }) (h := ?_) | refine rgS [33, 35, 43] (md := { base := 0, own := [33, 35, 43], imp := [48] }) (h := ?_) | refine nx ?_); try simp (disch := omega) only [h1, h3, h4, h10, hlt, cNet,go_sem, simprocAttr]) | (with_reducible refine bk ?_) | ((with_reducible refine' cE ?hv ?_ ?_); (case hv => first | rfl | (simp only [h1, h3, h4, h10, hlt, cNet,go_sem, simprocAttr]; rfl)); all_goals (intro hc; (try simp only [go_sem, simprocAttr] at hc); try (exfalso; omega))) | with_reducible intro (ep : Nat → Nat) | with_reducible apply_assumption -exfalso -symm only [*])
   rw [hr]
   exact chO_end (by omega) (by omega)
end Cp
namespace Cp
open Go Go.Proofs
set_option maxRecDepth 10000
set_option maxHeartbeats 4000000
theorem rMost_ok0 (n : NetT) (hs : NetS n) : PureC Try.prog 29 [encNet n] (if netOK n = true then (if (mostS n).2 = [] then .tup [.int .i64 (mostS n).1, .nils, .int .i64 0] else .tup [.int .i64 (mostS n).1, .lst 1 (ints (mostS n).2), .int .i64 0]) else .tup [.int .i64 0, .nils, .int .i64 50]) := by
 obtain ⟨V, hV⟩ : ∃ V : Val, (if netOK n = true then (if (mostS n).2 = [] then .tup [.int .i64 (mostS n).1, .nils, .int .i64 0] else .tup [.int .i64 (mostS n).1, .lst 1 (ints (mostS n).2), .int .i64 0]) else .tup [.int .i64 0, .nils, .int .i64 50]) = V := ⟨_, rfl⟩
 rw [hV]
 have hnoid : noid V = true := by
  rw [← hV]
  split <;> (try split) <;> (simp only [noid, noids, noidss, go_sem, simprocAttr]; rfl)
 have hn := rNet_ok n hs
 simp only [encNet, cNet] at hn
 refine PureC_of (fn := Try.f29) tabOK (by kernel_rfl) rfl (by kernel_rfl) (by simp [Try.f29]) (by simp [noids, noid, noidss, go_sem, encNet, cNet, hnoid]) (by first | rfl | simp [noids, noid, noidss, go_sem, encNet, cNet, hnoid]) ?_
 intro X hX0 hXs
 cases hN : netOK n with
 | false =>
  rw [hN] at hn hV
  simp only [Bool.false_eq_true, if_false] at hV
  subst hV
  repeat' (first | (with_reducible refine sk ?_; intro K hK) | ((first | (with_reducible first | refine rg (h := ?_) | refine nx ?_) | refine pK (hn) ?_); try simp (disch := omega) only [encNet, cNet,go_sem, simprocAttr]) | (with_reducible refine bk ?_) | ((with_reducible refine' cE ?hv ?_ ?_); (case hv => first | rfl | (simp only [encNet, cNet,go_sem, simprocAttr]; rfl)); all_goals (intro hc; (try simp only [go_sem, simprocAttr] at hc); try (exfalso; omega))) | ((with_reducible refine fe ?_); refine ⟨_, (by simp only [Try.f29, encNet, cNet,go_sem, simprocAttr]; rfl), ?_⟩; first | rfl | (try simp only [encNet, cNet,go_sem, simprocAttr, seval])) | with_reducible intro (ep : Nat → Nat) | with_reducible apply_assumption -exfalso -symm only [*])
 | true =>
  rw [hN] at hn hV
  simp only [if_true] at hV
  have hF := net_facts hN
  have hhl := hF.heads
  repeat' (first | ((fail_if_success (with_reducible refine AW_at (id := 3) ?_)); with_reducible refine sk ?_; intro K hK) | ((first | (with_reducible first | refine rg (h := ?_) | refine nx ?_) | refine pK (hn) ?_); try simp (disch := omega) only [encNet, cNet,go_sem, simprocAttr]) | (with_reducible refine bk ?_) | ((with_reducible refine' cE ?hv ?_ ?_); (case hv => first | rfl | (simp only [encNet, cNet,go_sem, simprocAttr]; rfl)); all_goals (intro hc; (try simp only [go_sem, simprocAttr] at hc); try (exfalso; omega))) | ((with_reducible refine fe ?_); refine ⟨_, (by simp only [Try.f29, encNet, cNet,go_sem, simprocAttr]; rfl), ?_⟩; first | rfl | (try simp only [encNet, cNet,go_sem, simprocAttr, seval])) | with_reducible intro (ep : Nat → Nat) | with_reducible apply_assumption -exfalso -symm only [*])
  have hcut : ∀ f H, f 1 = .pim (cNet n) → (∀ j, 0 < j → j ≤ n.heads.length → chO n [] 0 j = none) → K f H := by
   intro f H h1 hno
   refine hK f H ?_
   clear hK
   rw [most_none hF hno, if_pos rfl] at hV
   subst hV
   repeat' (first | (with_reducible refine sk ?_; intro K hK) | ((with_reducible first | refine rg (h := ?_) | refine nx ?_); try simp (disch := omega) only [h1, cNet,go_sem, simprocAttr]) | (with_reducible refine bk ?_) | ((with_reducible refine' cE ?hv ?_ ?_); (case hv => first | rfl | (simp only [h1, cNet,go_sem, simprocAttr]; rfl)); all_goals (intro hc; (try simp only [go_sem, simprocAttr] at hc); try (exfalso; omega))) | ((with_reducible refine fe ?_); refine ⟨_, (by simp only [Try.f29, h1, cNet,go_sem, simprocAttr]; rfl), ?_⟩; first | rfl | (try simp only [h1, cNet,go_sem, simprocAttr, seval])) | with_reducible intro (ep : Nat → Nat) | with_reducible apply_assumption -exfalso -symm only [*])
  clear hK
  repeat' (first | (with_reducible refine sk ?_; intro K hK) | ((with_reducible first | refine rg (h := ?_) | refine nx ?_); try simp (disch := omega) only [go_sem, simprocAttr]) | (with_reducible refine bk ?_) | ((with_reducible refine' cE ?hv ?_ ?_); (case hv => first | rfl | (simp only [go_sem, simprocAttr]; rfl)); all_goals (intro hc; (try simp only [go_sem, simprocAttr] at hc); try (exfalso; omega))) | with_reducible intro (ep : Nat → Nat) | with_reducible apply_assumption -exfalso -symm only [*])
  refine AW_block (AW_loop (fun m f H => ∃ j : Nat, m = 21 - j ∧ 0 < j ∧ j ≤ n.heads.length + 1 ∧ (f 1 = .pim (cNet n) ∧ f 5 = .int .i64 j) ∧ ∀ i, 0 < i → i < j → chO n [] 0 i = none) 20
   ⟨1, by omega, by omega, by omega, by (and_intros <;> first | rfl | (simp only [cNet, go_sem, simprocAttr]; done) | (simp only [cNet, go_sem, simprocAttr]; rfl)), fun i h1 h2 => by omega⟩ ?_)
  rintro m f H ⟨j, rfl, hj0, hj, ⟨h1, h5⟩, hno⟩
  by_cases hlt : (j : Int) ≤ (n.heads.length : Int)
  ·clear hcut
   have hc := rchoose_ok n hF j [] 0 (by omega) (by omega) (by simp; omega) (fun a ha => by simp at ha)
   obtain ⟨c, b, hb1, hb2⟩ := @chV_cases n [] 0 j
   rw [hb1] at hc
   have hc2 := PureC.arg_nils (a1 := [encNet n]) (n := 1) hc
   simp only [encNet, cNet, List.cons_append, List.nil_append] at hc2
   cases b with
   | true =>
    simp only [if_true] at hb2
    have hne : ¬ c = [] := fun e => by
     have := (chO_some hF hb2).2.1
     subst e; simp at this; omega
    have hmf := most_found hF hj0 hno hb2
    rw [hmf, if_neg hne] at hV
    subst hV
    repeat' (first | (with_reducible refine sk ?_; intro K hK) | ((first | (with_reducible first | refine rg (h := ?_) | refine nx ?_) | refine pK (hc2) ?_); try simp (disch := omega) only [h1, h5, hlt, cNet,go_sem, simprocAttr]) | (with_reducible refine bk ?_) | ((with_reducible refine' cE ?hv ?_ ?_); (case hv => first | rfl | (simp only [h1, h5, hlt, cNet,go_sem, simprocAttr]; rfl)); all_goals (intro hc; (try simp only [go_sem, simprocAttr] at hc); try (exfalso; omega))) | ((with_reducible refine fe ?_); refine ⟨_, (by simp only [Try.f29, h1, h5, hlt, cNet,go_sem, simprocAttr]; rfl), ?_⟩; first | rfl | (try simp only [h1, h5, hlt, cNet,go_sem, simprocAttr, seval])) | with_reducible intro (ep : Nat → Nat) | with_reducible apply_assumption -exfalso -symm only [*])
   | false =>
    simp only [Bool.false_eq_true, if_false] at hb2
    repeat' (first | (with_reducible refine sk ?_; intro K hK) | ((first | (with_reducible first | refine rg (h := ?_) | refine nx ?_) | refine pK (hc2) ?_); try simp (disch := omega) only [h1, h5, hlt, cNet,go_sem, simprocAttr]) | (with_reducible refine bk ?_) | ((with_reducible refine' cE ?hv ?_ ?_); (case hv => first | rfl | (simp only [h1, h5, hlt, cNet,go_sem, simprocAttr]; rfl)); all_goals (intro hc; (try simp only [go_sem, simprocAttr] at hc); try (exfalso; omega))) | with_reducible intro (ep : Nat → Nat) | with_reducible apply_assumption -exfalso -symm only [*])
    exact ⟨21 - (j + 1), by omega, j + 1, rfl, by omega, by omega, by (and_intros <;> first | rfl | (simp only [h1, cNet, go_sem, simprocAttr]; done) | (simp only [h1, cNet, go_sem, simprocAttr]; rfl)), fun i h1 h2 => by
     by_cases e : i = j
     ·subst e; exact hb2
     ·exact hno i h1 (by omega)⟩
  ·repeat' (first | (with_reducible refine sk ?_; intro K hK) | ((with_reducible first | refine rg (h := ?_) | refine nx ?_); try simp (disch := omega) only [h1, h5, hlt, cNet,go_sem, simprocAttr]) | (with_reducible refine bk ?_) | ((with_reducible refine' cE ?hv ?_ ?_); (case hv => first | rfl | (simp only [h1, h5, hlt, cNet,go_sem, simprocAttr]; rfl)); all_goals (intro hc; (try simp only [go_sem, simprocAttr] at hc); try (exfalso; omega))) | with_reducible intro (ep : Nat → Nat) | with_reducible apply_assumption -exfalso -symm only [*])
   intro i h1 h2
   exact hno i h1 (by omega)
theorem rMost_ok (n : NetT) (hs : NetS n) : PureC Try.prog 29 [encNet n] (mostD (.lst 1 []) n) := by
 have key : ∀ {G : Gh} {w : World} {x : Value} (a e : Int), VR G w (.tup [.int .i64 a, .nils, .int .i64 e]) x → VR G w (.tup [.int .i64 a, .lst 1 [], .int .i64 e]) x := fun a e h => by
  refine VR.tup_imp (vs := [.int .i64 a, .nils, .int .i64 e]) rfl (fun i v v' h1 h2 y hy => ?_) h
  match i, h1, h2 with
  | 0, h1, h2 => cases h1; cases h2; exact hy
  | 1, h1, h2 => cases h1; cases h2; exact hy.nils_lst 1
  | 2, h1, h2 => cases h1; cases h2; exact hy
 refine (rMost_ok0 n hs).weak ?_ fun G w x h => ?_
 ·unfold mostD; split <;> (simp only [noid, noids, noidss, go_sem, simprocAttr]; rfl)
 ·unfold mostD
  split
  ·rename_i hN
   rw [if_pos hN] at h
   split at h
   ·rename_i he
    rw [he]
    exact key _ _ h
   ·exact h
  ·rename_i hN
   rw [if_neg hN] at h
   exact key _ _ h
theorem getsD_shape (n : NetT) (l : List Int) : ∃ (T : LackT) (e : Int), getsD (lackV lackZ) n l = .tup [lackV T, .int .i64 e] ∧ T.out.length ≤ 100000 := by
 unfold getsD
 split
 ·rename_i hN
  split
  ·have hF := net_facts hN
   refine ⟨_, _, rfl, ?_⟩
   have hgf := gets_facts hF.out.1 (openH n.heads l)
   by_cases h2 : (getsS n (openH n.heads l)).known = 2
   ·rw [(hgf.yes h2).2.1]; simp
   ·have := (out_facts (hgf.bad h2).1).2.2; have := hF.out; have := hF.pumps; omega
  ·exact ⟨lackZ, _, rfl, by simp [lackZ]⟩
 ·exact ⟨lackZ, _, rfl, by simp [lackZ]⟩
theorem mostD_shape (n : NetT) (hs : NetS n) : ∃ (m : Int) (l : List Int) (e : Int), mostD (.lst 1 []) n = .tup [.int .i64 m, .lst 1 (ints l), .int .i64 e] ∧ l.length ≤ 100000 := by
 unfold mostD
 split
 ·rename_i hN
  have := mostF_len (net_facts hN) (2 ^ n.heads.length)
  have := hs.heads
  exact ⟨_, _, _, rfl, by unfold mostS; omega⟩
 ·exact ⟨0, [], 50, rfl, by simp⟩
theorem gets_law (n : NetT) (l : List Int) (_ : l.length ≤ maxLen) : PureC Try.prog 4 [encNet n, .lst 1 (ints l)] (.bool true) := by
 have hg := great_ok n
 simp only [encNet, cNet] at hg
 cases hgr : greatN n with
 | true =>
  rw [hgr] at hg
  refine PureC_of (fn := Try.f4) tabOK (by kernel_rfl) rfl (by kernel_rfl) (by simp [Try.f4]) (by simp [noids, noid, noidss, go_sem, encNet, cNet]) (by first | rfl | simp [noids, noid, noidss, go_sem, encNet, cNet]) ?_
  intro X hX0 hXs
  repeat' (first | (with_reducible refine sk ?_; intro K hK) | ((first | (with_reducible first | refine rg (md := { base := 0, own := [5, 6, 8] }) (h := ?_) | refine rgS [5, 6, 8] (md := { base := 0, own := [5, 6, 8] }) (h := ?_) | refine nx ?_) | refine pK (hg) ?_); try simp (disch := omega) only [encNet, cNet,go_sem, simprocAttr]) | (with_reducible refine bk ?_) | ((with_reducible refine' cE ?hv ?_ ?_); (case hv => first | rfl | (simp only [encNet, cNet,go_sem, simprocAttr]; rfl)); all_goals (intro hc; (try simp only [go_sem, simprocAttr] at hc); try (exfalso; omega))) | ((with_reducible first | refine grdS_split ?_ ?_ | refine lkG_split ?_ ?_) <;> intro hg <;> (try simp (disch := omega) only [hg, encNet, cNet,go_sem, simprocAttr]) <;> (try simp only [go_sem, simprocAttr] at hg) <;> (try (exfalso; omega))) | ((with_reducible refine fe ?_); refine ⟨_, (by simp only [Try.f4, encNet, cNet,go_sem, simprocAttr]; rfl), ?_⟩; first | rfl | (try simp only [encNet, cNet,go_sem, simprocAttr, seval])) | with_reducible intro (ep : Nat → Nat) | with_reducible apply_assumption -exfalso -symm only [*])
 | false =>
  rw [hgr] at hg
  by_cases hl : (20 : Int) < l.length
  ·refine PureC_of (fn := Try.f4) tabOK (by kernel_rfl) rfl (by kernel_rfl) (by simp [Try.f4]) (by simp [noids, noid, noidss, go_sem, encNet, cNet]) (by first | rfl | simp [noids, noid, noidss, go_sem, encNet, cNet]) ?_
   intro X hX0 hXs
   repeat' (first | (with_reducible refine sk ?_; intro K hK) | ((first | (with_reducible first | refine rg (md := { base := 0, own := [5, 6, 8] }) (h := ?_) | refine rgS [5, 6, 8] (md := { base := 0, own := [5, 6, 8] }) (h := ?_) | refine nx ?_) | refine pK (hg) ?_); try simp (disch := omega) only [encNet, cNet, hl,go_sem, simprocAttr]) | (with_reducible refine bk ?_) | ((with_reducible refine' cE ?hv ?_ ?_); (case hv => first | rfl | (simp only [encNet, cNet, hl,go_sem, simprocAttr]; rfl)); all_goals (intro hc; (try simp only [go_sem, simprocAttr] at hc); try (exfalso; omega))) | ((with_reducible first | refine grdS_split ?_ ?_ | refine lkG_split ?_ ?_) <;> intro hg <;> (try simp (disch := omega) only [hg, encNet, cNet, hl,go_sem, simprocAttr]) <;> (try simp only [go_sem, simprocAttr] at hg) <;> (try (exfalso; omega))) | ((with_reducible refine fe ?_); refine ⟨_, (by simp only [Try.f4, encNet, cNet, hl,go_sem, simprocAttr]; rfl), ?_⟩; first | rfl | (try simp only [encNet, cNet, hl,go_sem, simprocAttr, seval])) | with_reducible intro (ep : Nat → Nat) | with_reducible apply_assumption -exfalso -symm only [*])
  ·have hs := great_small hgr
   have g1 := Gets_ok n hs l (by omega)
   have g2 := rGets_ok n hs l (by omega)
   have m1 := Most_ok n hs
   have m2 := rMost_ok n hs
   have tw := twin_ok n hs
   have sm := same_self n hs
   obtain ⟨T, e, hT, hTl⟩ := getsD_shape n l
   obtain ⟨m, L, e2, hM, hL⟩ := mostD_shape n hs
   rw [hT] at g1 g2
   rw [hM] at m1 m2
   have s1 := sameLacks_ok T T hTl
   have s2 := sameInts_ok L L (by omega)
   simp only [decide_true] at s1 s2
   have hlb : l.length ≤ 1073741824 := by omega
   simp only [encNet, cNet, lackV] at g1 g2 m1 m2 tw sm s1
   refine PureC_of (fn := Try.f4) tabOK (by kernel_rfl) rfl (by kernel_rfl) (by simp [Try.f4]) (by simp [noids, noid, noidss, go_sem, encNet, cNet]) (by first | rfl | simp [noids, noid, noidss, go_sem, encNet, cNet]) ?_
   intro X hX0 hXs
   repeat' (first | (with_reducible refine sk ?_; intro K hK) | ((first | (with_reducible first | refine rg (md := { base := 0, own := [5, 6, 8] }) (h := ?_) | refine rgS [5, 6, 8] (md := { base := 0, own := [5, 6, 8] }) (h := ?_) | refine nx ?_) | refine pK (hg) ?_ | refine pK (tw) ?_ | refine pK (g1) ?_ | refine pK (g2) ?_ | refine pK (m1) ?_ | refine pK (m2) ?_ | refine pK (s1) ?_ | refine pK (s2) ?_ | refine pK (sm) ?_); try simp (disch := omega) only [encNet, cNet, hl, hlb,go_sem, simprocAttr]) | (with_reducible refine bk ?_) | ((with_reducible refine' cE ?hv ?_ ?_); (case hv => first | rfl | (simp only [encNet, cNet, hl, hlb,go_sem, simprocAttr]; rfl)); all_goals (intro hc; (try simp only [go_sem, simprocAttr] at hc); try (exfalso; omega))) | ((with_reducible first | refine grdS_split ?_ ?_ | refine lkG_split ?_ ?_) <;> intro hg <;> (try simp (disch := omega) only [hg, encNet, cNet, hl, hlb,go_sem, simprocAttr]) <;> (try simp only [go_sem, simprocAttr] at hg) <;> (try (exfalso; omega))) | ((with_reducible refine fe ?_); refine ⟨_, (by simp only [Try.f4, encNet, cNet, hl, hlb,go_sem, simprocAttr]; rfl), ?_⟩; first | rfl | (try simp only [encNet, cNet, hl, hlb,go_sem, simprocAttr, seval])) | with_reducible intro (ep : Nat → Nat) | with_reducible apply_assumption -exfalso -symm only [*])
end Cp
