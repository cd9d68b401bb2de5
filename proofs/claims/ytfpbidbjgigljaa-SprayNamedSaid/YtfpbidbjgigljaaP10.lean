/- Rules, facts and contracts that the statement's proof leans on. Conditions: none. -/
import Derived.Test.YtfpbidbjgigljaaP9
set_option linter.unusedVariables false
set_option linter.unusedSimpArgs false
set_option linter.unusedSectionVars false
namespace Cp
open Go Go.Proofs
set_option maxRecDepth 10000
set_option maxHeartbeats 4000000
theorem tru_end {n : NetT} (hF : NetF n) (best : Bool) : TruF n (n.pumps.map (fullE best)) (n.pipes.map (foulE best)) where
 lenF := List.length_map ..
 lenG := List.length_map ..
 fb := fun x hx => by
  obtain ⟨p, hp, rfl⟩ := List.mem_map.1 hx
  exact fullE_bnd (hF.pump p hp).1 best
 gb := fun x hx => by
  obtain ⟨p, hp, rfl⟩ := List.mem_map.1 hx
  obtain ⟨i, hi⟩ := List.mem_iff_getElem?.1 hp
  exact foulE_bnd (hF.pipe i p hi).2.2 best
theorem presses_end (n : NetT) (hF : NetF n) (l : List Int) (hl : l.length ≤ 100000) (ho : openOK n.heads l = true) (out : List Int) (hno : outOK n out = true) (best : Bool) (tank : Int) :
  PureC Try.prog 40 [encNet n, .lst 1 (ints l), .lst 1 (ints out), .agg (truV (n.pumps.map (fullE best)) (n.pipes.map (foulE best)) tank)] (.lst 1 (ints ((openH n.heads l).map (pressS n (openH n.heads l) out best)))) := by
 have h := presses_ok n hF l hl out hno _ _ (tru_end hF best) tank
 obtain ⟨o1, o2⟩ := okL_none ho
 have hof : openH n.heads l = opF n.heads l := open_filter hF.ids o2 o1
 rw [← hof] at h
 have e : (openH n.heads l).map (pressG n (openH n.heads l) out (n.pumps.map (fullE best)) (n.pipes.map (foulE best))) = (openH n.heads l).map (pressS n (openH n.heads l) out best) :=
  List.map_congr_left fun x hx => pressG_end hF (openH_500 hF l) hno best (openH_node hF hx)
 rwa [e] at h
end Cp
namespace Cp
open Go
def combos : Nat → List Int → List (List Int)
 | 0, _ => [[]]
 | _ + 1, [] => []
 | k + 1, x :: l => (combos k l).map (x :: ·) ++ combos (k + 1) l
def outsL (np o : Nat) : List (List Int) := (List.range (o + 1)).flatMap fun k => combos k ((List.range np).map Int.ofNat)
end Cp
namespace Cp
open Go Go.Proofs
set_option maxRecDepth 10000
set_option maxHeartbeats 2000000
end Cp
namespace Cp
open Go Go.Proofs
set_option maxRecDepth 10000
set_option maxHeartbeats 4000000
end Cp
namespace Cp
open Go Go.Proofs
set_option maxRecDepth 10000
set_option maxHeartbeats 4000000
end Cp
namespace Cp
open Go Go.Proofs
def outV (l : List Int) : Val := match l with | [] => .nils | _ => .lst 1 (ints l)
def outsV (np o : Nat) : Val := .fn 114 [.pim [.lst 1 ((outsL np o).map fun l => [outV l])]]
section
variable (A B t1 t2 t3 : Val) (p0 p1 p2 p3 : List Val)
abbrev plArg (A B t1 t2 t3 : Val) (ps : List (List Val)) (o : Int) : Val := .pim [A, B, .lst 3 ps, .int .i64 o, t1, t2, t3]
theorem outs_10 (h : noids [plArg A B t1 t2 t3 [p0] 0] = true) : PureC Try.prog 94 [plArg A B t1 t2 t3 [p0] 0] (outsV 1 0) := run_allG (n := 400) tabOK mix look_ok h (by rfl) (by kernel_rfl)
theorem outs_20 (h : noids [plArg A B t1 t2 t3 [p0, p1] 0] = true) : PureC Try.prog 94 [plArg A B t1 t2 t3 [p0, p1] 0] (outsV 2 0) := run_allG (n := 400) tabOK mix look_ok h (by rfl) (by kernel_rfl)
theorem outs_21 (h : noids [plArg A B t1 t2 t3 [p0, p1] 1] = true) : PureC Try.prog 94 [plArg A B t1 t2 t3 [p0, p1] 1] (outsV 2 1) := run_allG (n := 400) tabOK mix look_ok h (by rfl) (by kernel_rfl)
theorem outs_30 (h : noids [plArg A B t1 t2 t3 [p0, p1, p2] 0] = true) : PureC Try.prog 94 [plArg A B t1 t2 t3 [p0, p1, p2] 0] (outsV 3 0) := run_allG (n := 400) tabOK mix look_ok h (by rfl) (by kernel_rfl)
theorem outs_31 (h : noids [plArg A B t1 t2 t3 [p0, p1, p2] 1] = true) : PureC Try.prog 94 [plArg A B t1 t2 t3 [p0, p1, p2] 1] (outsV 3 1) := run_allG (n := 400) tabOK mix look_ok h (by rfl) (by kernel_rfl)
theorem outs_32 (h : noids [plArg A B t1 t2 t3 [p0, p1, p2] 2] = true) : PureC Try.prog 94 [plArg A B t1 t2 t3 [p0, p1, p2] 2] (outsV 3 2) := run_allG (n := 400) tabOK mix look_ok h (by rfl) (by kernel_rfl)
theorem outs_40 (h : noids [plArg A B t1 t2 t3 [p0, p1, p2, p3] 0] = true) : PureC Try.prog 94 [plArg A B t1 t2 t3 [p0, p1, p2, p3] 0] (outsV 4 0) := run_allG (n := 400) tabOK mix look_ok h (by rfl) (by kernel_rfl)
theorem outs_41 (h : noids [plArg A B t1 t2 t3 [p0, p1, p2, p3] 1] = true) : PureC Try.prog 94 [plArg A B t1 t2 t3 [p0, p1, p2, p3] 1] (outsV 4 1) := run_allG (n := 400) tabOK mix look_ok h (by rfl) (by kernel_rfl)
theorem outs_42 (h : noids [plArg A B t1 t2 t3 [p0, p1, p2, p3] 2] = true) : PureC Try.prog 94 [plArg A B t1 t2 t3 [p0, p1, p2, p3] 2] (outsV 4 2) := run_allG (n := 400) tabOK mix look_ok h (by rfl) (by kernel_rfl)
theorem outs_43 (h : noids [plArg A B t1 t2 t3 [p0, p1, p2, p3] 3] = true) : PureC Try.prog 94 [plArg A B t1 t2 t3 [p0, p1, p2, p3] 3] (outsV 4 3) := run_allG (n := 400) tabOK mix look_ok h (by rfl) (by kernel_rfl)
end
end Cp
namespace Cp
open Go Go.Proofs
theorem VR.outV {G : Gh} {w : World} {l : List Int} {x : Value} (h : VR G w (Cp.outV l) x) : VR G w (.lst 1 (ints l)) x := by
 cases l with
 | nil => exact VR.nils_lst 1 h
 | cons a l => exact h
theorem VR.outsW {G : Gh} {w : World} {g : FuncId} {L : List (List Int)} {x : Value} (h : VR G w (.fn g [.pim [.lst 1 (L.map fun l => [Cp.outV l])]]) x) : VR G w (.fn g [.pim [.lst 1 (L.map fun l => [.lst 1 (ints l)])]]) x := by
 have key : ∀ (i : Nat) (es : List Val), (L.map fun l => [Val.lst 1 (ints l)])[i]? = some es → ∃ l, es = [.lst 1 (ints l)] ∧ (L.map fun l => [Cp.outV l])[i]? = some [Cp.outV l] := by
  intro i es hi
  rw [List.getElem?_map, Option.map_eq_some_iff] at hi
  obtain ⟨l, hl, rfl⟩ := hi
  exact ⟨l, rfl, by rw [List.getElem?_map, hl]; rfl⟩
 have hc : ∀ l : List Int, (Cp.outV l).cell = true := fun l => by cases l <;> rfl
 have hl : ∀ x, VR G w (.lst 1 (L.map fun l => [Cp.outV l])) x → VR G w (.lst 1 (L.map fun l => [.lst 1 (ints l)])) x := by
  intro x h
  cases h with
  | lst _ _ a cap ys hcap hsz ha hcc hv =>
   have e : (L.map fun l => [Cp.outV l]).length = (L.map fun l => [Val.lst 1 (ints l)]).length := by simp
   rw [e]
   refine .lst 1 _ a cap ys (by rw [← e]; exact hcap) (fun i es hi => ?_) (fun hne => ?_) (fun i es hi j v hj => ?_) (fun i es hi j v hj => ?_)
   ·obtain ⟨l, rfl, _⟩ := key i es hi; rfl
   ·have hne' : (L.map fun l => [Cp.outV l]) ≠ [] := fun h0 => hne (List.eq_nil_of_length_eq_zero (by rw [← e, h0]; rfl))
    obtain ⟨b, off, h1, h2, h3⟩ := ha hne'
    refine ⟨b, off, h1, h2, fun i es hi j v hj => ?_⟩
    obtain ⟨l, rfl, h4⟩ := key i es hi
    cases j with
    | zero => exact h3 i _ h4 0 _ rfl
    | succ j => simp at hj
   ·obtain ⟨l, rfl, _⟩ := key i es hi
    cases j with
    | zero => cases hj; rfl
    | succ j => simp at hj
   ·obtain ⟨l, rfl, h4⟩ := key i es hi
    cases j with
    | zero => cases hj; exact (hv i _ h4 0 _ rfl).outV
    | succ j => simp at hj
 cases h with
 | fn f cs xs hs hv =>
  refine .fn _ _ xs hs (fun i v hi => ?_)
  cases i with
  | succ i => simp at hi
  | zero =>
   cases hi
   have h0 := hv 0 _ rfl
   generalize xs.getD 0 undef = y at h0 ⊢
   cases h0 with
   | pim _ b off ys hI hm hc hv =>
    refine .pim _ b off ys hI (fun j v hj => ?_) (fun j v hj => ?_) (fun j v hj => ?_)
    ·cases j with
     | zero => exact hm 0 _ rfl
     | succ j => simp at hj
    ·cases j with
     | zero => cases hj; rfl
     | succ j => simp at hj
    ·cases j with
     | zero => cases hj; exact hl _ (hv 0 _ rfl)
     | succ j => simp at hj
def outsF (np o : Nat) : Val := .fn 114 [.pim [.lst 1 ((outsL np o).map fun l => [.lst 1 (ints l)])]]
theorem noid_ints (l : List Int) : noidss (ints l) = true := noidss_of fun v hv => by
 simp only [ints, List.mem_map] at hv
 obtain ⟨_, _, rfl⟩ := hv
 rfl
theorem noid_outsF (np o : Nat) : noid (outsF np o) = true := by
 simp only [outsF, noid, noids, Bool.and_true]
 exact noidss_of fun v hv => by
  simp only [List.mem_map] at hv
  obtain ⟨l, _, rfl⟩ := hv
  simp only [noids, noid, noid_ints, Bool.and_true]
theorem noid_cNet (n : NetT) : noids (cNet n) = true := by
 have h1 : noidss (n.pipes.map cPipe) = true := noidss_of fun v hv => by
  simp only [List.mem_map] at hv
  obtain ⟨_, _, rfl⟩ := hv
  rfl
 have h2 : noidss (n.heads.map cHead) = true := noidss_of fun v hv => by
  simp only [List.mem_map] at hv
  obtain ⟨_, _, rfl⟩ := hv
  rfl
 have h3 : noidss (n.pumps.map cPump) = true := noidss_of fun v hv => by
  simp only [List.mem_map] at hv
  obtain ⟨_, _, rfl⟩ := hv
  rfl
 simp only [cNet, noids, noid, h1, h2, h3, Bool.and_true]
theorem outs_ok (n : NetT) (hF : NetF n) : PureC Try.prog 94 [.pim (cNet n)] (outsF n.pumps.length n.out.toNat) := by
 obtain ⟨hp1, hp2⟩ := hF.pumps
 obtain ⟨ho1, ho2⟩ := hF.out
 have hn : noids [.pim (cNet n)] = true := by simp only [noids, noid, noid_cNet, Bool.and_true]
 refine PureC.weak (v := outsV n.pumps.length n.out.toNat) ?_ (noid_outsF _ _) (fun G w x h => h.outsW)
 obtain ⟨pipes, heads, pumps, out, tank, mins⟩ := n
 simp only [cNet] at *
 match pumps, hp1, hp2, ho2 with
 | [a], _, _, ho2 =>
  obtain rfl : out = 0 := by simp at ho2; omega
  exact outs_10 _ _ _ _ _ _ hn
 | [a, b], _, _, ho2 =>
  have : out = 0 ∨ out = 1 := by simp at ho2; omega
  rcases this with rfl | rfl
  ·exact outs_20 _ _ _ _ _ _ _ hn
  ·exact outs_21 _ _ _ _ _ _ _ hn
 | [a, b, c], _, _, ho2 =>
  have : out = 0 ∨ out = 1 ∨ out = 2 := by simp at ho2; omega
  rcases this with rfl | rfl | rfl
  ·exact outs_30 _ _ _ _ _ _ _ _ hn
  ·exact outs_31 _ _ _ _ _ _ _ _ hn
  ·exact outs_32 _ _ _ _ _ _ _ _ hn
 | [a, b, c, d], _, _, ho2 =>
  have : out = 0 ∨ out = 1 ∨ out = 2 ∨ out = 3 := by simp at ho2; omega
  rcases this with rfl | rfl | rfl | rfl
  ·exact outs_40 _ _ _ _ _ _ _ _ _ hn
  ·exact outs_41 _ _ _ _ _ _ _ _ _ hn
  ·exact outs_42 _ _ _ _ _ _ _ _ _ hn
  ·exact outs_43 _ _ _ _ _ _ _ _ _ hn
 | _ :: _ :: _ :: _ :: _ :: _, _, h, _ => simp at h
end Cp
namespace Cp
open Go Go.Proofs
set_option maxRecDepth 10000
theorem outs_at {L : List (List Int)} {k : Nat} {l : List Int} (h : L[k]? = some l) : (L.map fun l => [Val.lst 1 (ints l)])[k]? = some [.lst 1 (ints l)] := by rw [List.getElem?_map, h]; rfl
theorem values1_ok (L : List (List Int)) (hL : L.length ≤ 100000) (H0 : Hp) (ky ey : Nat) (J : Nat → Hp → Prop) (hJ0 : J 0 H0)
  (hY : ∀ k l H, L[k]? = some l → J k H → RoundC Try.prog ky ey [.lst 1 (ints l)] H (fun v H' => v = .bool true ∧ J (k + 1) H')) :
  ACall Try.prog 114 [.yld ky ey, .pim [.lst 1 (L.map fun l => [.lst 1 (ints l)])]] H0 (fun v H' => J L.length H') := by
 refine ACall_of (fn := Try.f114) tabOK (by kernel_rfl) rfl (by kernel_rfl) (by simp [Try.f114]) ?_
 intro X hX0 hXs
 repeat' (first | (with_reducible refine sk ?_; intro K hK) | ((with_reducible first | refine AW_regY (id := 3) tabOK { base := 2000, own := [] } [] [] (by rw [hXs]; decide +kernel) ?_ | refine rg (md := { base := 2000, own := [] }) (h := ?_) | refine nx ?_); try simp (disch := omega) only [go_sem, simprocAttr]) | (with_reducible refine bk ?_) | ((with_reducible refine' cE ?hv ?_ ?_); (case hv => first | rfl | (simp only [go_sem, simprocAttr]; rfl)); all_goals (intro hc; (try simp only [go_sem, simprocAttr] at hc); try (exfalso; omega))) | with_reducible intro (ep : Nat → Nat) | with_reducible apply_assumption -exfalso -symm only [*])
 refine AW_range tabOK L.length (fun k f H => (f 0 = .yld ky ey ∧ f 5 = .lst 1 (L.map fun l => [.lst 1 (ints l)])) ∧ J k H) (by omega) (by rw [hXs]; decide) (by decide) (by (first | rfl | (simp only [go_sem, simprocAttr]; done) | (simp only [go_sem, simprocAttr]; rfl))) (by (first | rfl | (simp only [go_sem, simprocAttr]; done) | (simp only [go_sem, simprocAttr]; rfl)))
   ⟨by (and_intros <;> first | rfl | (simp only [go_sem, simprocAttr]; done) | (simp only [go_sem, simprocAttr]; rfl)), hJ0⟩ ?_ ?_
 ·rintro k f H hk h7 h6 ⟨⟨h0, h5⟩, hJ⟩
  obtain ⟨l, hl⟩ : ∃ x, L[k]? = some x := ⟨_, List.getElem?_eq_getElem hk⟩
  have hla := outs_at hl
  repeat' (first | (with_reducible refine sk ?_; intro K hK) | ((with_reducible first | refine AW_regY (id := 3) tabOK { base := 2000, own := [] } [] [] (by rw [hXs]; decide +kernel) ?_ | refine rg (md := { base := 2000, own := [] }) (h := ?_) | refine nx ?_); try simp (disch := omega) only [h0, h5, h6, h7, hla,go_sem, simprocAttr]) | (with_reducible refine bk ?_) | ((with_reducible refine' cE ?hv ?_ ?_); (case hv => first | rfl | (simp only [h0, h5, h6, h7, hla,go_sem, simprocAttr]; rfl)); all_goals (intro hc; (try simp only [go_sem, simprocAttr] at hc); try (exfalso; omega))) | with_reducible intro (ep : Nat → Nat) | with_reducible apply_assumption -exfalso -symm only [*])
  refine yldK_intro (hY k l _ hl hJ) ?_
  rintro v H3 ⟨rfl, hJ3⟩
  simp only [go_sem, simprocAttr]
  repeat' (first | (with_reducible refine sk ?_; intro K hK) | ((with_reducible first | refine AW_regY (id := 3) tabOK { base := 2000, own := [] } [] [] (by rw [hXs]; decide +kernel) ?_ | refine rg (md := { base := 2000, own := [] }) (h := ?_) | refine nx ?_); try simp (disch := omega) only [h0, h5, h6, h7, hJ3,go_sem, simprocAttr]) | (with_reducible refine bk ?_) | ((with_reducible refine' cE ?hv ?_ ?_); (case hv => first | rfl | (simp only [h0, h5, h6, h7, hJ3,go_sem, simprocAttr]; rfl)); all_goals (intro hc; (try simp only [go_sem, simprocAttr] at hc); try (exfalso; omega))) | with_reducible intro (ep : Nat → Nat) | with_reducible apply_assumption -exfalso -symm only [*])
 ·rintro f H h7 h6 ⟨⟨h0, h5⟩, hJ⟩
  exact FnQ_end (Or.inr rfl) (.refl _) (by simp only [Try.f114, go_sem, simprocAttr]; rfl) hJ
end Cp
namespace Cp
open Go Go.Proofs
set_option maxRecDepth 10000
set_option maxHeartbeats 1000000
def lackF (n : NetT) (hs : List HeadT) (out : List Int) (best : Bool) (l : List HeadT) : Option HeadT := l.find? fun h => decide (pressS n hs out best h < h.least)
def lackO (o : Option HeadT) : Int × Bool := match o with | some h => (h.id, true) | none => (0, false)
def tankH (n : NetT) (best : Bool) : Int := if best = true then n.tank.hi else n.tank.lo
def lackS (n : NetT) (hs : List HeadT) (out : List Int) (best : Bool) : Int × Bool :=
 match lackF n hs out best hs with
 | some h => (h.id, true)
 | none => if tankH n best < needs hs * n.mins then (-1, true) else (0, false)
def cLk (p : Int × Bool) : List Val := [.int .i64 p.1, .bool p.2]
theorem lacks_look (n : NetT) (hF : NetF n) (hs : List HeadT) (h5 : heads500 hs) (hsl : hs.length ≤ 12) (hnd : ∀ h ∈ hs, 1 ≤ h.node ∧ h.node ≤ n.pipes.length) (out : List Int) (ho : outOK n out = true) (best : Bool) (e36 e33 e34 : Nat) (H : Hp) (hP : PlH n hs out e36 e33 e34 H)
  (hroom : H 1208 = none ∧ H 1604 = none ∧ H 1605 = none ∧ H 1607 = none) :
  LookC Try.prog 96 [.ptr 436 e36 10 0 0, endV best] H (.agg (cLk (lackS n hs out best))) := by
 obtain ⟨h36, h33, ver, h34⟩ := hP
 obtain ⟨r0, r1, r2, r3⟩ := hroom
 have hr0 : frz1 (H 1208) = none := by rw [r0]; rfl
 have hr1 : frz1 (H 1604) = none := by rw [r1]; rfl
 have hr2 : frz1 (H 1605) = none := by rw [r2]; rfl
 have hr3 : frz1 (H 1607) = none := by rw [r3]; rfl
 clear r0 r1 r2 r3
 have hnb := needs_bnd h5
 have hfl : (flowL n.pipes (n.pipes.length + 1) hs)[0]? = some (needs hs) := by rw [flowL_get (by omega), flowAt_zero]
 refine LookC_of (fn := Try.f96) tabOK (by kernel_rfl) rfl (by kernel_rfl) (by simp [Try.f96]) rfl ?_
 intro X hX0 hXs
 repeat' (first | ((fail_if_success (with_reducible refine AW_at (id := 2) ?_)); with_reducible refine sk ?_; intro K hK) | ((with_reducible first | refine rgL [] [21] (md := { base := 1600, own := [] }) (h := ?_) | refine rgL [4, 5, 7] [21] (md := { base := 1600, own := [] }) (h := ?_) | refine nx ?_); try simp (disch := omega) only [h36, h33, h34, hr0, hr1, hr2, hr3, cPlant, endV,go_sem, simprocAttr]) | (with_reducible refine bk ?_) | ((with_reducible refine' cE ?hv ?_ ?_); (case hv => first | rfl | (simp only [h36, h33, h34, hr0, hr1, hr2, hr3, cPlant, endV,go_sem, simprocAttr]; rfl)); all_goals (intro hc; (try simp only [go_sem, simprocAttr] at hc); try (exfalso; omega))) | ((with_reducible first | refine grdS_split ?_ ?_ | refine lkG_split ?_ ?_) <;> intro hg <;> (try simp (disch := omega) only [hg, h36, h33, h34, hr0, hr1, hr2, hr3, cPlant, endV,go_sem, simprocAttr]) <;> (try simp only [go_sem, simprocAttr] at hg) <;> (try (exfalso; omega))) | ((with_reducible refine fe ?_); refine ⟨_, (by simp only [Try.f96, h36, h33, h34, hr0, hr1, hr2, hr3, cPlant, endV,go_sem, simprocAttr]; rfl), ?_⟩; first | rfl | (try simp only [h36, h33, h34, hr0, hr1, hr2, hr3, cPlant, endV,go_sem, simprocAttr, seval])) | with_reducible intro (ep : Nat → Nat) | with_reducible apply_assumption -exfalso -symm only [*])
 have hcut : ∀ e4 e5 f H, (f 0 = .ptr 436 e36 10 0 0 ∧ f 3 = .pim [.fn (sgF best) [], .fn (sgF (!best)) []] ∧ f 4 = .ptr 1604 e4 2 0 0 ∧ f 5 = .ptr 1605 e5 2 0 0) ∧ (H 436 = some (e36, .fro 10 [cPlant n hs e33 e34 (n.pipes.length + 1)]) ∧ H 433 = some (e33, .fro 1 (ints (flowL n.pipes (n.pipes.length + 1) hs))) ∧
   H 1604 = some (e4, .arr 2 [[.int .i64 0, .bool false]]) ∧ H 1605 = some (e5, .arr 2 [cLk (lackO (lackF n hs out best hs))])) → K f H := by
  rintro e4 e5 f H ⟨⟨h0, h3, h4, h5'⟩, g36, g33, g4, g5⟩
  refine hK f H ?_
  clear hK
  have hlp : 0 < n.pipes.length + 1 := by omega
  have hsg := sg_ok best n.tank
  have htd : (if best = true then n.tank.hi else n.tank.lo) = tankH n best := rfl
  rw [htd] at hsg
  simp only [encSpan] at hsg
  have hmn := hF.mins
  have hmul : 0 ≤ needs hs * n.mins ∧ needs hs * n.mins ≤ 6000 * 600 := ⟨Int.mul_nonneg (by omega) hmn.1, Int.mul_le_mul (by omega) hmn.2 hmn.1 (by omega)⟩
  unfold lackS
  cases hfo : lackF n hs out best hs with
  | some x =>
   rw [hfo] at g5
   simp only [lackO, cLk] at g5
   repeat' (first | (with_reducible refine sk ?_; intro K hK) | ((first | (with_reducible first | refine rgL [] [21] (md := { base := 1600, own := [] }) (h := ?_) | refine rgL [4, 5, 7] [21] (md := { base := 1600, own := [] }) (h := ?_) | refine nx ?_) | refine pK (hsg) ?_ | refine lK (hsg) ?_); try simp (disch := omega) only [h0, h3, h4, h5', g36, g33, g4, g5, hlp, hfl, flowL_len, cPlant, cLk,go_sem, simprocAttr]) | (with_reducible refine bk ?_) | ((with_reducible refine' cE ?hv ?_ ?_); (case hv => first | rfl | (simp only [h0, h3, h4, h5', g36, g33, g4, g5, hlp, hfl, flowL_len, cPlant, cLk,go_sem, simprocAttr]; rfl)); all_goals (intro hc; (try simp only [go_sem, simprocAttr] at hc); try (exfalso; omega))) | ((with_reducible first | refine grdS_split ?_ ?_ | refine lkG_split ?_ ?_) <;> intro hg <;> (try simp (disch := omega) only [hg, h0, h3, h4, h5', g36, g33, g4, g5, hlp, hfl, flowL_len, cPlant, cLk,go_sem, simprocAttr]) <;> (try simp only [go_sem, simprocAttr] at hg) <;> (try (exfalso; omega))) | ((with_reducible refine fe ?_); refine ⟨_, (by simp only [Try.f96, h0, h3, h4, h5', g36, g33, g4, g5, hlp, hfl, flowL_len, cPlant, cLk,go_sem, simprocAttr]; rfl), ?_⟩; first | rfl | (try simp only [h0, h3, h4, h5', g36, g33, g4, g5, hlp, hfl, flowL_len, cPlant, cLk,go_sem, simprocAttr, seval])) | with_reducible intro (ep : Nat → Nat) | with_reducible apply_assumption -exfalso -symm only [*])
   all_goals (exfalso; simp at hg)
  | none =>
   rw [hfo] at g5
   simp only [lackO, cLk] at g5
   by_cases hlt : tankH n best < needs hs * n.mins
   ·repeat' (first | (with_reducible refine sk ?_; intro K hK) | ((first | (with_reducible first | refine rgL [] [21] (md := { base := 1600, own := [] }) (h := ?_) | refine rgL [4, 5, 7] [21] (md := { base := 1600, own := [] }) (h := ?_) | refine nx ?_) | refine pK (hsg) ?_ | refine lK (hsg) ?_); try simp (disch := omega) only [h0, h3, h4, h5', g36, g33, g4, g5, hlp, hfl, hlt, flowL_len, cPlant, cLk,go_sem, simprocAttr]) | (with_reducible refine bk ?_) | ((with_reducible refine' cE ?hv ?_ ?_); (case hv => first | rfl | (simp only [h0, h3, h4, h5', g36, g33, g4, g5, hlp, hfl, hlt, flowL_len, cPlant, cLk,go_sem, simprocAttr]; rfl)); all_goals (intro hc; (try simp only [go_sem, simprocAttr] at hc); try (exfalso; omega))) | ((with_reducible first | refine grdS_split ?_ ?_ | refine lkG_split ?_ ?_) <;> intro hg <;> (try simp (disch := omega) only [hg, h0, h3, h4, h5', g36, g33, g4, g5, hlp, hfl, hlt, flowL_len, cPlant, cLk,go_sem, simprocAttr]) <;> (try simp only [go_sem, simprocAttr] at hg) <;> (try (exfalso; omega))) | ((with_reducible refine fe ?_); refine ⟨_, (by simp only [Try.f96, h0, h3, h4, h5', g36, g33, g4, g5, hlp, hfl, hlt, flowL_len, cPlant, cLk,go_sem, simprocAttr]; rfl), ?_⟩; first | rfl | (try simp only [h0, h3, h4, h5', g36, g33, g4, g5, hlp, hfl, hlt, flowL_len, cPlant, cLk,go_sem, simprocAttr, seval])) | with_reducible intro (ep : Nat → Nat) | with_reducible apply_assumption -exfalso -symm only [*])
    all_goals (exfalso; simp at hg)
   ·repeat' (first | (with_reducible refine sk ?_; intro K hK) | ((first | (with_reducible first | refine rgL [] [21] (md := { base := 1600, own := [] }) (h := ?_) | refine rgL [4, 5, 7] [21] (md := { base := 1600, own := [] }) (h := ?_) | refine nx ?_) | refine pK (hsg) ?_ | refine lK (hsg) ?_); try simp (disch := omega) only [h0, h3, h4, h5', g36, g33, g4, g5, hlp, hfl, hlt, flowL_len, cPlant, cLk,go_sem, simprocAttr]) | (with_reducible refine bk ?_) | ((with_reducible refine' cE ?hv ?_ ?_); (case hv => first | rfl | (simp only [h0, h3, h4, h5', g36, g33, g4, g5, hlp, hfl, hlt, flowL_len, cPlant, cLk,go_sem, simprocAttr]; rfl)); all_goals (intro hc; (try simp only [go_sem, simprocAttr] at hc); try (exfalso; omega))) | ((with_reducible first | refine grdS_split ?_ ?_ | refine lkG_split ?_ ?_) <;> intro hg <;> (try simp (disch := omega) only [hg, h0, h3, h4, h5', g36, g33, g4, g5, hlp, hfl, hlt, flowL_len, cPlant, cLk,go_sem, simprocAttr]) <;> (try simp only [go_sem, simprocAttr] at hg) <;> (try (exfalso; omega))) | ((with_reducible refine fe ?_); refine ⟨_, (by simp only [Try.f96, h0, h3, h4, h5', g36, g33, g4, g5, hlp, hfl, hlt, flowL_len, cPlant, cLk,go_sem, simprocAttr]; rfl), ?_⟩; first | rfl | (try simp only [h0, h3, h4, h5', g36, g33, g4, g5, hlp, hfl, hlt, flowL_len, cPlant, cLk,go_sem, simprocAttr, seval])) | with_reducible intro (ep : Nat → Nat) | with_reducible apply_assumption -exfalso -symm only [*])
 clear hK
 repeat' (first | (with_reducible refine sk ?_; intro K hK) | ((with_reducible first | refine rgL [] [21] (md := { base := 1600, own := [] }) (h := ?_) | refine rgL [4, 5, 7] [21] (md := { base := 1600, own := [] }) (h := ?_) | refine nx ?_); try simp (disch := omega) only [h36, h33, h34, hr0, hr1, hr2, hr3, cPlant,go_sem, simprocAttr]) | (with_reducible refine bk ?_) | ((with_reducible refine' cE ?hv ?_ ?_); (case hv => first | rfl | (simp only [h36, h33, h34, hr0, hr1, hr2, hr3, cPlant,go_sem, simprocAttr]; rfl)); all_goals (intro hc; (try simp only [go_sem, simprocAttr] at hc); try (exfalso; omega))) | ((with_reducible first | refine grdS_split ?_ ?_ | refine lkG_split ?_ ?_) <;> intro hg <;> (try simp (disch := omega) only [hg, h36, h33, h34, hr0, hr1, hr2, hr3, cPlant,go_sem, simprocAttr]) <;> (try simp only [go_sem, simprocAttr] at hg) <;> (try (exfalso; omega))) | with_reducible intro (ep : Nat → Nat) | with_reducible apply_assumption -exfalso -symm only [*])
 refine AW_range tabOK hs.length (fun k f H => ∃ e4 e5, (f 0 = .ptr 436 e36 10 0 0 ∧ f 3 = .pim [.fn (sgF best) [], .fn (sgF (!best)) []] ∧ f 4 = .ptr 1604 e4 2 0 0 ∧ f 5 = .ptr 1605 e5 2 0 0 ∧ f 12 = .lst 8 (hs.map cHead)) ∧ (H 436 = some (e36, .fro 10 [cPlant n hs e33 e34 (n.pipes.length + 1)]) ∧ H 433 = some (e33, .fro 1 (ints (flowL n.pipes (n.pipes.length + 1) hs))) ∧ H 434 = some (e34, .frm ver (imap .i64 (offM out))) ∧
   H 1604 = some (e4, .arr 2 [[.int .i64 0, .bool false]]) ∧ H 1605 = some (e5, .arr 2 [[.int .i64 0, .bool false]])) ∧ lackF n hs out best hs = lackF n hs out best (hs.drop k)) (by omega) (by rw [hXs]; decide) (by decide) (by (first | rfl | (simp only [h36, go_sem, simprocAttr]; done) | (simp only [h36, go_sem, simprocAttr]; rfl))) (by (first | rfl | (simp only [h36, go_sem, simprocAttr]; done) | (simp only [h36, go_sem, simprocAttr]; rfl)))
  ⟨_, _, by (and_intros <;> first | rfl | (simp only [h36, go_sem, simprocAttr]; done) | (simp only [h36, go_sem, simprocAttr]; rfl)), by (and_intros <;> first | rfl | (simp only [h36, h33, h34, cPlant, go_sem, simprocAttr]; done) | (simp only [h36, h33, h34, cPlant, go_sem, simprocAttr]; rfl)), by simp⟩ ?_ ?_
 ·clear h36 h33 h34 hr0 hr1 hr2 hr3
  rintro k f H hk h14 h13 ⟨e4, e5, ⟨h0, h3, h4, h5', h12⟩, ⟨g36, g33, g34, g4, g5⟩, hr⟩
  obtain ⟨x, hx⟩ : ∃ x, hs[k]? = some x := ⟨_, List.getElem?_eq_getElem hk⟩
  rw [drop_cons hx] at hr
  simp only [lackF, List.find?_cons] at hr
  have hxm := List.mem_of_getElem? hx
  refine AW_keep [436, 433, 434, 1604, 1605] ?_
  have k36 : keep H [436, 433, 434, 1604, 1605] 436 = some (e36, .fro 10 [cPlant n hs e33 e34 (n.pipes.length + 1)]) := g36
  have k33 : keep H [436, 433, 434, 1604, 1605] 433 = some (e33, .fro 1 (ints (flowL n.pipes (n.pipes.length + 1) hs))) := g33
  have k34 : keep H [436, 433, 434, 1604, 1605] 434 = some (e34, .frm ver (imap .i64 (offM out))) := g34
  have k4 : keep H [436, 433, 434, 1604, 1605] 1604 = some (e4, .arr 2 [[.int .i64 0, .bool false]]) := g4
  have k5 : keep H [436, 433, 434, 1604, 1605] 1605 = some (e5, .arr 2 [[.int .i64 0, .bool false]]) := g5
  have k7 : keep H [436, 433, 434, 1604, 1605] 1607 = none := rfl
  have k08 : keep H [436, 433, 434, 1604, 1605] 1208 = none := rfl
  clear g36 g33 g34 g4 g5
  obtain ⟨H2, hH2⟩ : ∃ H2, keep H [436, 433, 434, 1604, 1605] = H2 := ⟨_, rfl⟩
  rw [hH2] at k36 k33 k34 k4 k5 k7 k08 ⊢
  clear hH2
  have hp0 : ∀ e7 cs, LookC Try.prog 61 [.ptr 436 e36 10 0 0, encHead x, endV best] (upd (upd H2 1607 (some (e7, .arr 8 [List.replicate 8 (.int .i64 0)]))) 1607 (some (e7, .arr 8 cs))) (.int .i64 (pressS n hs out best x)) := fun e7 cs =>
   pressure_look n hF hs h5 (by omega) out ho best x (hnd x hxm) e36 e33 e34 _ ⟨by rw [upd_ne _ _ (by decide), upd_ne _ _ (by decide), k36]; rfl, by rw [upd_ne _ _ (by decide), upd_ne _ _ (by decide), k33]; rfl, ver, by rw [upd_ne _ _ (by decide), upd_ne _ _ (by decide), k34]; rfl⟩ (by rw [upd_ne _ _ (by decide), upd_ne _ _ (by decide), k08])
  simp only [encHead, cHead, endV] at hp0
  by_cases hlt : pressS n hs out best x < x.least
  ·rw [decide_eq_true hlt] at hr
   have hfo : lackF n hs out best hs = some x := hr
   have hcut' := fun (f : Fr) (H : Hp) (h : (f 0 = .ptr 436 e36 10 0 0 ∧ f 3 = .pim [.fn (sgF best) [], .fn (sgF (!best)) []] ∧ f 4 = .ptr 1604 e4 2 0 0 ∧ f 5 = .ptr 1605 e5 2 0 0) ∧ (H 436 = some (e36, .fro 10 [cPlant n hs e33 e34 (n.pipes.length + 1)]) ∧ H 433 = some (e33, .fro 1 (ints (flowL n.pipes (n.pipes.length + 1) hs))) ∧
     H 1604 = some (e4, .arr 2 [[.int .i64 0, .bool false]]) ∧ H 1605 = some (e5, .arr 2 [[.int .i64 x.id, .bool true]]))) => hcut e4 e5 f H ⟨h.1, h.2.1, h.2.2.1, h.2.2.2.1, by rw [hfo]; exact h.2.2.2.2⟩
   clear hcut
   repeat' (first | (with_reducible refine sk ?_; intro K hK) | ((first | (with_reducible first | refine rgL [] [21] (md := { base := 1600, own := [] }) (h := ?_) | refine rgL [4, 5, 7] [21] (md := { base := 1600, own := [] }) (h := ?_) | refine nx ?_) | refine pK (hp0 _ _) ?_ | refine lK (hp0 _ _) ?_); try simp (disch := omega) only [h0, h3, h4, h5', h12, h13, h14, k36, k33, k34, k4, k5, k7, hx, hlt, cHead,go_sem, simprocAttr]) | (with_reducible refine bk ?_) | ((with_reducible refine' cE ?hv ?_ ?_); (case hv => first | rfl | (simp only [h0, h3, h4, h5', h12, h13, h14, k36, k33, k34, k4, k5, k7, hx, hlt, cHead,go_sem, simprocAttr]; rfl)); all_goals (intro hc; (try simp only [go_sem, simprocAttr] at hc); try (exfalso; omega))) | ((with_reducible first | refine grdS_split ?_ ?_ | refine lkG_split ?_ ?_) <;> intro hg <;> (try simp (disch := omega) only [hg, h0, h3, h4, h5', h12, h13, h14, k36, k33, k34, k4, k5, k7, hx, hlt, cHead,go_sem, simprocAttr]) <;> (try simp only [go_sem, simprocAttr] at hg) <;> (try (exfalso; omega))) | with_reducible intro (ep : Nat → Nat) | with_reducible apply_assumption -exfalso -symm only [*])
   exact ⟨by (and_intros <;> first | rfl | (simp only [h0, h3, h4, h5', go_sem, simprocAttr]; done) | (simp only [h0, h3, h4, h5', go_sem, simprocAttr]; rfl)), by (and_intros <;> first | rfl | (simp only [k36, k33, k4, k5, cHead, go_sem, simprocAttr]; done) | (simp only [k36, k33, k4, k5, cHead, go_sem, simprocAttr]; rfl))⟩
  ·rw [decide_eq_false hlt] at hr
   repeat' (first | (with_reducible refine sk ?_; intro K hK) | ((first | (with_reducible first | refine rgL [] [21] (md := { base := 1600, own := [] }) (h := ?_) | refine rgL [4, 5, 7] [21] (md := { base := 1600, own := [] }) (h := ?_) | refine nx ?_) | refine pK (hp0 _ _) ?_ | refine lK (hp0 _ _) ?_); try simp (disch := omega) only [h0, h3, h4, h5', h12, h13, h14, k36, k33, k34, k4, k5, k7, hx, hlt, cHead,go_sem, simprocAttr]) | (with_reducible refine bk ?_) | ((with_reducible refine' cE ?hv ?_ ?_); (case hv => first | rfl | (simp only [h0, h3, h4, h5', h12, h13, h14, k36, k33, k34, k4, k5, k7, hx, hlt, cHead,go_sem, simprocAttr]; rfl)); all_goals (intro hc; (try simp only [go_sem, simprocAttr] at hc); try (exfalso; omega))) | ((with_reducible first | refine grdS_split ?_ ?_ | refine lkG_split ?_ ?_) <;> intro hg <;> (try simp (disch := omega) only [hg, h0, h3, h4, h5', h12, h13, h14, k36, k33, k34, k4, k5, k7, hx, hlt, cHead,go_sem, simprocAttr]) <;> (try simp only [go_sem, simprocAttr] at hg) <;> (try (exfalso; omega))) | with_reducible intro (ep : Nat → Nat) | with_reducible apply_assumption -exfalso -symm only [*])
   exact ⟨e4, e5, by (and_intros <;> first | rfl | (simp only [h0, h3, h4, h5', h12, go_sem, simprocAttr]; done) | (simp only [h0, h3, h4, h5', h12, go_sem, simprocAttr]; rfl)), by (and_intros <;> first | rfl | (simp only [k36, k33, k34, k4, k5, go_sem, simprocAttr]; done) | (simp only [k36, k33, k34, k4, k5, go_sem, simprocAttr]; rfl)), hr⟩
 ·clear h36 h33 h34 hr0 hr1 hr2 hr3
  rintro f H h14 h13 ⟨e4, e5, ⟨h0, h3, h4, h5', h12⟩, ⟨g36, g33, g34, g4, g5⟩, hr⟩
  rw [drop_none (Nat.le_refl _)] at hr
  have hfo : lackF n hs out best hs = none := hr
  refine hcut e4 e5 _ _ ⟨⟨h0, h3, h4, h5'⟩, g36, g33, g4, by rw [hfo]; exact g5⟩
end Cp
namespace Cp
open Go Go.Proofs
set_option maxRecDepth 10000
set_option maxHeartbeats 1000000
theorem without_fro (n : NetT) (hs : List HeadT) (e36 e33 e34 ver : Nat) (out : List Int) (hlo : out.length ≤ 100000) (hp : out.Pairwise (· < ·)) (g : FuncId) (caps : List Val) (H0 : Hp)
  (h36 : H0 436 = some (e36, .fro 10 [cPlant n hs e33 e34 (n.pipes.length + 1)])) (h34 : H0 434 = some (e34, .map ver [])) (R : Hp → Prop)
  (hg : ∀ (ver' : Nat) (H : Hp), (∀ j, ¬ j = 434 → H j = H0 j) → H 434 = some (e34, .map ver' (imap .i64 (offM out))) → ACall Try.prog g caps H fun v H' => v = .tup [] ∧ H' 436 = H 436 ∧ (∃ ver2, H' 434 = some (e34, .map ver2 (imap .i64 (offM out)))) ∧ R H') :
  ACall Try.prog 58 [.ptr 436 e36 10 0 0, .lst 1 (ints out), .fn g caps] H0 fun v H' => v = .tup [] ∧ ∃ H2 ver2, R H2 ∧ (∀ j, ¬ j = 434 → H' j = H2 j) ∧ H' 434 = some (e34, .map ver2 []) := by
 refine ACall_of (fn := Try.f58) tabOK (by kernel_rfl) rfl (by kernel_rfl) (by simp [Try.f58]) ?_
 intro X hX0 hXs
 repeat' (first | ((fail_if_success (with_reducible refine AW_at (id := 0) ?_)); with_reducible refine sk ?_; intro K hK) | ((with_reducible first | refine rg (md := { base := 1400, own := [], imp := [23] }) (h := ?_) | refine nx ?_); try simp (disch := omega) only [go_sem, simprocAttr]) | (with_reducible refine bk ?_) | ((with_reducible refine' cE ?hv ?_ ?_); (case hv => first | rfl | (simp only [go_sem, simprocAttr]; rfl)); all_goals (intro hc; (try simp only [go_sem, simprocAttr] at hc); try (exfalso; omega))) | ((with_reducible refine fe ?_); refine ⟨_, (by simp only [Try.f58, go_sem, simprocAttr]; rfl), ?_⟩; first | rfl | (try simp only [go_sem, simprocAttr, seval])) | with_reducible intro (ep : Nat → Nat) | with_reducible apply_assumption -exfalso -symm only [*])
 have hcut : ∀ f H, (f 0 = .ptr 436 e36 10 0 0 ∧ f 1 = .lst 1 (ints out) ∧ f 2 = .fn g caps) ∧ (∀ j, ¬ j = 434 → H j = H0 j) ∧ (∃ ver', H 434 = some (e34, .map ver' (imap .i64 (offM out)))) → K f H := by
  rintro f H ⟨⟨h0, h1, h2⟩, hlow, ver', hm⟩
  refine hK f H ?_
  clear hK
  have k36 : H 436 = some (e36, .fro 10 [cPlant n hs e33 e34 (n.pipes.length + 1)]) := by rw [hlow _ (by decide), h36]
  repeat' (first | ((fail_if_success (with_reducible refine AW_at (id := 6) ?_)); with_reducible refine sk ?_; intro K hK) | ((first | (with_reducible first | refine rg (md := { base := 1400, own := [], imp := [23] }) (h := ?_) | refine nx ?_) | refine pK (hg ver' H hlow hm) ?_); try simp (disch := omega) only [h0, h1, h2,go_sem, simprocAttr]) | (with_reducible refine bk ?_) | ((with_reducible refine' cE ?hv ?_ ?_); (case hv => first | rfl | (simp only [h0, h1, h2,go_sem, simprocAttr]; rfl)); all_goals (intro hc; (try simp only [go_sem, simprocAttr] at hc); try (exfalso; omega))) | (first | refine iK (hg ver' H hlow hm) ?_) | ((with_reducible refine fe ?_); refine ⟨_, (by simp only [Try.f58, h0, h1, h2,go_sem, simprocAttr]; rfl), ?_⟩; first | rfl | (try simp only [h0, h1, h2,go_sem, simprocAttr, seval])) | with_reducible intro (ep : Nat → Nat) | with_reducible apply_assumption -exfalso -symm only [*])
  rintro v H2 ⟨rfl, k36', ⟨ver2, hm2⟩, hR⟩
  rw [k36] at k36'
  simp only [go_sem, simprocAttr]
  repeat' (first | (with_reducible refine sk ?_; intro K hK) | ((with_reducible first | refine rg (md := { base := 1400, own := [], imp := [23] }) (h := ?_) | refine nx ?_); try simp (disch := omega) only [h0, h1,go_sem, simprocAttr]) | (with_reducible refine bk ?_) | ((with_reducible refine' cE ?hv ?_ ?_); (case hv => first | rfl | (simp only [h0, h1,go_sem, simprocAttr]; rfl)); all_goals (intro hc; (try simp only [go_sem, simprocAttr] at hc); try (exfalso; omega))) | with_reducible intro (ep : Nat → Nat) | with_reducible apply_assumption -exfalso -symm only [*])
  refine AW_range tabOK out.length (fun k f H => (f 0 = .ptr 436 e36 10 0 0 ∧ f 24 = .lst 1 (ints out)) ∧ (∀ j, ¬ j = 434 → H j = H2 j) ∧ ∃ v, H 434 = some (e34, .map v (imap .i64 (offM (out.drop k))))) (by omega) (by rw [hXs]; decide) (by decide) (by (first | rfl | (simp only [go_sem, simprocAttr]; done) | (simp only [go_sem, simprocAttr]; rfl))) (by (first | rfl | (simp only [go_sem, simprocAttr]; done) | (simp only [go_sem, simprocAttr]; rfl)))
   ⟨by (and_intros <;> first | rfl | (simp only [h0, h1, go_sem, simprocAttr]; done) | (simp only [h0, h1, go_sem, simprocAttr]; rfl)), fun j _ => rfl, ver2, by rw [List.drop_zero]; exact hm2⟩ ?_ ?_
  ·clear h0 h1 h2 hm
   rintro k f H3 hk h26 h25 ⟨⟨h0, h24⟩, hlow3, v, hm⟩
   obtain ⟨x, hx⟩ : ∃ x, out[k]? = some x := ⟨_, List.getElem?_eq_getElem hk⟩
   have q36 : H3 436 = some (e36, .fro 10 [cPlant n hs e33 e34 (n.pipes.length + 1)]) := by rw [hlow3 _ (by decide), k36']
   rw [drop_cons hx] at hm
   have hf : findI x (offM (x :: out.drop (k + 1))) 0 = some (0, .bool true) := by simp [offM, findI]
   have he : (imap .i64 (offM (x :: out.drop (k + 1)))).eraseIdx 0 = imap .i64 (offM (out.drop (k + 1))) := by simp [imap, offM]
   repeat' (first | (with_reducible refine sk ?_; intro K hK) | ((with_reducible first | refine rg (md := { base := 1400, own := [], imp := [23] }) (h := ?_) | refine nx ?_); try simp (disch := omega) only [h0, h24, h25, h26, hx, q36, hm, hf, he, cPlant,go_sem, simprocAttr]) | (with_reducible refine bk ?_) | ((with_reducible refine' cE ?hv ?_ ?_); (case hv => first | rfl | (simp only [h0, h24, h25, h26, hx, q36, hm, hf, he, cPlant,go_sem, simprocAttr]; rfl)); all_goals (intro hc; (try simp only [go_sem, simprocAttr] at hc); try (exfalso; omega))) | with_reducible intro (ep : Nat → Nat) | with_reducible apply_assumption -exfalso -symm only [*])
   exact ⟨fun j hj => by rw [if_neg hj]; exact hlow3 j hj, _, rfl⟩
  ·clear h0 h1 h2 hm
   rintro f H3 h26 h25 ⟨⟨h0, h24⟩, hlow3, v, hm⟩
   rw [drop_none (Nat.le_refl _)] at hm
   refine FnQ_end (Or.inr rfl) (.refl _) (by simp only [Try.f58, go_sem, simprocAttr]; rfl) ?_
   exact ⟨rfl, H2, v, hR, hlow3, hm⟩
 clear hK
 repeat' (first | (with_reducible refine sk ?_; intro K hK) | ((with_reducible first | refine rg (md := { base := 1400, own := [], imp := [23] }) (h := ?_) | refine nx ?_); try simp (disch := omega) only [go_sem, simprocAttr]) | (with_reducible refine bk ?_) | ((with_reducible refine' cE ?hv ?_ ?_); (case hv => first | rfl | (simp only [go_sem, simprocAttr]; rfl)); all_goals (intro hc; (try simp only [go_sem, simprocAttr] at hc); try (exfalso; omega))) | with_reducible intro (ep : Nat → Nat) | with_reducible apply_assumption -exfalso -symm only [*])
 refine AW_range tabOK out.length (fun k f H => (f 0 = .ptr 436 e36 10 0 0 ∧ f 1 = .lst 1 (ints out) ∧ f 2 = .fn g caps ∧ f 10 = .lst 1 (ints out)) ∧ (∀ j, ¬ j = 434 → H j = H0 j) ∧ ∃ v, H 434 = some (e34, .map v (imap .i64 (offM (out.take k))))) (by omega) (by rw [hXs]; decide) (by decide) (by (first | rfl | (simp only [go_sem, simprocAttr]; done) | (simp only [go_sem, simprocAttr]; rfl))) (by (first | rfl | (simp only [go_sem, simprocAttr]; done) | (simp only [go_sem, simprocAttr]; rfl)))
  ⟨by (and_intros <;> first | rfl | (simp only [go_sem, simprocAttr]; done) | (simp only [go_sem, simprocAttr]; rfl)), fun j _ => rfl, ver, by rw [List.take_zero]; exact h34⟩ ?_ ?_
 ·clear hcut
  rintro k f H3 hk h12 h11 ⟨⟨h0, h1, h2, h10⟩, hlow3, v, hm⟩
  obtain ⟨x, hx⟩ : ∃ x, out[k]? = some x := ⟨_, List.getElem?_eq_getElem hk⟩
  have q36 : H3 436 = some (e36, .fro 10 [cPlant n hs e33 e34 (n.pipes.length + 1)]) := by rw [hlow3 _ (by decide), h36]
  have hf : findI x (offM (out.take k)) 0 = none := findI_end (v := .any) fun p hq => by
   obtain ⟨y, hy, rfl⟩ := List.mem_map.1 hq
   obtain ⟨i, hi⟩ := List.mem_iff_getElem?.1 hy
   have hik : i < k := by have := (List.getElem?_eq_some_iff.1 hi).1; simp at this; omega
   rw [List.getElem?_take_of_lt hik] at hi
   obtain ⟨z1, rfl⟩ := List.getElem?_eq_some_iff.1 hi
   obtain ⟨z2, rfl⟩ := List.getElem?_eq_some_iff.1 hx
   have := List.pairwise_iff_getElem.1 hp i k z1 z2 hik
   simp only; omega
  repeat' (first | (with_reducible refine sk ?_; intro K hK) | ((with_reducible first | refine rg (md := { base := 1400, own := [], imp := [23] }) (h := ?_) | refine nx ?_); try simp (disch := omega) only [h0, h1, h2, h10, h11, h12, hx, q36, hm, hf, cPlant,go_sem, simprocAttr]) | (with_reducible refine bk ?_) | ((with_reducible refine' cE ?hv ?_ ?_); (case hv => first | rfl | (simp only [h0, h1, h2, h10, h11, h12, hx, q36, hm, hf, cPlant,go_sem, simprocAttr]; rfl)); all_goals (intro hc; (try simp only [go_sem, simprocAttr] at hc); try (exfalso; omega))) | with_reducible intro (ep : Nat → Nat) | with_reducible apply_assumption -exfalso -symm only [*])
  exact ⟨fun j hj => by rw [if_neg hj]; exact hlow3 j hj, _, by rw [offM_snoc, take_snoc' hx]⟩
 ·rintro f H3 h12 h11 ⟨⟨h0, h1, h2, h10⟩, hlow3, v, hm⟩
  rw [List.take_of_length_le (Nat.le_refl _)] at hm
  repeat' (first | (with_reducible refine sk ?_; intro K hK) | ((with_reducible first | refine rg (md := { base := 1400, own := [], imp := [23] }) (h := ?_) | refine nx ?_); try simp (disch := omega) only [h0, h1, h2,go_sem, simprocAttr]) | (with_reducible refine bk ?_) | ((with_reducible refine' cE ?hv ?_ ?_); (case hv => first | rfl | (simp only [h0, h1, h2,go_sem, simprocAttr]; rfl)); all_goals (intro hc; (try simp only [go_sem, simprocAttr] at hc); try (exfalso; omega))) | with_reducible intro (ep : Nat → Nat) | with_reducible apply_assumption -exfalso -symm only [*])
  exact ⟨by (and_intros <;> first | rfl | (simp only [h0, h1, h2, go_sem, simprocAttr]; done) | (simp only [h0, h1, h2, go_sem, simprocAttr]; rfl)), hlow3, v, hm⟩
end Cp
namespace Cp
open Go Go.Proofs
set_option maxRecDepth 10000
set_option maxHeartbeats 1000000
theorem xf155 {a : Int} {b : Bool} : xfield tab 155 (.agg [.int .i64 a, .bool b]) 1 = some (.bool b) := by rfl
def getStep (n : NetT) (hs : List HeadT) (s : LackT × Bool) (out : List Int) : LackT × Bool :=
 (if (lackS n hs out false).2 = true ∧ s.1.known = 2 then ⟨0, (lackS n hs out false).1, out⟩ else s.1, s.2 || !(lackS n hs out true).2)
def cTold (t : LackT) : List Val := [.int .u8 t.known, .int .i64 t.head, if t.known = 2 then .nils else .lst 1 (ints t.out)]
theorem gets1_ok (n : NetT) (hF : NetF n) (hs : List HeadT) (h5 : heads500 hs) (hsl : hs.length ≤ 12) (hnd : ∀ h ∈ hs, 1 ≤ h.node ∧ h.node ≤ n.pipes.length) (out : List Int) (ho : outOK n out = true) (e36 e33 e34 ver e3 e4 e5 e6 : Nat) (t : LackT) (ht : t.known = 0 ∨ t.known = 2) (g : Bool) (H0 : Hp)
  (g36 : H0 436 = some (e36, .fro 10 [cPlant n hs e33 e34 (n.pipes.length + 1)])) (g33 : H0 433 = some (e33, .arr 1 (ints (flowL n.pipes (n.pipes.length + 1) hs)))) (g34 : H0 434 = some (e34, .map ver (imap .i64 (offM out))))
  (g3 : H0 603 = some (e3, .arr 3 [cTold t])) (g4 : H0 604 = some (e4, .arr 1 [[.bool g]])) (g5 : H0 605 = some (e5, .arr 4 [[.fn (sgF false) [], .fn (sgF true) [], .fn (sgF true) [], .fn (sgF false) []]])) (g6 : H0 606 = some (e6, .arr 1 [[.lst 1 (ints out)]]))
  (hroom : H0 1208 = none ∧ H0 1604 = none ∧ H0 1605 = none ∧ H0 1607 = none) :
  ACall Try.prog 95 [.pim [.ptr 436 e36 10 0 0], .ptr 605 e5 4 0 0, .ptr 603 e3 3 0 0, .ptr 606 e6 1 0 0, .ptr 604 e4 1 0 0] H0 fun v H' => v = .tup [] ∧ (∀ j, ¬ j = 603 → ¬ j = 604 → ¬ j = 1705 → H' j = H0 j) ∧
   H' 603 = some (e3, .arr 3 [cTold (getStep n hs (t, g) out).1]) ∧ H' 604 = some (e4, .arr 1 [[.bool (getStep n hs (t, g) out).2]]) := by
 refine ACall_of (fn := Try.f95) tabOK (by kernel_rfl) rfl (by kernel_rfl) (by simp [Try.f95]) ?_
 intro X hX0 hXs
 refine AW_lose 1705 fun H1 w5 hs1 => ?_
 obtain ⟨r0, r1, r2, r3⟩ := hroom
 have k36 := (hs1 436 (by decide)).trans g36
 have k33 := (hs1 433 (by decide)).trans g33
 have k34 := (hs1 434 (by decide)).trans g34
 have k3 := (hs1 603 (by decide)).trans g3
 have k4 := (hs1 604 (by decide)).trans g4
 have k5 := (hs1 605 (by decide)).trans g5
 have k6 := (hs1 606 (by decide)).trans g6
 have lk : ∀ (best : Bool) (H : Hp), (∀ j, ¬ j = 603 → ¬ j = 604 → ¬ j = 1705 → H j = H0 j) → LookC Try.prog 96 [.ptr 436 e36 10 0 0, endV best] H (.agg (cLk (lackS n hs out best))) := fun best H h =>
  lacks_look n hF hs h5 hsl hnd out ho best e36 e33 e34 H ⟨by rw [h _ (by decide) (by decide) (by decide), g36]; rfl, by rw [h _ (by decide) (by decide) (by decide), g33]; rfl, ver, by rw [h _ (by decide) (by decide) (by decide), g34]; rfl⟩
   ⟨by rw [h _ (by decide) (by decide) (by decide), r0], by rw [h _ (by decide) (by decide) (by decide), r1], by rw [h _ (by decide) (by decide) (by decide), r2], by rw [h _ (by decide) (by decide) (by decide), r3]⟩
 have hsame : ∀ j, ¬ j = 603 → ¬ j = 604 → ¬ j = 1705 → H1 j = H0 j := fun j _ _ h => hs1 j h
 simp only [getStep]
 obtain ⟨⟨i0, b0⟩, hl0⟩ : ∃ p, lackS n hs out false = p := ⟨_, rfl⟩
 obtain ⟨⟨i1, b1⟩, hl1⟩ : ∃ p, lackS n hs out true = p := ⟨_, rfl⟩
 have l0 := lk false H1 hsame
 have l1 := lk true
 rw [hl0] at l0 ⊢
 rw [hl1] at l1 ⊢
 simp only [endV, cLk, Bool.not_false, Bool.not_true] at l0 l1
 clear lk hs1 g36 g33 g34 g3 g4 g5 g6 r0 r1 r2 r3
 simp only [cTold] at k3 ⊢
 cases b0 <;> cases b1 <;> cases g <;> rcases ht with ht | ht <;> simp only [ht] at k3
 ·repeat' (first | (with_reducible refine sk ?_; intro K hK) | ((first | (with_reducible first | refine rgL [] [9, 26] (md := { base := 1700, own := [] }) (h := ?_) | refine rgL [5] [9, 26] (md := { base := 1700, own := [] }) (h := ?_) | refine nx ?_) | refine pK (l0) ?_ | refine pK (l1 _ (fun j q1 q2 q3 => by simp only [upd_ne _ _ q1, upd_ne _ _ q2, upd_ne _ _ q3]; exact hsame j q1 q2 q3)) ?_ | refine lK (l0) ?_ | refine lK (l1 _ (fun j q1 q2 q3 => by simp only [upd_ne _ _ q1, upd_ne _ _ q2, upd_ne _ _ q3]; exact hsame j q1 q2 q3)) ?_); try simp (disch := omega) only [k36, k3, k4, k5, k6, w5, ht, xf155,go_sem, simprocAttr]) | (with_reducible refine bk ?_) | ((with_reducible refine' cE ?hv ?_ ?_); (case hv => first | rfl | (simp only [k36, k3, k4, k5, k6, w5, ht, xf155,go_sem, simprocAttr]; rfl)); all_goals (intro hc; (try simp only [go_sem, simprocAttr] at hc); try (exfalso; omega))) | ((with_reducible first | refine grdS_split ?_ ?_ | refine lkG_split ?_ ?_) <;> intro hg <;> (try simp (disch := omega) only [hg, k36, k3, k4, k5, k6, w5, ht, xf155,go_sem, simprocAttr]) <;> (try simp only [go_sem, simprocAttr] at hg) <;> (try (exfalso; omega))) | with_reducible intro (ep : Nat → Nat) | with_reducible apply_assumption -exfalso -symm only [*])
  refine FnQ_end (Or.inr rfl) (.refl _) (by simp only [Try.f95, go_sem, simprocAttr]; rfl) ?_
  exact ⟨rfl, fun j q1 q2 q3 => by simp only [upd_ne _ _ q1, upd_ne _ _ q2, upd_ne _ _ q3]; exact hsame j q1 q2 q3, by (first | rfl | (simp only [k3, ht, go_sem, simprocAttr]; done) | (simp only [k3, ht, go_sem, simprocAttr]; rfl)), by (first | rfl | (simp only [k4, go_sem, simprocAttr]; done) | (simp only [k4, go_sem, simprocAttr]; rfl))⟩
 ·repeat' (first | (with_reducible refine sk ?_; intro K hK) | ((first | (with_reducible first | refine rgL [] [9, 26] (md := { base := 1700, own := [] }) (h := ?_) | refine rgL [5] [9, 26] (md := { base := 1700, own := [] }) (h := ?_) | refine nx ?_) | refine pK (l0) ?_ | refine pK (l1 _ (fun j q1 q2 q3 => by simp only [upd_ne _ _ q1, upd_ne _ _ q2, upd_ne _ _ q3]; exact hsame j q1 q2 q3)) ?_ | refine lK (l0) ?_ | refine lK (l1 _ (fun j q1 q2 q3 => by simp only [upd_ne _ _ q1, upd_ne _ _ q2, upd_ne _ _ q3]; exact hsame j q1 q2 q3)) ?_); try simp (disch := omega) only [k36, k3, k4, k5, k6, w5, ht, xf155,go_sem, simprocAttr]) | (with_reducible refine bk ?_) | ((with_reducible refine' cE ?hv ?_ ?_); (case hv => first | rfl | (simp only [k36, k3, k4, k5, k6, w5, ht, xf155,go_sem, simprocAttr]; rfl)); all_goals (intro hc; (try simp only [go_sem, simprocAttr] at hc); try (exfalso; omega))) | ((with_reducible first | refine grdS_split ?_ ?_ | refine lkG_split ?_ ?_) <;> intro hg <;> (try simp (disch := omega) only [hg, k36, k3, k4, k5, k6, w5, ht, xf155,go_sem, simprocAttr]) <;> (try simp only [go_sem, simprocAttr] at hg) <;> (try (exfalso; omega))) | with_reducible intro (ep : Nat → Nat) | with_reducible apply_assumption -exfalso -symm only [*])
  refine FnQ_end (Or.inr rfl) (.refl _) (by simp only [Try.f95, go_sem, simprocAttr]; rfl) ?_
  exact ⟨rfl, fun j q1 q2 q3 => by simp only [upd_ne _ _ q1, upd_ne _ _ q2, upd_ne _ _ q3]; exact hsame j q1 q2 q3, by (first | rfl | (simp only [k3, ht, go_sem, simprocAttr]; done) | (simp only [k3, ht, go_sem, simprocAttr]; rfl)), by (first | rfl | (simp only [k4, go_sem, simprocAttr]; done) | (simp only [k4, go_sem, simprocAttr]; rfl))⟩
 ·repeat' (first | (with_reducible refine sk ?_; intro K hK) | ((first | (with_reducible first | refine rgL [] [9, 26] (md := { base := 1700, own := [] }) (h := ?_) | refine rgL [5] [9, 26] (md := { base := 1700, own := [] }) (h := ?_) | refine nx ?_) | refine pK (l0) ?_ | refine pK (l1 _ (fun j q1 q2 q3 => by simp only [upd_ne _ _ q1, upd_ne _ _ q2, upd_ne _ _ q3]; exact hsame j q1 q2 q3)) ?_ | refine lK (l0) ?_ | refine lK (l1 _ (fun j q1 q2 q3 => by simp only [upd_ne _ _ q1, upd_ne _ _ q2, upd_ne _ _ q3]; exact hsame j q1 q2 q3)) ?_); try simp (disch := omega) only [k36, k3, k4, k5, k6, w5, ht, xf155,go_sem, simprocAttr]) | (with_reducible refine bk ?_) | ((with_reducible refine' cE ?hv ?_ ?_); (case hv => first | rfl | (simp only [k36, k3, k4, k5, k6, w5, ht, xf155,go_sem, simprocAttr]; rfl)); all_goals (intro hc; (try simp only [go_sem, simprocAttr] at hc); try (exfalso; omega))) | ((with_reducible first | refine grdS_split ?_ ?_ | refine lkG_split ?_ ?_) <;> intro hg <;> (try simp (disch := omega) only [hg, k36, k3, k4, k5, k6, w5, ht, xf155,go_sem, simprocAttr]) <;> (try simp only [go_sem, simprocAttr] at hg) <;> (try (exfalso; omega))) | with_reducible intro (ep : Nat → Nat) | with_reducible apply_assumption -exfalso -symm only [*])
  refine FnQ_end (Or.inr rfl) (.refl _) (by simp only [Try.f95, go_sem, simprocAttr]; rfl) ?_
  exact ⟨rfl, fun j q1 q2 q3 => by simp only [upd_ne _ _ q1, upd_ne _ _ q2, upd_ne _ _ q3]; exact hsame j q1 q2 q3, by (first | rfl | (simp only [k3, ht, go_sem, simprocAttr]; done) | (simp only [k3, ht, go_sem, simprocAttr]; rfl)), by (first | rfl | (simp only [k4, go_sem, simprocAttr]; done) | (simp only [k4, go_sem, simprocAttr]; rfl))⟩
 ·repeat' (first | (with_reducible refine sk ?_; intro K hK) | ((first | (with_reducible first | refine rgL [] [9, 26] (md := { base := 1700, own := [] }) (h := ?_) | refine rgL [5] [9, 26] (md := { base := 1700, own := [] }) (h := ?_) | refine nx ?_) | refine pK (l0) ?_ | refine pK (l1 _ (fun j q1 q2 q3 => by simp only [upd_ne _ _ q1, upd_ne _ _ q2, upd_ne _ _ q3]; exact hsame j q1 q2 q3)) ?_ | refine lK (l0) ?_ | refine lK (l1 _ (fun j q1 q2 q3 => by simp only [upd_ne _ _ q1, upd_ne _ _ q2, upd_ne _ _ q3]; exact hsame j q1 q2 q3)) ?_); try simp (disch := omega) only [k36, k3, k4, k5, k6, w5, ht, xf155,go_sem, simprocAttr]) | (with_reducible refine bk ?_) | ((with_reducible refine' cE ?hv ?_ ?_); (case hv => first | rfl | (simp only [k36, k3, k4, k5, k6, w5, ht, xf155,go_sem, simprocAttr]; rfl)); all_goals (intro hc; (try simp only [go_sem, simprocAttr] at hc); try (exfalso; omega))) | ((with_reducible first | refine grdS_split ?_ ?_ | refine lkG_split ?_ ?_) <;> intro hg <;> (try simp (disch := omega) only [hg, k36, k3, k4, k5, k6, w5, ht, xf155,go_sem, simprocAttr]) <;> (try simp only [go_sem, simprocAttr] at hg) <;> (try (exfalso; omega))) | with_reducible intro (ep : Nat → Nat) | with_reducible apply_assumption -exfalso -symm only [*])
  refine FnQ_end (Or.inr rfl) (.refl _) (by simp only [Try.f95, go_sem, simprocAttr]; rfl) ?_
  exact ⟨rfl, fun j q1 q2 q3 => by simp only [upd_ne _ _ q1, upd_ne _ _ q2, upd_ne _ _ q3]; exact hsame j q1 q2 q3, by (first | rfl | (simp only [k3, ht, go_sem, simprocAttr]; done) | (simp only [k3, ht, go_sem, simprocAttr]; rfl)), by (first | rfl | (simp only [k4, go_sem, simprocAttr]; done) | (simp only [k4, go_sem, simprocAttr]; rfl))⟩
 ·repeat' (first | (with_reducible refine sk ?_; intro K hK) | ((first | (with_reducible first | refine rgL [] [9, 26] (md := { base := 1700, own := [] }) (h := ?_) | refine rgL [5] [9, 26] (md := { base := 1700, own := [] }) (h := ?_) | refine nx ?_) | refine pK (l0) ?_ | refine pK (l1 _ (fun j q1 q2 q3 => by simp only [upd_ne _ _ q1, upd_ne _ _ q2, upd_ne _ _ q3]; exact hsame j q1 q2 q3)) ?_ | refine lK (l0) ?_ | refine lK (l1 _ (fun j q1 q2 q3 => by simp only [upd_ne _ _ q1, upd_ne _ _ q2, upd_ne _ _ q3]; exact hsame j q1 q2 q3)) ?_); try simp (disch := omega) only [k36, k3, k4, k5, k6, w5, ht, xf155,go_sem, simprocAttr]) | (with_reducible refine bk ?_) | ((with_reducible refine' cE ?hv ?_ ?_); (case hv => first | rfl | (simp only [k36, k3, k4, k5, k6, w5, ht, xf155,go_sem, simprocAttr]; rfl)); all_goals (intro hc; (try simp only [go_sem, simprocAttr] at hc); try (exfalso; omega))) | ((with_reducible first | refine grdS_split ?_ ?_ | refine lkG_split ?_ ?_) <;> intro hg <;> (try simp (disch := omega) only [hg, k36, k3, k4, k5, k6, w5, ht, xf155,go_sem, simprocAttr]) <;> (try simp only [go_sem, simprocAttr] at hg) <;> (try (exfalso; omega))) | with_reducible intro (ep : Nat → Nat) | with_reducible apply_assumption -exfalso -symm only [*])
  refine FnQ_end (Or.inr rfl) (.refl _) (by simp only [Try.f95, go_sem, simprocAttr]; rfl) ?_
  exact ⟨rfl, fun j q1 q2 q3 => by simp only [upd_ne _ _ q1, upd_ne _ _ q2, upd_ne _ _ q3]; exact hsame j q1 q2 q3, by (first | rfl | (simp only [k3, ht, go_sem, simprocAttr]; done) | (simp only [k3, ht, go_sem, simprocAttr]; rfl)), by (first | rfl | (simp only [k4, go_sem, simprocAttr]; done) | (simp only [k4, go_sem, simprocAttr]; rfl))⟩
 ·repeat' (first | (with_reducible refine sk ?_; intro K hK) | ((first | (with_reducible first | refine rgL [] [9, 26] (md := { base := 1700, own := [] }) (h := ?_) | refine rgL [5] [9, 26] (md := { base := 1700, own := [] }) (h := ?_) | refine nx ?_) | refine pK (l0) ?_ | refine pK (l1 _ (fun j q1 q2 q3 => by simp only [upd_ne _ _ q1, upd_ne _ _ q2, upd_ne _ _ q3]; exact hsame j q1 q2 q3)) ?_ | refine lK (l0) ?_ | refine lK (l1 _ (fun j q1 q2 q3 => by simp only [upd_ne _ _ q1, upd_ne _ _ q2, upd_ne _ _ q3]; exact hsame j q1 q2 q3)) ?_); try simp (disch := omega) only [k36, k3, k4, k5, k6, w5, ht, xf155,go_sem, simprocAttr]) | (with_reducible refine bk ?_) | ((with_reducible refine' cE ?hv ?_ ?_); (case hv => first | rfl | (simp only [k36, k3, k4, k5, k6, w5, ht, xf155,go_sem, simprocAttr]; rfl)); all_goals (intro hc; (try simp only [go_sem, simprocAttr] at hc); try (exfalso; omega))) | ((with_reducible first | refine grdS_split ?_ ?_ | refine lkG_split ?_ ?_) <;> intro hg <;> (try simp (disch := omega) only [hg, k36, k3, k4, k5, k6, w5, ht, xf155,go_sem, simprocAttr]) <;> (try simp only [go_sem, simprocAttr] at hg) <;> (try (exfalso; omega))) | with_reducible intro (ep : Nat → Nat) | with_reducible apply_assumption -exfalso -symm only [*])
  refine FnQ_end (Or.inr rfl) (.refl _) (by simp only [Try.f95, go_sem, simprocAttr]; rfl) ?_
  exact ⟨rfl, fun j q1 q2 q3 => by simp only [upd_ne _ _ q1, upd_ne _ _ q2, upd_ne _ _ q3]; exact hsame j q1 q2 q3, by (first | rfl | (simp only [k3, ht, go_sem, simprocAttr]; done) | (simp only [k3, ht, go_sem, simprocAttr]; rfl)), by (first | rfl | (simp only [k4, go_sem, simprocAttr]; done) | (simp only [k4, go_sem, simprocAttr]; rfl))⟩
 ·repeat' (first | (with_reducible refine sk ?_; intro K hK) | ((first | (with_reducible first | refine rgL [] [9, 26] (md := { base := 1700, own := [] }) (h := ?_) | refine rgL [5] [9, 26] (md := { base := 1700, own := [] }) (h := ?_) | refine nx ?_) | refine pK (l0) ?_ | refine pK (l1 _ (fun j q1 q2 q3 => by simp only [upd_ne _ _ q1, upd_ne _ _ q2, upd_ne _ _ q3]; exact hsame j q1 q2 q3)) ?_ | refine lK (l0) ?_ | refine lK (l1 _ (fun j q1 q2 q3 => by simp only [upd_ne _ _ q1, upd_ne _ _ q2, upd_ne _ _ q3]; exact hsame j q1 q2 q3)) ?_); try simp (disch := omega) only [k36, k3, k4, k5, k6, w5, ht, xf155,go_sem, simprocAttr]) | (with_reducible refine bk ?_) | ((with_reducible refine' cE ?hv ?_ ?_); (case hv => first | rfl | (simp only [k36, k3, k4, k5, k6, w5, ht, xf155,go_sem, simprocAttr]; rfl)); all_goals (intro hc; (try simp only [go_sem, simprocAttr] at hc); try (exfalso; omega))) | ((with_reducible first | refine grdS_split ?_ ?_ | refine lkG_split ?_ ?_) <;> intro hg <;> (try simp (disch := omega) only [hg, k36, k3, k4, k5, k6, w5, ht, xf155,go_sem, simprocAttr]) <;> (try simp only [go_sem, simprocAttr] at hg) <;> (try (exfalso; omega))) | with_reducible intro (ep : Nat → Nat) | with_reducible apply_assumption -exfalso -symm only [*])
  refine FnQ_end (Or.inr rfl) (.refl _) (by simp only [Try.f95, go_sem, simprocAttr]; rfl) ?_
  exact ⟨rfl, fun j q1 q2 q3 => by simp only [upd_ne _ _ q1, upd_ne _ _ q2, upd_ne _ _ q3]; exact hsame j q1 q2 q3, by (first | rfl | (simp only [k3, ht, go_sem, simprocAttr]; done) | (simp only [k3, ht, go_sem, simprocAttr]; rfl)), by (first | rfl | (simp only [k4, go_sem, simprocAttr]; done) | (simp only [k4, go_sem, simprocAttr]; rfl))⟩
 ·repeat' (first | (with_reducible refine sk ?_; intro K hK) | ((first | (with_reducible first | refine rgL [] [9, 26] (md := { base := 1700, own := [] }) (h := ?_) | refine rgL [5] [9, 26] (md := { base := 1700, own := [] }) (h := ?_) | refine nx ?_) | refine pK (l0) ?_ | refine pK (l1 _ (fun j q1 q2 q3 => by simp only [upd_ne _ _ q1, upd_ne _ _ q2, upd_ne _ _ q3]; exact hsame j q1 q2 q3)) ?_ | refine lK (l0) ?_ | refine lK (l1 _ (fun j q1 q2 q3 => by simp only [upd_ne _ _ q1, upd_ne _ _ q2, upd_ne _ _ q3]; exact hsame j q1 q2 q3)) ?_); try simp (disch := omega) only [k36, k3, k4, k5, k6, w5, ht, xf155,go_sem, simprocAttr]) | (with_reducible refine bk ?_) | ((with_reducible refine' cE ?hv ?_ ?_); (case hv => first | rfl | (simp only [k36, k3, k4, k5, k6, w5, ht, xf155,go_sem, simprocAttr]; rfl)); all_goals (intro hc; (try simp only [go_sem, simprocAttr] at hc); try (exfalso; omega))) | ((with_reducible first | refine grdS_split ?_ ?_ | refine lkG_split ?_ ?_) <;> intro hg <;> (try simp (disch := omega) only [hg, k36, k3, k4, k5, k6, w5, ht, xf155,go_sem, simprocAttr]) <;> (try simp only [go_sem, simprocAttr] at hg) <;> (try (exfalso; omega))) | with_reducible intro (ep : Nat → Nat) | with_reducible apply_assumption -exfalso -symm only [*])
  refine FnQ_end (Or.inr rfl) (.refl _) (by simp only [Try.f95, go_sem, simprocAttr]; rfl) ?_
  exact ⟨rfl, fun j q1 q2 q3 => by simp only [upd_ne _ _ q1, upd_ne _ _ q2, upd_ne _ _ q3]; exact hsame j q1 q2 q3, by (first | rfl | (simp only [k3, ht, go_sem, simprocAttr]; done) | (simp only [k3, ht, go_sem, simprocAttr]; rfl)), by (first | rfl | (simp only [k4, go_sem, simprocAttr]; done) | (simp only [k4, go_sem, simprocAttr]; rfl))⟩
 ·repeat' (first | (with_reducible refine sk ?_; intro K hK) | ((first | (with_reducible first | refine rgL [] [9, 26] (md := { base := 1700, own := [] }) (h := ?_) | refine rgL [5] [9, 26] (md := { base := 1700, own := [] }) (h := ?_) | refine nx ?_) | refine pK (l0) ?_ | refine pK (l1 _ (fun j q1 q2 q3 => by simp only [upd_ne _ _ q1, upd_ne _ _ q2, upd_ne _ _ q3]; exact hsame j q1 q2 q3)) ?_ | refine lK (l0) ?_ | refine lK (l1 _ (fun j q1 q2 q3 => by simp only [upd_ne _ _ q1, upd_ne _ _ q2, upd_ne _ _ q3]; exact hsame j q1 q2 q3)) ?_); try simp (disch := omega) only [k36, k3, k4, k5, k6, w5, ht, xf155,go_sem, simprocAttr]) | (with_reducible refine bk ?_) | ((with_reducible refine' cE ?hv ?_ ?_); (case hv => first | rfl | (simp only [k36, k3, k4, k5, k6, w5, ht, xf155,go_sem, simprocAttr]; rfl)); all_goals (intro hc; (try simp only [go_sem, simprocAttr] at hc); try (exfalso; omega))) | ((with_reducible first | refine grdS_split ?_ ?_ | refine lkG_split ?_ ?_) <;> intro hg <;> (try simp (disch := omega) only [hg, k36, k3, k4, k5, k6, w5, ht, xf155,go_sem, simprocAttr]) <;> (try simp only [go_sem, simprocAttr] at hg) <;> (try (exfalso; omega))) | with_reducible intro (ep : Nat → Nat) | with_reducible apply_assumption -exfalso -symm only [*])
  refine FnQ_end (Or.inr rfl) (.refl _) (by simp only [Try.f95, go_sem, simprocAttr]; rfl) ?_
  exact ⟨rfl, fun j q1 q2 q3 => by simp only [upd_ne _ _ q1, upd_ne _ _ q2, upd_ne _ _ q3]; exact hsame j q1 q2 q3, by (first | rfl | (simp only [k3, ht, go_sem, simprocAttr]; done) | (simp only [k3, ht, go_sem, simprocAttr]; rfl)), by (first | rfl | (simp only [k4, go_sem, simprocAttr]; done) | (simp only [k4, go_sem, simprocAttr]; rfl))⟩
 ·repeat' (first | (with_reducible refine sk ?_; intro K hK) | ((first | (with_reducible first | refine rgL [] [9, 26] (md := { base := 1700, own := [] }) (h := ?_) | refine rgL [5] [9, 26] (md := { base := 1700, own := [] }) (h := ?_) | refine nx ?_) | refine pK (l0) ?_ | refine pK (l1 _ (fun j q1 q2 q3 => by simp only [upd_ne _ _ q1, upd_ne _ _ q2, upd_ne _ _ q3]; exact hsame j q1 q2 q3)) ?_ | refine lK (l0) ?_ | refine lK (l1 _ (fun j q1 q2 q3 => by simp only [upd_ne _ _ q1, upd_ne _ _ q2, upd_ne _ _ q3]; exact hsame j q1 q2 q3)) ?_); try simp (disch := omega) only [k36, k3, k4, k5, k6, w5, ht, xf155,go_sem, simprocAttr]) | (with_reducible refine bk ?_) | ((with_reducible refine' cE ?hv ?_ ?_); (case hv => first | rfl | (simp only [k36, k3, k4, k5, k6, w5, ht, xf155,go_sem, simprocAttr]; rfl)); all_goals (intro hc; (try simp only [go_sem, simprocAttr] at hc); try (exfalso; omega))) | ((with_reducible first | refine grdS_split ?_ ?_ | refine lkG_split ?_ ?_) <;> intro hg <;> (try simp (disch := omega) only [hg, k36, k3, k4, k5, k6, w5, ht, xf155,go_sem, simprocAttr]) <;> (try simp only [go_sem, simprocAttr] at hg) <;> (try (exfalso; omega))) | with_reducible intro (ep : Nat → Nat) | with_reducible apply_assumption -exfalso -symm only [*])
  refine FnQ_end (Or.inr rfl) (.refl _) (by simp only [Try.f95, go_sem, simprocAttr]; rfl) ?_
  exact ⟨rfl, fun j q1 q2 q3 => by simp only [upd_ne _ _ q1, upd_ne _ _ q2, upd_ne _ _ q3]; exact hsame j q1 q2 q3, by (first | rfl | (simp only [k3, ht, go_sem, simprocAttr]; done) | (simp only [k3, ht, go_sem, simprocAttr]; rfl)), by (first | rfl | (simp only [k4, go_sem, simprocAttr]; done) | (simp only [k4, go_sem, simprocAttr]; rfl))⟩
 ·repeat' (first | (with_reducible refine sk ?_; intro K hK) | ((first | (with_reducible first | refine rgL [] [9, 26] (md := { base := 1700, own := [] }) (h := ?_) | refine rgL [5] [9, 26] (md := { base := 1700, own := [] }) (h := ?_) | refine nx ?_) | refine pK (l0) ?_ | refine pK (l1 _ (fun j q1 q2 q3 => by simp only [upd_ne _ _ q1, upd_ne _ _ q2, upd_ne _ _ q3]; exact hsame j q1 q2 q3)) ?_ | refine lK (l0) ?_ | refine lK (l1 _ (fun j q1 q2 q3 => by simp only [upd_ne _ _ q1, upd_ne _ _ q2, upd_ne _ _ q3]; exact hsame j q1 q2 q3)) ?_); try simp (disch := omega) only [k36, k3, k4, k5, k6, w5, ht, xf155,go_sem, simprocAttr]) | (with_reducible refine bk ?_) | ((with_reducible refine' cE ?hv ?_ ?_); (case hv => first | rfl | (simp only [k36, k3, k4, k5, k6, w5, ht, xf155,go_sem, simprocAttr]; rfl)); all_goals (intro hc; (try simp only [go_sem, simprocAttr] at hc); try (exfalso; omega))) | ((with_reducible first | refine grdS_split ?_ ?_ | refine lkG_split ?_ ?_) <;> intro hg <;> (try simp (disch := omega) only [hg, k36, k3, k4, k5, k6, w5, ht, xf155,go_sem, simprocAttr]) <;> (try simp only [go_sem, simprocAttr] at hg) <;> (try (exfalso; omega))) | with_reducible intro (ep : Nat → Nat) | with_reducible apply_assumption -exfalso -symm only [*])
  refine FnQ_end (Or.inr rfl) (.refl _) (by simp only [Try.f95, go_sem, simprocAttr]; rfl) ?_
  exact ⟨rfl, fun j q1 q2 q3 => by simp only [upd_ne _ _ q1, upd_ne _ _ q2, upd_ne _ _ q3]; exact hsame j q1 q2 q3, by (first | rfl | (simp only [k3, ht, go_sem, simprocAttr]; done) | (simp only [k3, ht, go_sem, simprocAttr]; rfl)), by (first | rfl | (simp only [k4, go_sem, simprocAttr]; done) | (simp only [k4, go_sem, simprocAttr]; rfl))⟩
 ·repeat' (first | (with_reducible refine sk ?_; intro K hK) | ((first | (with_reducible first | refine rgL [] [9, 26] (md := { base := 1700, own := [] }) (h := ?_) | refine rgL [5] [9, 26] (md := { base := 1700, own := [] }) (h := ?_) | refine nx ?_) | refine pK (l0) ?_ | refine pK (l1 _ (fun j q1 q2 q3 => by simp only [upd_ne _ _ q1, upd_ne _ _ q2, upd_ne _ _ q3]; exact hsame j q1 q2 q3)) ?_ | refine lK (l0) ?_ | refine lK (l1 _ (fun j q1 q2 q3 => by simp only [upd_ne _ _ q1, upd_ne _ _ q2, upd_ne _ _ q3]; exact hsame j q1 q2 q3)) ?_); try simp (disch := omega) only [k36, k3, k4, k5, k6, w5, ht, xf155,go_sem, simprocAttr]) | (with_reducible refine bk ?_) | ((with_reducible refine' cE ?hv ?_ ?_); (case hv => first | rfl | (simp only [k36, k3, k4, k5, k6, w5, ht, xf155,go_sem, simprocAttr]; rfl)); all_goals (intro hc; (try simp only [go_sem, simprocAttr] at hc); try (exfalso; omega))) | ((with_reducible first | refine grdS_split ?_ ?_ | refine lkG_split ?_ ?_) <;> intro hg <;> (try simp (disch := omega) only [hg, k36, k3, k4, k5, k6, w5, ht, xf155,go_sem, simprocAttr]) <;> (try simp only [go_sem, simprocAttr] at hg) <;> (try (exfalso; omega))) | with_reducible intro (ep : Nat → Nat) | with_reducible apply_assumption -exfalso -symm only [*])
  refine FnQ_end (Or.inr rfl) (.refl _) (by simp only [Try.f95, go_sem, simprocAttr]; rfl) ?_
  exact ⟨rfl, fun j q1 q2 q3 => by simp only [upd_ne _ _ q1, upd_ne _ _ q2, upd_ne _ _ q3]; exact hsame j q1 q2 q3, by (first | rfl | (simp only [k3, ht, go_sem, simprocAttr]; done) | (simp only [k3, ht, go_sem, simprocAttr]; rfl)), by (first | rfl | (simp only [k4, go_sem, simprocAttr]; done) | (simp only [k4, go_sem, simprocAttr]; rfl))⟩
 ·repeat' (first | (with_reducible refine sk ?_; intro K hK) | ((first | (with_reducible first | refine rgL [] [9, 26] (md := { base := 1700, own := [] }) (h := ?_) | refine rgL [5] [9, 26] (md := { base := 1700, own := [] }) (h := ?_) | refine nx ?_) | refine pK (l0) ?_ | refine pK (l1 _ (fun j q1 q2 q3 => by simp only [upd_ne _ _ q1, upd_ne _ _ q2, upd_ne _ _ q3]; exact hsame j q1 q2 q3)) ?_ | refine lK (l0) ?_ | refine lK (l1 _ (fun j q1 q2 q3 => by simp only [upd_ne _ _ q1, upd_ne _ _ q2, upd_ne _ _ q3]; exact hsame j q1 q2 q3)) ?_); try simp (disch := omega) only [k36, k3, k4, k5, k6, w5, ht, xf155,go_sem, simprocAttr]) | (with_reducible refine bk ?_) | ((with_reducible refine' cE ?hv ?_ ?_); (case hv => first | rfl | (simp only [k36, k3, k4, k5, k6, w5, ht, xf155,go_sem, simprocAttr]; rfl)); all_goals (intro hc; (try simp only [go_sem, simprocAttr] at hc); try (exfalso; omega))) | ((with_reducible first | refine grdS_split ?_ ?_ | refine lkG_split ?_ ?_) <;> intro hg <;> (try simp (disch := omega) only [hg, k36, k3, k4, k5, k6, w5, ht, xf155,go_sem, simprocAttr]) <;> (try simp only [go_sem, simprocAttr] at hg) <;> (try (exfalso; omega))) | with_reducible intro (ep : Nat → Nat) | with_reducible apply_assumption -exfalso -symm only [*])
  refine FnQ_end (Or.inr rfl) (.refl _) (by simp only [Try.f95, go_sem, simprocAttr]; rfl) ?_
  exact ⟨rfl, fun j q1 q2 q3 => by simp only [upd_ne _ _ q1, upd_ne _ _ q2, upd_ne _ _ q3]; exact hsame j q1 q2 q3, by (first | rfl | (simp only [k3, ht, go_sem, simprocAttr]; done) | (simp only [k3, ht, go_sem, simprocAttr]; rfl)), by (first | rfl | (simp only [k4, go_sem, simprocAttr]; done) | (simp only [k4, go_sem, simprocAttr]; rfl))⟩
 ·repeat' (first | (with_reducible refine sk ?_; intro K hK) | ((first | (with_reducible first | refine rgL [] [9, 26] (md := { base := 1700, own := [] }) (h := ?_) | refine rgL [5] [9, 26] (md := { base := 1700, own := [] }) (h := ?_) | refine nx ?_) | refine pK (l0) ?_ | refine pK (l1 _ (fun j q1 q2 q3 => by simp only [upd_ne _ _ q1, upd_ne _ _ q2, upd_ne _ _ q3]; exact hsame j q1 q2 q3)) ?_ | refine lK (l0) ?_ | refine lK (l1 _ (fun j q1 q2 q3 => by simp only [upd_ne _ _ q1, upd_ne _ _ q2, upd_ne _ _ q3]; exact hsame j q1 q2 q3)) ?_); try simp (disch := omega) only [k36, k3, k4, k5, k6, w5, ht, xf155,go_sem, simprocAttr]) | (with_reducible refine bk ?_) | ((with_reducible refine' cE ?hv ?_ ?_); (case hv => first | rfl | (simp only [k36, k3, k4, k5, k6, w5, ht, xf155,go_sem, simprocAttr]; rfl)); all_goals (intro hc; (try simp only [go_sem, simprocAttr] at hc); try (exfalso; omega))) | ((with_reducible first | refine grdS_split ?_ ?_ | refine lkG_split ?_ ?_) <;> intro hg <;> (try simp (disch := omega) only [hg, k36, k3, k4, k5, k6, w5, ht, xf155,go_sem, simprocAttr]) <;> (try simp only [go_sem, simprocAttr] at hg) <;> (try (exfalso; omega))) | with_reducible intro (ep : Nat → Nat) | with_reducible apply_assumption -exfalso -symm only [*])
  refine FnQ_end (Or.inr rfl) (.refl _) (by simp only [Try.f95, go_sem, simprocAttr]; rfl) ?_
  exact ⟨rfl, fun j q1 q2 q3 => by simp only [upd_ne _ _ q1, upd_ne _ _ q2, upd_ne _ _ q3]; exact hsame j q1 q2 q3, by (first | rfl | (simp only [k3, ht, go_sem, simprocAttr]; done) | (simp only [k3, ht, go_sem, simprocAttr]; rfl)), by (first | rfl | (simp only [k4, go_sem, simprocAttr]; done) | (simp only [k4, go_sem, simprocAttr]; rfl))⟩
 ·repeat' (first | (with_reducible refine sk ?_; intro K hK) | ((first | (with_reducible first | refine rgL [] [9, 26] (md := { base := 1700, own := [] }) (h := ?_) | refine rgL [5] [9, 26] (md := { base := 1700, own := [] }) (h := ?_) | refine nx ?_) | refine pK (l0) ?_ | refine pK (l1 _ (fun j q1 q2 q3 => by simp only [upd_ne _ _ q1, upd_ne _ _ q2, upd_ne _ _ q3]; exact hsame j q1 q2 q3)) ?_ | refine lK (l0) ?_ | refine lK (l1 _ (fun j q1 q2 q3 => by simp only [upd_ne _ _ q1, upd_ne _ _ q2, upd_ne _ _ q3]; exact hsame j q1 q2 q3)) ?_); try simp (disch := omega) only [k36, k3, k4, k5, k6, w5, ht, xf155,go_sem, simprocAttr]) | (with_reducible refine bk ?_) | ((with_reducible refine' cE ?hv ?_ ?_); (case hv => first | rfl | (simp only [k36, k3, k4, k5, k6, w5, ht, xf155,go_sem, simprocAttr]; rfl)); all_goals (intro hc; (try simp only [go_sem, simprocAttr] at hc); try (exfalso; omega))) | ((with_reducible first | refine grdS_split ?_ ?_ | refine lkG_split ?_ ?_) <;> intro hg <;> (try simp (disch := omega) only [hg, k36, k3, k4, k5, k6, w5, ht, xf155,go_sem, simprocAttr]) <;> (try simp only [go_sem, simprocAttr] at hg) <;> (try (exfalso; omega))) | with_reducible intro (ep : Nat → Nat) | with_reducible apply_assumption -exfalso -symm only [*])
  refine FnQ_end (Or.inr rfl) (.refl _) (by simp only [Try.f95, go_sem, simprocAttr]; rfl) ?_
  exact ⟨rfl, fun j q1 q2 q3 => by simp only [upd_ne _ _ q1, upd_ne _ _ q2, upd_ne _ _ q3]; exact hsame j q1 q2 q3, by (first | rfl | (simp only [k3, ht, go_sem, simprocAttr]; done) | (simp only [k3, ht, go_sem, simprocAttr]; rfl)), by (first | rfl | (simp only [k4, go_sem, simprocAttr]; done) | (simp only [k4, go_sem, simprocAttr]; rfl))⟩
 ·repeat' (first | (with_reducible refine sk ?_; intro K hK) | ((first | (with_reducible first | refine rgL [] [9, 26] (md := { base := 1700, own := [] }) (h := ?_) | refine rgL [5] [9, 26] (md := { base := 1700, own := [] }) (h := ?_) | refine nx ?_) | refine pK (l0) ?_ | refine pK (l1 _ (fun j q1 q2 q3 => by simp only [upd_ne _ _ q1, upd_ne _ _ q2, upd_ne _ _ q3]; exact hsame j q1 q2 q3)) ?_ | refine lK (l0) ?_ | refine lK (l1 _ (fun j q1 q2 q3 => by simp only [upd_ne _ _ q1, upd_ne _ _ q2, upd_ne _ _ q3]; exact hsame j q1 q2 q3)) ?_); try simp (disch := omega) only [k36, k3, k4, k5, k6, w5, ht, xf155,go_sem, simprocAttr]) | (with_reducible refine bk ?_) | ((with_reducible refine' cE ?hv ?_ ?_); (case hv => first | rfl | (simp only [k36, k3, k4, k5, k6, w5, ht, xf155,go_sem, simprocAttr]; rfl)); all_goals (intro hc; (try simp only [go_sem, simprocAttr] at hc); try (exfalso; omega))) | ((with_reducible first | refine grdS_split ?_ ?_ | refine lkG_split ?_ ?_) <;> intro hg <;> (try simp (disch := omega) only [hg, k36, k3, k4, k5, k6, w5, ht, xf155,go_sem, simprocAttr]) <;> (try simp only [go_sem, simprocAttr] at hg) <;> (try (exfalso; omega))) | with_reducible intro (ep : Nat → Nat) | with_reducible apply_assumption -exfalso -symm only [*])
  refine FnQ_end (Or.inr rfl) (.refl _) (by simp only [Try.f95, go_sem, simprocAttr]; rfl) ?_
  exact ⟨rfl, fun j q1 q2 q3 => by simp only [upd_ne _ _ q1, upd_ne _ _ q2, upd_ne _ _ q3]; exact hsame j q1 q2 q3, by (first | rfl | (simp only [k3, ht, go_sem, simprocAttr]; done) | (simp only [k3, ht, go_sem, simprocAttr]; rfl)), by (first | rfl | (simp only [k4, go_sem, simprocAttr]; done) | (simp only [k4, go_sem, simprocAttr]; rfl))⟩
end Cp
namespace Cp
open Go Go.Proofs
set_option maxRecDepth 10000
set_option maxHeartbeats 1000000
def getF (n : NetT) (hs : List HeadT) (L : List (List Int)) : LackT × Bool := L.foldl (getStep n hs) (⟨2, 0, []⟩, false)
def getsS (n : NetT) (hs : List HeadT) : LackT :=
 if (getF n hs (outsL n.pumps.length n.out.toNat)).2 = true ∧ (getF n hs (outsL n.pumps.length n.out.toNat)).1.known = 0 then { (getF n hs (outsL n.pumps.length n.out.toNat)).1 with known := 1 } else (getF n hs (outsL n.pumps.length n.out.toNat)).1
theorem getF_snoc {n : NetT} {hs : List HeadT} {L : List (List Int)} {k : Nat} {l : List Int} (h : L[k]? = some l) : getF n hs (L.take (k + 1)) = getStep n hs (getF n hs (L.take k)) l := by
 unfold getF; rw [take_snoc' h, List.foldl_append]; rfl
theorem getStep_kn {n : NetT} {hs : List HeadT} {s : LackT × Bool} {l : List Int} (h : s.1.known = 0 ∨ s.1.known = 2) : (getStep n hs s l).1.known = 0 ∨ (getStep n hs s l).1.known = 2 := by
 unfold getStep
 simp only
 split
 ·exact .inl rfl
 ·exact h
theorem getF_kn {n : NetT} {hs : List HeadT} : ∀ (k : Nat) (L : List (List Int)), (getF n hs (L.take k)).1.known = 0 ∨ (getF n hs (L.take k)).1.known = 2
 | 0, L => .inr rfl
 | k + 1, L => by
  cases h : L[k]? with
  | some l => rw [getF_snoc h]; exact getStep_kn (getF_kn k L)
  | none =>
   have hk : L.length ≤ k := List.getElem?_eq_none_iff.1 h
   have := getF_kn (n := n) (hs := hs) k L
   rw [List.take_of_length_le hk] at this
   rw [List.take_of_length_le (by omega)]
   exact this
theorem fzd_plant {n : NetT} {hs : List HeadT} {e36 e33 e34 k : Nat} {H : Hp} (h : H 436 = some (e36, .fro 10 [cPlant n hs e33 e34 k])) : fzd H 3 (.ptr 436 e36 10 0 0) = .pim ((cPlant n hs e33 e34 k).map (fzd H 2)) := by
 simp [fzd, h]
theorem take_plant {n : NetT} {hs : List HeadT} {e33 e34 k : Nat} {H : Hp} : ((cPlant n hs e33 e34 k).map (fzd H 2)).take 7 = cNet n := by
 simp [cPlant, cNet, fzd, cPipe, cHead, cPump, List.map_map, Function.comp_def]
theorem outs_call (n : NetT) (hF : NetF n) {hs : List HeadT} {e36 e33 e34 k : Nat} {H : Hp} (h : H 436 = some (e36, .fro 10 [cPlant n hs e33 e34 k])) :
  ACall Try.prog 94 [.ptr 436 e36 10 0 0] H fun v' H' => v' = outsF n.pumps.length n.out.toNat ∧ H' = H :=
 PureC.acall_fro 7 (by rw [take_plant]; exact outs_ok n hF) (fzd_plant h)
end Cp
namespace Cp
open Go
def badO (n : NetT) (hs : List HeadT) (o : List Int) : Bool := (lackS n hs o false).2
def goodO (n : NetT) (hs : List HeadT) (o : List Int) : Bool := !(lackS n hs o true).2
theorem getF_gen {n : NetT} {hs : List HeadT} : ∀ (L : List (List Int)) (s : LackT × Bool), (s.1.known = 0 ∨ s.1.known = 2) →
  L.foldl (getStep n hs) s = (if s.1.known = 2 then (match L.find? (badO n hs) with | none => s.1 | some o => ⟨0, (lackS n hs o false).1, o⟩) else s.1, s.2 || L.any (goodO n hs))
 | [], s, h => by rcases h with h | h <;> simp
 | o :: L, s, h => by
  rw [List.foldl_cons, getF_gen L _ (getStep_kn h)]
  have e2 : (getStep n hs s o).2 = (s.2 || goodO n hs o) := rfl
  have e1 : (getStep n hs s o).1 = if badO n hs o = true ∧ s.1.known = 2 then ⟨0, (lackS n hs o false).1, o⟩ else s.1 := rfl
  rw [e2, e1, List.any_cons, Bool.or_assoc, List.find?_cons]
  rcases h with h | h
  ·have : ¬ s.1.known = 2 := by omega
   simp only [this, and_false, if_false]
  ·cases hb : badO n hs o with
   | false => simp only [hb, Bool.false_eq_true, false_and, if_false, h, if_true]
   | true => simp [hb, h]
theorem getsS_eq (n : NetT) (hs : List HeadT) : getsS n hs = match (outsL n.pumps.length n.out.toNat).find? (badO n hs) with
  | none => ⟨2, 0, []⟩
  | some o => ⟨if (outsL n.pumps.length n.out.toNat).any (goodO n hs) = true then 1 else 0, (lackS n hs o false).1, o⟩ := by
 have h := getF_gen (n := n) (hs := hs) (outsL n.pumps.length n.out.toNat) (⟨2, 0, []⟩, false) (.inr rfl)
 have h' : getF n hs (outsL n.pumps.length n.out.toNat) = _ := h
 unfold getsS
 rw [h']
 cases hf : (outsL n.pumps.length n.out.toNat).find? (badO n hs) with
 | none => simp
 | some o =>
  cases hg : (outsL n.pumps.length n.out.toNat).any (goodO n hs) <;> simp
theorem mem_combos : ∀ {m : List Int} {k : Nat} {l : List Int}, l ∈ combos k m ↔ l.Sublist m ∧ l.length = k
 | [], 0, l => by
  simp only [combos, List.mem_singleton, List.sublist_nil]
  exact ⟨fun h => ⟨h, by rw [h]; rfl⟩, fun h => h.1⟩
 | [], k + 1, l => by
  simp only [combos, List.not_mem_nil, List.sublist_nil, false_iff, not_and]
  intro h; subst h; simp
 | x :: m, 0, l => by
  simp only [combos, List.mem_singleton, List.length_eq_zero_iff]
  exact ⟨fun h => ⟨by subst h; exact List.nil_sublist _, h⟩, fun h => h.2⟩
 | x :: m, k + 1, l => by
  simp only [combos, List.mem_append, List.mem_map]
  constructor
  ·rintro (⟨t, ht, rfl⟩ | h)
   ·obtain ⟨h1, h2⟩ := mem_combos.1 ht
    exact ⟨h1.cons_cons x, by simp [h2]⟩
   ·obtain ⟨h1, h2⟩ := mem_combos.1 h
    exact ⟨h1.cons x, h2⟩
  ·rintro ⟨h1, h2⟩
   cases h1 with
   | cons _ h => exact .inr (mem_combos.2 ⟨h, h2⟩)
   | cons_cons _ h => exact .inl ⟨_, mem_combos.2 ⟨h, by simpa using h2⟩, rfl⟩
theorem sub_of_pair : ∀ {m l : List Int}, m.Pairwise (· < ·) → l.Pairwise (· < ·) → (∀ a ∈ l, a ∈ m) → l.Sublist m
 | _, [], _, _, _ => List.nil_sublist _
 | [], a :: l, _, _, h => by have := h a (by simp); simp at this
 | x :: m, a :: l, hm, hl, h => by
  obtain ⟨hm1, hm2⟩ := List.pairwise_cons.1 hm
  obtain ⟨hl1, hl2⟩ := List.pairwise_cons.1 hl
  have key : ∀ b ∈ l, x < b → b ∈ m := fun b hb hxb => by
   rcases List.mem_cons.1 (h b (by simp [hb])) with rfl | h1
   ·omega
   ·exact h1
  rcases List.mem_cons.1 (h a (by simp)) with rfl | h1
  ·exact (sub_of_pair hm2 hl2 fun b hb => key b hb (hl1 b hb)).cons_cons _
  ·refine (sub_of_pair hm2 hl fun b hb => ?_).cons x
   rcases List.mem_cons.1 hb with rfl | hb
   ·exact h1
   ·exact key b hb (Int.lt_trans (hm1 _ h1) (hl1 b hb))
theorem range_pair (np : Nat) : ((List.range np).map Int.ofNat).Pairwise (· < ·) := by
 rw [List.pairwise_map]
 exact List.pairwise_lt_range.imp fun h => by simpa using h
theorem mem_rangeI {np : Nat} {a : Int} : a ∈ (List.range np).map Int.ofNat ↔ 0 ≤ a ∧ a < np := by
 simp only [List.mem_map, List.mem_range]
 constructor
 ·rintro ⟨i, hi, rfl⟩; simp; omega
 ·rintro ⟨h1, h2⟩; exact ⟨a.toNat, by omega, by simp; omega⟩
theorem mem_outsL {np o : Nat} {l : List Int} : l ∈ outsL np o ↔ (∀ a ∈ l, 0 ≤ a ∧ a < np) ∧ l.Pairwise (· < ·) ∧ l.length ≤ o := by
 simp only [outsL, List.mem_flatMap, List.mem_range, mem_combos]
 constructor
 ·rintro ⟨k, hk, h1, h2⟩
  exact ⟨fun a ha => mem_rangeI.1 (h1.subset ha), (range_pair np).sublist h1, by omega⟩
 ·rintro ⟨h1, h2, h3⟩
  exact ⟨l.length, by omega, sub_of_pair (range_pair np) h2 fun a ha => mem_rangeI.2 (h1 a ha), rfl⟩
theorem mem_outs {n : NetT} (h0 : 0 ≤ n.out) {l : List Int} : l ∈ outsL n.pumps.length n.out.toNat ↔ outOK n l = true := by
 rw [mem_outsL]
 constructor
 ·rintro ⟨h1, h2, h3⟩
  unfold outOK
  rw [Bool.and_eq_true]
  exact ⟨okL_of (fun a ha => by simpa [isPump] using h1 a ha) h2 (fun c hc => by cases hc), by simp; omega⟩
 ·intro h
  obtain ⟨h1, h2, h3⟩ := out_facts h
  exact ⟨h1, h2, by omega⟩
def lexB : List Int → List Int → Prop
 | a :: l, b :: m => a < b ∨ (a = b ∧ lexB l m)
 | _, _ => False
def befO (a b : List Int) : Prop := a.length < b.length ∨ (a.length = b.length ∧ lexB a b)
theorem combos_pair : ∀ {m : List Int} {k : Nat}, m.Pairwise (· < ·) → (combos k m).Pairwise lexB
 | m, 0, _ => by unfold combos; simp
 | [], k + 1, _ => by simp [combos]
 | x :: m, k + 1, h => by
  obtain ⟨h1, h2⟩ := List.pairwise_cons.1 h
  simp only [combos]
  rw [List.pairwise_append]
  refine ⟨?_, combos_pair h2, ?_⟩
  ·rw [List.pairwise_map]
   exact (combos_pair h2).imp fun h => .inr ⟨rfl, h⟩
  ·intro a ha b hb
   rw [List.mem_map] at ha
   obtain ⟨t, ht, rfl⟩ := ha
   obtain ⟨q1, q2⟩ := mem_combos.1 hb
   cases b with
   | nil => simp at q2
   | cons y b => exact .inl (h1 y (q1.subset (by simp)))
theorem outsL_pair (np o : Nat) : (outsL np o).Pairwise befO := by
 unfold outsL
 rw [List.pairwise_flatMap]
 refine ⟨fun k hk => ?_, ?_⟩
 ·have hl : ∀ a ∈ combos k ((List.range np).map Int.ofNat), a.length = k := fun a ha => (mem_combos.1 ha).2
  exact (combos_pair (range_pair np)).imp_of_mem fun ha hb h => .inr ⟨by rw [hl _ ha, hl _ hb], h⟩
 ·refine List.pairwise_lt_range.imp fun {i j} hij a ha b hb => .inl ?_
  rw [(mem_combos.1 ha).2, (mem_combos.1 hb).2]; exact hij
theorem find_first {α : Type} {R : α → α → Prop} {p : α → Bool} : ∀ {l : List α} {x : α}, l.Pairwise R → l.find? p = some x → x ∈ l ∧ p x = true ∧ ∀ y ∈ l, p y = true → y = x ∨ R x y
 | [], x, _, h => by simp at h
 | a :: l, x, hp, h => by
  obtain ⟨h1, h2⟩ := List.pairwise_cons.1 hp
  rw [List.find?_cons] at h
  split at h
  ·rename_i hpa
   cases h
   refine ⟨by simp, hpa, fun y hy hpy => ?_⟩
   rcases List.mem_cons.1 hy with rfl | hy
   ·exact .inl rfl
   ·exact .inr (h1 y hy)
  ·rename_i hpa
   obtain ⟨q1, q2, q3⟩ := find_first h2 h
   refine ⟨by simp [q1], q2, fun y hy hpy => ?_⟩
   rcases List.mem_cons.1 hy with rfl | hy
   ·rw [hpa] at hpy; cases hpy
   ·exact q3 y hy hpy
structure GetF (n : NetT) (hs : List HeadT) (t : LackT) : Prop where
 kn : t.known = 0 ∨ t.known = 1 ∨ t.known = 2
 yes : t.known = 2 → t.head = 0 ∧ t.out = [] ∧ ∀ o, outOK n o = true → badO n hs o = false
 bad : ¬ t.known = 2 → outOK n t.out = true ∧ badO n hs t.out = true ∧ t.head = (lackS n hs t.out false).1 ∧ ∀ o, outOK n o = true → badO n hs o = true → o = t.out ∨ befO t.out o
 no : t.known = 0 → ∀ o, outOK n o = true → goodO n hs o = false
 op : t.known = 1 → ∃ o, outOK n o = true ∧ goodO n hs o = true
theorem gets_facts {n : NetT} (h0 : 0 ≤ n.out) (hs : List HeadT) : GetF n hs (getsS n hs) := by
 rw [getsS_eq]
 have hm := fun l => @mem_outs n h0 l
 obtain ⟨L, hL⟩ : ∃ L, outsL n.pumps.length n.out.toNat = L := ⟨_, rfl⟩
 have hp : L.Pairwise befO := hL ▸ outsL_pair _ _
 rw [hL] at hm ⊢
 cases hf : L.find? (badO n hs) with
 | none =>
  refine ⟨.inr (.inr rfl), fun _ => ⟨rfl, rfl, fun o ho => ?_⟩, fun h => (h rfl).elim, fun h => (by cases h), fun h => (by cases h)⟩
  have := List.find?_eq_none.1 hf o ((hm o).2 ho)
  simpa using this
 | some o =>
  obtain ⟨q1, q2, q3⟩ := find_first hp hf
  simp only
  cases hg : L.any (goodO n hs) with
  | true =>
   simp only [if_true]
   refine ⟨.inr (.inl rfl), fun h => (by cases h), fun _ => ⟨(hm o).1 q1, q2, rfl, fun o' h1 h2 => q3 o' ((hm o').2 h1) h2⟩, fun h => (by cases h), fun _ => ?_⟩
   obtain ⟨x, hx, hx2⟩ := List.any_eq_true.1 hg
   exact ⟨x, (hm x).1 hx, hx2⟩
  | false =>
   simp only [Bool.false_eq_true, if_false]
   refine ⟨.inl rfl, fun h => (by cases h), fun _ => ⟨(hm o).1 q1, q2, rfl, fun o' h1 h2 => q3 o' ((hm o').2 h1) h2⟩, fun _ o' h1 => ?_, fun h => (by cases h)⟩
   have := List.any_eq_false.1 hg o' ((hm o').2 h1)
   simpa using this
end Cp
namespace Cp
open Go Go.Proofs
set_option maxRecDepth 10000
set_option maxHeartbeats 4000000
end Cp
namespace Cp
open Go
theorem lackS_false {n : NetT} {hs : List HeadT} {out : List Int} {best : Bool} : (lackS n hs out best).2 = false ↔ (∀ h ∈ hs, h.least ≤ pressS n hs out best h) ∧ needs hs * n.mins ≤ tankH n best := by
 unfold lackS
 cases hf : lackF n hs out best hs with
 | some x =>
  obtain ⟨h1, h2⟩ : x ∈ hs ∧ pressS n hs out best x < x.least := ⟨List.mem_of_find?_eq_some hf, by simpa using List.find?_some hf⟩
  simp only [Bool.true_eq_false, false_iff, not_and]
  intro h
  have := h x h1
  omega
 | none =>
  have h1 : ∀ h ∈ hs, h.least ≤ pressS n hs out best h := fun h hm => by simpa using List.find?_eq_none.1 hf h hm
  simp only
  split
  ·simp only [Bool.true_eq_false, false_iff, not_and]; intro _; omega
  ·simp only [true_iff]; exact ⟨h1, by omega⟩
def wellG (n : NetT) (L : List HeadT) (out full foul : List Int) (tank : Int) : Bool := (L.all fun h => decide (h.least ≤ pressG n L out full foul h)) && decide (needs L * n.mins ≤ tank)
theorem wellG_iff {n : NetT} {L : List HeadT} {out full foul : List Int} {tank : Int} : wellG n L out full foul tank = true ↔ (∀ h ∈ L, h.least ≤ pressG n L out full foul h) ∧ needs L * n.mins ≤ tank := by
 simp [wellG]
theorem well_worst {n : NetT} (hF : NetF n) {L : List HeadT} (h5 : heads500 L) (hn : ∀ h ∈ L, 1 ≤ h.node ∧ h.node ≤ n.pipes.length) {out : List Int} (ho : outOK n out = true) (best : Bool) :
  wellG n L out (n.pumps.map (fullE best)) (n.pipes.map (foulE best)) (tankH n best) = !(lackS n L out best).2 := by
 have h1 := @lackS_false n L out best
 have h2 := @wellG_iff n L out (n.pumps.map (fullE best)) (n.pipes.map (foulE best)) (tankH n best)
 have e : (∀ h ∈ L, h.least ≤ pressG n L out (n.pumps.map (fullE best)) (n.pipes.map (foulE best)) h) ↔ ∀ h ∈ L, h.least ≤ pressS n L out best h :=
  ⟨fun h x hx => by rw [← pressG_end hF h5 ho best (hn x hx)]; exact h x hx, fun h x hx => by rw [pressG_end hF h5 ho best (hn x hx)]; exact h x hx⟩
 rw [e, ← h1] at h2
 cases h3 : (lackS n L out best).2 <;> cases h4 : wellG n L out (n.pumps.map (fullE best)) (n.pipes.map (foulE best)) (tankH n best) <;> simp_all
theorem openH_get {hs : List HeadT} {l : List Int} (hal : ∀ a ∈ l, (headAt hs a).isSome = true) {k : Nat} {a : Int} {x : HeadT} (ha : l[k]? = some a) (hx : headAt hs a = some x) : (openH hs l)[k]? = some x := by
 have h1 := openH_snoc ha hx
 have h2 : (openH hs (l.take k)).length = k := by
  rw [openH_len' fun b hb => hal b (List.mem_of_mem_take hb)]
  have := (List.getElem?_eq_some_iff.1 ha).1
  simp; omega
 have h3 : openH hs l = openH hs (l.take (k + 1)) ++ openH hs (l.drop (k + 1)) := by unfold openH; rw [← List.filterMap_append, List.take_append_drop]
 rw [h3, h1, List.append_assoc, List.getElem?_append_right (by omega), h2]
 simp
end Cp
namespace Cp
open Go Go.Proofs
set_option maxRecDepth 10000
set_option maxHeartbeats 4000000
theorem well_ok (n : NetT) (hF : NetF n) (l : List Int) (hl : l.length ≤ 100000) (ho : openOK n.heads l = true) (out : List Int) (hno : outOK n out = true) (full foul : List Int) (hT : TruF n full foul) (tank : Int) :
  PureC Try.prog 41 [encNet n, .lst 1 (ints l), .lst 1 (ints out), .agg (truV full foul tank)] (.bool (wellG n (openH n.heads l) out full foul tank)) := by
 obtain ⟨ho1, ho2⟩ := okL_none ho
 have hhl := hF.heads
 have hmn := hF.mins
 have hp := presses_ok n hF l hl out hno full foul hT tank
 have hof : openH n.heads l = opF n.heads l := open_filter hF.ids ho2 ho1
 rw [← hof] at hp
 have hat := fun id => at_ok n (by omega) id
 have hfl := flow_ok n hF l hl ho1
 have h5 := openH_500 hF l
 have hLl := open_le hF.ids ho
 have hlen := openH_len' ho1
 have hnb := needs_bnd h5
 have hge := fun k a x ha hx => openH_get (k := k) (a := a) (x := x) ho1 ha hx
 obtain ⟨L, hL⟩ : ∃ L, openH n.heads l = L := ⟨_, rfl⟩
 simp only [hL] at hp hfl hlen hnb hge h5 ⊢
 have hmul : 0 ≤ needs L * n.mins ∧ needs L * n.mins ≤ 4000 * 600 := ⟨Int.mul_nonneg (by omega) hmn.1, Int.mul_le_mul (by omega) hmn.2 hmn.1 (by omega)⟩
 obtain ⟨g, hg⟩ : ∃ g, pressG n L out full foul = g := ⟨_, rfl⟩
 have hw : wellG n L out full foul tank = ((L.all fun h => decide (h.least ≤ g h)) && decide (needs L * n.mins ≤ tank)) := by unfold wellG; rw [hg]
 rw [hg] at hp
 rw [hw]
 obtain ⟨nm, hnm⟩ : ∃ nm, needs L * n.mins = nm := ⟨_, rfl⟩
 rw [hnm] at hmul ⊢
 simp only [encNet, cNet] at hp hat hfl
 refine PureC_of (fn := Try.f41) tabOK (by kernel_rfl) rfl (by kernel_rfl) (by simp [Try.f41]) (by simp [noids, noid, noidss, go_sem, encNet, cNet, truV]) (by first | rfl | simp [noids, noid, noidss, go_sem, encNet, cNet, truV]) ?_
 intro X hX0 hXs
 repeat' (first | ((fail_if_success (with_reducible refine AW_at (id := 2) ?_)); with_reducible refine sk ?_; intro K hK) | ((first | (with_reducible first | refine rg (h := ?_) | refine nx ?_) | refine pK (hp) ?_); try simp (disch := omega) only [encNet, cNet, truV,go_sem, simprocAttr]) | (with_reducible refine bk ?_) | ((with_reducible refine' cE ?hv ?_ ?_); (case hv => first | rfl | (simp only [encNet, cNet, truV,go_sem, simprocAttr]; rfl)); all_goals (intro hc; (try simp only [go_sem, simprocAttr] at hc); try (exfalso; omega))) | ((with_reducible refine fe ?_); refine ⟨_, (by simp only [Try.f41, encNet, cNet, truV,go_sem, simprocAttr]; rfl), ?_⟩; first | rfl | (try simp only [encNet, cNet, truV,go_sem, simprocAttr, seval])) | with_reducible intro (ep : Nat → Nat) | with_reducible apply_assumption -exfalso -symm only [*])
 have hcut : ∀ f H, f 4 = .pim (cNet n) → f 1 = .lst 1 (ints l) → f 7 = .pim (truV full foul tank) → (L.all fun h => decide (h.least ≤ g h)) = true → K f H := by
  intro f H h4 h1 h7 hall
  refine hK f H ?_
  clear hK
  rw [hall]
  repeat' (first | (with_reducible refine sk ?_; intro K hK) | ((first | (with_reducible first | refine rg (h := ?_) | refine nx ?_) | refine pK (hfl) ?_); try simp (disch := omega) only [h4, h1, h7, hnm, cNet, truV, Bool.true_and,go_sem, simprocAttr]) | (with_reducible refine bk ?_) | ((with_reducible refine' cE ?hv ?_ ?_); (case hv => first | rfl | (simp only [h4, h1, h7, hnm, cNet, truV, Bool.true_and,go_sem, simprocAttr]; rfl)); all_goals (intro hc; (try simp only [go_sem, simprocAttr] at hc); try (exfalso; omega))) | ((with_reducible refine fe ?_); refine ⟨_, (by simp only [Try.f41, h4, h1, h7, hnm, cNet, truV, Bool.true_and,go_sem, simprocAttr]; rfl), ?_⟩; first | rfl | (try simp only [h4, h1, h7, hnm, cNet, truV, Bool.true_and,go_sem, simprocAttr, seval])) | with_reducible intro (ep : Nat → Nat) | with_reducible apply_assumption -exfalso -symm only [*])
 clear hK
 repeat' (first | (with_reducible refine sk ?_; intro K hK) | ((with_reducible first | refine rg (h := ?_) | refine nx ?_); try simp (disch := omega) only [go_sem, simprocAttr]) | (with_reducible refine bk ?_) | ((with_reducible refine' cE ?hv ?_ ?_); (case hv => first | rfl | (simp only [go_sem, simprocAttr]; rfl)); all_goals (intro hc; (try simp only [go_sem, simprocAttr] at hc); try (exfalso; omega))) | with_reducible intro (ep : Nat → Nat) | with_reducible apply_assumption -exfalso -symm only [*])
 refine AW_range tabOK l.length (fun k f H => (f 4 = .pim (cNet n) ∧ f 1 = .lst 1 (ints l) ∧ f 7 = .pim (truV full foul tank) ∧ f 9 = .lst 1 (ints (L.map g)) ∧ f 17 = .lst 1 (ints l)) ∧ (L.all fun h => decide (h.least ≤ g h)) = ((L.drop k).all fun h => decide (h.least ≤ g h))) (by omega) (by rw [hXs]; decide) (by decide) (by (first | rfl | (simp only [go_sem, simprocAttr]; done) | (simp only [go_sem, simprocAttr]; rfl))) (by (first | rfl | (simp only [go_sem, simprocAttr]; done) | (simp only [go_sem, simprocAttr]; rfl)))
  ⟨by (and_intros <;> first | rfl | (simp only [cNet, truV, go_sem, simprocAttr]; done) | (simp only [cNet, truV, go_sem, simprocAttr]; rfl)), rfl⟩ ?_ ?_
 ·clear hcut
  rintro k f H hk h19 h18 ⟨⟨h4, h1, h7, h9, h17⟩, hall⟩
  obtain ⟨a, ha⟩ : ∃ a, l[k]? = some a := ⟨_, List.getElem?_eq_getElem hk⟩
  rcases @atI_at n.heads a with ⟨a1, a2⟩ | ⟨i, y, a0, a1, a2⟩
  ·have := ho1 a (List.mem_of_getElem? ha); rw [a1] at this; simp at this
  ·have hLk := hge k a y ha a1
   rw [drop_cons hLk, List.all_cons] at hall
   have hgk : (L.map g)[k]? = some (g y) := by simp [hLk]
   have hgl : (L.map g).length = L.length := List.length_map ..
   obtain ⟨gl, hgl2⟩ : ∃ gl, L.map g = gl := ⟨_, rfl⟩
   rw [hgl2] at h9 hgk hgl
   by_cases hlt : g y < y.least
   ·have hd : decide (y.least ≤ g y) = false := by simp; omega
    rw [hd, Bool.false_and] at hall
    rw [hall]
    repeat' (first | (with_reducible refine sk ?_; intro K hK) | ((first | (with_reducible first | refine rg (h := ?_) | refine nx ?_) | refine pK (hat a) ?_); try simp (disch := omega) only [h4, h1, h7, h9, h17, h18, h19, ha, a0, a2, hgk, hlt, cNet, cHead, Bool.false_and,go_sem, simprocAttr]) | (with_reducible refine bk ?_) | ((with_reducible refine' cE ?hv ?_ ?_); (case hv => first | rfl | (simp only [h4, h1, h7, h9, h17, h18, h19, ha, a0, a2, hgk, hlt, cNet, cHead, Bool.false_and,go_sem, simprocAttr]; rfl)); all_goals (intro hc; (try simp only [go_sem, simprocAttr] at hc); try (exfalso; omega))) | ((with_reducible refine fe ?_); refine ⟨_, (by simp only [Try.f41, h4, h1, h7, h9, h17, h18, h19, ha, a0, a2, hgk, hlt, cNet, cHead, Bool.false_and,go_sem, simprocAttr]; rfl), ?_⟩; first | rfl | (try simp only [h4, h1, h7, h9, h17, h18, h19, ha, a0, a2, hgk, hlt, cNet, cHead, Bool.false_and,go_sem, simprocAttr, seval])) | with_reducible intro (ep : Nat → Nat) | with_reducible apply_assumption -exfalso -symm only [*])
    all_goals (exfalso; simp at hg)
   ·have hd : decide (y.least ≤ g y) = true := by simp; omega
    rw [hd, Bool.true_and] at hall
    repeat' (first | (with_reducible refine sk ?_; intro K hK) | ((first | (with_reducible first | refine rg (h := ?_) | refine nx ?_) | refine pK (hat a) ?_); try simp (disch := omega) only [h4, h1, h7, h9, h17, h18, h19, ha, a0, a2, hgk, hlt, cNet, cHead,go_sem, simprocAttr]) | (with_reducible refine bk ?_) | ((with_reducible refine' cE ?hv ?_ ?_); (case hv => first | rfl | (simp only [h4, h1, h7, h9, h17, h18, h19, ha, a0, a2, hgk, hlt, cNet, cHead,go_sem, simprocAttr]; rfl)); all_goals (intro hc; (try simp only [go_sem, simprocAttr] at hc); try (exfalso; omega))) | with_reducible intro (ep : Nat → Nat) | with_reducible apply_assumption -exfalso -symm only [*])
    exact ⟨by rw [hgl2], hall⟩
 ·rintro f H h19 h18 ⟨⟨h4, h1, h7, h9, h17⟩, hall⟩
  rw [← hlen, List.drop_length] at hall
  exact hcut _ _ (by (first | rfl | (simp only [h4, go_sem, simprocAttr]; done) | (simp only [h4, go_sem, simprocAttr]; rfl))) (by (first | rfl | (simp only [h1, go_sem, simprocAttr]; done) | (simp only [h1, go_sem, simprocAttr]; rfl))) (by (first | rfl | (simp only [h7, go_sem, simprocAttr]; done) | (simp only [h7, go_sem, simprocAttr]; rfl))) hall
end Cp
namespace Cp
open Go
theorem ACall.imp {P : Program} {fid : FuncId} {args : List Val} {H : Hp} {R R' : Val → Hp → Prop} (h : ACall P fid args H R) (hR : ∀ v H', R v H' → R' v H') : ACall P fid args H R' :=
 ⟨h.1, fun G w xs hr hv => Calls.mono (h.2 G w xs hr hv) (by rintro e w' ⟨v, x, G', H', h1, h2, h3, h4, h5, h6⟩; exact ⟨v, x, G', H', h1, h2, h3, h4, h5, hR _ _ h6⟩)⟩
theorem ACall.weak {P : Program} {fid : FuncId} {args : List Val} {H : Hp} {a b : Val} {R : Hp → Prop} (h : ACall P fid args H fun v H' => v = a ∧ R H') (hw : ∀ G w x, VR G w a x → VR G w b x) : ACall P fid args H fun v H' => v = b ∧ R H' :=
 ⟨h.1, fun G w xs hr hv => Calls.mono (h.2 G w xs hr hv) (by rintro e w' ⟨v, x, G', H', h1, h2, h3, h4, h5, rfl, h6⟩; exact ⟨b, x, G', H', h1, h2, h3, h4, hw _ _ _ h5, rfl, h6⟩)⟩
theorem VR.tup_imp {G : Gh} {w : World} {vs vs' : List Val} {x : Value} (hl : vs.length = vs'.length) (hi : ∀ (i : Nat) (v v' : Val), vs[i]? = some v → vs'[i]? = some v' → ∀ y, VR G w v y → VR G w v' y) (h : VR G w (.tup vs) x) : VR G w (.tup vs') x := by
 cases h with
 | tup _ xs hs hv =>
  refine .tup _ xs (by omega) (fun i v' hi' => ?_)
  have hlt := (List.getElem?_eq_some_iff.1 hi').1
  have h1 : vs[i]? = some vs[i] := List.getElem?_eq_getElem (by omega)
  exact hi i _ _ h1 hi' _ (hv i _ h1)
theorem VR.agg3_nils {G : Gh} {w : World} {a b : Val} {n : Nat} {x : Value} (h : VR G w (.agg [a, b, .nils]) x) : VR G w (.agg [a, b, .lst n []]) x := by
 cases h with
 | agg _ xs hs hc hv =>
  refine .agg _ xs (by simpa using hs) (fun i v hi => ?_) (fun i v hi => ?_)
  ·match i, hi with
   | 0, hi => exact hc 0 v hi
   | 1, hi => exact hc 1 v hi
   | 2, hi => cases hi; rfl
  ·match i, hi with
   | 0, hi => exact hv 0 v hi
   | 1, hi => exact hv 1 v hi
   | 2, hi => cases hi; exact (hv 2 .nils rfl).nils_lst _
end Cp
namespace Cp
open Go Go.Proofs
set_option maxRecDepth 10000
set_option maxHeartbeats 1000000
def GJ (Hz : Hp) (n : NetT) (hs : List HeadT) (e36 e33 e34 e2 e3 e4 e5 ey : Nat) (L0 : AObj) (k : Nat) (H : Hp) : Prop :=
 (∀ j, j < 100 → H j = Hz j) ∧ H 436 = some (e36, .fro 10 [cPlant n hs e33 e34 (n.pipes.length + 1)]) ∧ H 433 = some (e33, .arr 1 (ints (flowL n.pipes (n.pipes.length + 1) hs))) ∧ (∃ ver, H 434 = some (e34, .map ver [])) ∧
 H 602 = some (e2, .arr 3 [[.int .u8 0, .int .i64 0, .nils]]) ∧ H 603 = some (e3, .arr 3 [cTold (getF n hs ((outsL n.pumps.length n.out.toNat).take k)).1]) ∧ H 604 = some (e4, .arr 1 [[.bool (getF n hs ((outsL n.pumps.length n.out.toNat).take k)).2]]) ∧
 H 605 = some (e5, .arr 4 [[.fn (sgF false) [], .fn (sgF true) [], .fn (sgF true) [], .fn (sgF false) []]]) ∧ H 100 = some (ey, L0) ∧ (H 1208 = none ∧ H 1604 = none ∧ H 1605 = none ∧ H 1607 = none)
theorem outsL_len {np o : Nat} (hn : np ≤ 4) (ho : o ≤ 3) : (outsL np o).length ≤ 100000 := by
 have h : ∀ np, np < 5 → ∀ o, o < 4 → (outsL np o).length ≤ 100000 := by decide +kernel
 exact h np (by omega) o (by omega)
theorem gets_ok (n : NetT) (hF : NetF n) (hs : List HeadT) (h5 : heads500 hs) (hsl : hs.length ≤ 12) (hnd : ∀ h ∈ hs, 1 ≤ h.node ∧ h.node ≤ n.pipes.length) (e36 e33 e34 ver : Nat) (H0 : Hp)
  (g36 : H0 436 = some (e36, .fro 10 [cPlant n hs e33 e34 (n.pipes.length + 1)])) (g33 : H0 433 = some (e33, .arr 1 (ints (flowL n.pipes (n.pipes.length + 1) hs)))) (g34 : H0 434 = some (e34, .map ver []))
  (hroom : ∀ j, 600 ≤ j → H0 j = none) (h100 : H0 100 = none) :
  ACall Try.prog 69 [.ptr 436 e36 10 0 0] H0 fun v H' => v = .agg (cTold (getsS n hs)) ∧ ∀ j, j < 100 → H' j = H0 j := by
 refine ACall_ofR (fn := Try.f69) tabOK (by kernel_rfl) rfl (by kernel_rfl) (by simp [Try.f69]) ?_
 intro X hX0 hXs hXr
 have q1 := hroom 601 (by decide)
 have q2 := hroom 602 (by decide)
 have q3 := hroom 603 (by decide)
 have q4 := hroom 604 (by decide)
 have q5 := hroom 605 (by decide)
 have oc := fun H h => outs_call n hF (hs := hs) (e36 := e36) (e33 := e33) (e34 := e34) (k := n.pipes.length + 1) (H := H) h
 repeat' (first | (with_reducible refine sk ?_; intro K hK) | ((first | (with_reducible first | refine rg (md := { base := 600, own := [3, 4, 5, 6], imp := [10] }) (h := ?_) | refine rgS [2, 3, 4, 5, 6] (md := { base := 600, own := [3, 4, 5, 6], imp := [10] }) (h := ?_) | refine nx ?_) | refine pK (ends_ok) ?_); try simp (disch := omega) only [g36, q1, q2, q3, q4, q5,go_sem, simprocAttr]) | (with_reducible refine bk ?_) | ((with_reducible refine' cE ?hv ?_ ?_); (case hv => first | rfl | (simp only [g36, q1, q2, q3, q4, q5,go_sem, simprocAttr]; rfl)); all_goals (intro hc; (try simp only [go_sem, simprocAttr] at hc); try (exfalso; omega))) | ((with_reducible first | refine grdS_split ?_ ?_ | refine lkG_split ?_ ?_) <;> intro hg <;> (try simp (disch := omega) only [hg, g36, q1, q2, q3, q4, q5,go_sem, simprocAttr]) <;> (try simp only [go_sem, simprocAttr] at hg) <;> (try (exfalso; omega))) | (first | refine iK (ends_ok) ?_) | with_reducible intro (ep : Nat → Nat) | with_reducible apply_assumption -exfalso -symm only [*])
 refine iK (oc _ (by (first | rfl | (simp only [g36, go_sem, simprocAttr]; done) | (simp only [g36, go_sem, simprocAttr]; rfl)))) ?_
 rintro v H3 ⟨rfl, rfl⟩
 simp only [go_sem, simprocAttr]
 repeat' (first | (with_reducible refine sk ?_; intro K hK) | ((with_reducible first | refine rg (md := { base := 600, own := [3, 4, 5, 6], imp := [10] }) (h := ?_) | refine rgS [2, 3, 4, 5, 6] (md := { base := 600, own := [3, 4, 5, 6], imp := [10] }) (h := ?_) | refine nx ?_); try simp (disch := omega) only [go_sem, simprocAttr]) | (with_reducible refine bk ?_) | ((with_reducible refine' cE ?hv ?_ ?_); (case hv => first | rfl | (simp only [go_sem, simprocAttr]; rfl)); all_goals (intro hc; (try simp only [go_sem, simprocAttr] at hc); try (exfalso; omega))) | ((with_reducible first | refine grdS_split ?_ ?_ | refine lkG_split ?_ ?_) <;> intro hg <;> (try simp (disch := omega) only [hg, go_sem, simprocAttr]) <;> (try simp only [go_sem, simprocAttr] at hg) <;> (try (exfalso; omega))) | with_reducible intro (ep : Nat → Nat) | with_reducible apply_assumption -exfalso -symm only [*])
 refine AW_block ?_
 refine AW_rangeFunc 100 (by simp only [go_sem, simprocAttr, outsF]; rfl) hXr fun ey => ?_
 generalize hf0 : (upd _ _ _ : Fr) = f0
 generalize hH : (upd (upd (upd (upd (upd (upd (upd H0 _ _) _ _) _ _) _ _) _ _) _ _) _ _ : Hp) = HH
 obtain ⟨e2, e3, e4, e5, k1, k2, k3, k4, k5, G2, G3, G4, G5, Gs⟩ : ∃ e2 e3 e4 e5, f0 1 = .pim [.ptr 436 e36 10 0 0] ∧ f0 2 = .ptr 602 e2 3 0 0 ∧ f0 3 = .ptr 603 e3 3 0 0 ∧ f0 4 = .ptr 604 e4 1 0 0 ∧ f0 5 = .ptr 605 e5 4 0 0 ∧
   HH 602 = some (e2, .arr 3 [[.int .u8 0, .int .i64 0, .nils]]) ∧ HH 603 = some (e3, .arr 3 [[.int .u8 2, .int .i64 0, .nils]]) ∧ HH 604 = some (e4, .arr 1 [[.bool false]]) ∧ HH 605 = some (e5, .arr 4 [[.fn (sgF false) [], .fn (sgF true) [], .fn (sgF true) [], .fn (sgF false) []]]) ∧ ∀ j, ¬ j = 602 → ¬ j = 603 → ¬ j = 604 → ¬ j = 605 → HH j = H0 j := by
  refine ⟨_, _, _, _, by rw [← hf0]; rfl, by rw [← hf0]; rfl, by rw [← hf0]; rfl, by rw [← hf0]; rfl, by rw [← hf0]; rfl, by rw [← hH]; rfl, by rw [← hH]; rfl, by rw [← hH]; rfl, by rw [← hH]; rfl, fun j h1 h2 h3 h4 => ?_⟩
  rw [← hH, upd_ne _ _ h4, upd_ne _ _ h4, upd_ne _ _ h3, upd_ne _ _ h3, upd_ne _ _ h2, upd_ne _ _ h2, upd_ne _ _ h1]
 have G36 := (Gs 436 (by decide) (by decide) (by decide) (by decide)).trans g36
 have G33 := (Gs 433 (by decide) (by decide) (by decide) (by decide)).trans g33
 have G34 := (Gs 434 (by decide) (by decide) (by decide) (by decide)).trans g34
 have Gr : ∀ j, 606 ≤ j → HH j = none := fun j hj => (Gs j (by omega) (by omega) (by omega) (by omega)).trans (hroom j (by omega))
 have Gl : ∀ j, j < 100 → HH j = H0 j := fun j hj => Gs j (by omega) (by omega) (by omega) (by omega)
 have hXs0 : X.sz = 24 := hXs
 clear hf0 hH hXs Gs g36 g33 g34 hroom q1 q2 q3 q4 q5 oc h100
 generalize hL : AObj.loop _ _ _ _ _ _ = L0
 have hll := @outsL_len n.pumps.length n.out.toNat hF.pumps.2 (by have := hF.out.2; have := hF.pumps.2; omega)
 have hmo := fun l => @mem_outs n hF.out.1 l
 refine ⟨fun v H' => GJ H0 n hs e36 e33 e34 e2 e3 e4 e5 ey L0 (outsL n.pumps.length n.out.toNat).length H', values1_ok _ hll _ 100 ey (GJ H0 n hs e36 e33 e34 e2 e3 e4 e5 ey L0) ?_ ?_, ?_⟩
 ·have h0 : getF n hs ((outsL n.pumps.length n.out.toNat).take 0) = (⟨2, 0, []⟩, false) := rfl
  unfold GJ
  rw [h0]
  exact ⟨fun j hj => by rw [upd_ne _ _ (by omega), Gl j hj], by rw [upd_ne _ _ (by decide), G36], by rw [upd_ne _ _ (by decide), G33], ⟨_, by rw [upd_ne _ _ (by decide), G34]⟩, by rw [upd_ne _ _ (by decide), G2], by rw [upd_ne _ _ (by decide), G3]; rfl, by rw [upd_ne _ _ (by decide), G4], by rw [upd_ne _ _ (by decide), G5], upd_same _ _ _,
   by rw [upd_ne _ _ (by decide), Gr _ (by decide)], by rw [upd_ne _ _ (by decide), Gr _ (by decide)], by rw [upd_ne _ _ (by decide), Gr _ (by decide)], by rw [upd_ne _ _ (by decide), Gr _ (by decide)]⟩
 ·clear G36 G33 G34 G2 G3 G4 G5 Gr
  rintro k l Hs hk ⟨jl, j36, j33, ⟨ver', j34⟩, j2, j3, j4, j5, j100, jr0, jr1, jr2, jr3⟩
  have hol := (hmo l).1 (List.mem_of_getElem? hk)
  have hkn := @getF_kn n hs k (outsL n.pumps.length n.out.toNat)
  have hsn := @getF_snoc n hs _ _ _ hk
  generalize getF n hs ((outsL n.pumps.length n.out.toNat).take k) = s at *
  obtain ⟨t, g⟩ := s
  simp only at hkn j3 j4
  subst hL
  refine ⟨_, _, _, _, _, j100, rfl, fun t ht => ?_, fun X1 b h10 h1s h1r => ?_⟩
  ·rw [frL_len, hXs0]
   have ht' : t = 11 := by simpa using ht
   subst ht'; decide
  have hXs : X1.sz = 24 := by rw [h1s, frL_len, hXs0]
  show AW _ _ _ _ _ (upd (frOf (frL f0 X.sz)) 11 (.lst 1 (ints l))) Hs
  have k1' : frOf (frL f0 X.sz) 1 = .pim [.ptr 436 e36 10 0 0] := by rw [frOf_frL, hXs0, if_pos (by decide), k1]
  have k3' : frOf (frL f0 X.sz) 3 = .ptr 603 e3 3 0 0 := by rw [frOf_frL, hXs0, if_pos (by decide), k3]
  have k4' : frOf (frL f0 X.sz) 4 = .ptr 604 e4 1 0 0 := by rw [frOf_frL, hXs0, if_pos (by decide), k4]
  have k5' : frOf (frL f0 X.sz) 5 = .ptr 605 e5 4 0 0 := by rw [frOf_frL, hXs0, if_pos (by decide), k5]
  generalize frOf (frL f0 X.sz) = f1 at k1' k3' k4' k5'
  refine AW_lose 606 fun H1 w6 hs1 => ?_
  repeat' (first | (with_reducible refine sk ?_; intro K hK) | ((with_reducible first | refine rg (md := { base := 600, own := [3, 4, 5, 6], imp := [10] }) (h := ?_) | refine rgS [2, 3, 4, 5, 6] (md := { base := 600, own := [3, 4, 5, 6], imp := [10] }) (h := ?_) | refine nx ?_); try simp (disch := omega) only [k1', k3', k4', k5', w6,go_sem, simprocAttr]) | (with_reducible refine bk ?_) | ((with_reducible refine' cE ?hv ?_ ?_); (case hv => first | rfl | (simp only [k1', k3', k4', k5', w6,go_sem, simprocAttr]; rfl)); all_goals (intro hc; (try simp only [go_sem, simprocAttr] at hc); try (exfalso; omega))) | ((with_reducible first | refine grdS_split ?_ ?_ | refine lkG_split ?_ ?_) <;> intro hg <;> (try simp (disch := omega) only [hg, k1', k3', k4', k5', w6,go_sem, simprocAttr]) <;> (try simp only [go_sem, simprocAttr] at hg) <;> (try (exfalso; omega))) | with_reducible intro (ep : Nat → Nat) | with_reducible apply_assumption -exfalso -symm only [*])
  refine ⟨rfl, _, _, _, _, _, by rw [upd_ne _ _ (by decide), upd_ne _ _ (by decide), hs1 _ (by decide), j100], ?_⟩
  generalize hHs : (upd (upd (upd H1 _ _) _ _) 100 _ : Hp) = HB
  generalize hfB : (upd _ _ _ : Fr) = fB
  obtain ⟨e6, b1, b3, b4, b5, b6, B6, B100, Bs⟩ : ∃ e6, fB 1 = .pim [.ptr 436 e36 10 0 0] ∧ fB 3 = .ptr 603 e3 3 0 0 ∧ fB 4 = .ptr 604 e4 1 0 0 ∧ fB 5 = .ptr 605 e5 4 0 0 ∧ fB 6 = .ptr 606 e6 1 0 0 ∧ HB 606 = some (e6, .arr 1 [[.lst 1 (ints l)]]) ∧ HB 100 = _ ∧ ∀ j, ¬ j = 606 → ¬ j = 100 → HB j = Hs j := by
   refine ⟨_, by rw [← hfB]; simp only [k1', go_sem, simprocAttr], by rw [← hfB]; simp only [k3', go_sem, simprocAttr], by rw [← hfB]; simp only [k4', go_sem, simprocAttr], by rw [← hfB]; simp only [k5', go_sem, simprocAttr], by rw [← hfB]; rfl, by rw [← hHs]; rfl, by rw [← hHs, upd_same], fun j h1 h2 => ?_⟩
   rw [← hHs, upd_ne _ _ h2, upd_ne _ _ h1, upd_ne _ _ h1, hs1 _ h1]
  clear hHs hfB hs1 k1' k3' k4' k5' w6
  have B36 := (Bs 436 (by decide) (by decide)).trans j36
  have B34 := (Bs 434 (by decide) (by decide)).trans j34
  have hst : ∀ (ver' : Nat) (H : Hp), (∀ j, ¬ j = 434 → H j = HB j) → H 434 = some (e34, .map ver' (imap .i64 (offM l))) →
    ACall Try.prog 95 [.pim [.ptr 436 e36 10 0 0], .ptr 605 e5 4 0 0, .ptr 603 e3 3 0 0, .ptr 606 e6 1 0 0, .ptr 604 e4 1 0 0] H fun v H' => v = .tup [] ∧ H' 436 = H 436 ∧ (∃ ver2, H' 434 = some (e34, .map ver2 (imap .i64 (offM l)))) ∧
     ((∀ j, ¬ j = 434 → ¬ j = 603 → ¬ j = 604 → ¬ j = 1705 → H' j = HB j) ∧ H' 603 = some (e3, .arr 3 [cTold (getStep n hs (t, g) l).1]) ∧ H' 604 = some (e4, .arr 1 [[.bool (getStep n hs (t, g) l).2]])) := fun ver' H hH h34 => by
   have hc : ∀ j, ¬ j = 434 → ¬ j = 606 → ¬ j = 100 → H j = Hs j := fun j h1 h2 h3 => (hH j h1).trans (Bs j h2 h3)
   refine (gets1_ok n hF hs h5 hsl hnd l hol e36 e33 e34 ver' e3 e4 e5 e6 t hkn g H ((hc _ (by decide) (by decide) (by decide)).trans j36) ((hc _ (by decide) (by decide) (by decide)).trans j33) h34 ((hc _ (by decide) (by decide) (by decide)).trans j3) ((hc _ (by decide) (by decide) (by decide)).trans j4) ((hc _ (by decide) (by decide) (by decide)).trans j5) ((hH _ (by decide)).trans B6)
    ⟨(hc _ (by decide) (by decide) (by decide)).trans jr0, (hc _ (by decide) (by decide) (by decide)).trans jr1, (hc _ (by decide) (by decide) (by decide)).trans jr2, (hc _ (by decide) (by decide) (by decide)).trans jr3⟩).imp ?_
   rintro v H' ⟨hv, hlow, h3, h4⟩
   exact ⟨hv, hlow _ (by decide) (by decide) (by decide), ⟨ver', (hlow _ (by decide) (by decide) (by decide)).trans h34⟩, fun j a1 a2 a3 a4 => (hlow j a2 a3 a4).trans (hH j a1), h3, h4⟩
  have hlo : l.length ≤ 100000 := by
   have h1 := (out_facts hol).2.2
   have h2 := hF.out.2
   have h3 := hF.pumps.2
   omega
  repeat' (first | (with_reducible refine sk ?_; intro K hK) | ((with_reducible first | refine rg (md := { base := 600, own := [], imp := [15] }) (h := ?_) | refine rgS [2, 3, 4, 5, 6] (md := { base := 600, own := [], imp := [15] }) (h := ?_) | refine nx ?_); try simp (disch := omega) only [b1, b3, b4, b5, b6, B36, B6,go_sem, simprocAttr]) | (with_reducible refine bk ?_) | ((with_reducible refine' cE ?hv ?_ ?_); (case hv => first | rfl | (simp only [b1, b3, b4, b5, b6, B36, B6,go_sem, simprocAttr]; rfl)); all_goals (intro hc; (try simp only [go_sem, simprocAttr] at hc); try (exfalso; omega))) | ((with_reducible first | refine grdS_split ?_ ?_ | refine lkG_split ?_ ?_) <;> intro hg <;> (try simp (disch := omega) only [hg, b1, b3, b4, b5, b6, B36, B6,go_sem, simprocAttr]) <;> (try simp only [go_sem, simprocAttr] at hg) <;> (try (exfalso; omega))) | with_reducible intro (ep : Nat → Nat) | with_reducible apply_assumption -exfalso -symm only [*])
  refine iK (without_fro n hs e36 e33 e34 ver' l hlo (out_facts hol).2.1 _ _ HB (by (first | rfl | (simp only [B36, go_sem, simprocAttr]; done) | (simp only [B36, go_sem, simprocAttr]; rfl))) (by (first | rfl | (simp only [B34, go_sem, simprocAttr]; done) | (simp only [B34, go_sem, simprocAttr]; rfl))) _ hst) ?_
  rintro v H3 ⟨rfl, H2, ver2, ⟨hlow, r3, r4⟩, hsame, hm⟩
  have hc : ∀ j, ¬ j = 434 → ¬ j = 603 → ¬ j = 604 → ¬ j = 1705 → H3 j = HB j := fun j h1 h2 h3 h4 => (hsame j h1).trans (hlow j h1 h2 h3 h4)
  have hd : ∀ j, ¬ j = 434 → ¬ j = 603 → ¬ j = 604 → ¬ j = 1705 → ¬ j = 606 → ¬ j = 100 → H3 j = Hs j := fun j h1 h2 h3 h4 h5 h6 => (hc j h1 h2 h3 h4).trans (Bs j h5 h6)
  have C100 := (hc 100 (by decide) (by decide) (by decide) (by decide)).trans B100
  have C3 := (hsame 603 (by decide)).trans r3
  have C4 := (hsame 604 (by decide)).trans r4
  rw [← hsn] at C3 C4
  refine ⟨_, _, _, _, _, _, C100, ?_⟩
  refine ⟨rfl, ?_⟩
  have z : ∀ {o : Option (Nat × AObj)} (j : Nat), ¬ j = 434 → ¬ j = 603 → ¬ j = 604 → ¬ j = 1705 → ¬ j = 606 → ¬ j = 100 → upd H3 100 o j = Hs j := fun j h1 h2 h3 h4 h5 h6 => by rw [upd_ne _ _ h6]; exact hd j h1 h2 h3 h4 h5 h6
  exact ⟨fun j hj => (z j (by omega) (by omega) (by omega) (by omega) (by omega) (by omega)).trans (jl j hj), (z 436 (by decide) (by decide) (by decide) (by decide) (by decide) (by decide)).trans j36, (z 433 (by decide) (by decide) (by decide) (by decide) (by decide) (by decide)).trans j33, ⟨ver2, by rw [upd_ne _ _ (by decide)]; exact hm⟩, (z 602 (by decide) (by decide) (by decide) (by decide) (by decide) (by decide)).trans j2, by rw [upd_ne _ _ (by decide)]; exact C3, by rw [upd_ne _ _ (by decide)]; exact C4,
   (z 605 (by decide) (by decide) (by decide) (by decide) (by decide) (by decide)).trans j5, upd_same _ _ _, (z 1208 (by decide) (by decide) (by decide) (by decide) (by decide) (by decide)).trans jr0, (z 1604 (by decide) (by decide) (by decide) (by decide) (by decide) (by decide)).trans jr1,
   (z 1605 (by decide) (by decide) (by decide) (by decide) (by decide) (by decide)).trans jr2, (z 1607 (by decide) (by decide) (by decide) (by decide) (by decide) (by decide)).trans jr3⟩
 ·clear G36 G33 G34 G2 G3 G4 G5 Gr
  rintro v Hs ⟨jl, j36, j33, ⟨ver', j34⟩, j2, j3, j4, j5, j100, jr0, jr1, jr2, jr3⟩
  rw [List.take_of_length_le (Nat.le_refl _)] at j3 j4
  subst hL
  refine ⟨_, _, _, _, _, _, j100, by simp, ?_⟩
  have hkn := @getF_kn n hs (outsL n.pumps.length n.out.toNat).length (outsL n.pumps.length n.out.toNat)
  rw [List.take_of_length_le (Nat.le_refl _)] at hkn
  obtain ⟨G, hG⟩ : ∃ G, getsS n hs = G := ⟨_, rfl⟩
  have hgs := hG
  unfold getsS at hgs
  generalize getF n hs (outsL n.pumps.length n.out.toNat) = s at *
  obtain ⟨⟨kn, hd, ol⟩, g⟩ := s
  have yl : ∀ j, j < 100 → upd Hs 100 none j = H0 j := fun j hj => by rw [upd_ne _ _ (by omega), jl j hj]
  have y2 : upd Hs 100 none 602 = _ := (upd_ne _ _ (by decide)).trans j2
  have y3 : upd Hs 100 none 603 = _ := (upd_ne _ _ (by decide)).trans j3
  have y4 : upd Hs 100 none 604 = _ := (upd_ne _ _ (by decide)).trans j4
  generalize upd Hs 100 none = H2 at y2 y3 y4 yl
  clear j36 j33 j34 j2 j3 j4 j5 j100 jr0 jr1 jr2 jr3 hmo hll
  simp only at hkn
  rcases hkn with rfl | rfl <;> cases g
  ·simp only [cTold] at y3
   simp only [Bool.false_eq_true, false_and, and_self, if_true, if_false, Int.reduceEq, true_and] at hgs
   repeat' (first | (with_reducible refine sk ?_; intro K hK) | ((with_reducible first | refine rg (md := { base := 600, own := [], imp := [] }) (h := ?_) | refine rgS [2, 3, 4, 5, 6] (md := { base := 600, own := [], imp := [] }) (h := ?_) | refine nx ?_); try simp (disch := omega) only [k1, k2, k3, k4, y2, y3, y4,go_sem, simprocAttr]) | (with_reducible refine bk ?_) | ((with_reducible refine' cE ?hv ?_ ?_); (case hv => first | rfl | (simp only [k1, k2, k3, k4, y2, y3, y4,go_sem, simprocAttr]; rfl)); all_goals (intro hc; (try simp only [go_sem, simprocAttr] at hc); try (exfalso; omega))) | ((with_reducible first | refine grdS_split ?_ ?_ | refine lkG_split ?_ ?_) <;> intro hg <;> (try simp (disch := omega) only [hg, k1, k2, k3, k4, y2, y3, y4,go_sem, simprocAttr]) <;> (try simp only [go_sem, simprocAttr] at hg) <;> (try (exfalso; omega))) | with_reducible intro (ep : Nat → Nat) | with_reducible apply_assumption -exfalso -symm only [*])
   exact FnQ_end (Or.inl rfl) (.refl _) (by simp only [Try.f69, go_sem, simprocAttr, k2]; rfl) ⟨by rw [hG, ← hgs]; simp only [cTold, go_sem, simprocAttr], fun j hj => by (repeat rw [upd_ne _ _ (by omega)]); exact yl j hj⟩
  ·simp only [cTold] at y3
   simp only [Bool.false_eq_true, false_and, and_self, if_true, if_false, Int.reduceEq, true_and] at hgs
   repeat' (first | (with_reducible refine sk ?_; intro K hK) | ((with_reducible first | refine rg (md := { base := 600, own := [], imp := [] }) (h := ?_) | refine rgS [2, 3, 4, 5, 6] (md := { base := 600, own := [], imp := [] }) (h := ?_) | refine nx ?_); try simp (disch := omega) only [k1, k2, k3, k4, y2, y3, y4,go_sem, simprocAttr]) | (with_reducible refine bk ?_) | ((with_reducible refine' cE ?hv ?_ ?_); (case hv => first | rfl | (simp only [k1, k2, k3, k4, y2, y3, y4,go_sem, simprocAttr]; rfl)); all_goals (intro hc; (try simp only [go_sem, simprocAttr] at hc); try (exfalso; omega))) | ((with_reducible first | refine grdS_split ?_ ?_ | refine lkG_split ?_ ?_) <;> intro hg <;> (try simp (disch := omega) only [hg, k1, k2, k3, k4, y2, y3, y4,go_sem, simprocAttr]) <;> (try simp only [go_sem, simprocAttr] at hg) <;> (try (exfalso; omega))) | with_reducible intro (ep : Nat → Nat) | with_reducible apply_assumption -exfalso -symm only [*])
   exact FnQ_end (Or.inl rfl) (.refl _) (by simp only [Try.f69, go_sem, simprocAttr, k2]; rfl) ⟨by rw [hG, ← hgs]; simp only [cTold, go_sem, simprocAttr], fun j hj => by (repeat rw [upd_ne _ _ (by omega)]); exact yl j hj⟩
  ·simp only [cTold] at y3
   simp only [Bool.false_eq_true, false_and, and_self, if_true, if_false, Int.reduceEq, true_and] at hgs
   repeat' (first | (with_reducible refine sk ?_; intro K hK) | ((with_reducible first | refine rg (md := { base := 600, own := [], imp := [] }) (h := ?_) | refine rgS [2, 3, 4, 5, 6] (md := { base := 600, own := [], imp := [] }) (h := ?_) | refine nx ?_); try simp (disch := omega) only [k1, k2, k3, k4, y2, y3, y4,go_sem, simprocAttr]) | (with_reducible refine bk ?_) | ((with_reducible refine' cE ?hv ?_ ?_); (case hv => first | rfl | (simp only [k1, k2, k3, k4, y2, y3, y4,go_sem, simprocAttr]; rfl)); all_goals (intro hc; (try simp only [go_sem, simprocAttr] at hc); try (exfalso; omega))) | ((with_reducible first | refine grdS_split ?_ ?_ | refine lkG_split ?_ ?_) <;> intro hg <;> (try simp (disch := omega) only [hg, k1, k2, k3, k4, y2, y3, y4,go_sem, simprocAttr]) <;> (try simp only [go_sem, simprocAttr] at hg) <;> (try (exfalso; omega))) | with_reducible intro (ep : Nat → Nat) | with_reducible apply_assumption -exfalso -symm only [*])
   exact FnQ_end (Or.inl rfl) (.refl _) (by simp only [Try.f69, go_sem, simprocAttr, k2]; rfl) ⟨by rw [hG, ← hgs]; simp only [cTold, go_sem, simprocAttr], fun j hj => by (repeat rw [upd_ne _ _ (by omega)]); exact yl j hj⟩
  ·simp only [cTold] at y3
   simp only [Bool.false_eq_true, false_and, and_self, if_true, if_false, Int.reduceEq, true_and] at hgs
   repeat' (first | (with_reducible refine sk ?_; intro K hK) | ((with_reducible first | refine rg (md := { base := 600, own := [], imp := [] }) (h := ?_) | refine rgS [2, 3, 4, 5, 6] (md := { base := 600, own := [], imp := [] }) (h := ?_) | refine nx ?_); try simp (disch := omega) only [k1, k2, k3, k4, y2, y3, y4,go_sem, simprocAttr]) | (with_reducible refine bk ?_) | ((with_reducible refine' cE ?hv ?_ ?_); (case hv => first | rfl | (simp only [k1, k2, k3, k4, y2, y3, y4,go_sem, simprocAttr]; rfl)); all_goals (intro hc; (try simp only [go_sem, simprocAttr] at hc); try (exfalso; omega))) | ((with_reducible first | refine grdS_split ?_ ?_ | refine lkG_split ?_ ?_) <;> intro hg <;> (try simp (disch := omega) only [hg, k1, k2, k3, k4, y2, y3, y4,go_sem, simprocAttr]) <;> (try simp only [go_sem, simprocAttr] at hg) <;> (try (exfalso; omega))) | with_reducible intro (ep : Nat → Nat) | with_reducible apply_assumption -exfalso -symm only [*])
   exact FnQ_end (Or.inl rfl) (.refl _) (by simp only [Try.f69, go_sem, simprocAttr, k2]; rfl) ⟨by rw [hG, ← hgs]; simp only [cTold, go_sem, simprocAttr], fun j hj => by (repeat rw [upd_ne _ _ (by omega)]); exact yl j hj⟩
def lackV (t : LackT) : Val := .agg [.int .u8 t.known, .int .i64 t.head, .lst 1 (ints t.out)]
theorem cTold_weak (n : NetT) (h0 : 0 ≤ n.out) (hs : List HeadT) {G : Gh} {w : World} {x : Value} (h : VR G w (.agg (cTold (getsS n hs))) x) : VR G w (lackV (getsS n hs)) x := by
 have hf := gets_facts h0 hs
 unfold cTold at h
 unfold lackV
 split at h
 ·rename_i hk
  rw [(hf.yes hk).2.1]
  exact h.agg3_nils
 ·exact h
theorem getsV_ok (n : NetT) (hF : NetF n) (hs : List HeadT) (h5 : heads500 hs) (hsl : hs.length ≤ 12) (hnd : ∀ h ∈ hs, 1 ≤ h.node ∧ h.node ≤ n.pipes.length) (e36 e33 e34 ver : Nat) (H0 : Hp)
  (g36 : H0 436 = some (e36, .fro 10 [cPlant n hs e33 e34 (n.pipes.length + 1)])) (g33 : H0 433 = some (e33, .arr 1 (ints (flowL n.pipes (n.pipes.length + 1) hs)))) (g34 : H0 434 = some (e34, .map ver []))
  (hroom : ∀ j, 600 ≤ j → H0 j = none) (h100 : H0 100 = none) :
  ACall Try.prog 69 [.ptr 436 e36 10 0 0] H0 fun v H' => v = lackV (getsS n hs) ∧ ∀ j, j < 100 → H' j = H0 j :=
 (gets_ok n hF hs h5 hsl hnd e36 e33 e34 ver H0 g36 g33 g34 hroom h100).weak fun G w x h => cTold_weak n hF.out.1 hs h
end Cp
namespace Cp
open Go Go.Proofs
set_option maxRecDepth 10000
set_option maxHeartbeats 1000000
def lackN : Val := .agg [.int .u8 0, .int .i64 0, .nils]
def lackZ : LackT := ⟨0, 0, []⟩
def getsD (z : Val) (n : NetT) (l : List Int) : Val := if netOK n = true then (if openOK n.heads l = true then .tup [lackV (getsS n (openH n.heads l)), .int .i64 0] else .tup [z, .int .i64 2]) else .tup [z, .int .i64 50]
theorem lackV_noid {t : LackT} : noid (lackV t) = true := by simp only [lackV, noid, noids, noid_ints]; rfl
theorem Gets_ok0 (n : NetT) (hs : NetS n) (l : List Int) (hl : l.length ≤ 100000) : PureC Try.prog 26 [encNet n, .lst 1 (ints l)] (getsD lackN n l) := by
 have hnoid : noid (getsD lackN n l) = true := by unfold getsD; split <;> (try split) <;> (simp only [noid, noids, noidss, lackN, lackV_noid, go_sem, simprocAttr]; rfl)
 have hop := fun H0 => opened_ok n hs l hl H0
 unfold openR at hop
 have hpl := hs.pipes
 simp only [encNet, cNet] at hop
 refine PureC_of (fn := Try.f26) tabOK (by kernel_rfl) rfl (by kernel_rfl) (by simp [Try.f26]) (by simp [noids, noid, noidss, go_sem, encNet, cNet, hnoid]) (by first | rfl | simp [noids, noid, noidss, go_sem, encNet, cNet, hnoid]) ?_
 intro X hX0 hXs
 unfold getsD
 cases hN : netOK n with
 | false =>
  simp only [hN, Bool.false_eq_true, if_false] at hop
  repeat' (first | (with_reducible refine sk ?_; intro K hK) | ((first | (with_reducible first | refine rg (md := { base := 0, own := [4], imp := [11, 19] }) (h := ?_) | refine rgS [4] (md := { base := 0, own := [4], imp := [11, 19] }) (h := ?_) | refine nx ?_) | refine pK (hop _) ?_); try simp (disch := omega) only [encNet, cNet,go_sem, simprocAttr]) | (with_reducible refine bk ?_) | ((with_reducible refine' cE ?hv ?_ ?_); (case hv => first | rfl | (simp only [encNet, cNet,go_sem, simprocAttr]; rfl)); all_goals (intro hc; (try simp only [go_sem, simprocAttr] at hc); try (exfalso; omega))) | (first | refine iK (hop _) ?_) | ((with_reducible refine fe ?_); refine ⟨_, (by simp only [Try.f26, encNet, cNet,go_sem, simprocAttr]; rfl), ?_⟩; first | rfl | (try simp only [encNet, cNet,go_sem, simprocAttr, seval])) | with_reducible intro (ep : Nat → Nat) | with_reducible apply_assumption -exfalso -symm only [*])
  rintro v H3 ⟨hlow, rfl⟩
  have g4 := hlow 4 (by decide)
  simp only [go_sem, simprocAttr] at g4
  simp only [go_sem, simprocAttr]
  repeat' (first | (with_reducible refine sk ?_; intro K hK) | ((with_reducible first | refine rg (md := { base := 0, own := [4], imp := [11, 19] }) (h := ?_) | refine rgS [4] (md := { base := 0, own := [4], imp := [11, 19] }) (h := ?_) | refine nx ?_); try simp (disch := omega) only [g4, lackN,go_sem, simprocAttr]) | (with_reducible refine bk ?_) | ((with_reducible refine' cE ?hv ?_ ?_); (case hv => first | rfl | (simp only [g4, lackN,go_sem, simprocAttr]; rfl)); all_goals (intro hc; (try simp only [go_sem, simprocAttr] at hc); try (exfalso; omega))) | ((with_reducible refine fe ?_); refine ⟨_, (by simp only [Try.f26, g4, lackN,go_sem, simprocAttr]; rfl), ?_⟩; first | rfl | (try simp only [g4, lackN,go_sem, simprocAttr, seval])) | with_reducible intro (ep : Nat → Nat) | with_reducible apply_assumption -exfalso -symm only [*])
 | true =>
  have hF := net_facts hN
  cases hO : openOK n.heads l with
  | false =>
   simp only [hN, hO, Bool.false_eq_true, if_false, if_true] at hop
   repeat' (first | (with_reducible refine sk ?_; intro K hK) | ((first | (with_reducible first | refine rg (md := { base := 0, own := [4], imp := [11, 19] }) (h := ?_) | refine rgS [4] (md := { base := 0, own := [4], imp := [11, 19] }) (h := ?_) | refine nx ?_) | refine pK (hop _) ?_); try simp (disch := omega) only [encNet, cNet,go_sem, simprocAttr]) | (with_reducible refine bk ?_) | ((with_reducible refine' cE ?hv ?_ ?_); (case hv => first | rfl | (simp only [encNet, cNet,go_sem, simprocAttr]; rfl)); all_goals (intro hc; (try simp only [go_sem, simprocAttr] at hc); try (exfalso; omega))) | (first | refine iK (hop _) ?_) | ((with_reducible refine fe ?_); refine ⟨_, (by simp only [Try.f26, encNet, cNet,go_sem, simprocAttr]; rfl), ?_⟩; first | rfl | (try simp only [encNet, cNet,go_sem, simprocAttr, seval])) | with_reducible intro (ep : Nat → Nat) | with_reducible apply_assumption -exfalso -symm only [*])
   rintro v H3 ⟨hlow, rfl⟩
   have g4 := hlow 4 (by decide)
   simp only [go_sem, simprocAttr] at g4
   simp only [go_sem, simprocAttr]
   repeat' (first | (with_reducible refine sk ?_; intro K hK) | ((with_reducible first | refine rg (md := { base := 0, own := [4], imp := [11, 19] }) (h := ?_) | refine rgS [4] (md := { base := 0, own := [4], imp := [11, 19] }) (h := ?_) | refine nx ?_); try simp (disch := omega) only [g4, lackN,go_sem, simprocAttr]) | (with_reducible refine bk ?_) | ((with_reducible refine' cE ?hv ?_ ?_); (case hv => first | rfl | (simp only [g4, lackN,go_sem, simprocAttr]; rfl)); all_goals (intro hc; (try simp only [go_sem, simprocAttr] at hc); try (exfalso; omega))) | ((with_reducible refine fe ?_); refine ⟨_, (by simp only [Try.f26, g4, lackN,go_sem, simprocAttr]; rfl), ?_⟩; first | rfl | (try simp only [g4, lackN,go_sem, simprocAttr, seval])) | with_reducible intro (ep : Nat → Nat) | with_reducible apply_assumption -exfalso -symm only [*])
  | true =>
   simp only [hN, hO, if_true] at hop
   repeat' (first | (with_reducible refine sk ?_; intro K hK) | ((first | (with_reducible first | refine rg (md := { base := 0, own := [4], imp := [11, 19] }) (h := ?_) | refine rgS [4] (md := { base := 0, own := [4], imp := [11, 19] }) (h := ?_) | refine nx ?_) | refine pK (hop _) ?_); try simp (disch := omega) only [encNet, cNet,go_sem, simprocAttr]) | (with_reducible refine bk ?_) | ((with_reducible refine' cE ?hv ?_ ?_); (case hv => first | rfl | (simp only [encNet, cNet,go_sem, simprocAttr]; rfl)); all_goals (intro hc; (try simp only [go_sem, simprocAttr] at hc); try (exfalso; omega))) | (first | refine iK (hop _) ?_) | ((with_reducible refine fe ?_); refine ⟨_, (by simp only [Try.f26, encNet, cNet,go_sem, simprocAttr]; rfl), ?_⟩; first | rfl | (try simp only [encNet, cNet,go_sem, simprocAttr, seval])) | with_reducible intro (ep : Nat → Nat) | with_reducible apply_assumption -exfalso -symm only [*])
   rintro v H3 ⟨hlow, e36, e33, e34, ver, rfl, h36, h33, h34⟩
   have g4 := hlow 4 (by decide)
   simp only [go_sem, simprocAttr] at g4
   simp only [go_sem, simprocAttr]
   repeat' (first | ((fail_if_success (with_reducible refine AW_at (id := 4) ?_)); with_reducible refine sk ?_; intro K hK) | ((with_reducible first | refine rg (md := { base := 0, own := [4], imp := [11, 19] }) (h := ?_) | refine rgS [4] (md := { base := 0, own := [4], imp := [11, 19] }) (h := ?_) | refine nx ?_); try simp (disch := omega) only [h36, h33, h34, g4,go_sem, simprocAttr]) | (with_reducible refine bk ?_) | ((with_reducible refine' cE ?hv ?_ ?_); (case hv => first | rfl | (simp only [h36, h33, h34, g4,go_sem, simprocAttr]; rfl)); all_goals (intro hc; (try simp only [go_sem, simprocAttr] at hc); try (exfalso; omega))) | ((with_reducible refine fe ?_); refine ⟨_, (by simp only [Try.f26, h36, h33, h34, g4,go_sem, simprocAttr]; rfl), ?_⟩; first | rfl | (try simp only [h36, h33, h34, g4,go_sem, simprocAttr, seval])) | with_reducible intro (ep : Nat → Nat) | with_reducible apply_assumption -exfalso -symm only [*])
   refine AW_freeze 436 h36 ?_
   refine AW_keep [4, 433, 434, 436] ?_
   obtain ⟨H4, hH4⟩ : ∃ H4, keep (upd H3 436 (some (e36, .fro 10 [cPlant n (openH n.heads l) e33 e34 (n.pipes.length + 1)]))) [4, 433, 434, 436] = H4 := ⟨_, rfl⟩
   have k36 : H4 436 = some (e36, .fro 10 [cPlant n (openH n.heads l) e33 e34 (n.pipes.length + 1)]) := by rw [← hH4]; rfl
   have k33 : H4 433 = some (e33, .arr 1 (ints (flowL n.pipes (n.pipes.length + 1) (openH n.heads l)))) := by rw [← hH4]; exact h33
   have k34 : H4 434 = some (e34, .map ver []) := by rw [← hH4]; exact h34
   have k4 := (congrFun hH4 4).symm.trans g4
   have kr : ∀ j, 600 ≤ j → H4 j = none := fun j hj => by
    rw [← hH4]; unfold keep; rw [if_neg]; simp; omega
   have k100 : H4 100 = none := by rw [← hH4]; rfl
   rw [hH4]
   clear hH4 h36 h33 h34 g4 hlow hop
   have hgo := getsV_ok n hF _ (openH_500 hF l) (by have := open_le hF.ids hO; have := @openH_len n.heads l; have := hF.heads; omega) (fun h hm => openH_node hF hm) e36 e33 e34 ver H4 k36 k33 k34 kr k100
   repeat' (first | (with_reducible refine sk ?_; intro K hK) | ((first | (with_reducible first | refine rg (md := { base := 0, own := [4], imp := [11, 19] }) (h := ?_) | refine rgS [4] (md := { base := 0, own := [4], imp := [11, 19] }) (h := ?_) | refine nx ?_) | refine pK (hgo) ?_); try simp (disch := omega) only [k36, k4,go_sem, simprocAttr]) | (with_reducible refine bk ?_) | ((with_reducible refine' cE ?hv ?_ ?_); (case hv => first | rfl | (simp only [k36, k4,go_sem, simprocAttr]; rfl)); all_goals (intro hc; (try simp only [go_sem, simprocAttr] at hc); try (exfalso; omega))) | (first | refine iK (hgo) ?_) | with_reducible intro (ep : Nat → Nat) | with_reducible apply_assumption -exfalso -symm only [*])
   rintro v H5 ⟨rfl, hlow⟩
   have g4 := (hlow 4 (by decide)).trans k4
   simp only [go_sem, simprocAttr, lackV, g4]
   repeat' (first | (with_reducible refine sk ?_; intro K hK) | ((with_reducible first | refine rg (md := { base := 0, own := [4], imp := [11, 19] }) (h := ?_) | refine rgS [4] (md := { base := 0, own := [4], imp := [11, 19] }) (h := ?_) | refine nx ?_); try simp (disch := omega) only [g4, lackV,go_sem, simprocAttr]) | (with_reducible refine bk ?_) | ((with_reducible refine' cE ?hv ?_ ?_); (case hv => first | rfl | (simp only [g4, lackV,go_sem, simprocAttr]; rfl)); all_goals (intro hc; (try simp only [go_sem, simprocAttr] at hc); try (exfalso; omega))) | ((with_reducible refine fe ?_); refine ⟨_, (by simp only [Try.f26, g4, lackV,go_sem, simprocAttr]; rfl), ?_⟩; first | rfl | (try simp only [g4, lackV,go_sem, simprocAttr, seval])) | with_reducible intro (ep : Nat → Nat) | with_reducible apply_assumption -exfalso -symm only [*])
theorem Gets_ok (n : NetT) (hs : NetS n) (l : List Int) (hl : l.length ≤ 100000) : PureC Try.prog 26 [encNet n, .lst 1 (ints l)] (getsD (lackV lackZ) n l) := by
 refine (Gets_ok0 n hs l hl).weak ?_ fun G w x h => ?_
 ·unfold getsD; split <;> (try split) <;> (simp only [noid, noids, noidss, lackV_noid, go_sem, simprocAttr]; rfl)
 ·have key : ∀ e, VR G w (.tup [lackN, .int .i64 e]) x → VR G w (.tup [lackV lackZ, .int .i64 e]) x := fun e h => by
   refine VR.tup_imp (vs := [lackN, .int .i64 e]) rfl (fun i v v' h1 h2 y hy => ?_) h
   match i, h1, h2 with
   | 0, h1, h2 => cases h1; cases h2; exact hy.agg3_nils
   | 1, h1, h2 => cases h1; cases h2; exact hy
  unfold getsD at h ⊢
  split
  ·rename_i hN
   rw [if_pos hN] at h
   split
   ·rename_i hO
    rw [if_pos hO] at h
    exact h
   ·rename_i hO
    rw [if_neg hO] at h
    exact key _ h
  ·rename_i hN
   rw [if_neg hN] at h
   exact key _ h
end Cp
namespace Cp
open Go Go.Proofs
set_option maxRecDepth 10000
set_option maxHeartbeats 4000000
end Cp
namespace Cp
open Go
theorem lex_at : ∀ {k : Nat} {a b : List Int} {x y : Int}, lexB a b → (∀ j, j < k → a[j]? = b[j]?) → a[k]? = some x → b[k]? = some y → ¬ x = y → x < y
 | _, [], b, x, y, h, _, _, _, _ => by unfold lexB at h; exact h.elim
 | _, _ :: _, [], x, y, h, _, _, _, _ => by unfold lexB at h; exact h.elim
 | 0, a :: l, b :: m, x, y, h, _, hx, hy, hne => by
  simp at hx hy
  subst hx hy
  rcases h with h | ⟨h, _⟩
  ·exact h
  ·exact (hne h).elim
 | k + 1, a :: l, b :: m, x, y, h, hp, hx, hy, hne => by
  have h0 : a = b := by simpa using hp 0 (by omega)
  rcases h with h | ⟨_, h⟩
  ·omega
  ·exact lex_at (k := k) h (fun j hj => by simpa using hp (j + 1) (by omega)) (by simpa using hx) (by simpa using hy) hne
theorem bef_at {I ou : List Int} (h : I = ou ∨ befO ou I) (hl : I.length = ou.length) {k : Nat} {x y : Int} (hp : ∀ j, j < k → I[j]? = ou[j]?) (hx : I[k]? = some x) (hy : ou[k]? = some y) (hne : ¬ x = y) : y < x := by
 rcases h with rfl | h
 ·rw [hx] at hy; cases hy; exact (hne rfl).elim
 ·rcases h with h | ⟨_, h⟩
  ·clear hp hx hy; omega
  ·exact lex_at h (fun j hj => (hp j hj).symm) hy hx fun e => hne e.symm
theorem bef_len {I ou : List Int} (h : I = ou ∨ befO ou I) (hl : ¬ I.length = ou.length) : ou.length < I.length := by
 rcases h with rfl | h | ⟨h, _⟩
 ·exact (hl rfl).elim
 ·exact h
 ·omega
def lowH (n : NetT) (L : List HeadT) (ou : List Int) (h : HeadT) : Bool := decide (pressS n L ou false h < h.least)
theorem find_snoc {α : Type} {p : α → Bool} {l : List α} {k : Nat} {x : α} (hx : l[k]? = some x) (hn : (l.take k).any p = false) (hp : p x = true) : l.find? p = some x :=
 find_of hx hp fun j y hj hy => by
  have := List.any_eq_false.1 hn y (List.mem_of_getElem? (i := j) (by rw [List.getElem?_take_of_lt hj]; exact hy))
  simpa using this
theorem low_head {n : NetT} {L : List HeadT} {ou : List Int} {k : Nat} {x : HeadT} (hx : L[k]? = some x) (hn : (L.take k).any (lowH n L ou) = false) (hp : lowH n L ou x = true) : (lackS n L ou false).1 = x.id := by
 have h : lackF n L ou false L = some x := find_snoc (p := lowH n L ou) hx hn hp
 unfold lackS; rw [h]
theorem low_tank {n : NetT} {L : List HeadT} {ou : List Int} (hb : badO n L ou = true) (hn : L.any (lowH n L ou) = false) : (lackS n L ou false).1 = -1 ∧ n.tank.lo < needs L * n.mins := by
 have h : lackF n L ou false L = none := List.find?_eq_none.2 fun x hx => by
  have := List.any_eq_false.1 hn x hx
  simpa [lowH] using this
 unfold badO lackS at hb
 rw [h] at hb
 unfold lackS
 rw [h]
 have h3 : tankH n false = n.tank.lo := rfl
 simp only at hb ⊢
 split at hb
 ·rename_i h4; rw [if_pos h4]; exact ⟨rfl, by omega⟩
 ·cases hb
theorem any_snoc {α : Type} {p : α → Bool} {l : List α} {k : Nat} {x : α} (hx : l[k]? = some x) : (l.take (k + 1)).any p = ((l.take k).any p || p x) := by
 rw [take_snoc' hx, List.any_append]; simp
theorem pair_step {l : List Int} (h : l.Pairwise (· < ·)) {k : Nat} {x y : Int} (hx : l[k]? = some x) (hy : l[k + 1]? = some y) : x < y := by
 obtain ⟨h1, rfl⟩ := List.getElem?_eq_some_iff.1 hx
 obtain ⟨h2, rfl⟩ := List.getElem?_eq_some_iff.1 hy
 exact List.pairwise_iff_getElem.1 h k (k + 1) h1 h2 (by omega)
end Cp
