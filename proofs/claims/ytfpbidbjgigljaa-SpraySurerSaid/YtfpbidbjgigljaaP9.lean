/- Rules, facts and contracts that the statement's proof leans on. Conditions: none. -/
import Derived.Test.YtfpbidbjgigljaaP8
set_option linter.unusedVariables false
set_option linter.unusedSimpArgs false
set_option linter.unusedSectionVars false
namespace Cp
open Go
theorem some_works {m : Nat} {out : List Int} (hp : out.Pairwise (· < ·)) (hl : (out.length : Int) ≤ (m : Int) - 1) : ∃ i, i < m ∧ ¬ (i : Int) ∈ out := by
 refine Classical.byContradiction fun h => ?_
 have h2 : ∀ i, i < m → (i : Int) ∈ out := fun i hi => Classical.byContradiction fun h3 => h ⟨i, hi, h3⟩
 have hr : ((List.range m).map fun i : Nat => (i : Int)).Pairwise (· < ·) := List.pairwise_map.2 (List.pairwise_lt_range.imp fun h => by omega)
 have := pair_len hr hp fun a ha => by
  obtain ⟨i, hi, rfl⟩ := List.mem_map.1 ha
  exact h2 i (by simpa using hi)
 simp at this; omega
theorem out_facts {n : NetT} {l : List Int} (h : outOK n l = true) : (∀ a ∈ l, 0 ≤ a ∧ a < n.pumps.length) ∧ l.Pairwise (· < ·) ∧ (l.length : Int) ≤ n.out := by
 unfold outOK at h
 simp only [Bool.and_eq_true, decide_eq_true_eq] at h
 obtain ⟨h1, h2⟩ := okL_none h.1
 exact ⟨fun a ha => by have := h1 a ha; simpa [isPump] using this, h2, h.2⟩
theorem upD_bnd {a b : Int} (ha : 0 ≤ a) (hb : 0 < b) : 0 ≤ upD a b ∧ upD a b ≤ a := by
 unfold upD
 refine ⟨Int.ediv_nonneg (by omega) (by omega), ?_⟩
 by_cases h : a = 0
 ·subst h
  rw [Int.ediv_eq_zero_of_lt (by omega) (by omega)]; omega
 ·refine Int.lt_add_one_iff.1 ((Int.ediv_lt_iff_lt_mul hb).2 ?_)
  have h1 : 1 ≤ a := by omega
  have : a + b ≤ a * b + 1 := by
   have := Int.mul_nonneg (by omega : 0 ≤ a - 1) (by omega : 0 ≤ b - 1)
   rw [Int.sub_mul, Int.mul_sub] at this; omega
  rw [Int.add_mul]; omega
theorem upD_mono {a a' b : Int} (h : a ≤ a') (hb : 0 < b) : upD a b ≤ upD a' b := by
 unfold upD
 exact Int.ediv_le_ediv hb (by omega)
theorem tdiv_up {a b : Int} (ha : 0 ≤ a) (hb : 0 < b) : (a + b - 1).tdiv b = upD a b := by
 unfold upD; exact Int.tdiv_eq_ediv_of_nonneg (by omega)
theorem share_bnd {n : NetT} {flow : Int} {out : List Int} (h0 : 0 ≤ flow) (hl : (out.length : Int) ≤ (n.pumps.length : Int) - 1) : 0 ≤ shareS n flow out ∧ shareS n flow out ≤ flow := upD_bnd h0 (by omega)
theorem fullE_bnd {p : PumpT} (h : 0 ≤ p.full.lo ∧ p.full.lo ≤ p.full.hi ∧ p.full.hi ≤ 100000) (best : Bool) : 0 ≤ fullE best p ∧ fullE best p ≤ 100000 := by
 unfold fullE; split <;> omega
theorem foulE_bnd {p : PipeT} (h : 0 ≤ p.foul.lo ∧ p.foul.lo ≤ p.foul.hi ∧ p.foul.hi ≤ 1000) (best : Bool) : 0 ≤ foulE best p ∧ foulE best p ≤ 1000 := by
 unfold foulE; split <;> omega
theorem pumpsF_start {best : Bool} {share : Int} (hs : 0 ≤ share) {out : List Int} {a b : Int} (ha : 100000 ≤ a) (hb : 100000 ≤ b) : ∀ {l : List PumpT} {i : Nat}, (∀ p ∈ l, (0 ≤ p.full.lo ∧ p.full.lo ≤ p.full.hi ∧ p.full.hi ≤ 100000) ∧ 0 ≤ p.slope ∧ p.slope ≤ 100) → (∃ k, k < l.length ∧ ¬ ((i + k : Nat) : Int) ∈ out) → pumpsF best share out l i a = pumpsF best share out l i b
 | [], i, _, h => by obtain ⟨k, hk, _⟩ := h; simp at hk
 | p :: l, i, hp, ⟨k, hk, hn⟩ => by
  have hp0 := hp p (by simp)
  have hf := fullE_bnd hp0.1 best
  have hsl : 0 ≤ p.slope * share := Int.mul_nonneg hp0.2.1 hs
  simp only [pumpsF]
  by_cases hc : out.contains (i : Int) = true
  ·rw [if_pos hc, if_pos hc]
   refine pumpsF_start hs ha hb (fun q hq => hp q (by simp [hq])) ?_
   cases k with
   | zero => exact absurd (by simpa using hc) hn
   | succ k => exact ⟨k, by simpa using hk, by rwa [show i + 1 + k = i + (k + 1) by omega]⟩
  ·rw [if_neg hc, if_neg hc]
   rw [show min a (fullE best p - p.slope * share) = min b (fullE best p - p.slope * share) by omega]
theorem pumpsS_eq {n : NetT} (hF : NetF n) {out : List Int} (ho : outOK n out = true) {hs : List HeadT} (h5 : heads500 hs) (best : Bool) : pumpsF best (shareS n (needs hs) out) out n.pumps 0 1099511627776 = pumpsS n hs out best := by
 obtain ⟨h1, h2, h3⟩ := out_facts ho
 have h4 := hF.out
 obtain ⟨i, hi, hn⟩ := some_works (m := n.pumps.length) h2 (by omega)
 have hb := needs_bnd h5
 exact pumpsF_start (share_bnd (by omega) (by omega)).1 (by omega) (by omega) hF.pump ⟨i, hi, by simpa using hn⟩
theorem pumpsF_bnd {best : Bool} {share : Int} (hs : 0 ≤ share ∧ share ≤ 10000) {out : List Int} : ∀ {l : List PumpT} {i : Nat} {a : Int}, (∀ p ∈ l, (0 ≤ p.full.lo ∧ p.full.lo ≤ p.full.hi ∧ p.full.hi ≤ 100000) ∧ 0 ≤ p.slope ∧ p.slope ≤ 100) → -1000000 ≤ a → -1000000 ≤ pumpsF best share out l i a ∧ pumpsF best share out l i a ≤ a
 | [], i, a, _, h => by simp [pumpsF, h]
 | p :: l, i, a, hp, h => by
  have hp0 := hp p (by simp)
  have hf := fullE_bnd hp0.1 best
  have h1 : p.slope * share ≤ 100 * share := Int.mul_le_mul_of_nonneg_right hp0.2.2 hs.1
  have h2 : 0 ≤ p.slope * share := Int.mul_nonneg hp0.2.1 hs.1
  simp only [pumpsF]
  have := pumpsF_bnd (best := best) hs (out := out) (l := l) (i := i + 1) (a := if out.contains (i : Int) = true then a else min a (fullE best p - p.slope * share)) (fun q hq => hp q (by simp [hq])) (by split <;> omega)
  refine ⟨this.1, Int.le_trans this.2 ?_⟩
  split <;> omega
theorem sq_bnd {x b : Int} (h : 0 ≤ x ∧ x ≤ b) : 0 ≤ x * x ∧ x * x ≤ b * b := ⟨Int.mul_nonneg h.1 h.1, Int.mul_le_mul h.2 h.2 h.1 (by omega)⟩
theorem loss_bnd {f x : Int} (hf : 0 ≤ f ∧ f ≤ 1000) (hx : 0 ≤ x ∧ x ≤ 10000) : 0 ≤ f * x * x ∧ f * x * x ≤ 100000000000 := by
 have h1 := sq_bnd hx
 have h2 : f * x * x = f * (x * x) := Int.mul_assoc ..
 rw [h2]
 exact ⟨Int.mul_nonneg hf.1 h1.1, Int.le_trans (Int.mul_le_mul hf.2 h1.2 h1.1 (by omega)) (by omega)⟩
def offM (out : List Int) : List (Int × Val) := out.map fun i => (i, .bool true)
theorem offM_len {out : List Int} : (offM out).length = out.length := by simp [offM]
end Cp
namespace Cp
open Go Go.Proofs
set_option maxRecDepth 10000
set_option maxHeartbeats 1000000
theorem sup_ok (a b : Int) (ha : 0 ≤ a ∧ a ≤ 1000000000000) (hb : 1 ≤ b ∧ b ≤ 1000000) : PureC Try.prog 89 [.int .i64 a, .int .i64 b] (.int .i64 (upD a b)) := by
 have hz : ¬ b = 0 := by omega
 have ht := tdiv_up (a := a) (b := b) ha.1 (by omega)
 have hub := upD_bnd (a := a) (b := b) ha.1 (by omega)
 refine PureC_of (fn := Try.f89) tabOK (by kernel_rfl) rfl (by kernel_rfl) (by simp [Try.f89]) (by simp [noids, noid, noidss, go_sem]) (by first | rfl | simp [noids, noid, noidss, go_sem]) ?_
 intro X hX0 hXs
 repeat' (first | (with_reducible refine sk ?_; intro K hK) | ((with_reducible first | refine rg (h := ?_) | refine nx ?_); try simp (disch := omega) only [hz, ht,go_sem, simprocAttr]) | (with_reducible refine bk ?_) | ((with_reducible refine' cE ?hv ?_ ?_); (case hv => first | rfl | (simp only [hz, ht,go_sem, simprocAttr]; rfl)); all_goals (intro hc; (try simp only [go_sem, simprocAttr] at hc); try (exfalso; omega))) | ((with_reducible refine fe ?_); refine ⟨_, (by simp only [Try.f89, hz, ht,go_sem, simprocAttr]; rfl), ?_⟩; first | rfl | (try simp only [hz, ht,go_sem, simprocAttr, seval])) | with_reducible intro (ep : Nat → Nat) | with_reducible apply_assumption -exfalso -symm only [*])
theorem least_ok (a b : Int) : PureC Try.prog 102 [.int .i64 a, .lst 1 [[.int .i64 b]]] (.int .i64 (min a b)) := by
 refine PureC_of (fn := Try.f102) tabOK (by kernel_rfl) rfl (by kernel_rfl) (by simp [Try.f102]) (by simp [noids, noid, noidss, go_sem]) (by first | rfl | simp [noids, noid, noidss, go_sem]) ?_
 intro X hX0 hXs
 repeat' (first | (with_reducible refine sk ?_; intro K hK) | ((with_reducible first | refine rg (h := ?_) | refine nx ?_); try simp (disch := omega) only [go_sem, simprocAttr]) | (with_reducible refine bk ?_) | ((with_reducible refine' cE ?hv ?_ ?_); (case hv => first | rfl | (simp only [go_sem, simprocAttr]; rfl)); all_goals (intro hc; (try simp only [go_sem, simprocAttr] at hc); try (exfalso; omega))) | ((with_reducible refine fe ?_); refine ⟨_, (by simp only [Try.f102, go_sem, simprocAttr]; rfl), ?_⟩; first | rfl | (try simp only [go_sem, simprocAttr, seval])) | with_reducible intro (ep : Nat → Nat) | with_reducible apply_assumption -exfalso -symm only [*])
 refine AW_range tabOK 1 (fun k f H => f 7 = .lst 1 [[.int .i64 b]] ∧ f 0 = .int .i64 (if k = 0 then a else min a b)) (by omega) (by rw [hXs]; decide) (by decide) (by (first | rfl | (simp only [go_sem, simprocAttr]; done) | (simp only [go_sem, simprocAttr]; rfl))) (by (first | rfl | (simp only [go_sem, simprocAttr]; done) | (simp only [go_sem, simprocAttr]; rfl))) ⟨by (first | rfl | (simp only [go_sem, simprocAttr]; done) | (simp only [go_sem, simprocAttr]; rfl)), by (first | rfl | (simp only [go_sem, simprocAttr]; done) | (simp only [go_sem, simprocAttr]; rfl))⟩ ?_ ?_
 ·rintro k f H hk h9 h8 ⟨h7, h0⟩
  obtain rfl : k = 0 := by omega
  simp only [if_true] at h0
  repeat' (first | (with_reducible refine sk ?_; intro K hK) | ((with_reducible first | refine rg (h := ?_) | refine nx ?_); try simp (disch := omega) only [h0, h7, h8, h9,go_sem, simprocAttr]) | (with_reducible refine bk ?_) | ((with_reducible refine' cE ?hv ?_ ?_); (case hv => first | rfl | (simp only [h0, h7, h8, h9,go_sem, simprocAttr]; rfl)); all_goals (intro hc; (try simp only [go_sem, simprocAttr] at hc); try (exfalso; omega))) | ((with_reducible refine fe ?_); refine ⟨_, (by simp only [Try.f102, h0, h7, h8, h9,go_sem, simprocAttr]; rfl), ?_⟩; first | rfl | (try simp only [h0, h7, h8, h9,go_sem, simprocAttr, seval])) | with_reducible intro (ep : Nat → Nat) | with_reducible apply_assumption -exfalso -symm only [*])
 ·rintro f H h9 h8 ⟨h7, h0⟩
  repeat' (first | (with_reducible refine sk ?_; intro K hK) | ((with_reducible first | refine rg (h := ?_) | refine nx ?_); try simp (disch := omega) only [h0,go_sem, simprocAttr]) | (with_reducible refine bk ?_) | ((with_reducible refine' cE ?hv ?_ ?_); (case hv => first | rfl | (simp only [h0,go_sem, simprocAttr]; rfl)); all_goals (intro hc; (try simp only [go_sem, simprocAttr] at hc); try (exfalso; omega))) | ((with_reducible refine fe ?_); refine ⟨_, (by simp only [Try.f102, h0,go_sem, simprocAttr]; rfl), ?_⟩; first | rfl | (try simp only [h0,go_sem, simprocAttr, seval])) | with_reducible intro (ep : Nat → Nat) | with_reducible apply_assumption -exfalso -symm only [*])
theorem low_ok (s : Span) : PureC Try.prog 86 [encSpan s] (.int .i64 s.lo) := by
 refine PureC_of (fn := Try.f86) tabOK (by kernel_rfl) rfl (by kernel_rfl) (by simp [Try.f86]) (by simp [noids, noid, noidss, go_sem, encSpan]) (by first | rfl | simp [noids, noid, noidss, go_sem, encSpan]) ?_
 intro X hX0 hXs
 repeat' (first | (with_reducible refine sk ?_; intro K hK) | ((with_reducible first | refine rg (h := ?_) | refine nx ?_); try simp (disch := omega) only [encSpan,go_sem, simprocAttr]) | (with_reducible refine bk ?_) | ((with_reducible refine' cE ?hv ?_ ?_); (case hv => first | rfl | (simp only [encSpan,go_sem, simprocAttr]; rfl)); all_goals (intro hc; (try simp only [go_sem, simprocAttr] at hc); try (exfalso; omega))) | ((with_reducible refine fe ?_); refine ⟨_, (by simp only [Try.f86, encSpan,go_sem, simprocAttr]; rfl), ?_⟩; first | rfl | (try simp only [encSpan,go_sem, simprocAttr, seval])) | with_reducible intro (ep : Nat → Nat) | with_reducible apply_assumption -exfalso -symm only [*])
theorem high_ok (s : Span) : PureC Try.prog 87 [encSpan s] (.int .i64 s.hi) := by
 refine PureC_of (fn := Try.f87) tabOK (by kernel_rfl) rfl (by kernel_rfl) (by simp [Try.f87]) (by simp [noids, noid, noidss, go_sem, encSpan]) (by first | rfl | simp [noids, noid, noidss, go_sem, encSpan]) ?_
 intro X hX0 hXs
 repeat' (first | (with_reducible refine sk ?_; intro K hK) | ((with_reducible first | refine rg (h := ?_) | refine nx ?_); try simp (disch := omega) only [encSpan,go_sem, simprocAttr]) | (with_reducible refine bk ?_) | ((with_reducible refine' cE ?hv ?_ ?_); (case hv => first | rfl | (simp only [encSpan,go_sem, simprocAttr]; rfl)); all_goals (intro hc; (try simp only [go_sem, simprocAttr] at hc); try (exfalso; omega))) | ((with_reducible refine fe ?_); refine ⟨_, (by simp only [Try.f87, encSpan,go_sem, simprocAttr]; rfl), ?_⟩; first | rfl | (try simp only [encSpan,go_sem, simprocAttr, seval])) | with_reducible intro (ep : Nat → Nat) | with_reducible apply_assumption -exfalso -symm only [*])
def sgF (best : Bool) : FuncId := if best = true then 87 else 86
def endV (best : Bool) : Val := .agg [.fn (sgF best) [], .fn (sgF (!best)) []]
theorem sg_ok (best : Bool) (s : Span) : PureC Try.prog (sgF best) [encSpan s] (.int .i64 (if best then s.hi else s.lo)) := by
 cases best
 ·exact low_ok s
 ·exact high_ok s
theorem ends_ok : PureC Try.prog 60 [] (.agg [.fn (sgF false) [], .fn (sgF true) [], .fn (sgF true) [], .fn (sgF false) []]) := by
 refine PureC_of (fn := Try.f60) tabOK (by kernel_rfl) rfl (by kernel_rfl) (by simp [Try.f60]) (by simp [noids, noid, noidss, go_sem]) (by first | rfl | simp [noids, noid, noidss, go_sem]) ?_
 intro X hX0 hXs
 repeat' (first | (with_reducible refine sk ?_; intro K hK) | ((with_reducible first | refine rg (h := ?_) | refine rgS [0] (h := ?_) | refine nx ?_); try simp (disch := omega) only [go_sem, simprocAttr]) | (with_reducible refine bk ?_) | ((with_reducible refine' cE ?hv ?_ ?_); (case hv => first | rfl | (simp only [go_sem, simprocAttr]; rfl)); all_goals (intro hc; (try simp only [go_sem, simprocAttr] at hc); try (exfalso; omega))) | ((with_reducible refine fe ?_); refine ⟨_, (by simp only [Try.f60, go_sem, simprocAttr]; rfl), ?_⟩; first | rfl | (try simp only [go_sem, simprocAttr, seval])) | with_reducible intro (ep : Nat → Nat) | with_reducible apply_assumption -exfalso -symm only [*])
structure PlH (n : NetT) (hs : List HeadT) (out : List Int) (e36 e33 e34 : Nat) (H : Hp) : Prop where
 h36 : frz1 (H 436) = some (e36, .fro 10 [cPlant n hs e33 e34 (n.pipes.length + 1)])
 h33 : frz1 (H 433) = some (e33, .fro 1 (ints (flowL n.pipes (n.pipes.length + 1) hs)))
 h34 : ∃ ver, frz1 (H 434) = some (e34, .frm ver (imap .i64 (offM out)))
@[go_sem] theorem xfind_off {i : Int} {l : List (Int × Val)} : xfind tab 3 (.int .i64 i) (imap .i64 l) 0 = some (findI i l 0) := xfind_imap tab_3 _ _
theorem findI_off {out : List Int} {i : Int} : ∀ {s : Nat}, (out.contains i = true ∧ ∃ j, findI i (offM out) s = some (j, .bool true)) ∨ (out.contains i = false ∧ findI i (offM out) s = none) := by
 induction out with
 | nil => intro s; exact .inr ⟨rfl, rfl⟩
 | cons a out ih =>
  intro s
  simp only [offM, List.map_cons, findI, List.contains_cons]
  by_cases h : i = a
  ·subst h; exact .inl ⟨by simp, s, by simp⟩
  ·have hb : (i == a) = false := by simpa using h
   rw [if_neg h, hb, Bool.false_or]
   exact ih (s := s + 1)
theorem pumps_look (n : NetT) (hF : NetF n) (hs : List HeadT) (h5 : heads500 hs) (hsl : hs.length ≤ 20) (out : List Int) (ho : outOK n out = true) (best : Bool) (e36 e33 e34 : Nat) (H : Hp) (hP : PlH n hs out e36 e33 e34 H) (hroom : H 1208 = none) :
  LookC Try.prog 88 [.ptr 436 e36 10 0 0, endV best] H (.int .i64 (pumpsS n hs out best)) := by
 obtain ⟨h36, h33, ver, h34⟩ := hP
 have hr : frz1 (H 1208) = none := by rw [hroom]; rfl
 obtain ⟨o1, o2, o3⟩ := out_facts ho
 have hno := hF.out
 have hnp := hF.pumps
 have hnb := needs_bnd h5
 have hsb := share_bnd (n := n) (flow := needs hs) (out := out) (by omega) (by omega)
 have hfl : (flowL n.pipes (n.pipes.length + 1) hs)[0]? = some (needs hs) := by rw [flowL_get (by omega), flowAt_zero]
 have hup := sup_ok (needs hs) ((n.pumps.length : Int) - out.length) (by omega) (by omega)
 have hshe : upD (needs hs) ((n.pumps.length : Int) - out.length) = shareS n (needs hs) out := rfl
 rw [hshe] at hup
 rw [← pumpsS_eq hF ho h5 best]
 obtain ⟨sh, hsh⟩ : ∃ sh, shareS n (needs hs) out = sh := ⟨_, rfl⟩
 rw [hsh] at hsb hup ⊢
 refine LookC_of (fn := Try.f88) tabOK (by kernel_rfl) rfl (by kernel_rfl) (by simp [Try.f88]) rfl ?_
 intro X hX0 hXs
 have hlp : 0 < n.pipes.length + 1 := by omega
 repeat' (first | ((fail_if_success (with_reducible refine AW_at (id := 3) ?_)); with_reducible refine sk ?_; intro K hK) | ((first | (with_reducible first | refine rg (md := { base := 1200, own := [] }) (h := ?_) | refine rgS [8] (md := { base := 1200, own := [] }) (h := ?_) | refine nx ?_) | refine pK (hup) ?_); try simp (disch := omega) only [h36, h33, h34, hr, hfl, hlp, flowL_len, offM_len, cPlant, endV,go_sem, simprocAttr]) | (with_reducible refine bk ?_) | ((with_reducible refine' cE ?hv ?_ ?_); (case hv => first | rfl | (simp only [h36, h33, h34, hr, hfl, hlp, flowL_len, offM_len, cPlant, endV,go_sem, simprocAttr]; rfl)); all_goals (intro hc; (try simp only [go_sem, simprocAttr] at hc); try (exfalso; omega))) | ((with_reducible refine fe ?_); refine ⟨_, (by simp only [Try.f88, h36, h33, h34, hr, hfl, hlp, flowL_len, offM_len, cPlant, endV,go_sem, simprocAttr]; rfl), ?_⟩; first | rfl | (try simp only [h36, h33, h34, hr, hfl, hlp, flowL_len, offM_len, cPlant, endV,go_sem, simprocAttr, seval])) | with_reducible intro (ep : Nat → Nat) | with_reducible apply_assumption -exfalso -symm only [*])
 repeat' (first | (with_reducible refine sk ?_; intro K hK) | ((with_reducible first | refine rg (md := { base := 1200, own := [] }) (h := ?_) | refine rgS [8] (md := { base := 1200, own := [] }) (h := ?_) | refine nx ?_); try simp (disch := omega) only [h36, h33, h34, hr, cPlant,go_sem, simprocAttr]) | (with_reducible refine bk ?_) | ((with_reducible refine' cE ?hv ?_ ?_); (case hv => first | rfl | (simp only [h36, h33, h34, hr, cPlant,go_sem, simprocAttr]; rfl)); all_goals (intro hc; (try simp only [go_sem, simprocAttr] at hc); try (exfalso; omega))) | ((with_reducible refine fe ?_); refine ⟨_, (by simp only [Try.f88, h36, h33, h34, hr, cPlant,go_sem, simprocAttr]; rfl), ?_⟩; first | rfl | (try simp only [h36, h33, h34, hr, cPlant,go_sem, simprocAttr, seval])) | with_reducible intro (ep : Nat → Nat) | with_reducible apply_assumption -exfalso -symm only [*])
 refine AW_range tabOK n.pumps.length (fun k f H => (f 0 = .ptr 436 e36 10 0 0 ∧ f 3 = .pim [.fn (sgF best) [], .fn (sgF (!best)) []] ∧ f 5 = .int .i64 sh ∧ f 32 = .lst 3 (n.pumps.map cPump)) ∧ (H 436 = some (e36, .fro 10 [cPlant n hs e33 e34 (n.pipes.length + 1)]) ∧ H 434 = some (e34, .frm ver (imap .i64 (offM out)))) ∧
   ∃ a, f 6 = .int .i64 a ∧ -1000000 ≤ a ∧ a ≤ 1099511627776 ∧ pumpsF best sh out n.pumps 0 1099511627776 = pumpsF best sh out (n.pumps.drop k) k a) (by omega) (by rw [hXs]; decide) (by decide) (by (first | rfl | (simp only [h36, go_sem, simprocAttr]; done) | (simp only [h36, go_sem, simprocAttr]; rfl))) (by (first | rfl | (simp only [h36, go_sem, simprocAttr]; done) | (simp only [h36, go_sem, simprocAttr]; rfl)))
  ⟨by (and_intros <;> first | rfl | (simp only [endV, h36, go_sem, simprocAttr]; done) | (simp only [endV, h36, go_sem, simprocAttr]; rfl)), by (and_intros <;> first | rfl | (simp only [h36, h34, cPlant, go_sem, simprocAttr]; done) | (simp only [h36, h34, cPlant, go_sem, simprocAttr]; rfl)), _, by (first | rfl | (simp only [go_sem, simprocAttr]; done) | (simp only [go_sem, simprocAttr]; rfl)), by omega, by omega, by simp⟩ ?_ ?_
 ·rintro k f H hk hi34 hi33 ⟨⟨h0, h3, h5', h32⟩, ⟨g36, g34⟩, a, h6, ha1, ha2, hr2⟩
  obtain ⟨p, hp⟩ : ∃ p, n.pumps[k]? = some p := ⟨_, List.getElem?_eq_getElem hk⟩
  have hpf := hF.pump p (List.mem_of_getElem? hp)
  have hfe := fullE_bnd hpf.1 best
  have q1 : p.slope * sh ≤ 100 * sh := Int.mul_le_mul_of_nonneg_right hpf.2.2 hsb.1
  have q2 : 0 ≤ p.slope * sh := Int.mul_nonneg hpf.2.1 hsb.1
  rw [drop_cons hp] at hr2
  simp only [pumpsF] at hr2
  have hsg := sg_ok best p.full
  have hfd : (if best = true then p.full.hi else p.full.lo) = fullE best p := rfl
  rw [hfd] at hsg
  simp only [encSpan] at hsg
  refine AW_keep [436, 434] ?_
  rcases @findI_off out (k : Int) 0 with ⟨c1, j, c2⟩ | ⟨c1, c2⟩
  ·rw [if_pos c1] at hr2
   repeat' (first | (with_reducible refine sk ?_; intro K hK) | ((with_reducible first | refine rg (md := { base := 1200, own := [] }) (h := ?_) | refine rgS [8] (md := { base := 1200, own := [] }) (h := ?_) | refine nx ?_); try simp (disch := omega) only [h0, h3, h5', h6, h32, hi33, hi34, g36, g34, hp, c2, cPump, cPlant,go_sem, simprocAttr]) | (with_reducible refine bk ?_) | ((with_reducible refine' cE ?hv ?_ ?_); (case hv => first | rfl | (simp only [h0, h3, h5', h6, h32, hi33, hi34, g36, g34, hp, c2, cPump, cPlant,go_sem, simprocAttr]; rfl)); all_goals (intro hc; (try simp only [go_sem, simprocAttr] at hc); try (exfalso; omega))) | ((with_reducible refine fe ?_); refine ⟨_, (by simp only [Try.f88, h0, h3, h5', h6, h32, hi33, hi34, g36, g34, hp, c2, cPump, cPlant,go_sem, simprocAttr]; rfl), ?_⟩; first | rfl | (try simp only [h0, h3, h5', h6, h32, hi33, hi34, g36, g34, hp, c2, cPump, cPlant,go_sem, simprocAttr, seval])) | with_reducible intro (ep : Nat → Nat) | with_reducible apply_assumption -exfalso -symm only [*])
   exact ⟨a, rfl, ha1, ha2, hr2⟩
  ·rw [c1] at hr2
   simp only [Bool.false_eq_true, if_false] at hr2
   repeat' (first | (with_reducible refine sk ?_; intro K hK) | ((first | (with_reducible first | refine rg (md := { base := 1200, own := [] }) (h := ?_) | refine rgS [8] (md := { base := 1200, own := [] }) (h := ?_) | refine nx ?_) | refine pK (hsg) ?_ | refine pK (least_ok _ _) ?_); try simp (disch := omega) only [h0, h3, h5', h6, h32, hi33, hi34, g36, g34, hp, c2, cPump, cPlant,go_sem, simprocAttr]) | (with_reducible refine bk ?_) | ((with_reducible refine' cE ?hv ?_ ?_); (case hv => first | rfl | (simp only [h0, h3, h5', h6, h32, hi33, hi34, g36, g34, hp, c2, cPump, cPlant,go_sem, simprocAttr]; rfl)); all_goals (intro hc; (try simp only [go_sem, simprocAttr] at hc); try (exfalso; omega))) | ((with_reducible refine fe ?_); refine ⟨_, (by simp only [Try.f88, h0, h3, h5', h6, h32, hi33, hi34, g36, g34, hp, c2, cPump, cPlant,go_sem, simprocAttr]; rfl), ?_⟩; first | rfl | (try simp only [h0, h3, h5', h6, h32, hi33, hi34, g36, g34, hp, c2, cPump, cPlant,go_sem, simprocAttr, seval])) | with_reducible intro (ep : Nat → Nat) | with_reducible apply_assumption -exfalso -symm only [*])
   exact ⟨min a (fullE best p - p.slope * sh), rfl, by omega, by omega, hr2⟩
 ·rintro f H hi34 hi33 ⟨⟨h0, h3, h5', h32⟩, ⟨g36, g34⟩, a, h6, ha1, ha2, hr2⟩
  rw [drop_none (Nat.le_refl _)] at hr2
  simp only [pumpsF] at hr2
  repeat' (first | (with_reducible refine sk ?_; intro K hK) | ((with_reducible first | refine rg (md := { base := 1200, own := [] }) (h := ?_) | refine rgS [8] (md := { base := 1200, own := [] }) (h := ?_) | refine nx ?_); try simp (disch := omega) only [h6,go_sem, simprocAttr]) | (with_reducible refine bk ?_) | ((with_reducible refine' cE ?hv ?_ ?_); (case hv => first | rfl | (simp only [h6,go_sem, simprocAttr]; rfl)); all_goals (intro hc; (try simp only [go_sem, simprocAttr] at hc); try (exfalso; omega))) | ((with_reducible refine fe ?_); refine ⟨_, (by simp only [Try.f88, h6,go_sem, simprocAttr]; rfl), ?_⟩; first | rfl | (try simp only [h6,go_sem, simprocAttr, seval])) | with_reducible intro (ep : Nat → Nat) | with_reducible apply_assumption -exfalso -symm only [*])
  rw [hr2]
end Cp
namespace Cp
open Go
end Cp
namespace Cp
open Go
structure TruF (n : NetT) (full foul : List Int) : Prop where
 lenF : full.length = n.pumps.length
 lenG : foul.length = n.pipes.length
 fb : ∀ x ∈ full, 0 ≤ x ∧ x ≤ 100000
 gb : ∀ x ∈ foul, 0 ≤ x ∧ x ≤ 1000
end Cp
namespace Cp
open Go Go.Proofs
set_option maxRecDepth 10000
set_option maxHeartbeats 1000000
@[go_sem] theorem xb_mapnil {x y : Operand} {k e : Nat} : xbin2 tab .eql 108 x y (.map k e) .nilm = some (.bool false) := by
 simp only [xbin2, xeq, tab_108]; rfl
@[go_sem] theorem xb_nilmap {x y : Operand} : xbin2 tab .eql 108 x y .nilm .nilm = some (.bool true) := by
 simp only [xbin2, xeq, tab_108]; rfl
end Cp
namespace Cp
open Go Go.Proofs
abbrev iv (n : Int) : Val := .int .i64 n
def netV : Val := .agg [.lst 4 [[iv 0, iv 1, iv 10, iv 20], [iv 1, iv 2, iv 0, iv 50], [iv 1, iv 3, iv 100, iv 100]],
 .lst 8 [[iv 5, iv 2, iv 80, iv 500, iv 66, iv 70, iv 0, iv 1], [iv 9, iv 3, iv 100, iv 400, iv 141, iv 145, iv 2, iv 2]], .lst 3 [[iv 3000, iv 3100, iv 5], [iv 3500, iv 3500, iv 10]], iv 1, iv 6000, iv 7000, iv 30]
theorem check_net : PureC Try.prog 21 [netV] (iv 0) := run_val (n := 400) tabOK mix look_ok (by rfl) (by rfl) (by kernel_rfl)
end Cp
namespace Cp
open Go Go.Proofs
noncomputable def look1 : Look := { look with memo := fun f => if Nat.beq f 21 = true then [([netV], iv 0)] else [], pmemo := fun f => [] }
theorem look1_m : ∀ fid xs v, (xs, v) ∈ look1.memo fid → PureC Try.prog fid xs v := fun fid vs v h => by
 simp only [look1] at h
 split at h
 ·rename_i hf
  rw [Nat.beq_eq] at hf
  subst hf
  simp only [List.mem_cons, List.not_mem_nil, or_false, Prod.mk.injEq] at h
  rcases h with ⟨rfl, rfl⟩
  exact check_net
 ·skip
  cases h
theorem look1_p : ∀ fid xs v, (xs, v) ∈ look1.pmemo fid → PureC Try.prog fid xs v := fun fid vs v h => by
 simp only [look1] at h
 cases h
theorem look1_ok : LookOK Try.prog look1 := ⟨look_ok.fn, look1_m, look1_p⟩
theorem alive_run : PureC Try.prog 35 [] (.bool true) := run_val (n := 400) tabOK mix look1_ok (by rfl) (by rfl) (by kernel_rfl)
end Cp
namespace Cp
open Go Go.Proofs
set_option maxRecDepth 10000
set_option maxHeartbeats 4000000
end Cp
namespace Cp
open Go Go.Proofs
set_option maxRecDepth 10000
set_option maxHeartbeats 4000000
end Cp
namespace Cp
open Go Go.Proofs
set_option maxRecDepth 10000
set_option maxHeartbeats 1000000
theorem PlH.frz {n : NetT} {hs : List HeadT} {out : List Int} {e36 e33 e34 : Nat} {H : Hp} (h : PlH n hs out e36 e33 e34 H) : PlH n hs out e36 e33 e34 (frzH H) := by
 obtain ⟨h1, h2, ver, h3⟩ := h
 exact ⟨by simp only [frzH, frz1_idem]; exact h1, by simp only [frzH, frz1_idem]; exact h2, ver, by simp only [frzH, frz1_idem]; exact h3⟩
theorem foul_neg (best : Bool) (p : PipeT) : (if (!best) = true then p.foul.hi else p.foul.lo) = foulE best p := by cases best <;> rfl
theorem pumpsS_bnd {n : NetT} (hF : NetF n) {hs : List HeadT} (h5 : heads500 hs) (hsl : hs.length ≤ 20) {out : List Int} (ho : outOK n out = true) (best : Bool) : -1000000 ≤ pumpsS n hs out best ∧ pumpsS n hs out best ≤ 200000 := by
 obtain ⟨o1, o2, o3⟩ := out_facts ho
 have hno := hF.out
 have hnb := needs_bnd h5
 have hsb := share_bnd (n := n) (flow := needs hs) (out := out) (by omega) (by omega)
 exact pumpsF_bnd ⟨hsb.1, by omega⟩ hF.pump (by omega)
theorem pressure_look (n : NetT) (hF : NetF n) (hs : List HeadT) (h5 : heads500 hs) (hsl : hs.length ≤ 20) (out : List Int) (ho : outOK n out = true) (best : Bool) (h : HeadT) (hnd : 1 ≤ h.node ∧ h.node ≤ n.pipes.length) (e36 e33 e34 : Nat) (H : Hp) (hP : PlH n hs out e36 e33 e34 H) (hroom : H 1208 = none) :
  LookC Try.prog 61 [.ptr 436 e36 10 0 0, encHead h, endV best] H (.int .i64 (pressS n hs out best h)) := by
 have hpm := pumps_look n hF hs h5 hsl out ho best e36 e33 e34 (frzH H) hP.frz (by simp only [frzH, hroom]; rfl)
 obtain ⟨h36, h33, ver, h34⟩ := hP
 have hnb := needs_bnd h5
 have hpl := hF.pipes
 have hpb := pumpsS_bnd hF h5 hsl ho best
 obtain ⟨pm, hpme⟩ : ∃ pm, pumpsS n hs out best = pm := ⟨_, rfl⟩
 unfold pressS
 rw [hpme] at hpm hpb ⊢
 simp only [endV] at hpm
 refine LookC_of (fn := Try.f61) tabOK (by kernel_rfl) rfl (by kernel_rfl) (by simp [Try.f61]) rfl ?_
 intro X hX0 hXs
 have hcast : ((h.node.toNat : Nat) : Int) = h.node := by omega
 repeat' (first | ((fail_if_success (with_reducible refine AW_at (id := 3) ?_)); with_reducible refine sk ?_; intro K hK) | ((first | (with_reducible first | refine rgL [] [11] (md := { base := 1300, own := [] }) (h := ?_) | refine nx ?_) | refine pK (hpm) ?_ | refine lK (hpm) ?_); try simp (disch := omega) only [h36, h33, h34, encHead, cHead, endV,go_sem, simprocAttr]) | (with_reducible refine bk ?_) | ((with_reducible refine' cE ?hv ?_ ?_); (case hv => first | rfl | (simp only [h36, h33, h34, encHead, cHead, endV,go_sem, simprocAttr]; rfl)); all_goals (intro hc; (try simp only [go_sem, simprocAttr] at hc); try (exfalso; omega))) | ((with_reducible refine fe ?_); refine ⟨_, (by simp only [Try.f61, h36, h33, h34, encHead, cHead, endV,go_sem, simprocAttr]; rfl), ?_⟩; first | rfl | (try simp only [h36, h33, h34, encHead, cHead, endV,go_sem, simprocAttr, seval])) | with_reducible intro (ep : Nat → Nat) | with_reducible apply_assumption -exfalso -symm only [*])
 refine AW_block (AW_loop (fun j f H => j ≤ n.pipes.length ∧ (f 0 = .ptr 436 e36 10 0 0 ∧ f 5 = .pim [.fn (sgF best) [], .fn (sgF (!best)) []] ∧ f 8 = .int .i64 j) ∧ (H 436 = some (e36, .fro 10 [cPlant n hs e33 e34 (n.pipes.length + 1)]) ∧ H 433 = some (e33, .fro 1 (ints (flowL n.pipes (n.pipes.length + 1) hs)))) ∧
   ∃ bar, f 7 = .int .i64 bar ∧ bar - lossL n.pipes hs best (path n.pipes j) = pm - lossL n.pipes hs best (path n.pipes h.node.toNat) ∧ -1000000 - 100000001 * ((n.pipes.length : Int) - j) ≤ bar ∧ bar ≤ 200000) h.node.toNat
  ⟨by omega, by (and_intros <;> first | rfl | (simp only [h36, hcast, go_sem, simprocAttr]; done) | (simp only [h36, hcast, go_sem, simprocAttr]; rfl)), by (and_intros <;> first | rfl | (simp only [h36, h33, cPlant, go_sem, simprocAttr]; done) | (simp only [h36, h33, cPlant, go_sem, simprocAttr]; rfl)), pm, by (first | rfl | (simp only [go_sem, simprocAttr]; done) | (simp only [go_sem, simprocAttr]; rfl)), rfl, by omega, by omega⟩ ?_)
 rintro j f H ⟨hj, ⟨h0, h5', h8⟩, ⟨g36, g33⟩, bar, h7, hr, hb1, hb2⟩
 refine AW_keep [436, 433] ?_
 by_cases hz : j = 0
 ·subst hz
  rw [path_zero, lossL, Int.sub_zero] at hr
  repeat' (first | (with_reducible refine sk ?_; intro K hK) | ((with_reducible first | refine rgL [] [11] (md := { base := 1300, own := [] }) (h := ?_) | refine nx ?_); try simp (disch := omega) only [h0, h5', h7, h8, g36, g33,go_sem, simprocAttr]) | (with_reducible refine bk ?_) | ((with_reducible refine' cE ?hv ?_ ?_); (case hv => first | rfl | (simp only [h0, h5', h7, h8, g36, g33,go_sem, simprocAttr]; rfl)); all_goals (intro hc; (try simp only [go_sem, simprocAttr] at hc); try (exfalso; omega))) | ((with_reducible refine fe ?_); refine ⟨_, (by simp only [Try.f61, h0, h5', h7, h8, g36, g33,go_sem, simprocAttr]; rfl), ?_⟩; first | rfl | (try simp only [h0, h5', h7, h8, g36, g33,go_sem, simprocAttr, seval])) | with_reducible intro (ep : Nat → Nat) | with_reducible apply_assumption -exfalso -symm only [*])
  all_goals rw [hr]
 ·obtain ⟨i, rfl⟩ : ∃ i, j = i + 1 := ⟨j - 1, by omega⟩
  obtain ⟨p, hp⟩ : ∃ p, n.pipes[i]? = some p := ⟨_, List.getElem?_eq_getElem (by omega)⟩
  have hpf := hF.pipe i p hp
  have hfb := foulE_bnd hpf.2.2 best
  have hfl := flowAt_bnd (ps := n.pipes) (j := i + 1) h5
  have hfg : (flowL n.pipes (n.pipes.length + 1) hs)[i + 1]? = some (flowAt n.pipes (i + 1) hs) := flowL_get (by omega)
  have hlb := loss_bnd hfb (x := flowAt n.pipes (i + 1) hs) (by omega)
  have hup := sup_ok (foulE best p * flowAt n.pipes (i + 1) hs * flowAt n.pipes (i + 1) hs) 1000 (by omega) (by omega)
  have hub := upD_bnd (a := foulE best p * flowAt n.pipes (i + 1) hs * flowAt n.pipes (i + 1) hs) (b := 1000) hlb.1 (by omega)
  have hub2 : upD (foulE best p * flowAt n.pipes (i + 1) hs * flowAt n.pipes (i + 1) hs) 1000 ≤ 100000001 := by unfold upD; omega
  have hmm : 0 ≤ foulE best p * flowAt n.pipes (i + 1) hs ∧ foulE best p * flowAt n.pipes (i + 1) hs ≤ 10000000 := ⟨Int.mul_nonneg hfb.1 hfl.1, Int.le_trans (Int.mul_le_mul hfb.2 (by omega : flowAt n.pipes (i + 1) hs ≤ 10000) hfl.1 (by omega)) (by omega)⟩
  have hst := path_step hF.falls (k := i + 1) (by omega)
  have hfe : frmOf n.pipes (i + 1) = p.frm.toNat := frmOf_get hp
  rw [hst, lossL] at hr
  have hla : lossAt n.pipes hs best (i + 1) = upD (foulE best p * flowAt n.pipes (i + 1) hs * flowAt n.pipes (i + 1) hs) 1000 := by unfold lossAt; rw [Nat.add_sub_cancel, hp]
  rw [hla] at hr
  have hsg := sg_ok (!best) p.foul
  rw [foul_neg] at hsg
  simp only [encSpan] at hsg
  have hkp : (0 : Int) < ((i + 1 : Nat) : Int) := by omega
  have hil : i + 1 < n.pipes.length + 1 := by omega
  have hfr : p.frm = ((frmOf n.pipes (i + 1) : Nat) : Int) := by omega
  have hlt := frmOf_lt hF.falls (k := i + 1) (by omega)
  obtain ⟨fl, hfle⟩ : ∃ fl, flowAt n.pipes (i + 1) hs = fl := ⟨_, rfl⟩
  obtain ⟨up, hupe⟩ : ∃ up, upD (foulE best p * fl * fl) 1000 = up := ⟨_, rfl⟩
  rw [hfle] at hfg hup hub hub2 hmm hr hlb
  rw [hupe] at hup hub hub2 hr
  repeat' (first | (with_reducible refine sk ?_; intro K hK) | ((first | (with_reducible first | refine rgL [] [11] (md := { base := 1300, own := [] }) (h := ?_) | refine nx ?_) | refine pK (hsg) ?_ | refine pK (hup) ?_ | refine lK (hsg) ?_ | refine lK (hup) ?_); try simp (disch := omega) only [h0, h5', h7, h8, g36, g33, hp, hfg, hkp, hil, flowL_len, hfr, cPlant, cPipe, encSpan,go_sem, simprocAttr]) | (with_reducible refine bk ?_) | ((with_reducible refine' cE ?hv ?_ ?_); (case hv => first | rfl | (simp only [h0, h5', h7, h8, g36, g33, hp, hfg, hkp, hil, flowL_len, hfr, cPlant, cPipe, encSpan,go_sem, simprocAttr]; rfl)); all_goals (intro hc; (try simp only [go_sem, simprocAttr] at hc); try (exfalso; omega))) | ((with_reducible refine fe ?_); refine ⟨_, (by simp only [Try.f61, h0, h5', h7, h8, g36, g33, hp, hfg, hkp, hil, flowL_len, hfr, cPlant, cPipe, encSpan,go_sem, simprocAttr]; rfl), ?_⟩; first | rfl | (try simp only [h0, h5', h7, h8, g36, g33, hp, hfg, hkp, hil, flowL_len, hfr, cPlant, cPipe, encSpan,go_sem, simprocAttr, seval])) | with_reducible intro (ep : Nat → Nat) | with_reducible apply_assumption -exfalso -symm only [*])
  exact ⟨frmOf n.pipes (i + 1), hlt, by omega, rfl, bar - up, rfl, by omega, by omega, by omega⟩
theorem findI_end {i : Int} {v : Val} : ∀ {l : List (Int × Val)} {s : Nat}, (∀ p ∈ l, ¬ p.1 = i) → findI i l s = none
 | [], s, _ => rfl
 | p :: l, s, h => by
  simp only [findI]
  rw [if_neg (fun e => h p (by simp) e.symm)]
  exact findI_end (v := v) fun q hq => h q (by simp [hq])
theorem offM_snoc {l : List Int} {a : Int} : imap .i64 (offM l) ++ [(.int .i64 a, .bool true)] = imap .i64 (offM (l ++ [a])) := by simp [imap, offM]
end Cp
namespace Cp
open Go Go.Proofs
set_option maxRecDepth 10000
set_option maxHeartbeats 1000000
end Cp
namespace Cp
open Go Go.Proofs
set_option maxRecDepth 10000
set_option maxHeartbeats 1000000
end Cp
namespace Cp
open Go Go.Proofs
set_option maxRecDepth 10000
set_option maxHeartbeats 1000000
def AllS (k a e : Nat) (l : List Span) (H : Hp) : Prop := (l = [] ∧ H k = some (e, .arr 1 [[.nils]])) ∨ l ≠ [] ∧ ∃ ea, H k = some (e, .arr 1 [[.gr a ea l.length]]) ∧ H a = some (ea, .arr 2 (l.map cSpan))
theorem AllS.same {k a e : Nat} {l : List Span} {H H' : Hp} (h : AllS k a e l H) (h1 : H' k = H k) (h2 : H' a = H a) : AllS k a e l H' := by
 unfold AllS; rw [h1, h2]; exact h
end Cp
namespace Cp
open Go
theorem PureC.weak {P : Program} {fid : FuncId} {args : List Val} {v v' : Val} (h : PureC P fid args v) (hn : noid v' = true) (hw : ∀ G w x, VR G w v x → VR G w v' x) : PureC P fid args v' :=
 ⟨h.1, h.2.1, hn, fun G w xs hR hv => Calls.mono (h.2.2.2 G w xs hR hv) (by rintro e w' ⟨x, I', h1, h2, h3, h4⟩; exact ⟨x, I', h1, h2, h3, hw _ _ _ h4⟩)⟩
end Cp
namespace Cp
open Go Go.Proofs
set_option maxRecDepth 10000
set_option maxHeartbeats 1000000
end Cp
namespace Cp
open Go Go.Proofs
set_option maxRecDepth 10000
set_option maxHeartbeats 4000000
theorem thawI {k ea m : Nat} {L : List Int} {H2 : Hp} (hl : L.length = m) (h : H2 k = some (ea, .fro 1 (ints L))) : fzd H2 6 (.gr k ea m) = .lst 1 (ints L) := by
 have e2 : (ints L).map (fun es => es.map (fzd H2 5)) = ints L := by unfold ints; rw [List.map_map]; exact List.map_congr_left fun s _ => rfl
 simp only [fzd, h, ints_len, hl, and_self, if_true]
 exact congrArg _ e2
end Cp
namespace Cp
open Go Go.Proofs
set_option maxRecDepth 10000
set_option maxHeartbeats 4000000
end Cp
namespace Cp
open Go
def combos : Nat → List Int → List (List Int)
 | 0, _ => [[]]
 | _ + 1, [] => []
 | k + 1, x :: l => (combos k l).map (x :: ·) ++ combos (k + 1) l
def outsL (np o : Nat) : List (List Int) := (List.range (o + 1)).flatMap fun k => combos k ((List.range np).map Int.ofNat)
end Cp
namespace Cp
open Go Go.Proofs
set_option maxRecDepth 10000
set_option maxHeartbeats 2000000
end Cp
namespace Cp
open Go Go.Proofs
set_option maxRecDepth 10000
set_option maxHeartbeats 4000000
end Cp
namespace Cp
open Go Go.Proofs
set_option maxRecDepth 10000
set_option maxHeartbeats 4000000
end Cp
namespace Cp
open Go Go.Proofs
def outV (l : List Int) : Val := match l with | [] => .nils | _ => .lst 1 (ints l)
def outsV (np o : Nat) : Val := .fn 114 [.pim [.lst 1 ((outsL np o).map fun l => [outV l])]]
section
variable (A B t1 t2 t3 : Val) (p0 p1 p2 p3 : List Val)
abbrev plArg (A B t1 t2 t3 : Val) (ps : List (List Val)) (o : Int) : Val := .pim [A, B, .lst 3 ps, .int .i64 o, t1, t2, t3]
theorem outs_10 (h : noids [plArg A B t1 t2 t3 [p0] 0] = true) : PureC Try.prog 94 [plArg A B t1 t2 t3 [p0] 0] (outsV 1 0) := run_allG (n := 400) tabOK mix look_ok h (by rfl) (by kernel_rfl)
theorem outs_20 (h : noids [plArg A B t1 t2 t3 [p0, p1] 0] = true) : PureC Try.prog 94 [plArg A B t1 t2 t3 [p0, p1] 0] (outsV 2 0) := run_allG (n := 400) tabOK mix look_ok h (by rfl) (by kernel_rfl)
theorem outs_21 (h : noids [plArg A B t1 t2 t3 [p0, p1] 1] = true) : PureC Try.prog 94 [plArg A B t1 t2 t3 [p0, p1] 1] (outsV 2 1) := run_allG (n := 400) tabOK mix look_ok h (by rfl) (by kernel_rfl)
theorem outs_30 (h : noids [plArg A B t1 t2 t3 [p0, p1, p2] 0] = true) : PureC Try.prog 94 [plArg A B t1 t2 t3 [p0, p1, p2] 0] (outsV 3 0) := run_allG (n := 400) tabOK mix look_ok h (by rfl) (by kernel_rfl)
theorem outs_31 (h : noids [plArg A B t1 t2 t3 [p0, p1, p2] 1] = true) : PureC Try.prog 94 [plArg A B t1 t2 t3 [p0, p1, p2] 1] (outsV 3 1) := run_allG (n := 400) tabOK mix look_ok h (by rfl) (by kernel_rfl)
theorem outs_32 (h : noids [plArg A B t1 t2 t3 [p0, p1, p2] 2] = true) : PureC Try.prog 94 [plArg A B t1 t2 t3 [p0, p1, p2] 2] (outsV 3 2) := run_allG (n := 400) tabOK mix look_ok h (by rfl) (by kernel_rfl)
theorem outs_40 (h : noids [plArg A B t1 t2 t3 [p0, p1, p2, p3] 0] = true) : PureC Try.prog 94 [plArg A B t1 t2 t3 [p0, p1, p2, p3] 0] (outsV 4 0) := run_allG (n := 400) tabOK mix look_ok h (by rfl) (by kernel_rfl)
theorem outs_41 (h : noids [plArg A B t1 t2 t3 [p0, p1, p2, p3] 1] = true) : PureC Try.prog 94 [plArg A B t1 t2 t3 [p0, p1, p2, p3] 1] (outsV 4 1) := run_allG (n := 400) tabOK mix look_ok h (by rfl) (by kernel_rfl)
theorem outs_42 (h : noids [plArg A B t1 t2 t3 [p0, p1, p2, p3] 2] = true) : PureC Try.prog 94 [plArg A B t1 t2 t3 [p0, p1, p2, p3] 2] (outsV 4 2) := run_allG (n := 400) tabOK mix look_ok h (by rfl) (by kernel_rfl)
theorem outs_43 (h : noids [plArg A B t1 t2 t3 [p0, p1, p2, p3] 3] = true) : PureC Try.prog 94 [plArg A B t1 t2 t3 [p0, p1, p2, p3] 3] (outsV 4 3) := run_allG (n := 400) tabOK mix look_ok h (by rfl) (by kernel_rfl)
end
end Cp
namespace Cp
open Go Go.Proofs
theorem VR.outV {G : Gh} {w : World} {l : List Int} {x : Value} (h : VR G w (Cp.outV l) x) : VR G w (.lst 1 (ints l)) x := by
 cases l with
 | nil => exact VR.nils_lst 1 h
 | cons a l => exact h
theorem VR.outsW {G : Gh} {w : World} {g : FuncId} {L : List (List Int)} {x : Value} (h : VR G w (.fn g [.pim [.lst 1 (L.map fun l => [Cp.outV l])]]) x) : VR G w (.fn g [.pim [.lst 1 (L.map fun l => [.lst 1 (ints l)])]]) x := by
 have key : ∀ (i : Nat) (es : List Val), (L.map fun l => [Val.lst 1 (ints l)])[i]? = some es → ∃ l, es = [.lst 1 (ints l)] ∧ (L.map fun l => [Cp.outV l])[i]? = some [Cp.outV l] := by
  intro i es hi
  rw [List.getElem?_map, Option.map_eq_some_iff] at hi
  obtain ⟨l, hl, rfl⟩ := hi
  exact ⟨l, rfl, by rw [List.getElem?_map, hl]; rfl⟩
 have hc : ∀ l : List Int, (Cp.outV l).cell = true := fun l => by cases l <;> rfl
 have hl : ∀ x, VR G w (.lst 1 (L.map fun l => [Cp.outV l])) x → VR G w (.lst 1 (L.map fun l => [.lst 1 (ints l)])) x := by
  intro x h
  cases h with
  | lst _ _ a cap ys hcap hsz ha hcc hv =>
   have e : (L.map fun l => [Cp.outV l]).length = (L.map fun l => [Val.lst 1 (ints l)]).length := by simp
   rw [e]
   refine .lst 1 _ a cap ys (by rw [← e]; exact hcap) (fun i es hi => ?_) (fun hne => ?_) (fun i es hi j v hj => ?_) (fun i es hi j v hj => ?_)
   ·obtain ⟨l, rfl, _⟩ := key i es hi; rfl
   ·have hne' : (L.map fun l => [Cp.outV l]) ≠ [] := fun h0 => hne (List.eq_nil_of_length_eq_zero (by rw [← e, h0]; rfl))
    obtain ⟨b, off, h1, h2, h3⟩ := ha hne'
    refine ⟨b, off, h1, h2, fun i es hi j v hj => ?_⟩
    obtain ⟨l, rfl, h4⟩ := key i es hi
    cases j with
    | zero => exact h3 i _ h4 0 _ rfl
    | succ j => simp at hj
   ·obtain ⟨l, rfl, _⟩ := key i es hi
    cases j with
    | zero => cases hj; rfl
    | succ j => simp at hj
   ·obtain ⟨l, rfl, h4⟩ := key i es hi
    cases j with
    | zero => cases hj; exact (hv i _ h4 0 _ rfl).outV
    | succ j => simp at hj
 cases h with
 | fn f cs xs hs hv =>
  refine .fn _ _ xs hs (fun i v hi => ?_)
  cases i with
  | succ i => simp at hi
  | zero =>
   cases hi
   have h0 := hv 0 _ rfl
   generalize xs.getD 0 undef = y at h0 ⊢
   cases h0 with
   | pim _ b off ys hI hm hc hv =>
    refine .pim _ b off ys hI (fun j v hj => ?_) (fun j v hj => ?_) (fun j v hj => ?_)
    ·cases j with
     | zero => exact hm 0 _ rfl
     | succ j => simp at hj
    ·cases j with
     | zero => cases hj; rfl
     | succ j => simp at hj
    ·cases j with
     | zero => cases hj; exact hl _ (hv 0 _ rfl)
     | succ j => simp at hj
def outsF (np o : Nat) : Val := .fn 114 [.pim [.lst 1 ((outsL np o).map fun l => [.lst 1 (ints l)])]]
theorem noid_ints (l : List Int) : noidss (ints l) = true := noidss_of fun v hv => by
 simp only [ints, List.mem_map] at hv
 obtain ⟨_, _, rfl⟩ := hv
 rfl
theorem noid_outsF (np o : Nat) : noid (outsF np o) = true := by
 simp only [outsF, noid, noids, Bool.and_true]
 exact noidss_of fun v hv => by
  simp only [List.mem_map] at hv
  obtain ⟨l, _, rfl⟩ := hv
  simp only [noids, noid, noid_ints, Bool.and_true]
theorem noid_cNet (n : NetT) : noids (cNet n) = true := by
 have h1 : noidss (n.pipes.map cPipe) = true := noidss_of fun v hv => by
  simp only [List.mem_map] at hv
  obtain ⟨_, _, rfl⟩ := hv
  rfl
 have h2 : noidss (n.heads.map cHead) = true := noidss_of fun v hv => by
  simp only [List.mem_map] at hv
  obtain ⟨_, _, rfl⟩ := hv
  rfl
 have h3 : noidss (n.pumps.map cPump) = true := noidss_of fun v hv => by
  simp only [List.mem_map] at hv
  obtain ⟨_, _, rfl⟩ := hv
  rfl
 simp only [cNet, noids, noid, h1, h2, h3, Bool.and_true]
theorem outs_ok (n : NetT) (hF : NetF n) : PureC Try.prog 94 [.pim (cNet n)] (outsF n.pumps.length n.out.toNat) := by
 obtain ⟨hp1, hp2⟩ := hF.pumps
 obtain ⟨ho1, ho2⟩ := hF.out
 have hn : noids [.pim (cNet n)] = true := by simp only [noids, noid, noid_cNet, Bool.and_true]
 refine PureC.weak (v := outsV n.pumps.length n.out.toNat) ?_ (noid_outsF _ _) (fun G w x h => h.outsW)
 obtain ⟨pipes, heads, pumps, out, tank, mins⟩ := n
 simp only [cNet] at *
 match pumps, hp1, hp2, ho2 with
 | [a], _, _, ho2 =>
  obtain rfl : out = 0 := by simp at ho2; omega
  exact outs_10 _ _ _ _ _ _ hn
 | [a, b], _, _, ho2 =>
  have : out = 0 ∨ out = 1 := by simp at ho2; omega
  rcases this with rfl | rfl
  ·exact outs_20 _ _ _ _ _ _ _ hn
  ·exact outs_21 _ _ _ _ _ _ _ hn
 | [a, b, c], _, _, ho2 =>
  have : out = 0 ∨ out = 1 ∨ out = 2 := by simp at ho2; omega
  rcases this with rfl | rfl | rfl
  ·exact outs_30 _ _ _ _ _ _ _ _ hn
  ·exact outs_31 _ _ _ _ _ _ _ _ hn
  ·exact outs_32 _ _ _ _ _ _ _ _ hn
 | [a, b, c, d], _, _, ho2 =>
  have : out = 0 ∨ out = 1 ∨ out = 2 ∨ out = 3 := by simp at ho2; omega
  rcases this with rfl | rfl | rfl | rfl
  ·exact outs_40 _ _ _ _ _ _ _ _ _ hn
  ·exact outs_41 _ _ _ _ _ _ _ _ _ hn
  ·exact outs_42 _ _ _ _ _ _ _ _ _ hn
  ·exact outs_43 _ _ _ _ _ _ _ _ _ hn
 | _ :: _ :: _ :: _ :: _ :: _, _, h, _ => simp at h
end Cp
namespace Cp
open Go Go.Proofs
set_option maxRecDepth 10000
theorem outs_at {L : List (List Int)} {k : Nat} {l : List Int} (h : L[k]? = some l) : (L.map fun l => [Val.lst 1 (ints l)])[k]? = some [.lst 1 (ints l)] := by rw [List.getElem?_map, h]; rfl
theorem values1_ok (L : List (List Int)) (hL : L.length ≤ 100000) (H0 : Hp) (ky ey : Nat) (J : Nat → Hp → Prop) (hJ0 : J 0 H0)
  (hY : ∀ k l H, L[k]? = some l → J k H → RoundC Try.prog ky ey [.lst 1 (ints l)] H (fun v H' => v = .bool true ∧ J (k + 1) H')) :
  ACall Try.prog 114 [.yld ky ey, .pim [.lst 1 (L.map fun l => [.lst 1 (ints l)])]] H0 (fun v H' => J L.length H') := by
 refine ACall_of (fn := Try.f114) tabOK (by kernel_rfl) rfl (by kernel_rfl) (by simp [Try.f114]) ?_
 intro X hX0 hXs
 repeat' (first | (with_reducible refine sk ?_; intro K hK) | ((with_reducible first | refine AW_regY (id := 3) tabOK { base := 2000, own := [] } [] [] (by rw [hXs]; decide +kernel) ?_ | refine rg (md := { base := 2000, own := [] }) (h := ?_) | refine nx ?_); try simp (disch := omega) only [go_sem, simprocAttr]) | (with_reducible refine bk ?_) | ((with_reducible refine' cE ?hv ?_ ?_); (case hv => first | rfl | (simp only [go_sem, simprocAttr]; rfl)); all_goals (intro hc; (try simp only [go_sem, simprocAttr] at hc); try (exfalso; omega))) | with_reducible intro (ep : Nat → Nat) | with_reducible apply_assumption -exfalso -symm only [*])
 refine AW_range tabOK L.length (fun k f H => (f 0 = .yld ky ey ∧ f 5 = .lst 1 (L.map fun l => [.lst 1 (ints l)])) ∧ J k H) (by omega) (by rw [hXs]; decide) (by decide) (by (first | rfl | (simp only [go_sem, simprocAttr]; done) | (simp only [go_sem, simprocAttr]; rfl))) (by (first | rfl | (simp only [go_sem, simprocAttr]; done) | (simp only [go_sem, simprocAttr]; rfl)))
   ⟨by (and_intros <;> first | rfl | (simp only [go_sem, simprocAttr]; done) | (simp only [go_sem, simprocAttr]; rfl)), hJ0⟩ ?_ ?_
 ·rintro k f H hk h7 h6 ⟨⟨h0, h5⟩, hJ⟩
  obtain ⟨l, hl⟩ : ∃ x, L[k]? = some x := ⟨_, List.getElem?_eq_getElem hk⟩
  have hla := outs_at hl
  repeat' (first | (with_reducible refine sk ?_; intro K hK) | ((with_reducible first | refine AW_regY (id := 3) tabOK { base := 2000, own := [] } [] [] (by rw [hXs]; decide +kernel) ?_ | refine rg (md := { base := 2000, own := [] }) (h := ?_) | refine nx ?_); try simp (disch := omega) only [h0, h5, h6, h7, hla,go_sem, simprocAttr]) | (with_reducible refine bk ?_) | ((with_reducible refine' cE ?hv ?_ ?_); (case hv => first | rfl | (simp only [h0, h5, h6, h7, hla,go_sem, simprocAttr]; rfl)); all_goals (intro hc; (try simp only [go_sem, simprocAttr] at hc); try (exfalso; omega))) | with_reducible intro (ep : Nat → Nat) | with_reducible apply_assumption -exfalso -symm only [*])
  refine yldK_intro (hY k l _ hl hJ) ?_
  rintro v H3 ⟨rfl, hJ3⟩
  simp only [go_sem, simprocAttr]
  repeat' (first | (with_reducible refine sk ?_; intro K hK) | ((with_reducible first | refine AW_regY (id := 3) tabOK { base := 2000, own := [] } [] [] (by rw [hXs]; decide +kernel) ?_ | refine rg (md := { base := 2000, own := [] }) (h := ?_) | refine nx ?_); try simp (disch := omega) only [h0, h5, h6, h7, hJ3,go_sem, simprocAttr]) | (with_reducible refine bk ?_) | ((with_reducible refine' cE ?hv ?_ ?_); (case hv => first | rfl | (simp only [h0, h5, h6, h7, hJ3,go_sem, simprocAttr]; rfl)); all_goals (intro hc; (try simp only [go_sem, simprocAttr] at hc); try (exfalso; omega))) | with_reducible intro (ep : Nat → Nat) | with_reducible apply_assumption -exfalso -symm only [*])
 ·rintro f H h7 h6 ⟨⟨h0, h5⟩, hJ⟩
  exact FnQ_end (Or.inr rfl) (.refl _) (by simp only [Try.f114, go_sem, simprocAttr]; rfl) hJ
end Cp
namespace Cp
open Go Go.Proofs
set_option maxRecDepth 10000
set_option maxHeartbeats 1000000
def lackF (n : NetT) (hs : List HeadT) (out : List Int) (best : Bool) (l : List HeadT) : Option HeadT := l.find? fun h => decide (pressS n hs out best h < h.least)
def lackO (o : Option HeadT) : Int × Bool := match o with | some h => (h.id, true) | none => (0, false)
def tankH (n : NetT) (best : Bool) : Int := if best = true then n.tank.hi else n.tank.lo
def lackS (n : NetT) (hs : List HeadT) (out : List Int) (best : Bool) : Int × Bool :=
 match lackF n hs out best hs with
 | some h => (h.id, true)
 | none => if tankH n best < needs hs * n.mins then (-1, true) else (0, false)
def cLk (p : Int × Bool) : List Val := [.int .i64 p.1, .bool p.2]
theorem lacks_look (n : NetT) (hF : NetF n) (hs : List HeadT) (h5 : heads500 hs) (hsl : hs.length ≤ 12) (hnd : ∀ h ∈ hs, 1 ≤ h.node ∧ h.node ≤ n.pipes.length) (out : List Int) (ho : outOK n out = true) (best : Bool) (e36 e33 e34 : Nat) (H : Hp) (hP : PlH n hs out e36 e33 e34 H)
  (hroom : H 1208 = none ∧ H 1604 = none ∧ H 1605 = none ∧ H 1607 = none) :
  LookC Try.prog 96 [.ptr 436 e36 10 0 0, endV best] H (.agg (cLk (lackS n hs out best))) := by
 obtain ⟨h36, h33, ver, h34⟩ := hP
 obtain ⟨r0, r1, r2, r3⟩ := hroom
 have hr0 : frz1 (H 1208) = none := by rw [r0]; rfl
 have hr1 : frz1 (H 1604) = none := by rw [r1]; rfl
 have hr2 : frz1 (H 1605) = none := by rw [r2]; rfl
 have hr3 : frz1 (H 1607) = none := by rw [r3]; rfl
 clear r0 r1 r2 r3
 have hnb := needs_bnd h5
 have hfl : (flowL n.pipes (n.pipes.length + 1) hs)[0]? = some (needs hs) := by rw [flowL_get (by omega), flowAt_zero]
 refine LookC_of (fn := Try.f96) tabOK (by kernel_rfl) rfl (by kernel_rfl) (by simp [Try.f96]) rfl ?_
 intro X hX0 hXs
 repeat' (first | ((fail_if_success (with_reducible refine AW_at (id := 2) ?_)); with_reducible refine sk ?_; intro K hK) | ((with_reducible first | refine rgL [] [21] (md := { base := 1600, own := [] }) (h := ?_) | refine rgL [4, 5, 7] [21] (md := { base := 1600, own := [] }) (h := ?_) | refine nx ?_); try simp (disch := omega) only [h36, h33, h34, hr0, hr1, hr2, hr3, cPlant, endV,go_sem, simprocAttr]) | (with_reducible refine bk ?_) | ((with_reducible refine' cE ?hv ?_ ?_); (case hv => first | rfl | (simp only [h36, h33, h34, hr0, hr1, hr2, hr3, cPlant, endV,go_sem, simprocAttr]; rfl)); all_goals (intro hc; (try simp only [go_sem, simprocAttr] at hc); try (exfalso; omega))) | ((with_reducible first | refine grdS_split ?_ ?_ | refine lkG_split ?_ ?_) <;> intro hg <;> (try simp (disch := omega) only [hg, h36, h33, h34, hr0, hr1, hr2, hr3, cPlant, endV,go_sem, simprocAttr]) <;> (try simp only [go_sem, simprocAttr] at hg) <;> (try (exfalso; omega))) | ((with_reducible refine fe ?_); refine ⟨_, (by simp only [Try.f96, h36, h33, h34, hr0, hr1, hr2, hr3, cPlant, endV,go_sem, simprocAttr]; rfl), ?_⟩; first | rfl | (try simp only [h36, h33, h34, hr0, hr1, hr2, hr3, cPlant, endV,go_sem, simprocAttr, seval])) | with_reducible intro (ep : Nat → Nat) | with_reducible apply_assumption -exfalso -symm only [*])
 have hcut : ∀ e4 e5 f H, (f 0 = .ptr 436 e36 10 0 0 ∧ f 3 = .pim [.fn (sgF best) [], .fn (sgF (!best)) []] ∧ f 4 = .ptr 1604 e4 2 0 0 ∧ f 5 = .ptr 1605 e5 2 0 0) ∧ (H 436 = some (e36, .fro 10 [cPlant n hs e33 e34 (n.pipes.length + 1)]) ∧ H 433 = some (e33, .fro 1 (ints (flowL n.pipes (n.pipes.length + 1) hs))) ∧
   H 1604 = some (e4, .arr 2 [[.int .i64 0, .bool false]]) ∧ H 1605 = some (e5, .arr 2 [cLk (lackO (lackF n hs out best hs))])) → K f H := by
  rintro e4 e5 f H ⟨⟨h0, h3, h4, h5'⟩, g36, g33, g4, g5⟩
  refine hK f H ?_
  clear hK
  have hlp : 0 < n.pipes.length + 1 := by omega
  have hsg := sg_ok best n.tank
  have htd : (if best = true then n.tank.hi else n.tank.lo) = tankH n best := rfl
  rw [htd] at hsg
  simp only [encSpan] at hsg
  have hmn := hF.mins
  have hmul : 0 ≤ needs hs * n.mins ∧ needs hs * n.mins ≤ 6000 * 600 := ⟨Int.mul_nonneg (by omega) hmn.1, Int.mul_le_mul (by omega) hmn.2 hmn.1 (by omega)⟩
  unfold lackS
  cases hfo : lackF n hs out best hs with
  | some x =>
   rw [hfo] at g5
   simp only [lackO, cLk] at g5
   repeat' (first | (with_reducible refine sk ?_; intro K hK) | ((first | (with_reducible first | refine rgL [] [21] (md := { base := 1600, own := [] }) (h := ?_) | refine rgL [4, 5, 7] [21] (md := { base := 1600, own := [] }) (h := ?_) | refine nx ?_) | refine pK (hsg) ?_ | refine lK (hsg) ?_); try simp (disch := omega) only [h0, h3, h4, h5', g36, g33, g4, g5, hlp, hfl, flowL_len, cPlant, cLk,go_sem, simprocAttr]) | (with_reducible refine bk ?_) | ((with_reducible refine' cE ?hv ?_ ?_); (case hv => first | rfl | (simp only [h0, h3, h4, h5', g36, g33, g4, g5, hlp, hfl, flowL_len, cPlant, cLk,go_sem, simprocAttr]; rfl)); all_goals (intro hc; (try simp only [go_sem, simprocAttr] at hc); try (exfalso; omega))) | ((with_reducible first | refine grdS_split ?_ ?_ | refine lkG_split ?_ ?_) <;> intro hg <;> (try simp (disch := omega) only [hg, h0, h3, h4, h5', g36, g33, g4, g5, hlp, hfl, flowL_len, cPlant, cLk,go_sem, simprocAttr]) <;> (try simp only [go_sem, simprocAttr] at hg) <;> (try (exfalso; omega))) | ((with_reducible refine fe ?_); refine ⟨_, (by simp only [Try.f96, h0, h3, h4, h5', g36, g33, g4, g5, hlp, hfl, flowL_len, cPlant, cLk,go_sem, simprocAttr]; rfl), ?_⟩; first | rfl | (try simp only [h0, h3, h4, h5', g36, g33, g4, g5, hlp, hfl, flowL_len, cPlant, cLk,go_sem, simprocAttr, seval])) | with_reducible intro (ep : Nat → Nat) | with_reducible apply_assumption -exfalso -symm only [*])
   all_goals (exfalso; simp at hg)
  | none =>
   rw [hfo] at g5
   simp only [lackO, cLk] at g5
   by_cases hlt : tankH n best < needs hs * n.mins
   ·repeat' (first | (with_reducible refine sk ?_; intro K hK) | ((first | (with_reducible first | refine rgL [] [21] (md := { base := 1600, own := [] }) (h := ?_) | refine rgL [4, 5, 7] [21] (md := { base := 1600, own := [] }) (h := ?_) | refine nx ?_) | refine pK (hsg) ?_ | refine lK (hsg) ?_); try simp (disch := omega) only [h0, h3, h4, h5', g36, g33, g4, g5, hlp, hfl, hlt, flowL_len, cPlant, cLk,go_sem, simprocAttr]) | (with_reducible refine bk ?_) | ((with_reducible refine' cE ?hv ?_ ?_); (case hv => first | rfl | (simp only [h0, h3, h4, h5', g36, g33, g4, g5, hlp, hfl, hlt, flowL_len, cPlant, cLk,go_sem, simprocAttr]; rfl)); all_goals (intro hc; (try simp only [go_sem, simprocAttr] at hc); try (exfalso; omega))) | ((with_reducible first | refine grdS_split ?_ ?_ | refine lkG_split ?_ ?_) <;> intro hg <;> (try simp (disch := omega) only [hg, h0, h3, h4, h5', g36, g33, g4, g5, hlp, hfl, hlt, flowL_len, cPlant, cLk,go_sem, simprocAttr]) <;> (try simp only [go_sem, simprocAttr] at hg) <;> (try (exfalso; omega))) | ((with_reducible refine fe ?_); refine ⟨_, (by simp only [Try.f96, h0, h3, h4, h5', g36, g33, g4, g5, hlp, hfl, hlt, flowL_len, cPlant, cLk,go_sem, simprocAttr]; rfl), ?_⟩; first | rfl | (try simp only [h0, h3, h4, h5', g36, g33, g4, g5, hlp, hfl, hlt, flowL_len, cPlant, cLk,go_sem, simprocAttr, seval])) | with_reducible intro (ep : Nat → Nat) | with_reducible apply_assumption -exfalso -symm only [*])
    all_goals (exfalso; simp at hg)
   ·repeat' (first | (with_reducible refine sk ?_; intro K hK) | ((first | (with_reducible first | refine rgL [] [21] (md := { base := 1600, own := [] }) (h := ?_) | refine rgL [4, 5, 7] [21] (md := { base := 1600, own := [] }) (h := ?_) | refine nx ?_) | refine pK (hsg) ?_ | refine lK (hsg) ?_); try simp (disch := omega) only [h0, h3, h4, h5', g36, g33, g4, g5, hlp, hfl, hlt, flowL_len, cPlant, cLk,go_sem, simprocAttr]) | (with_reducible refine bk ?_) | ((with_reducible refine' cE ?hv ?_ ?_); (case hv => first | rfl | (simp only [h0, h3, h4, h5', g36, g33, g4, g5, hlp, hfl, hlt, flowL_len, cPlant, cLk,go_sem, simprocAttr]; rfl)); all_goals (intro hc; (try simp only [go_sem, simprocAttr] at hc); try (exfalso; omega))) | ((with_reducible first | refine grdS_split ?_ ?_ | refine lkG_split ?_ ?_) <;> intro hg <;> (try simp (disch := omega) only [hg, h0, h3, h4, h5', g36, g33, g4, g5, hlp, hfl, hlt, flowL_len, cPlant, cLk,go_sem, simprocAttr]) <;> (try simp only [go_sem, simprocAttr] at hg) <;> (try (exfalso; omega))) | ((with_reducible refine fe ?_); refine ⟨_, (by simp only [Try.f96, h0, h3, h4, h5', g36, g33, g4, g5, hlp, hfl, hlt, flowL_len, cPlant, cLk,go_sem, simprocAttr]; rfl), ?_⟩; first | rfl | (try simp only [h0, h3, h4, h5', g36, g33, g4, g5, hlp, hfl, hlt, flowL_len, cPlant, cLk,go_sem, simprocAttr, seval])) | with_reducible intro (ep : Nat → Nat) | with_reducible apply_assumption -exfalso -symm only [*])
 clear hK
 repeat' (first | (with_reducible refine sk ?_; intro K hK) | ((with_reducible first | refine rgL [] [21] (md := { base := 1600, own := [] }) (h := ?_) | refine rgL [4, 5, 7] [21] (md := { base := 1600, own := [] }) (h := ?_) | refine nx ?_); try simp (disch := omega) only [h36, h33, h34, hr0, hr1, hr2, hr3, cPlant,go_sem, simprocAttr]) | (with_reducible refine bk ?_) | ((with_reducible refine' cE ?hv ?_ ?_); (case hv => first | rfl | (simp only [h36, h33, h34, hr0, hr1, hr2, hr3, cPlant,go_sem, simprocAttr]; rfl)); all_goals (intro hc; (try simp only [go_sem, simprocAttr] at hc); try (exfalso; omega))) | ((with_reducible first | refine grdS_split ?_ ?_ | refine lkG_split ?_ ?_) <;> intro hg <;> (try simp (disch := omega) only [hg, h36, h33, h34, hr0, hr1, hr2, hr3, cPlant,go_sem, simprocAttr]) <;> (try simp only [go_sem, simprocAttr] at hg) <;> (try (exfalso; omega))) | with_reducible intro (ep : Nat → Nat) | with_reducible apply_assumption -exfalso -symm only [*])
 refine AW_range tabOK hs.length (fun k f H => ∃ e4 e5, (f 0 = .ptr 436 e36 10 0 0 ∧ f 3 = .pim [.fn (sgF best) [], .fn (sgF (!best)) []] ∧ f 4 = .ptr 1604 e4 2 0 0 ∧ f 5 = .ptr 1605 e5 2 0 0 ∧ f 12 = .lst 8 (hs.map cHead)) ∧ (H 436 = some (e36, .fro 10 [cPlant n hs e33 e34 (n.pipes.length + 1)]) ∧ H 433 = some (e33, .fro 1 (ints (flowL n.pipes (n.pipes.length + 1) hs))) ∧ H 434 = some (e34, .frm ver (imap .i64 (offM out))) ∧
   H 1604 = some (e4, .arr 2 [[.int .i64 0, .bool false]]) ∧ H 1605 = some (e5, .arr 2 [[.int .i64 0, .bool false]])) ∧ lackF n hs out best hs = lackF n hs out best (hs.drop k)) (by omega) (by rw [hXs]; decide) (by decide) (by (first | rfl | (simp only [h36, go_sem, simprocAttr]; done) | (simp only [h36, go_sem, simprocAttr]; rfl))) (by (first | rfl | (simp only [h36, go_sem, simprocAttr]; done) | (simp only [h36, go_sem, simprocAttr]; rfl)))
  ⟨_, _, by (and_intros <;> first | rfl | (simp only [h36, go_sem, simprocAttr]; done) | (simp only [h36, go_sem, simprocAttr]; rfl)), by (and_intros <;> first | rfl | (simp only [h36, h33, h34, cPlant, go_sem, simprocAttr]; done) | (simp only [h36, h33, h34, cPlant, go_sem, simprocAttr]; rfl)), by simp⟩ ?_ ?_
 ·clear h36 h33 h34 hr0 hr1 hr2 hr3
  rintro k f H hk h14 h13 ⟨e4, e5, ⟨h0, h3, h4, h5', h12⟩, ⟨g36, g33, g34, g4, g5⟩, hr⟩
  obtain ⟨x, hx⟩ : ∃ x, hs[k]? = some x := ⟨_, List.getElem?_eq_getElem hk⟩
  rw [drop_cons hx] at hr
  simp only [lackF, List.find?_cons] at hr
  have hxm := List.mem_of_getElem? hx
  refine AW_keep [436, 433, 434, 1604, 1605] ?_
  have k36 : keep H [436, 433, 434, 1604, 1605] 436 = some (e36, .fro 10 [cPlant n hs e33 e34 (n.pipes.length + 1)]) := g36
  have k33 : keep H [436, 433, 434, 1604, 1605] 433 = some (e33, .fro 1 (ints (flowL n.pipes (n.pipes.length + 1) hs))) := g33
  have k34 : keep H [436, 433, 434, 1604, 1605] 434 = some (e34, .frm ver (imap .i64 (offM out))) := g34
  have k4 : keep H [436, 433, 434, 1604, 1605] 1604 = some (e4, .arr 2 [[.int .i64 0, .bool false]]) := g4
  have k5 : keep H [436, 433, 434, 1604, 1605] 1605 = some (e5, .arr 2 [[.int .i64 0, .bool false]]) := g5
  have k7 : keep H [436, 433, 434, 1604, 1605] 1607 = none := rfl
  have k08 : keep H [436, 433, 434, 1604, 1605] 1208 = none := rfl
  clear g36 g33 g34 g4 g5
  obtain ⟨H2, hH2⟩ : ∃ H2, keep H [436, 433, 434, 1604, 1605] = H2 := ⟨_, rfl⟩
  rw [hH2] at k36 k33 k34 k4 k5 k7 k08 ⊢
  clear hH2
  have hp0 : ∀ e7 cs, LookC Try.prog 61 [.ptr 436 e36 10 0 0, encHead x, endV best] (upd (upd H2 1607 (some (e7, .arr 8 [List.replicate 8 (.int .i64 0)]))) 1607 (some (e7, .arr 8 cs))) (.int .i64 (pressS n hs out best x)) := fun e7 cs =>
   pressure_look n hF hs h5 (by omega) out ho best x (hnd x hxm) e36 e33 e34 _ ⟨by rw [upd_ne _ _ (by decide), upd_ne _ _ (by decide), k36]; rfl, by rw [upd_ne _ _ (by decide), upd_ne _ _ (by decide), k33]; rfl, ver, by rw [upd_ne _ _ (by decide), upd_ne _ _ (by decide), k34]; rfl⟩ (by rw [upd_ne _ _ (by decide), upd_ne _ _ (by decide), k08])
  simp only [encHead, cHead, endV] at hp0
  by_cases hlt : pressS n hs out best x < x.least
  ·rw [decide_eq_true hlt] at hr
   have hfo : lackF n hs out best hs = some x := hr
   have hcut' := fun (f : Fr) (H : Hp) (h : (f 0 = .ptr 436 e36 10 0 0 ∧ f 3 = .pim [.fn (sgF best) [], .fn (sgF (!best)) []] ∧ f 4 = .ptr 1604 e4 2 0 0 ∧ f 5 = .ptr 1605 e5 2 0 0) ∧ (H 436 = some (e36, .fro 10 [cPlant n hs e33 e34 (n.pipes.length + 1)]) ∧ H 433 = some (e33, .fro 1 (ints (flowL n.pipes (n.pipes.length + 1) hs))) ∧
     H 1604 = some (e4, .arr 2 [[.int .i64 0, .bool false]]) ∧ H 1605 = some (e5, .arr 2 [[.int .i64 x.id, .bool true]]))) => hcut e4 e5 f H ⟨h.1, h.2.1, h.2.2.1, h.2.2.2.1, by rw [hfo]; exact h.2.2.2.2⟩
   clear hcut
   repeat' (first | (with_reducible refine sk ?_; intro K hK) | ((first | (with_reducible first | refine rgL [] [21] (md := { base := 1600, own := [] }) (h := ?_) | refine rgL [4, 5, 7] [21] (md := { base := 1600, own := [] }) (h := ?_) | refine nx ?_) | refine pK (hp0 _ _) ?_ | refine lK (hp0 _ _) ?_); try simp (disch := omega) only [h0, h3, h4, h5', h12, h13, h14, k36, k33, k34, k4, k5, k7, hx, hlt, cHead,go_sem, simprocAttr]) | (with_reducible refine bk ?_) | ((with_reducible refine' cE ?hv ?_ ?_); (case hv => first | rfl | (simp only [h0, h3, h4, h5', h12, h13, h14, k36, k33, k34, k4, k5, k7, hx, hlt, cHead,go_sem, simprocAttr]; rfl)); all_goals (intro hc; (try simp only [go_sem, simprocAttr] at hc); try (exfalso; omega))) | ((with_reducible first | refine grdS_split ?_ ?_ | refine lkG_split ?_ ?_) <;> intro hg <;> (try simp (disch := omega) only [hg, h0, h3, h4, h5', h12, h13, h14, k36, k33, k34, k4, k5, k7, hx, hlt, cHead,go_sem, simprocAttr]) <;> (try simp only [go_sem, simprocAttr] at hg) <;> (try (exfalso; omega))) | with_reducible intro (ep : Nat → Nat) | with_reducible apply_assumption -exfalso -symm only [*])
   exact ⟨by (and_intros <;> first | rfl | (simp only [h0, h3, h4, h5', go_sem, simprocAttr]; done) | (simp only [h0, h3, h4, h5', go_sem, simprocAttr]; rfl)), by (and_intros <;> first | rfl | (simp only [k36, k33, k4, k5, cHead, go_sem, simprocAttr]; done) | (simp only [k36, k33, k4, k5, cHead, go_sem, simprocAttr]; rfl))⟩
  ·rw [decide_eq_false hlt] at hr
   repeat' (first | (with_reducible refine sk ?_; intro K hK) | ((first | (with_reducible first | refine rgL [] [21] (md := { base := 1600, own := [] }) (h := ?_) | refine rgL [4, 5, 7] [21] (md := { base := 1600, own := [] }) (h := ?_) | refine nx ?_) | refine pK (hp0 _ _) ?_ | refine lK (hp0 _ _) ?_); try simp (disch := omega) only [h0, h3, h4, h5', h12, h13, h14, k36, k33, k34, k4, k5, k7, hx, hlt, cHead,go_sem, simprocAttr]) | (with_reducible refine bk ?_) | ((with_reducible refine' cE ?hv ?_ ?_); (case hv => first | rfl | (simp only [h0, h3, h4, h5', h12, h13, h14, k36, k33, k34, k4, k5, k7, hx, hlt, cHead,go_sem, simprocAttr]; rfl)); all_goals (intro hc; (try simp only [go_sem, simprocAttr] at hc); try (exfalso; omega))) | ((with_reducible first | refine grdS_split ?_ ?_ | refine lkG_split ?_ ?_) <;> intro hg <;> (try simp (disch := omega) only [hg, h0, h3, h4, h5', h12, h13, h14, k36, k33, k34, k4, k5, k7, hx, hlt, cHead,go_sem, simprocAttr]) <;> (try simp only [go_sem, simprocAttr] at hg) <;> (try (exfalso; omega))) | with_reducible intro (ep : Nat → Nat) | with_reducible apply_assumption -exfalso -symm only [*])
   exact ⟨e4, e5, by (and_intros <;> first | rfl | (simp only [h0, h3, h4, h5', h12, go_sem, simprocAttr]; done) | (simp only [h0, h3, h4, h5', h12, go_sem, simprocAttr]; rfl)), by (and_intros <;> first | rfl | (simp only [k36, k33, k34, k4, k5, go_sem, simprocAttr]; done) | (simp only [k36, k33, k34, k4, k5, go_sem, simprocAttr]; rfl)), hr⟩
 ·clear h36 h33 h34 hr0 hr1 hr2 hr3
  rintro f H h14 h13 ⟨e4, e5, ⟨h0, h3, h4, h5', h12⟩, ⟨g36, g33, g34, g4, g5⟩, hr⟩
  rw [drop_none (Nat.le_refl _)] at hr
  have hfo : lackF n hs out best hs = none := hr
  refine hcut e4 e5 _ _ ⟨⟨h0, h3, h4, h5'⟩, g36, g33, g4, by rw [hfo]; exact g5⟩
end Cp
namespace Cp
open Go Go.Proofs
set_option maxRecDepth 10000
set_option maxHeartbeats 1000000
theorem without_fro (n : NetT) (hs : List HeadT) (e36 e33 e34 ver : Nat) (out : List Int) (hlo : out.length ≤ 100000) (hp : out.Pairwise (· < ·)) (g : FuncId) (caps : List Val) (H0 : Hp)
  (h36 : H0 436 = some (e36, .fro 10 [cPlant n hs e33 e34 (n.pipes.length + 1)])) (h34 : H0 434 = some (e34, .map ver [])) (R : Hp → Prop)
  (hg : ∀ (ver' : Nat) (H : Hp), (∀ j, ¬ j = 434 → H j = H0 j) → H 434 = some (e34, .map ver' (imap .i64 (offM out))) → ACall Try.prog g caps H fun v H' => v = .tup [] ∧ H' 436 = H 436 ∧ (∃ ver2, H' 434 = some (e34, .map ver2 (imap .i64 (offM out)))) ∧ R H') :
  ACall Try.prog 58 [.ptr 436 e36 10 0 0, .lst 1 (ints out), .fn g caps] H0 fun v H' => v = .tup [] ∧ ∃ H2 ver2, R H2 ∧ (∀ j, ¬ j = 434 → H' j = H2 j) ∧ H' 434 = some (e34, .map ver2 []) := by
 refine ACall_of (fn := Try.f58) tabOK (by kernel_rfl) rfl (by kernel_rfl) (by simp [Try.f58]) ?_
 intro X hX0 hXs
 repeat' (first | ((fail_if_success (with_reducible refine AW_at (id := 0) ?_)); with_reducible refine sk ?_; intro K hK) | ((with_reducible first | refine rg (md := { base := 1400, own := [], imp := [23] }) (h := ?_) | refine nx ?_); try simp (disch := omega) only [go_sem, simprocAttr]) | (with_reducible refine bk ?_) | ((with_reducible refine' cE ?hv ?_ ?_); (case hv => first | rfl | (simp only [go_sem, simprocAttr]; rfl)); all_goals (intro hc; (try simp only [go_sem, simprocAttr] at hc); try (exfalso; omega))) | ((with_reducible refine fe ?_); refine ⟨_, (by simp only [Try.f58, go_sem, simprocAttr]; rfl), ?_⟩; first | rfl | (try simp only [go_sem, simprocAttr, seval])) | with_reducible intro (ep : Nat → Nat) | with_reducible apply_assumption -exfalso -symm only [*])
 have hcut : ∀ f H, (f 0 = .ptr 436 e36 10 0 0 ∧ f 1 = .lst 1 (ints out) ∧ f 2 = .fn g caps) ∧ (∀ j, ¬ j = 434 → H j = H0 j) ∧ (∃ ver', H 434 = some (e34, .map ver' (imap .i64 (offM out)))) → K f H := by
  rintro f H ⟨⟨h0, h1, h2⟩, hlow, ver', hm⟩
  refine hK f H ?_
  clear hK
  have k36 : H 436 = some (e36, .fro 10 [cPlant n hs e33 e34 (n.pipes.length + 1)]) := by rw [hlow _ (by decide), h36]
  repeat' (first | ((fail_if_success (with_reducible refine AW_at (id := 6) ?_)); with_reducible refine sk ?_; intro K hK) | ((first | (with_reducible first | refine rg (md := { base := 1400, own := [], imp := [23] }) (h := ?_) | refine nx ?_) | refine pK (hg ver' H hlow hm) ?_); try simp (disch := omega) only [h0, h1, h2,go_sem, simprocAttr]) | (with_reducible refine bk ?_) | ((with_reducible refine' cE ?hv ?_ ?_); (case hv => first | rfl | (simp only [h0, h1, h2,go_sem, simprocAttr]; rfl)); all_goals (intro hc; (try simp only [go_sem, simprocAttr] at hc); try (exfalso; omega))) | (first | refine iK (hg ver' H hlow hm) ?_) | ((with_reducible refine fe ?_); refine ⟨_, (by simp only [Try.f58, h0, h1, h2,go_sem, simprocAttr]; rfl), ?_⟩; first | rfl | (try simp only [h0, h1, h2,go_sem, simprocAttr, seval])) | with_reducible intro (ep : Nat → Nat) | with_reducible apply_assumption -exfalso -symm only [*])
  rintro v H2 ⟨rfl, k36', ⟨ver2, hm2⟩, hR⟩
  rw [k36] at k36'
  simp only [go_sem, simprocAttr]
  repeat' (first | (with_reducible refine sk ?_; intro K hK) | ((with_reducible first | refine rg (md := { base := 1400, own := [], imp := [23] }) (h := ?_) | refine nx ?_); try simp (disch := omega) only [h0, h1,go_sem, simprocAttr]) | (with_reducible refine bk ?_) | ((with_reducible refine' cE ?hv ?_ ?_); (case hv => first | rfl | (simp only [h0, h1,go_sem, simprocAttr]; rfl)); all_goals (intro hc; (try simp only [go_sem, simprocAttr] at hc); try (exfalso; omega))) | with_reducible intro (ep : Nat → Nat) | with_reducible apply_assumption -exfalso -symm only [*])
  refine AW_range tabOK out.length (fun k f H => (f 0 = .ptr 436 e36 10 0 0 ∧ f 24 = .lst 1 (ints out)) ∧ (∀ j, ¬ j = 434 → H j = H2 j) ∧ ∃ v, H 434 = some (e34, .map v (imap .i64 (offM (out.drop k))))) (by omega) (by rw [hXs]; decide) (by decide) (by (first | rfl | (simp only [go_sem, simprocAttr]; done) | (simp only [go_sem, simprocAttr]; rfl))) (by (first | rfl | (simp only [go_sem, simprocAttr]; done) | (simp only [go_sem, simprocAttr]; rfl)))
   ⟨by (and_intros <;> first | rfl | (simp only [h0, h1, go_sem, simprocAttr]; done) | (simp only [h0, h1, go_sem, simprocAttr]; rfl)), fun j _ => rfl, ver2, by rw [List.drop_zero]; exact hm2⟩ ?_ ?_
  ·clear h0 h1 h2 hm
   rintro k f H3 hk h26 h25 ⟨⟨h0, h24⟩, hlow3, v, hm⟩
   obtain ⟨x, hx⟩ : ∃ x, out[k]? = some x := ⟨_, List.getElem?_eq_getElem hk⟩
   have q36 : H3 436 = some (e36, .fro 10 [cPlant n hs e33 e34 (n.pipes.length + 1)]) := by rw [hlow3 _ (by decide), k36']
   rw [drop_cons hx] at hm
   have hf : findI x (offM (x :: out.drop (k + 1))) 0 = some (0, .bool true) := by simp [offM, findI]
   have he : (imap .i64 (offM (x :: out.drop (k + 1)))).eraseIdx 0 = imap .i64 (offM (out.drop (k + 1))) := by simp [imap, offM]
   repeat' (first | (with_reducible refine sk ?_; intro K hK) | ((with_reducible first | refine rg (md := { base := 1400, own := [], imp := [23] }) (h := ?_) | refine nx ?_); try simp (disch := omega) only [h0, h24, h25, h26, hx, q36, hm, hf, he, cPlant,go_sem, simprocAttr]) | (with_reducible refine bk ?_) | ((with_reducible refine' cE ?hv ?_ ?_); (case hv => first | rfl | (simp only [h0, h24, h25, h26, hx, q36, hm, hf, he, cPlant,go_sem, simprocAttr]; rfl)); all_goals (intro hc; (try simp only [go_sem, simprocAttr] at hc); try (exfalso; omega))) | with_reducible intro (ep : Nat → Nat) | with_reducible apply_assumption -exfalso -symm only [*])
   exact ⟨fun j hj => by rw [if_neg hj]; exact hlow3 j hj, _, rfl⟩
  ·clear h0 h1 h2 hm
   rintro f H3 h26 h25 ⟨⟨h0, h24⟩, hlow3, v, hm⟩
   rw [drop_none (Nat.le_refl _)] at hm
   refine FnQ_end (Or.inr rfl) (.refl _) (by simp only [Try.f58, go_sem, simprocAttr]; rfl) ?_
   exact ⟨rfl, H2, v, hR, hlow3, hm⟩
 clear hK
 repeat' (first | (with_reducible refine sk ?_; intro K hK) | ((with_reducible first | refine rg (md := { base := 1400, own := [], imp := [23] }) (h := ?_) | refine nx ?_); try simp (disch := omega) only [go_sem, simprocAttr]) | (with_reducible refine bk ?_) | ((with_reducible refine' cE ?hv ?_ ?_); (case hv => first | rfl | (simp only [go_sem, simprocAttr]; rfl)); all_goals (intro hc; (try simp only [go_sem, simprocAttr] at hc); try (exfalso; omega))) | with_reducible intro (ep : Nat → Nat) | with_reducible apply_assumption -exfalso -symm only [*])
 refine AW_range tabOK out.length (fun k f H => (f 0 = .ptr 436 e36 10 0 0 ∧ f 1 = .lst 1 (ints out) ∧ f 2 = .fn g caps ∧ f 10 = .lst 1 (ints out)) ∧ (∀ j, ¬ j = 434 → H j = H0 j) ∧ ∃ v, H 434 = some (e34, .map v (imap .i64 (offM (out.take k))))) (by omega) (by rw [hXs]; decide) (by decide) (by (first | rfl | (simp only [go_sem, simprocAttr]; done) | (simp only [go_sem, simprocAttr]; rfl))) (by (first | rfl | (simp only [go_sem, simprocAttr]; done) | (simp only [go_sem, simprocAttr]; rfl)))
  ⟨by (and_intros <;> first | rfl | (simp only [go_sem, simprocAttr]; done) | (simp only [go_sem, simprocAttr]; rfl)), fun j _ => rfl, ver, by rw [List.take_zero]; exact h34⟩ ?_ ?_
 ·clear hcut
  rintro k f H3 hk h12 h11 ⟨⟨h0, h1, h2, h10⟩, hlow3, v, hm⟩
  obtain ⟨x, hx⟩ : ∃ x, out[k]? = some x := ⟨_, List.getElem?_eq_getElem hk⟩
  have q36 : H3 436 = some (e36, .fro 10 [cPlant n hs e33 e34 (n.pipes.length + 1)]) := by rw [hlow3 _ (by decide), h36]
  have hf : findI x (offM (out.take k)) 0 = none := findI_end (v := .any) fun p hq => by
   obtain ⟨y, hy, rfl⟩ := List.mem_map.1 hq
   obtain ⟨i, hi⟩ := List.mem_iff_getElem?.1 hy
   have hik : i < k := by have := (List.getElem?_eq_some_iff.1 hi).1; simp at this; omega
   rw [List.getElem?_take_of_lt hik] at hi
   obtain ⟨z1, rfl⟩ := List.getElem?_eq_some_iff.1 hi
   obtain ⟨z2, rfl⟩ := List.getElem?_eq_some_iff.1 hx
   have := List.pairwise_iff_getElem.1 hp i k z1 z2 hik
   simp only; omega
  repeat' (first | (with_reducible refine sk ?_; intro K hK) | ((with_reducible first | refine rg (md := { base := 1400, own := [], imp := [23] }) (h := ?_) | refine nx ?_); try simp (disch := omega) only [h0, h1, h2, h10, h11, h12, hx, q36, hm, hf, cPlant,go_sem, simprocAttr]) | (with_reducible refine bk ?_) | ((with_reducible refine' cE ?hv ?_ ?_); (case hv => first | rfl | (simp only [h0, h1, h2, h10, h11, h12, hx, q36, hm, hf, cPlant,go_sem, simprocAttr]; rfl)); all_goals (intro hc; (try simp only [go_sem, simprocAttr] at hc); try (exfalso; omega))) | with_reducible intro (ep : Nat → Nat) | with_reducible apply_assumption -exfalso -symm only [*])
  exact ⟨fun j hj => by rw [if_neg hj]; exact hlow3 j hj, _, by rw [offM_snoc, take_snoc' hx]⟩
 ·rintro f H3 h12 h11 ⟨⟨h0, h1, h2, h10⟩, hlow3, v, hm⟩
  rw [List.take_of_length_le (Nat.le_refl _)] at hm
  repeat' (first | (with_reducible refine sk ?_; intro K hK) | ((with_reducible first | refine rg (md := { base := 1400, own := [], imp := [23] }) (h := ?_) | refine nx ?_); try simp (disch := omega) only [h0, h1, h2,go_sem, simprocAttr]) | (with_reducible refine bk ?_) | ((with_reducible refine' cE ?hv ?_ ?_); (case hv => first | rfl | (simp only [h0, h1, h2,go_sem, simprocAttr]; rfl)); all_goals (intro hc; (try simp only [go_sem, simprocAttr] at hc); try (exfalso; omega))) | with_reducible intro (ep : Nat → Nat) | with_reducible apply_assumption -exfalso -symm only [*])
  exact ⟨by (and_intros <;> first | rfl | (simp only [h0, h1, h2, go_sem, simprocAttr]; done) | (simp only [h0, h1, h2, go_sem, simprocAttr]; rfl)), hlow3, v, hm⟩
end Cp
namespace Cp
open Go Go.Proofs
set_option maxRecDepth 10000
set_option maxHeartbeats 1000000
theorem xf155 {a : Int} {b : Bool} : xfield tab 155 (.agg [.int .i64 a, .bool b]) 1 = some (.bool b) := by rfl
def getStep (n : NetT) (hs : List HeadT) (s : LackT × Bool) (out : List Int) : LackT × Bool :=
 (if (lackS n hs out false).2 = true ∧ s.1.known = 2 then ⟨0, (lackS n hs out false).1, out⟩ else s.1, s.2 || !(lackS n hs out true).2)
def cTold (t : LackT) : List Val := [.int .u8 t.known, .int .i64 t.head, if t.known = 2 then .nils else .lst 1 (ints t.out)]
theorem gets1_ok (n : NetT) (hF : NetF n) (hs : List HeadT) (h5 : heads500 hs) (hsl : hs.length ≤ 12) (hnd : ∀ h ∈ hs, 1 ≤ h.node ∧ h.node ≤ n.pipes.length) (out : List Int) (ho : outOK n out = true) (e36 e33 e34 ver e3 e4 e5 e6 : Nat) (t : LackT) (ht : t.known = 0 ∨ t.known = 2) (g : Bool) (H0 : Hp)
  (g36 : H0 436 = some (e36, .fro 10 [cPlant n hs e33 e34 (n.pipes.length + 1)])) (g33 : H0 433 = some (e33, .arr 1 (ints (flowL n.pipes (n.pipes.length + 1) hs)))) (g34 : H0 434 = some (e34, .map ver (imap .i64 (offM out))))
  (g3 : H0 603 = some (e3, .arr 3 [cTold t])) (g4 : H0 604 = some (e4, .arr 1 [[.bool g]])) (g5 : H0 605 = some (e5, .arr 4 [[.fn (sgF false) [], .fn (sgF true) [], .fn (sgF true) [], .fn (sgF false) []]])) (g6 : H0 606 = some (e6, .arr 1 [[.lst 1 (ints out)]]))
  (hroom : H0 1208 = none ∧ H0 1604 = none ∧ H0 1605 = none ∧ H0 1607 = none) :
  ACall Try.prog 95 [.pim [.ptr 436 e36 10 0 0], .ptr 605 e5 4 0 0, .ptr 603 e3 3 0 0, .ptr 606 e6 1 0 0, .ptr 604 e4 1 0 0] H0 fun v H' => v = .tup [] ∧ (∀ j, ¬ j = 603 → ¬ j = 604 → ¬ j = 1705 → H' j = H0 j) ∧
   H' 603 = some (e3, .arr 3 [cTold (getStep n hs (t, g) out).1]) ∧ H' 604 = some (e4, .arr 1 [[.bool (getStep n hs (t, g) out).2]]) := by
 refine ACall_of (fn := Try.f95) tabOK (by kernel_rfl) rfl (by kernel_rfl) (by simp [Try.f95]) ?_
 intro X hX0 hXs
 refine AW_lose 1705 fun H1 w5 hs1 => ?_
 obtain ⟨r0, r1, r2, r3⟩ := hroom
 have k36 := (hs1 436 (by decide)).trans g36
 have k33 := (hs1 433 (by decide)).trans g33
 have k34 := (hs1 434 (by decide)).trans g34
 have k3 := (hs1 603 (by decide)).trans g3
 have k4 := (hs1 604 (by decide)).trans g4
 have k5 := (hs1 605 (by decide)).trans g5
 have k6 := (hs1 606 (by decide)).trans g6
 have lk : ∀ (best : Bool) (H : Hp), (∀ j, ¬ j = 603 → ¬ j = 604 → ¬ j = 1705 → H j = H0 j) → LookC Try.prog 96 [.ptr 436 e36 10 0 0, endV best] H (.agg (cLk (lackS n hs out best))) := fun best H h =>
  lacks_look n hF hs h5 hsl hnd out ho best e36 e33 e34 H ⟨by rw [h _ (by decide) (by decide) (by decide), g36]; rfl, by rw [h _ (by decide) (by decide) (by decide), g33]; rfl, ver, by rw [h _ (by decide) (by decide) (by decide), g34]; rfl⟩
   ⟨by rw [h _ (by decide) (by decide) (by decide), r0], by rw [h _ (by decide) (by decide) (by decide), r1], by rw [h _ (by decide) (by decide) (by decide), r2], by rw [h _ (by decide) (by decide) (by decide), r3]⟩
 have hsame : ∀ j, ¬ j = 603 → ¬ j = 604 → ¬ j = 1705 → H1 j = H0 j := fun j _ _ h => hs1 j h
 simp only [getStep]
 obtain ⟨⟨i0, b0⟩, hl0⟩ : ∃ p, lackS n hs out false = p := ⟨_, rfl⟩
 obtain ⟨⟨i1, b1⟩, hl1⟩ : ∃ p, lackS n hs out true = p := ⟨_, rfl⟩
 have l0 := lk false H1 hsame
 have l1 := lk true
 rw [hl0] at l0 ⊢
 rw [hl1] at l1 ⊢
 simp only [endV, cLk, Bool.not_false, Bool.not_true] at l0 l1
 clear lk hs1 g36 g33 g34 g3 g4 g5 g6 r0 r1 r2 r3
 simp only [cTold] at k3 ⊢
 cases b0 <;> cases b1 <;> cases g <;> rcases ht with ht | ht <;> simp only [ht] at k3
 ·repeat' (first | (with_reducible refine sk ?_; intro K hK) | ((first | (with_reducible first | refine rgL [] [9, 26] (md := { base := 1700, own := [] }) (h := ?_) | refine rgL [5] [9, 26] (md := { base := 1700, own := [] }) (h := ?_) | refine nx ?_) | refine pK (l0) ?_ | refine pK (l1 _ (fun j q1 q2 q3 => by simp only [upd_ne _ _ q1, upd_ne _ _ q2, upd_ne _ _ q3]; exact hsame j q1 q2 q3)) ?_ | refine lK (l0) ?_ | refine lK (l1 _ (fun j q1 q2 q3 => by simp only [upd_ne _ _ q1, upd_ne _ _ q2, upd_ne _ _ q3]; exact hsame j q1 q2 q3)) ?_); try simp (disch := omega) only [k36, k3, k4, k5, k6, w5, ht, xf155,go_sem, simprocAttr]) | (with_reducible refine bk ?_) | ((with_reducible refine' cE ?hv ?_ ?_); (case hv => first | rfl | (simp only [k36, k3, k4, k5, k6, w5, ht, xf155,go_sem, simprocAttr]; rfl)); all_goals (intro hc; (try simp only [go_sem, simprocAttr] at hc); try (exfalso; omega))) | ((with_reducible first | refine grdS_split ?_ ?_ | refine lkG_split ?_ ?_) <;> intro hg <;> (try simp (disch := omega) only [hg, k36, k3, k4, k5, k6, w5, ht, xf155,go_sem, simprocAttr]) <;> (try simp only [go_sem, simprocAttr] at hg) <;> (try (exfalso; omega))) | with_reducible intro (ep : Nat → Nat) | with_reducible apply_assumption -exfalso -symm only [*])
  refine FnQ_end (Or.inr rfl) (.refl _) (by simp only [Try.f95, go_sem, simprocAttr]; rfl) ?_
  exact ⟨rfl, fun j q1 q2 q3 => by simp only [upd_ne _ _ q1, upd_ne _ _ q2, upd_ne _ _ q3]; exact hsame j q1 q2 q3, by (first | rfl | (simp only [k3, ht, go_sem, simprocAttr]; done) | (simp only [k3, ht, go_sem, simprocAttr]; rfl)), by (first | rfl | (simp only [k4, go_sem, simprocAttr]; done) | (simp only [k4, go_sem, simprocAttr]; rfl))⟩
 ·repeat' (first | (with_reducible refine sk ?_; intro K hK) | ((first | (with_reducible first | refine rgL [] [9, 26] (md := { base := 1700, own := [] }) (h := ?_) | refine rgL [5] [9, 26] (md := { base := 1700, own := [] }) (h := ?_) | refine nx ?_) | refine pK (l0) ?_ | refine pK (l1 _ (fun j q1 q2 q3 => by simp only [upd_ne _ _ q1, upd_ne _ _ q2, upd_ne _ _ q3]; exact hsame j q1 q2 q3)) ?_ | refine lK (l0) ?_ | refine lK (l1 _ (fun j q1 q2 q3 => by simp only [upd_ne _ _ q1, upd_ne _ _ q2, upd_ne _ _ q3]; exact hsame j q1 q2 q3)) ?_); try simp (disch := omega) only [k36, k3, k4, k5, k6, w5, ht, xf155,go_sem, simprocAttr]) | (with_reducible refine bk ?_) | ((with_reducible refine' cE ?hv ?_ ?_); (case hv => first | rfl | (simp only [k36, k3, k4, k5, k6, w5, ht, xf155,go_sem, simprocAttr]; rfl)); all_goals (intro hc; (try simp only [go_sem, simprocAttr] at hc); try (exfalso; omega))) | ((with_reducible first | refine grdS_split ?_ ?_ | refine lkG_split ?_ ?_) <;> intro hg <;> (try simp (disch := omega) only [hg, k36, k3, k4, k5, k6, w5, ht, xf155,go_sem, simprocAttr]) <;> (try simp only [go_sem, simprocAttr] at hg) <;> (try (exfalso; omega))) | with_reducible intro (ep : Nat → Nat) | with_reducible apply_assumption -exfalso -symm only [*])
  refine FnQ_end (Or.inr rfl) (.refl _) (by simp only [Try.f95, go_sem, simprocAttr]; rfl) ?_
  exact ⟨rfl, fun j q1 q2 q3 => by simp only [upd_ne _ _ q1, upd_ne _ _ q2, upd_ne _ _ q3]; exact hsame j q1 q2 q3, by (first | rfl | (simp only [k3, ht, go_sem, simprocAttr]; done) | (simp only [k3, ht, go_sem, simprocAttr]; rfl)), by (first | rfl | (simp only [k4, go_sem, simprocAttr]; done) | (simp only [k4, go_sem, simprocAttr]; rfl))⟩
 ·repeat' (first | (with_reducible refine sk ?_; intro K hK) | ((first | (with_reducible first | refine rgL [] [9, 26] (md := { base := 1700, own := [] }) (h := ?_) | refine rgL [5] [9, 26] (md := { base := 1700, own := [] }) (h := ?_) | refine nx ?_) | refine pK (l0) ?_ | refine pK (l1 _ (fun j q1 q2 q3 => by simp only [upd_ne _ _ q1, upd_ne _ _ q2, upd_ne _ _ q3]; exact hsame j q1 q2 q3)) ?_ | refine lK (l0) ?_ | refine lK (l1 _ (fun j q1 q2 q3 => by simp only [upd_ne _ _ q1, upd_ne _ _ q2, upd_ne _ _ q3]; exact hsame j q1 q2 q3)) ?_); try simp (disch := omega) only [k36, k3, k4, k5, k6, w5, ht, xf155,go_sem, simprocAttr]) | (with_reducible refine bk ?_) | ((with_reducible refine' cE ?hv ?_ ?_); (case hv => first | rfl | (simp only [k36, k3, k4, k5, k6, w5, ht, xf155,go_sem, simprocAttr]; rfl)); all_goals (intro hc; (try simp only [go_sem, simprocAttr] at hc); try (exfalso; omega))) | ((with_reducible first | refine grdS_split ?_ ?_ | refine lkG_split ?_ ?_) <;> intro hg <;> (try simp (disch := omega) only [hg, k36, k3, k4, k5, k6, w5, ht, xf155,go_sem, simprocAttr]) <;> (try simp only [go_sem, simprocAttr] at hg) <;> (try (exfalso; omega))) | with_reducible intro (ep : Nat → Nat) | with_reducible apply_assumption -exfalso -symm only [*])
  refine FnQ_end (Or.inr rfl) (.refl _) (by simp only [Try.f95, go_sem, simprocAttr]; rfl) ?_
  exact ⟨rfl, fun j q1 q2 q3 => by simp only [upd_ne _ _ q1, upd_ne _ _ q2, upd_ne _ _ q3]; exact hsame j q1 q2 q3, by (first | rfl | (simp only [k3, ht, go_sem, simprocAttr]; done) | (simp only [k3, ht, go_sem, simprocAttr]; rfl)), by (first | rfl | (simp only [k4, go_sem, simprocAttr]; done) | (simp only [k4, go_sem, simprocAttr]; rfl))⟩
 ·repeat' (first | (with_reducible refine sk ?_; intro K hK) | ((first | (with_reducible first | refine rgL [] [9, 26] (md := { base := 1700, own := [] }) (h := ?_) | refine rgL [5] [9, 26] (md := { base := 1700, own := [] }) (h := ?_) | refine nx ?_) | refine pK (l0) ?_ | refine pK (l1 _ (fun j q1 q2 q3 => by simp only [upd_ne _ _ q1, upd_ne _ _ q2, upd_ne _ _ q3]; exact hsame j q1 q2 q3)) ?_ | refine lK (l0) ?_ | refine lK (l1 _ (fun j q1 q2 q3 => by simp only [upd_ne _ _ q1, upd_ne _ _ q2, upd_ne _ _ q3]; exact hsame j q1 q2 q3)) ?_); try simp (disch := omega) only [k36, k3, k4, k5, k6, w5, ht, xf155,go_sem, simprocAttr]) | (with_reducible refine bk ?_) | ((with_reducible refine' cE ?hv ?_ ?_); (case hv => first | rfl | (simp only [k36, k3, k4, k5, k6, w5, ht, xf155,go_sem, simprocAttr]; rfl)); all_goals (intro hc; (try simp only [go_sem, simprocAttr] at hc); try (exfalso; omega))) | ((with_reducible first | refine grdS_split ?_ ?_ | refine lkG_split ?_ ?_) <;> intro hg <;> (try simp (disch := omega) only [hg, k36, k3, k4, k5, k6, w5, ht, xf155,go_sem, simprocAttr]) <;> (try simp only [go_sem, simprocAttr] at hg) <;> (try (exfalso; omega))) | with_reducible intro (ep : Nat → Nat) | with_reducible apply_assumption -exfalso -symm only [*])
  refine FnQ_end (Or.inr rfl) (.refl _) (by simp only [Try.f95, go_sem, simprocAttr]; rfl) ?_
  exact ⟨rfl, fun j q1 q2 q3 => by simp only [upd_ne _ _ q1, upd_ne _ _ q2, upd_ne _ _ q3]; exact hsame j q1 q2 q3, by (first | rfl | (simp only [k3, ht, go_sem, simprocAttr]; done) | (simp only [k3, ht, go_sem, simprocAttr]; rfl)), by (first | rfl | (simp only [k4, go_sem, simprocAttr]; done) | (simp only [k4, go_sem, simprocAttr]; rfl))⟩
 ·repeat' (first | (with_reducible refine sk ?_; intro K hK) | ((first | (with_reducible first | refine rgL [] [9, 26] (md := { base := 1700, own := [] }) (h := ?_) | refine rgL [5] [9, 26] (md := { base := 1700, own := [] }) (h := ?_) | refine nx ?_) | refine pK (l0) ?_ | refine pK (l1 _ (fun j q1 q2 q3 => by simp only [upd_ne _ _ q1, upd_ne _ _ q2, upd_ne _ _ q3]; exact hsame j q1 q2 q3)) ?_ | refine lK (l0) ?_ | refine lK (l1 _ (fun j q1 q2 q3 => by simp only [upd_ne _ _ q1, upd_ne _ _ q2, upd_ne _ _ q3]; exact hsame j q1 q2 q3)) ?_); try simp (disch := omega) only [k36, k3, k4, k5, k6, w5, ht, xf155,go_sem, simprocAttr]) | (with_reducible refine bk ?_) | ((with_reducible refine' cE ?hv ?_ ?_); (case hv => first | rfl | (simp only [k36, k3, k4, k5, k6, w5, ht, xf155,go_sem, simprocAttr]; rfl)); all_goals (intro hc; (try simp only [go_sem, simprocAttr] at hc); try (exfalso; omega))) | ((with_reducible first | refine grdS_split ?_ ?_ | refine lkG_split ?_ ?_) <;> intro hg <;> (try simp (disch := omega) only [hg, k36, k3, k4, k5, k6, w5, ht, xf155,go_sem, simprocAttr]) <;> (try simp only [go_sem, simprocAttr] at hg) <;> (try (exfalso; omega))) | with_reducible intro (ep : Nat → Nat) | with_reducible apply_assumption -exfalso -symm only [*])
  refine FnQ_end (Or.inr rfl) (.refl _) (by simp only [Try.f95, go_sem, simprocAttr]; rfl) ?_
  exact ⟨rfl, fun j q1 q2 q3 => by simp only [upd_ne _ _ q1, upd_ne _ _ q2, upd_ne _ _ q3]; exact hsame j q1 q2 q3, by (first | rfl | (simp only [k3, ht, go_sem, simprocAttr]; done) | (simp only [k3, ht, go_sem, simprocAttr]; rfl)), by (first | rfl | (simp only [k4, go_sem, simprocAttr]; done) | (simp only [k4, go_sem, simprocAttr]; rfl))⟩
 ·repeat' (first | (with_reducible refine sk ?_; intro K hK) | ((first | (with_reducible first | refine rgL [] [9, 26] (md := { base := 1700, own := [] }) (h := ?_) | refine rgL [5] [9, 26] (md := { base := 1700, own := [] }) (h := ?_) | refine nx ?_) | refine pK (l0) ?_ | refine pK (l1 _ (fun j q1 q2 q3 => by simp only [upd_ne _ _ q1, upd_ne _ _ q2, upd_ne _ _ q3]; exact hsame j q1 q2 q3)) ?_ | refine lK (l0) ?_ | refine lK (l1 _ (fun j q1 q2 q3 => by simp only [upd_ne _ _ q1, upd_ne _ _ q2, upd_ne _ _ q3]; exact hsame j q1 q2 q3)) ?_); try simp (disch := omega) only [k36, k3, k4, k5, k6, w5, ht, xf155,go_sem, simprocAttr]) | (with_reducible refine bk ?_) | ((with_reducible refine' cE ?hv ?_ ?_); (case hv => first | rfl | (simp only [k36, k3, k4, k5, k6, w5, ht, xf155,go_sem, simprocAttr]; rfl)); all_goals (intro hc; (try simp only [go_sem, simprocAttr] at hc); try (exfalso; omega))) | ((with_reducible first | refine grdS_split ?_ ?_ | refine lkG_split ?_ ?_) <;> intro hg <;> (try simp (disch := omega) only [hg, k36, k3, k4, k5, k6, w5, ht, xf155,go_sem, simprocAttr]) <;> (try simp only [go_sem, simprocAttr] at hg) <;> (try (exfalso; omega))) | with_reducible intro (ep : Nat → Nat) | with_reducible apply_assumption -exfalso -symm only [*])
  refine FnQ_end (Or.inr rfl) (.refl _) (by simp only [Try.f95, go_sem, simprocAttr]; rfl) ?_
  exact ⟨rfl, fun j q1 q2 q3 => by simp only [upd_ne _ _ q1, upd_ne _ _ q2, upd_ne _ _ q3]; exact hsame j q1 q2 q3, by (first | rfl | (simp only [k3, ht, go_sem, simprocAttr]; done) | (simp only [k3, ht, go_sem, simprocAttr]; rfl)), by (first | rfl | (simp only [k4, go_sem, simprocAttr]; done) | (simp only [k4, go_sem, simprocAttr]; rfl))⟩
 ·repeat' (first | (with_reducible refine sk ?_; intro K hK) | ((first | (with_reducible first | refine rgL [] [9, 26] (md := { base := 1700, own := [] }) (h := ?_) | refine rgL [5] [9, 26] (md := { base := 1700, own := [] }) (h := ?_) | refine nx ?_) | refine pK (l0) ?_ | refine pK (l1 _ (fun j q1 q2 q3 => by simp only [upd_ne _ _ q1, upd_ne _ _ q2, upd_ne _ _ q3]; exact hsame j q1 q2 q3)) ?_ | refine lK (l0) ?_ | refine lK (l1 _ (fun j q1 q2 q3 => by simp only [upd_ne _ _ q1, upd_ne _ _ q2, upd_ne _ _ q3]; exact hsame j q1 q2 q3)) ?_); try simp (disch := omega) only [k36, k3, k4, k5, k6, w5, ht, xf155,go_sem, simprocAttr]) | (with_reducible refine bk ?_) | ((with_reducible refine' cE ?hv ?_ ?_); (case hv => first | rfl | (simp only [k36, k3, k4, k5, k6, w5, ht, xf155,go_sem, simprocAttr]; rfl)); all_goals (intro hc; (try simp only [go_sem, simprocAttr] at hc); try (exfalso; omega))) | ((with_reducible first | refine grdS_split ?_ ?_ | refine lkG_split ?_ ?_) <;> intro hg <;> (try simp (disch := omega) only [hg, k36, k3, k4, k5, k6, w5, ht, xf155,go_sem, simprocAttr]) <;> (try simp only [go_sem, simprocAttr] at hg) <;> (try (exfalso; omega))) | with_reducible intro (ep : Nat → Nat) | with_reducible apply_assumption -exfalso -symm only [*])
  refine FnQ_end (Or.inr rfl) (.refl _) (by simp only [Try.f95, go_sem, simprocAttr]; rfl) ?_
  exact ⟨rfl, fun j q1 q2 q3 => by simp only [upd_ne _ _ q1, upd_ne _ _ q2, upd_ne _ _ q3]; exact hsame j q1 q2 q3, by (first | rfl | (simp only [k3, ht, go_sem, simprocAttr]; done) | (simp only [k3, ht, go_sem, simprocAttr]; rfl)), by (first | rfl | (simp only [k4, go_sem, simprocAttr]; done) | (simp only [k4, go_sem, simprocAttr]; rfl))⟩
 ·repeat' (first | (with_reducible refine sk ?_; intro K hK) | ((first | (with_reducible first | refine rgL [] [9, 26] (md := { base := 1700, own := [] }) (h := ?_) | refine rgL [5] [9, 26] (md := { base := 1700, own := [] }) (h := ?_) | refine nx ?_) | refine pK (l0) ?_ | refine pK (l1 _ (fun j q1 q2 q3 => by simp only [upd_ne _ _ q1, upd_ne _ _ q2, upd_ne _ _ q3]; exact hsame j q1 q2 q3)) ?_ | refine lK (l0) ?_ | refine lK (l1 _ (fun j q1 q2 q3 => by simp only [upd_ne _ _ q1, upd_ne _ _ q2, upd_ne _ _ q3]; exact hsame j q1 q2 q3)) ?_); try simp (disch := omega) only [k36, k3, k4, k5, k6, w5, ht, xf155,go_sem, simprocAttr]) | (with_reducible refine bk ?_) | ((with_reducible refine' cE ?hv ?_ ?_); (case hv => first | rfl | (simp only [k36, k3, k4, k5, k6, w5, ht, xf155,go_sem, simprocAttr]; rfl)); all_goals (intro hc; (try simp only [go_sem, simprocAttr] at hc); try (exfalso; omega))) | ((with_reducible first | refine grdS_split ?_ ?_ | refine lkG_split ?_ ?_) <;> intro hg <;> (try simp (disch := omega) only [hg, k36, k3, k4, k5, k6, w5, ht, xf155,go_sem, simprocAttr]) <;> (try simp only [go_sem, simprocAttr] at hg) <;> (try (exfalso; omega))) | with_reducible intro (ep : Nat → Nat) | with_reducible apply_assumption -exfalso -symm only [*])
  refine FnQ_end (Or.inr rfl) (.refl _) (by simp only [Try.f95, go_sem, simprocAttr]; rfl) ?_
  exact ⟨rfl, fun j q1 q2 q3 => by simp only [upd_ne _ _ q1, upd_ne _ _ q2, upd_ne _ _ q3]; exact hsame j q1 q2 q3, by (first | rfl | (simp only [k3, ht, go_sem, simprocAttr]; done) | (simp only [k3, ht, go_sem, simprocAttr]; rfl)), by (first | rfl | (simp only [k4, go_sem, simprocAttr]; done) | (simp only [k4, go_sem, simprocAttr]; rfl))⟩
 ·repeat' (first | (with_reducible refine sk ?_; intro K hK) | ((first | (with_reducible first | refine rgL [] [9, 26] (md := { base := 1700, own := [] }) (h := ?_) | refine rgL [5] [9, 26] (md := { base := 1700, own := [] }) (h := ?_) | refine nx ?_) | refine pK (l0) ?_ | refine pK (l1 _ (fun j q1 q2 q3 => by simp only [upd_ne _ _ q1, upd_ne _ _ q2, upd_ne _ _ q3]; exact hsame j q1 q2 q3)) ?_ | refine lK (l0) ?_ | refine lK (l1 _ (fun j q1 q2 q3 => by simp only [upd_ne _ _ q1, upd_ne _ _ q2, upd_ne _ _ q3]; exact hsame j q1 q2 q3)) ?_); try simp (disch := omega) only [k36, k3, k4, k5, k6, w5, ht, xf155,go_sem, simprocAttr]) | (with_reducible refine bk ?_) | ((with_reducible refine' cE ?hv ?_ ?_); (case hv => first | rfl | (simp only [k36, k3, k4, k5, k6, w5, ht, xf155,go_sem, simprocAttr]; rfl)); all_goals (intro hc; (try simp only [go_sem, simprocAttr] at hc); try (exfalso; omega))) | ((with_reducible first | refine grdS_split ?_ ?_ | refine lkG_split ?_ ?_) <;> intro hg <;> (try simp (disch := omega) only [hg, k36, k3, k4, k5, k6, w5, ht, xf155,go_sem, simprocAttr]) <;> (try simp only [go_sem, simprocAttr] at hg) <;> (try (exfalso; omega))) | with_reducible intro (ep : Nat → Nat) | with_reducible apply_assumption -exfalso -symm only [*])
  refine FnQ_end (Or.inr rfl) (.refl _) (by simp only [Try.f95, go_sem, simprocAttr]; rfl) ?_
  exact ⟨rfl, fun j q1 q2 q3 => by simp only [upd_ne _ _ q1, upd_ne _ _ q2, upd_ne _ _ q3]; exact hsame j q1 q2 q3, by (first | rfl | (simp only [k3, ht, go_sem, simprocAttr]; done) | (simp only [k3, ht, go_sem, simprocAttr]; rfl)), by (first | rfl | (simp only [k4, go_sem, simprocAttr]; done) | (simp only [k4, go_sem, simprocAttr]; rfl))⟩
 ·repeat' (first | (with_reducible refine sk ?_; intro K hK) | ((first | (with_reducible first | refine rgL [] [9, 26] (md := { base := 1700, own := [] }) (h := ?_) | refine rgL [5] [9, 26] (md := { base := 1700, own := [] }) (h := ?_) | refine nx ?_) | refine pK (l0) ?_ | refine pK (l1 _ (fun j q1 q2 q3 => by simp only [upd_ne _ _ q1, upd_ne _ _ q2, upd_ne _ _ q3]; exact hsame j q1 q2 q3)) ?_ | refine lK (l0) ?_ | refine lK (l1 _ (fun j q1 q2 q3 => by simp only [upd_ne _ _ q1, upd_ne _ _ q2, upd_ne _ _ q3]; exact hsame j q1 q2 q3)) ?_); try simp (disch := omega) only [k36, k3, k4, k5, k6, w5, ht, xf155,go_sem, simprocAttr]) | (with_reducible refine bk ?_) | ((with_reducible refine' cE ?hv ?_ ?_); (case hv => first | rfl | (simp only [k36, k3, k4, k5, k6, w5, ht, xf155,go_sem, simprocAttr]; rfl)); all_goals (intro hc; (try simp only [go_sem, simprocAttr] at hc); try (exfalso; omega))) | ((with_reducible first | refine grdS_split ?_ ?_ | refine lkG_split ?_ ?_) <;> intro hg <;> (try simp (disch := omega) only [hg, k36, k3, k4, k5, k6, w5, ht, xf155,go_sem, simprocAttr]) <;> (try simp only [go_sem, simprocAttr] at hg) <;> (try (exfalso; omega))) | with_reducible intro (ep : Nat → Nat) | with_reducible apply_assumption -exfalso -symm only [*])
  refine FnQ_end (Or.inr rfl) (.refl _) (by simp only [Try.f95, go_sem, simprocAttr]; rfl) ?_
  exact ⟨rfl, fun j q1 q2 q3 => by simp only [upd_ne _ _ q1, upd_ne _ _ q2, upd_ne _ _ q3]; exact hsame j q1 q2 q3, by (first | rfl | (simp only [k3, ht, go_sem, simprocAttr]; done) | (simp only [k3, ht, go_sem, simprocAttr]; rfl)), by (first | rfl | (simp only [k4, go_sem, simprocAttr]; done) | (simp only [k4, go_sem, simprocAttr]; rfl))⟩
 ·repeat' (first | (with_reducible refine sk ?_; intro K hK) | ((first | (with_reducible first | refine rgL [] [9, 26] (md := { base := 1700, own := [] }) (h := ?_) | refine rgL [5] [9, 26] (md := { base := 1700, own := [] }) (h := ?_) | refine nx ?_) | refine pK (l0) ?_ | refine pK (l1 _ (fun j q1 q2 q3 => by simp only [upd_ne _ _ q1, upd_ne _ _ q2, upd_ne _ _ q3]; exact hsame j q1 q2 q3)) ?_ | refine lK (l0) ?_ | refine lK (l1 _ (fun j q1 q2 q3 => by simp only [upd_ne _ _ q1, upd_ne _ _ q2, upd_ne _ _ q3]; exact hsame j q1 q2 q3)) ?_); try simp (disch := omega) only [k36, k3, k4, k5, k6, w5, ht, xf155,go_sem, simprocAttr]) | (with_reducible refine bk ?_) | ((with_reducible refine' cE ?hv ?_ ?_); (case hv => first | rfl | (simp only [k36, k3, k4, k5, k6, w5, ht, xf155,go_sem, simprocAttr]; rfl)); all_goals (intro hc; (try simp only [go_sem, simprocAttr] at hc); try (exfalso; omega))) | ((with_reducible first | refine grdS_split ?_ ?_ | refine lkG_split ?_ ?_) <;> intro hg <;> (try simp (disch := omega) only [hg, k36, k3, k4, k5, k6, w5, ht, xf155,go_sem, simprocAttr]) <;> (try simp only [go_sem, simprocAttr] at hg) <;> (try (exfalso; omega))) | with_reducible intro (ep : Nat → Nat) | with_reducible apply_assumption -exfalso -symm only [*])
  refine FnQ_end (Or.inr rfl) (.refl _) (by simp only [Try.f95, go_sem, simprocAttr]; rfl) ?_
  exact ⟨rfl, fun j q1 q2 q3 => by simp only [upd_ne _ _ q1, upd_ne _ _ q2, upd_ne _ _ q3]; exact hsame j q1 q2 q3, by (first | rfl | (simp only [k3, ht, go_sem, simprocAttr]; done) | (simp only [k3, ht, go_sem, simprocAttr]; rfl)), by (first | rfl | (simp only [k4, go_sem, simprocAttr]; done) | (simp only [k4, go_sem, simprocAttr]; rfl))⟩
 ·repeat' (first | (with_reducible refine sk ?_; intro K hK) | ((first | (with_reducible first | refine rgL [] [9, 26] (md := { base := 1700, own := [] }) (h := ?_) | refine rgL [5] [9, 26] (md := { base := 1700, own := [] }) (h := ?_) | refine nx ?_) | refine pK (l0) ?_ | refine pK (l1 _ (fun j q1 q2 q3 => by simp only [upd_ne _ _ q1, upd_ne _ _ q2, upd_ne _ _ q3]; exact hsame j q1 q2 q3)) ?_ | refine lK (l0) ?_ | refine lK (l1 _ (fun j q1 q2 q3 => by simp only [upd_ne _ _ q1, upd_ne _ _ q2, upd_ne _ _ q3]; exact hsame j q1 q2 q3)) ?_); try simp (disch := omega) only [k36, k3, k4, k5, k6, w5, ht, xf155,go_sem, simprocAttr]) | (with_reducible refine bk ?_) | ((with_reducible refine' cE ?hv ?_ ?_); (case hv => first | rfl | (simp only [k36, k3, k4, k5, k6, w5, ht, xf155,go_sem, simprocAttr]; rfl)); all_goals (intro hc; (try simp only [go_sem, simprocAttr] at hc); try (exfalso; omega))) | ((with_reducible first | refine grdS_split ?_ ?_ | refine lkG_split ?_ ?_) <;> intro hg <;> (try simp (disch := omega) only [hg, k36, k3, k4, k5, k6, w5, ht, xf155,go_sem, simprocAttr]) <;> (try simp only [go_sem, simprocAttr] at hg) <;> (try (exfalso; omega))) | with_reducible intro (ep : Nat → Nat) | with_reducible apply_assumption -exfalso -symm only [*])
  refine FnQ_end (Or.inr rfl) (.refl _) (by simp only [Try.f95, go_sem, simprocAttr]; rfl) ?_
  exact ⟨rfl, fun j q1 q2 q3 => by simp only [upd_ne _ _ q1, upd_ne _ _ q2, upd_ne _ _ q3]; exact hsame j q1 q2 q3, by (first | rfl | (simp only [k3, ht, go_sem, simprocAttr]; done) | (simp only [k3, ht, go_sem, simprocAttr]; rfl)), by (first | rfl | (simp only [k4, go_sem, simprocAttr]; done) | (simp only [k4, go_sem, simprocAttr]; rfl))⟩
 ·repeat' (first | (with_reducible refine sk ?_; intro K hK) | ((first | (with_reducible first | refine rgL [] [9, 26] (md := { base := 1700, own := [] }) (h := ?_) | refine rgL [5] [9, 26] (md := { base := 1700, own := [] }) (h := ?_) | refine nx ?_) | refine pK (l0) ?_ | refine pK (l1 _ (fun j q1 q2 q3 => by simp only [upd_ne _ _ q1, upd_ne _ _ q2, upd_ne _ _ q3]; exact hsame j q1 q2 q3)) ?_ | refine lK (l0) ?_ | refine lK (l1 _ (fun j q1 q2 q3 => by simp only [upd_ne _ _ q1, upd_ne _ _ q2, upd_ne _ _ q3]; exact hsame j q1 q2 q3)) ?_); try simp (disch := omega) only [k36, k3, k4, k5, k6, w5, ht, xf155,go_sem, simprocAttr]) | (with_reducible refine bk ?_) | ((with_reducible refine' cE ?hv ?_ ?_); (case hv => first | rfl | (simp only [k36, k3, k4, k5, k6, w5, ht, xf155,go_sem, simprocAttr]; rfl)); all_goals (intro hc; (try simp only [go_sem, simprocAttr] at hc); try (exfalso; omega))) | ((with_reducible first | refine grdS_split ?_ ?_ | refine lkG_split ?_ ?_) <;> intro hg <;> (try simp (disch := omega) only [hg, k36, k3, k4, k5, k6, w5, ht, xf155,go_sem, simprocAttr]) <;> (try simp only [go_sem, simprocAttr] at hg) <;> (try (exfalso; omega))) | with_reducible intro (ep : Nat → Nat) | with_reducible apply_assumption -exfalso -symm only [*])
  refine FnQ_end (Or.inr rfl) (.refl _) (by simp only [Try.f95, go_sem, simprocAttr]; rfl) ?_
  exact ⟨rfl, fun j q1 q2 q3 => by simp only [upd_ne _ _ q1, upd_ne _ _ q2, upd_ne _ _ q3]; exact hsame j q1 q2 q3, by (first | rfl | (simp only [k3, ht, go_sem, simprocAttr]; done) | (simp only [k3, ht, go_sem, simprocAttr]; rfl)), by (first | rfl | (simp only [k4, go_sem, simprocAttr]; done) | (simp only [k4, go_sem, simprocAttr]; rfl))⟩
 ·repeat' (first | (with_reducible refine sk ?_; intro K hK) | ((first | (with_reducible first | refine rgL [] [9, 26] (md := { base := 1700, own := [] }) (h := ?_) | refine rgL [5] [9, 26] (md := { base := 1700, own := [] }) (h := ?_) | refine nx ?_) | refine pK (l0) ?_ | refine pK (l1 _ (fun j q1 q2 q3 => by simp only [upd_ne _ _ q1, upd_ne _ _ q2, upd_ne _ _ q3]; exact hsame j q1 q2 q3)) ?_ | refine lK (l0) ?_ | refine lK (l1 _ (fun j q1 q2 q3 => by simp only [upd_ne _ _ q1, upd_ne _ _ q2, upd_ne _ _ q3]; exact hsame j q1 q2 q3)) ?_); try simp (disch := omega) only [k36, k3, k4, k5, k6, w5, ht, xf155,go_sem, simprocAttr]) | (with_reducible refine bk ?_) | ((with_reducible refine' cE ?hv ?_ ?_); (case hv => first | rfl | (simp only [k36, k3, k4, k5, k6, w5, ht, xf155,go_sem, simprocAttr]; rfl)); all_goals (intro hc; (try simp only [go_sem, simprocAttr] at hc); try (exfalso; omega))) | ((with_reducible first | refine grdS_split ?_ ?_ | refine lkG_split ?_ ?_) <;> intro hg <;> (try simp (disch := omega) only [hg, k36, k3, k4, k5, k6, w5, ht, xf155,go_sem, simprocAttr]) <;> (try simp only [go_sem, simprocAttr] at hg) <;> (try (exfalso; omega))) | with_reducible intro (ep : Nat → Nat) | with_reducible apply_assumption -exfalso -symm only [*])
  refine FnQ_end (Or.inr rfl) (.refl _) (by simp only [Try.f95, go_sem, simprocAttr]; rfl) ?_
  exact ⟨rfl, fun j q1 q2 q3 => by simp only [upd_ne _ _ q1, upd_ne _ _ q2, upd_ne _ _ q3]; exact hsame j q1 q2 q3, by (first | rfl | (simp only [k3, ht, go_sem, simprocAttr]; done) | (simp only [k3, ht, go_sem, simprocAttr]; rfl)), by (first | rfl | (simp only [k4, go_sem, simprocAttr]; done) | (simp only [k4, go_sem, simprocAttr]; rfl))⟩
 ·repeat' (first | (with_reducible refine sk ?_; intro K hK) | ((first | (with_reducible first | refine rgL [] [9, 26] (md := { base := 1700, own := [] }) (h := ?_) | refine rgL [5] [9, 26] (md := { base := 1700, own := [] }) (h := ?_) | refine nx ?_) | refine pK (l0) ?_ | refine pK (l1 _ (fun j q1 q2 q3 => by simp only [upd_ne _ _ q1, upd_ne _ _ q2, upd_ne _ _ q3]; exact hsame j q1 q2 q3)) ?_ | refine lK (l0) ?_ | refine lK (l1 _ (fun j q1 q2 q3 => by simp only [upd_ne _ _ q1, upd_ne _ _ q2, upd_ne _ _ q3]; exact hsame j q1 q2 q3)) ?_); try simp (disch := omega) only [k36, k3, k4, k5, k6, w5, ht, xf155,go_sem, simprocAttr]) | (with_reducible refine bk ?_) | ((with_reducible refine' cE ?hv ?_ ?_); (case hv => first | rfl | (simp only [k36, k3, k4, k5, k6, w5, ht, xf155,go_sem, simprocAttr]; rfl)); all_goals (intro hc; (try simp only [go_sem, simprocAttr] at hc); try (exfalso; omega))) | ((with_reducible first | refine grdS_split ?_ ?_ | refine lkG_split ?_ ?_) <;> intro hg <;> (try simp (disch := omega) only [hg, k36, k3, k4, k5, k6, w5, ht, xf155,go_sem, simprocAttr]) <;> (try simp only [go_sem, simprocAttr] at hg) <;> (try (exfalso; omega))) | with_reducible intro (ep : Nat → Nat) | with_reducible apply_assumption -exfalso -symm only [*])
  refine FnQ_end (Or.inr rfl) (.refl _) (by simp only [Try.f95, go_sem, simprocAttr]; rfl) ?_
  exact ⟨rfl, fun j q1 q2 q3 => by simp only [upd_ne _ _ q1, upd_ne _ _ q2, upd_ne _ _ q3]; exact hsame j q1 q2 q3, by (first | rfl | (simp only [k3, ht, go_sem, simprocAttr]; done) | (simp only [k3, ht, go_sem, simprocAttr]; rfl)), by (first | rfl | (simp only [k4, go_sem, simprocAttr]; done) | (simp only [k4, go_sem, simprocAttr]; rfl))⟩
 ·repeat' (first | (with_reducible refine sk ?_; intro K hK) | ((first | (with_reducible first | refine rgL [] [9, 26] (md := { base := 1700, own := [] }) (h := ?_) | refine rgL [5] [9, 26] (md := { base := 1700, own := [] }) (h := ?_) | refine nx ?_) | refine pK (l0) ?_ | refine pK (l1 _ (fun j q1 q2 q3 => by simp only [upd_ne _ _ q1, upd_ne _ _ q2, upd_ne _ _ q3]; exact hsame j q1 q2 q3)) ?_ | refine lK (l0) ?_ | refine lK (l1 _ (fun j q1 q2 q3 => by simp only [upd_ne _ _ q1, upd_ne _ _ q2, upd_ne _ _ q3]; exact hsame j q1 q2 q3)) ?_); try simp (disch := omega) only [k36, k3, k4, k5, k6, w5, ht, xf155,go_sem, simprocAttr]) | (with_reducible refine bk ?_) | ((with_reducible refine' cE ?hv ?_ ?_); (case hv => first | rfl | (simp only [k36, k3, k4, k5, k6, w5, ht, xf155,go_sem, simprocAttr]; rfl)); all_goals (intro hc; (try simp only [go_sem, simprocAttr] at hc); try (exfalso; omega))) | ((with_reducible first | refine grdS_split ?_ ?_ | refine lkG_split ?_ ?_) <;> intro hg <;> (try simp (disch := omega) only [hg, k36, k3, k4, k5, k6, w5, ht, xf155,go_sem, simprocAttr]) <;> (try simp only [go_sem, simprocAttr] at hg) <;> (try (exfalso; omega))) | with_reducible intro (ep : Nat → Nat) | with_reducible apply_assumption -exfalso -symm only [*])
  refine FnQ_end (Or.inr rfl) (.refl _) (by simp only [Try.f95, go_sem, simprocAttr]; rfl) ?_
  exact ⟨rfl, fun j q1 q2 q3 => by simp only [upd_ne _ _ q1, upd_ne _ _ q2, upd_ne _ _ q3]; exact hsame j q1 q2 q3, by (first | rfl | (simp only [k3, ht, go_sem, simprocAttr]; done) | (simp only [k3, ht, go_sem, simprocAttr]; rfl)), by (first | rfl | (simp only [k4, go_sem, simprocAttr]; done) | (simp only [k4, go_sem, simprocAttr]; rfl))⟩
end Cp
namespace Cp
open Go Go.Proofs
set_option maxRecDepth 10000
set_option maxHeartbeats 1000000
def getF (n : NetT) (hs : List HeadT) (L : List (List Int)) : LackT × Bool := L.foldl (getStep n hs) (⟨2, 0, []⟩, false)
def getsS (n : NetT) (hs : List HeadT) : LackT :=
 if (getF n hs (outsL n.pumps.length n.out.toNat)).2 = true ∧ (getF n hs (outsL n.pumps.length n.out.toNat)).1.known = 0 then { (getF n hs (outsL n.pumps.length n.out.toNat)).1 with known := 1 } else (getF n hs (outsL n.pumps.length n.out.toNat)).1
theorem getF_snoc {n : NetT} {hs : List HeadT} {L : List (List Int)} {k : Nat} {l : List Int} (h : L[k]? = some l) : getF n hs (L.take (k + 1)) = getStep n hs (getF n hs (L.take k)) l := by
 unfold getF; rw [take_snoc' h, List.foldl_append]; rfl
theorem getStep_kn {n : NetT} {hs : List HeadT} {s : LackT × Bool} {l : List Int} (h : s.1.known = 0 ∨ s.1.known = 2) : (getStep n hs s l).1.known = 0 ∨ (getStep n hs s l).1.known = 2 := by
 unfold getStep
 simp only
 split
 ·exact .inl rfl
 ·exact h
theorem getF_kn {n : NetT} {hs : List HeadT} : ∀ (k : Nat) (L : List (List Int)), (getF n hs (L.take k)).1.known = 0 ∨ (getF n hs (L.take k)).1.known = 2
 | 0, L => .inr rfl
 | k + 1, L => by
  cases h : L[k]? with
  | some l => rw [getF_snoc h]; exact getStep_kn (getF_kn k L)
  | none =>
   have hk : L.length ≤ k := List.getElem?_eq_none_iff.1 h
   have := getF_kn (n := n) (hs := hs) k L
   rw [List.take_of_length_le hk] at this
   rw [List.take_of_length_le (by omega)]
   exact this
theorem fzd_plant {n : NetT} {hs : List HeadT} {e36 e33 e34 k : Nat} {H : Hp} (h : H 436 = some (e36, .fro 10 [cPlant n hs e33 e34 k])) : fzd H 3 (.ptr 436 e36 10 0 0) = .pim ((cPlant n hs e33 e34 k).map (fzd H 2)) := by
 simp [fzd, h]
theorem take_plant {n : NetT} {hs : List HeadT} {e33 e34 k : Nat} {H : Hp} : ((cPlant n hs e33 e34 k).map (fzd H 2)).take 7 = cNet n := by
 simp [cPlant, cNet, fzd, cPipe, cHead, cPump, List.map_map, Function.comp_def]
theorem outs_call (n : NetT) (hF : NetF n) {hs : List HeadT} {e36 e33 e34 k : Nat} {H : Hp} (h : H 436 = some (e36, .fro 10 [cPlant n hs e33 e34 k])) :
  ACall Try.prog 94 [.ptr 436 e36 10 0 0] H fun v' H' => v' = outsF n.pumps.length n.out.toNat ∧ H' = H :=
 PureC.acall_fro 7 (by rw [take_plant]; exact outs_ok n hF) (fzd_plant h)
end Cp
namespace Cp
open Go
def badO (n : NetT) (hs : List HeadT) (o : List Int) : Bool := (lackS n hs o false).2
def goodO (n : NetT) (hs : List HeadT) (o : List Int) : Bool := !(lackS n hs o true).2
theorem getF_gen {n : NetT} {hs : List HeadT} : ∀ (L : List (List Int)) (s : LackT × Bool), (s.1.known = 0 ∨ s.1.known = 2) →
  L.foldl (getStep n hs) s = (if s.1.known = 2 then (match L.find? (badO n hs) with | none => s.1 | some o => ⟨0, (lackS n hs o false).1, o⟩) else s.1, s.2 || L.any (goodO n hs))
 | [], s, h => by rcases h with h | h <;> simp
 | o :: L, s, h => by
  rw [List.foldl_cons, getF_gen L _ (getStep_kn h)]
  have e2 : (getStep n hs s o).2 = (s.2 || goodO n hs o) := rfl
  have e1 : (getStep n hs s o).1 = if badO n hs o = true ∧ s.1.known = 2 then ⟨0, (lackS n hs o false).1, o⟩ else s.1 := rfl
  rw [e2, e1, List.any_cons, Bool.or_assoc, List.find?_cons]
  rcases h with h | h
  ·have : ¬ s.1.known = 2 := by omega
   simp only [this, and_false, if_false]
  ·cases hb : badO n hs o with
   | false => simp only [hb, Bool.false_eq_true, false_and, if_false, h, if_true]
   | true => simp [hb, h]
theorem getsS_eq (n : NetT) (hs : List HeadT) : getsS n hs = match (outsL n.pumps.length n.out.toNat).find? (badO n hs) with
  | none => ⟨2, 0, []⟩
  | some o => ⟨if (outsL n.pumps.length n.out.toNat).any (goodO n hs) = true then 1 else 0, (lackS n hs o false).1, o⟩ := by
 have h := getF_gen (n := n) (hs := hs) (outsL n.pumps.length n.out.toNat) (⟨2, 0, []⟩, false) (.inr rfl)
 have h' : getF n hs (outsL n.pumps.length n.out.toNat) = _ := h
 unfold getsS
 rw [h']
 cases hf : (outsL n.pumps.length n.out.toNat).find? (badO n hs) with
 | none => simp
 | some o =>
  cases hg : (outsL n.pumps.length n.out.toNat).any (goodO n hs) <;> simp
theorem mem_combos : ∀ {m : List Int} {k : Nat} {l : List Int}, l ∈ combos k m ↔ l.Sublist m ∧ l.length = k
 | [], 0, l => by
  simp only [combos, List.mem_singleton, List.sublist_nil]
  exact ⟨fun h => ⟨h, by rw [h]; rfl⟩, fun h => h.1⟩
 | [], k + 1, l => by
  simp only [combos, List.not_mem_nil, List.sublist_nil, false_iff, not_and]
  intro h; subst h; simp
 | x :: m, 0, l => by
  simp only [combos, List.mem_singleton, List.length_eq_zero_iff]
  exact ⟨fun h => ⟨by subst h; exact List.nil_sublist _, h⟩, fun h => h.2⟩
 | x :: m, k + 1, l => by
  simp only [combos, List.mem_append, List.mem_map]
  constructor
  ·rintro (⟨t, ht, rfl⟩ | h)
   ·obtain ⟨h1, h2⟩ := mem_combos.1 ht
    exact ⟨h1.cons_cons x, by simp [h2]⟩
   ·obtain ⟨h1, h2⟩ := mem_combos.1 h
    exact ⟨h1.cons x, h2⟩
  ·rintro ⟨h1, h2⟩
   cases h1 with
   | cons _ h => exact .inr (mem_combos.2 ⟨h, h2⟩)
   | cons_cons _ h => exact .inl ⟨_, mem_combos.2 ⟨h, by simpa using h2⟩, rfl⟩
theorem sub_of_pair : ∀ {m l : List Int}, m.Pairwise (· < ·) → l.Pairwise (· < ·) → (∀ a ∈ l, a ∈ m) → l.Sublist m
 | _, [], _, _, _ => List.nil_sublist _
 | [], a :: l, _, _, h => by have := h a (by simp); simp at this
 | x :: m, a :: l, hm, hl, h => by
  obtain ⟨hm1, hm2⟩ := List.pairwise_cons.1 hm
  obtain ⟨hl1, hl2⟩ := List.pairwise_cons.1 hl
  have key : ∀ b ∈ l, x < b → b ∈ m := fun b hb hxb => by
   rcases List.mem_cons.1 (h b (by simp [hb])) with rfl | h1
   ·omega
   ·exact h1
  rcases List.mem_cons.1 (h a (by simp)) with rfl | h1
  ·exact (sub_of_pair hm2 hl2 fun b hb => key b hb (hl1 b hb)).cons_cons _
  ·refine (sub_of_pair hm2 hl fun b hb => ?_).cons x
   rcases List.mem_cons.1 hb with rfl | hb
   ·exact h1
   ·exact key b hb (Int.lt_trans (hm1 _ h1) (hl1 b hb))
theorem range_pair (np : Nat) : ((List.range np).map Int.ofNat).Pairwise (· < ·) := by
 rw [List.pairwise_map]
 exact List.pairwise_lt_range.imp fun h => by simpa using h
theorem mem_rangeI {np : Nat} {a : Int} : a ∈ (List.range np).map Int.ofNat ↔ 0 ≤ a ∧ a < np := by
 simp only [List.mem_map, List.mem_range]
 constructor
 ·rintro ⟨i, hi, rfl⟩; simp; omega
 ·rintro ⟨h1, h2⟩; exact ⟨a.toNat, by omega, by simp; omega⟩
theorem mem_outsL {np o : Nat} {l : List Int} : l ∈ outsL np o ↔ (∀ a ∈ l, 0 ≤ a ∧ a < np) ∧ l.Pairwise (· < ·) ∧ l.length ≤ o := by
 simp only [outsL, List.mem_flatMap, List.mem_range, mem_combos]
 constructor
 ·rintro ⟨k, hk, h1, h2⟩
  exact ⟨fun a ha => mem_rangeI.1 (h1.subset ha), (range_pair np).sublist h1, by omega⟩
 ·rintro ⟨h1, h2, h3⟩
  exact ⟨l.length, by omega, sub_of_pair (range_pair np) h2 fun a ha => mem_rangeI.2 (h1 a ha), rfl⟩
theorem mem_outs {n : NetT} (h0 : 0 ≤ n.out) {l : List Int} : l ∈ outsL n.pumps.length n.out.toNat ↔ outOK n l = true := by
 rw [mem_outsL]
 constructor
 ·rintro ⟨h1, h2, h3⟩
  unfold outOK
  rw [Bool.and_eq_true]
  exact ⟨okL_of (fun a ha => by simpa [isPump] using h1 a ha) h2 (fun c hc => by cases hc), by simp; omega⟩
 ·intro h
  obtain ⟨h1, h2, h3⟩ := out_facts h
  exact ⟨h1, h2, by omega⟩
def lexB : List Int → List Int → Prop
 | a :: l, b :: m => a < b ∨ (a = b ∧ lexB l m)
 | _, _ => False
def befO (a b : List Int) : Prop := a.length < b.length ∨ (a.length = b.length ∧ lexB a b)
theorem combos_pair : ∀ {m : List Int} {k : Nat}, m.Pairwise (· < ·) → (combos k m).Pairwise lexB
 | m, 0, _ => by unfold combos; simp
 | [], k + 1, _ => by simp [combos]
 | x :: m, k + 1, h => by
  obtain ⟨h1, h2⟩ := List.pairwise_cons.1 h
  simp only [combos]
  rw [List.pairwise_append]
  refine ⟨?_, combos_pair h2, ?_⟩
  ·rw [List.pairwise_map]
   exact (combos_pair h2).imp fun h => .inr ⟨rfl, h⟩
  ·intro a ha b hb
   rw [List.mem_map] at ha
   obtain ⟨t, ht, rfl⟩ := ha
   obtain ⟨q1, q2⟩ := mem_combos.1 hb
   cases b with
   | nil => simp at q2
   | cons y b => exact .inl (h1 y (q1.subset (by simp)))
theorem outsL_pair (np o : Nat) : (outsL np o).Pairwise befO := by
 unfold outsL
 rw [List.pairwise_flatMap]
 refine ⟨fun k hk => ?_, ?_⟩
 ·have hl : ∀ a ∈ combos k ((List.range np).map Int.ofNat), a.length = k := fun a ha => (mem_combos.1 ha).2
  exact (combos_pair (range_pair np)).imp_of_mem fun ha hb h => .inr ⟨by rw [hl _ ha, hl _ hb], h⟩
 ·refine List.pairwise_lt_range.imp fun {i j} hij a ha b hb => .inl ?_
  rw [(mem_combos.1 ha).2, (mem_combos.1 hb).2]; exact hij
theorem find_first {α : Type} {R : α → α → Prop} {p : α → Bool} : ∀ {l : List α} {x : α}, l.Pairwise R → l.find? p = some x → x ∈ l ∧ p x = true ∧ ∀ y ∈ l, p y = true → y = x ∨ R x y
 | [], x, _, h => by simp at h
 | a :: l, x, hp, h => by
  obtain ⟨h1, h2⟩ := List.pairwise_cons.1 hp
  rw [List.find?_cons] at h
  split at h
  ·rename_i hpa
   cases h
   refine ⟨by simp, hpa, fun y hy hpy => ?_⟩
   rcases List.mem_cons.1 hy with rfl | hy
   ·exact .inl rfl
   ·exact .inr (h1 y hy)
  ·rename_i hpa
   obtain ⟨q1, q2, q3⟩ := find_first h2 h
   refine ⟨by simp [q1], q2, fun y hy hpy => ?_⟩
   rcases List.mem_cons.1 hy with rfl | hy
   ·rw [hpa] at hpy; cases hpy
   ·exact q3 y hy hpy
structure GetF (n : NetT) (hs : List HeadT) (t : LackT) : Prop where
 kn : t.known = 0 ∨ t.known = 1 ∨ t.known = 2
 yes : t.known = 2 → t.head = 0 ∧ t.out = [] ∧ ∀ o, outOK n o = true → badO n hs o = false
 bad : ¬ t.known = 2 → outOK n t.out = true ∧ badO n hs t.out = true ∧ t.head = (lackS n hs t.out false).1 ∧ ∀ o, outOK n o = true → badO n hs o = true → o = t.out ∨ befO t.out o
 no : t.known = 0 → ∀ o, outOK n o = true → goodO n hs o = false
 op : t.known = 1 → ∃ o, outOK n o = true ∧ goodO n hs o = true
theorem gets_facts {n : NetT} (h0 : 0 ≤ n.out) (hs : List HeadT) : GetF n hs (getsS n hs) := by
 rw [getsS_eq]
 have hm := fun l => @mem_outs n h0 l
 obtain ⟨L, hL⟩ : ∃ L, outsL n.pumps.length n.out.toNat = L := ⟨_, rfl⟩
 have hp : L.Pairwise befO := hL ▸ outsL_pair _ _
 rw [hL] at hm ⊢
 cases hf : L.find? (badO n hs) with
 | none =>
  refine ⟨.inr (.inr rfl), fun _ => ⟨rfl, rfl, fun o ho => ?_⟩, fun h => (h rfl).elim, fun h => (by cases h), fun h => (by cases h)⟩
  have := List.find?_eq_none.1 hf o ((hm o).2 ho)
  simpa using this
 | some o =>
  obtain ⟨q1, q2, q3⟩ := find_first hp hf
  simp only
  cases hg : L.any (goodO n hs) with
  | true =>
   simp only [if_true]
   refine ⟨.inr (.inl rfl), fun h => (by cases h), fun _ => ⟨(hm o).1 q1, q2, rfl, fun o' h1 h2 => q3 o' ((hm o').2 h1) h2⟩, fun h => (by cases h), fun _ => ?_⟩
   obtain ⟨x, hx, hx2⟩ := List.any_eq_true.1 hg
   exact ⟨x, (hm x).1 hx, hx2⟩
  | false =>
   simp only [Bool.false_eq_true, if_false]
   refine ⟨.inl rfl, fun h => (by cases h), fun _ => ⟨(hm o).1 q1, q2, rfl, fun o' h1 h2 => q3 o' ((hm o').2 h1) h2⟩, fun _ o' h1 => ?_, fun h => (by cases h)⟩
   have := List.any_eq_false.1 hg o' ((hm o').2 h1)
   simpa using this
end Cp
namespace Cp
open Go Go.Proofs
set_option maxRecDepth 10000
set_option maxHeartbeats 4000000
theorem choose_ok (l : List Int) (i : Int) (hi : 0 ≤ i) : PureC Try.prog 47 [.lst 1 (l.map c32), .int .i64 i] (.int .u32 (chI l i)) := by
 by_cases h0 : l.length = 0
 ·have hnil : l = [] := List.eq_nil_of_length_eq_zero h0
  subst hnil
  refine PureC_of (fn := Try.f47) tabOK (by kernel_rfl) rfl (by kernel_rfl) (by simp [Try.f47]) (by simp [noids, noid, noidss, go_sem]) (by first | rfl | simp [noids, noid, noidss, go_sem]) ?_
  intro X hX0 hXs
  repeat' (first | (with_reducible refine sk ?_; intro K hK) | ((with_reducible first | refine rg (h := ?_) | refine nx ?_); try simp (disch := omega) only [go_sem, simprocAttr]) | (with_reducible refine bk ?_) | ((with_reducible refine' cE ?hv ?_ ?_); (case hv => first | rfl | (simp only [go_sem, simprocAttr]; rfl)); all_goals (intro hc; (try simp only [go_sem, simprocAttr] at hc); try (exfalso; omega))) | ((with_reducible refine fe ?_); refine ⟨_, (by simp only [Try.f47, go_sem, simprocAttr]; rfl), ?_⟩; first | rfl | (try simp only [go_sem, simprocAttr, seval])) | with_reducible intro (ep : Nat → Nat) | with_reducible apply_assumption -exfalso -symm only [*])
 ·have hz : ¬ (l.length : Int) = 0 := by omega
  have hpos : (0 : Int) < (l.length : Int) := by clear hi; omega
  have h1 : 0 ≤ i.tmod l.length := Int.tmod_nonneg _ hi
  have h2 : i.tmod l.length < l.length := Int.tmod_lt_of_pos _ hpos
  obtain ⟨j, hj⟩ : ∃ j : Nat, i.tmod l.length = j := ⟨(i.tmod l.length).toNat, (Int.toNat_of_nonneg h1).symm⟩
  obtain ⟨x, hx⟩ : ∃ x, l[j]? = some x := ⟨_, List.getElem?_eq_getElem (by rw [hj] at h2; exact Int.ofNat_lt.1 h2)⟩
  have hv : chI l i = x := by unfold chI; rw [if_neg h0, hj, Int.toNat_natCast, hx]; rfl
  rw [hv]
  refine PureC_of (fn := Try.f47) tabOK (by kernel_rfl) rfl (by kernel_rfl) (by simp [Try.f47]) (by simp [noids, noid, noidss, go_sem]) (by first | rfl | simp [noids, noid, noidss, go_sem]) ?_
  intro X hX0 hXs
  repeat' (first | (with_reducible refine sk ?_; intro K hK) | ((with_reducible first | refine rg (h := ?_) | refine nx ?_); try simp (disch := omega) only [hz, hj, hx, c32,go_sem, simprocAttr]) | (with_reducible refine bk ?_) | ((with_reducible refine' cE ?hv ?_ ?_); (case hv => first | rfl | (simp only [hz, hj, hx, c32,go_sem, simprocAttr]; rfl)); all_goals (intro hc; (try simp only [go_sem, simprocAttr] at hc); try (exfalso; omega))) | ((with_reducible refine fe ?_); refine ⟨_, (by simp only [Try.f47, hz, hj, hx, c32,go_sem, simprocAttr]; rfl), ?_⟩; first | rfl | (try simp only [hz, hj, hx, c32,go_sem, simprocAttr, seval])) | with_reducible intro (ep : Nat → Nat) | with_reducible apply_assumption -exfalso -symm only [*])
end Cp
namespace Cp
open Go
theorem lackS_false {n : NetT} {hs : List HeadT} {out : List Int} {best : Bool} : (lackS n hs out best).2 = false ↔ (∀ h ∈ hs, h.least ≤ pressS n hs out best h) ∧ needs hs * n.mins ≤ tankH n best := by
 unfold lackS
 cases hf : lackF n hs out best hs with
 | some x =>
  obtain ⟨h1, h2⟩ : x ∈ hs ∧ pressS n hs out best x < x.least := ⟨List.mem_of_find?_eq_some hf, by simpa using List.find?_some hf⟩
  simp only [Bool.true_eq_false, false_iff, not_and]
  intro h
  have := h x h1
  omega
 | none =>
  have h1 : ∀ h ∈ hs, h.least ≤ pressS n hs out best h := fun h hm => by simpa using List.find?_eq_none.1 hf h hm
  simp only
  split
  ·simp only [Bool.true_eq_false, false_iff, not_and]; intro _; omega
  ·simp only [true_iff]; exact ⟨h1, by omega⟩
end Cp
namespace Cp
open Go Go.Proofs
set_option maxRecDepth 10000
set_option maxHeartbeats 4000000
end Cp
namespace Cp
open Go
theorem ACall.imp {P : Program} {fid : FuncId} {args : List Val} {H : Hp} {R R' : Val → Hp → Prop} (h : ACall P fid args H R) (hR : ∀ v H', R v H' → R' v H') : ACall P fid args H R' :=
 ⟨h.1, fun G w xs hr hv => Calls.mono (h.2 G w xs hr hv) (by rintro e w' ⟨v, x, G', H', h1, h2, h3, h4, h5, h6⟩; exact ⟨v, x, G', H', h1, h2, h3, h4, h5, hR _ _ h6⟩)⟩
theorem ACall.weak {P : Program} {fid : FuncId} {args : List Val} {H : Hp} {a b : Val} {R : Hp → Prop} (h : ACall P fid args H fun v H' => v = a ∧ R H') (hw : ∀ G w x, VR G w a x → VR G w b x) : ACall P fid args H fun v H' => v = b ∧ R H' :=
 ⟨h.1, fun G w xs hr hv => Calls.mono (h.2 G w xs hr hv) (by rintro e w' ⟨v, x, G', H', h1, h2, h3, h4, h5, rfl, h6⟩; exact ⟨b, x, G', H', h1, h2, h3, h4, hw _ _ _ h5, rfl, h6⟩)⟩
theorem VR.tup_imp {G : Gh} {w : World} {vs vs' : List Val} {x : Value} (hl : vs.length = vs'.length) (hi : ∀ (i : Nat) (v v' : Val), vs[i]? = some v → vs'[i]? = some v' → ∀ y, VR G w v y → VR G w v' y) (h : VR G w (.tup vs) x) : VR G w (.tup vs') x := by
 cases h with
 | tup _ xs hs hv =>
  refine .tup _ xs (by omega) (fun i v' hi' => ?_)
  have hlt := (List.getElem?_eq_some_iff.1 hi').1
  have h1 : vs[i]? = some vs[i] := List.getElem?_eq_getElem (by omega)
  exact hi i _ _ h1 hi' _ (hv i _ h1)
theorem VR.agg3_nils {G : Gh} {w : World} {a b : Val} {n : Nat} {x : Value} (h : VR G w (.agg [a, b, .nils]) x) : VR G w (.agg [a, b, .lst n []]) x := by
 cases h with
 | agg _ xs hs hc hv =>
  refine .agg _ xs (by simpa using hs) (fun i v hi => ?_) (fun i v hi => ?_)
  ·match i, hi with
   | 0, hi => exact hc 0 v hi
   | 1, hi => exact hc 1 v hi
   | 2, hi => cases hi; rfl
  ·match i, hi with
   | 0, hi => exact hv 0 v hi
   | 1, hi => exact hv 1 v hi
   | 2, hi => cases hi; exact (hv 2 .nils rfl).nils_lst _
end Cp
namespace Cp
open Go Go.Proofs
set_option maxRecDepth 10000
set_option maxHeartbeats 1000000
def GJ (Hz : Hp) (n : NetT) (hs : List HeadT) (e36 e33 e34 e2 e3 e4 e5 ey : Nat) (L0 : AObj) (k : Nat) (H : Hp) : Prop :=
 (∀ j, j < 100 → H j = Hz j) ∧ H 436 = some (e36, .fro 10 [cPlant n hs e33 e34 (n.pipes.length + 1)]) ∧ H 433 = some (e33, .arr 1 (ints (flowL n.pipes (n.pipes.length + 1) hs))) ∧ (∃ ver, H 434 = some (e34, .map ver [])) ∧
 H 602 = some (e2, .arr 3 [[.int .u8 0, .int .i64 0, .nils]]) ∧ H 603 = some (e3, .arr 3 [cTold (getF n hs ((outsL n.pumps.length n.out.toNat).take k)).1]) ∧ H 604 = some (e4, .arr 1 [[.bool (getF n hs ((outsL n.pumps.length n.out.toNat).take k)).2]]) ∧
 H 605 = some (e5, .arr 4 [[.fn (sgF false) [], .fn (sgF true) [], .fn (sgF true) [], .fn (sgF false) []]]) ∧ H 100 = some (ey, L0) ∧ (H 1208 = none ∧ H 1604 = none ∧ H 1605 = none ∧ H 1607 = none)
theorem outsL_len {np o : Nat} (hn : np ≤ 4) (ho : o ≤ 3) : (outsL np o).length ≤ 100000 := by
 have h : ∀ np, np < 5 → ∀ o, o < 4 → (outsL np o).length ≤ 100000 := by decide +kernel
 exact h np (by omega) o (by omega)
theorem gets_ok (n : NetT) (hF : NetF n) (hs : List HeadT) (h5 : heads500 hs) (hsl : hs.length ≤ 12) (hnd : ∀ h ∈ hs, 1 ≤ h.node ∧ h.node ≤ n.pipes.length) (e36 e33 e34 ver : Nat) (H0 : Hp)
  (g36 : H0 436 = some (e36, .fro 10 [cPlant n hs e33 e34 (n.pipes.length + 1)])) (g33 : H0 433 = some (e33, .arr 1 (ints (flowL n.pipes (n.pipes.length + 1) hs)))) (g34 : H0 434 = some (e34, .map ver []))
  (hroom : ∀ j, 600 ≤ j → H0 j = none) (h100 : H0 100 = none) :
  ACall Try.prog 69 [.ptr 436 e36 10 0 0] H0 fun v H' => v = .agg (cTold (getsS n hs)) ∧ ∀ j, j < 100 → H' j = H0 j := by
 refine ACall_ofR (fn := Try.f69) tabOK (by kernel_rfl) rfl (by kernel_rfl) (by simp [Try.f69]) ?_
 intro X hX0 hXs hXr
 have q1 := hroom 601 (by decide)
 have q2 := hroom 602 (by decide)
 have q3 := hroom 603 (by decide)
 have q4 := hroom 604 (by decide)
 have q5 := hroom 605 (by decide)
 have oc := fun H h => outs_call n hF (hs := hs) (e36 := e36) (e33 := e33) (e34 := e34) (k := n.pipes.length + 1) (H := H) h
 repeat' (first | (with_reducible refine sk ?_; intro K hK) | ((first | (with_reducible first | refine rg (md := { base := 600, own := [3, 4, 5, 6], imp := [10] }) (h := ?_) | refine rgS [2, 3, 4, 5, 6] (md := { base := 600, own := [3, 4, 5, 6], imp := [10] }) (h := ?_) | refine nx ?_) | refine pK (ends_ok) ?_); try simp (disch := omega) only [g36, q1, q2, q3, q4, q5,go_sem, simprocAttr]) | (with_reducible refine bk ?_) | ((with_reducible refine' cE ?hv ?_ ?_); (case hv => first | rfl | (simp only [g36, q1, q2, q3, q4, q5,go_sem, simprocAttr]; rfl)); all_goals (intro hc; (try simp only [go_sem, simprocAttr] at hc); try (exfalso; omega))) | ((with_reducible first | refine grdS_split ?_ ?_ | refine lkG_split ?_ ?_) <;> intro hg <;> (try simp (disch := omega) only [hg, g36, q1, q2, q3, q4, q5,go_sem, simprocAttr]) <;> (try simp only [go_sem, simprocAttr] at hg) <;> (try (exfalso; omega))) | (first | refine iK (ends_ok) ?_) | with_reducible intro (ep : Nat → Nat) | with_reducible apply_assumption -exfalso -symm only [*])
 refine iK (oc _ (by (first | rfl | (simp only [g36, go_sem, simprocAttr]; done) | (simp only [g36, go_sem, simprocAttr]; rfl)))) ?_
 rintro v H3 ⟨rfl, rfl⟩
 simp only [go_sem, simprocAttr]
 repeat' (first | (with_reducible refine sk ?_; intro K hK) | ((with_reducible first | refine rg (md := { base := 600, own := [3, 4, 5, 6], imp := [10] }) (h := ?_) | refine rgS [2, 3, 4, 5, 6] (md := { base := 600, own := [3, 4, 5, 6], imp := [10] }) (h := ?_) | refine nx ?_); try simp (disch := omega) only [go_sem, simprocAttr]) | (with_reducible refine bk ?_) | ((with_reducible refine' cE ?hv ?_ ?_); (case hv => first | rfl | (simp only [go_sem, simprocAttr]; rfl)); all_goals (intro hc; (try simp only [go_sem, simprocAttr] at hc); try (exfalso; omega))) | ((with_reducible first | refine grdS_split ?_ ?_ | refine lkG_split ?_ ?_) <;> intro hg <;> (try simp (disch := omega) only [hg, go_sem, simprocAttr]) <;> (try simp only [go_sem, simprocAttr] at hg) <;> (try (exfalso; omega))) | with_reducible intro (ep : Nat → Nat) | with_reducible apply_assumption -exfalso -symm only [*])
 refine AW_block ?_
 refine AW_rangeFunc 100 (by simp only [go_sem, simprocAttr, outsF]; rfl) hXr fun ey => ?_
 generalize hf0 : (upd _ _ _ : Fr) = f0
 generalize hH : (upd (upd (upd (upd (upd (upd (upd H0 _ _) _ _) _ _) _ _) _ _) _ _) _ _ : Hp) = HH
 obtain ⟨e2, e3, e4, e5, k1, k2, k3, k4, k5, G2, G3, G4, G5, Gs⟩ : ∃ e2 e3 e4 e5, f0 1 = .pim [.ptr 436 e36 10 0 0] ∧ f0 2 = .ptr 602 e2 3 0 0 ∧ f0 3 = .ptr 603 e3 3 0 0 ∧ f0 4 = .ptr 604 e4 1 0 0 ∧ f0 5 = .ptr 605 e5 4 0 0 ∧
   HH 602 = some (e2, .arr 3 [[.int .u8 0, .int .i64 0, .nils]]) ∧ HH 603 = some (e3, .arr 3 [[.int .u8 2, .int .i64 0, .nils]]) ∧ HH 604 = some (e4, .arr 1 [[.bool false]]) ∧ HH 605 = some (e5, .arr 4 [[.fn (sgF false) [], .fn (sgF true) [], .fn (sgF true) [], .fn (sgF false) []]]) ∧ ∀ j, ¬ j = 602 → ¬ j = 603 → ¬ j = 604 → ¬ j = 605 → HH j = H0 j := by
  refine ⟨_, _, _, _, by rw [← hf0]; rfl, by rw [← hf0]; rfl, by rw [← hf0]; rfl, by rw [← hf0]; rfl, by rw [← hf0]; rfl, by rw [← hH]; rfl, by rw [← hH]; rfl, by rw [← hH]; rfl, by rw [← hH]; rfl, fun j h1 h2 h3 h4 => ?_⟩
  rw [← hH, upd_ne _ _ h4, upd_ne _ _ h4, upd_ne _ _ h3, upd_ne _ _ h3, upd_ne _ _ h2, upd_ne _ _ h2, upd_ne _ _ h1]
 have G36 := (Gs 436 (by decide) (by decide) (by decide) (by decide)).trans g36
 have G33 := (Gs 433 (by decide) (by decide) (by decide) (by decide)).trans g33
 have G34 := (Gs 434 (by decide) (by decide) (by decide) (by decide)).trans g34
 have Gr : ∀ j, 606 ≤ j → HH j = none := fun j hj => (Gs j (by omega) (by omega) (by omega) (by omega)).trans (hroom j (by omega))
 have Gl : ∀ j, j < 100 → HH j = H0 j := fun j hj => Gs j (by omega) (by omega) (by omega) (by omega)
 have hXs0 : X.sz = 24 := hXs
 clear hf0 hH hXs Gs g36 g33 g34 hroom q1 q2 q3 q4 q5 oc h100
 generalize hL : AObj.loop _ _ _ _ _ _ = L0
 have hll := @outsL_len n.pumps.length n.out.toNat hF.pumps.2 (by have := hF.out.2; have := hF.pumps.2; omega)
 have hmo := fun l => @mem_outs n hF.out.1 l
 refine ⟨fun v H' => GJ H0 n hs e36 e33 e34 e2 e3 e4 e5 ey L0 (outsL n.pumps.length n.out.toNat).length H', values1_ok _ hll _ 100 ey (GJ H0 n hs e36 e33 e34 e2 e3 e4 e5 ey L0) ?_ ?_, ?_⟩
 ·have h0 : getF n hs ((outsL n.pumps.length n.out.toNat).take 0) = (⟨2, 0, []⟩, false) := rfl
  unfold GJ
  rw [h0]
  exact ⟨fun j hj => by rw [upd_ne _ _ (by omega), Gl j hj], by rw [upd_ne _ _ (by decide), G36], by rw [upd_ne _ _ (by decide), G33], ⟨_, by rw [upd_ne _ _ (by decide), G34]⟩, by rw [upd_ne _ _ (by decide), G2], by rw [upd_ne _ _ (by decide), G3]; rfl, by rw [upd_ne _ _ (by decide), G4], by rw [upd_ne _ _ (by decide), G5], upd_same _ _ _,
   by rw [upd_ne _ _ (by decide), Gr _ (by decide)], by rw [upd_ne _ _ (by decide), Gr _ (by decide)], by rw [upd_ne _ _ (by decide), Gr _ (by decide)], by rw [upd_ne _ _ (by decide), Gr _ (by decide)]⟩
 ·clear G36 G33 G34 G2 G3 G4 G5 Gr
  rintro k l Hs hk ⟨jl, j36, j33, ⟨ver', j34⟩, j2, j3, j4, j5, j100, jr0, jr1, jr2, jr3⟩
  have hol := (hmo l).1 (List.mem_of_getElem? hk)
  have hkn := @getF_kn n hs k (outsL n.pumps.length n.out.toNat)
  have hsn := @getF_snoc n hs _ _ _ hk
  generalize getF n hs ((outsL n.pumps.length n.out.toNat).take k) = s at *
  obtain ⟨t, g⟩ := s
  simp only at hkn j3 j4
  subst hL
  refine ⟨_, _, _, _, _, j100, rfl, fun t ht => ?_, fun X1 b h10 h1s h1r => ?_⟩
  ·rw [frL_len, hXs0]
   have ht' : t = 11 := by simpa using ht
   subst ht'; decide
  have hXs : X1.sz = 24 := by rw [h1s, frL_len, hXs0]
  show AW _ _ _ _ _ (upd (frOf (frL f0 X.sz)) 11 (.lst 1 (ints l))) Hs
  have k1' : frOf (frL f0 X.sz) 1 = .pim [.ptr 436 e36 10 0 0] := by rw [frOf_frL, hXs0, if_pos (by decide), k1]
  have k3' : frOf (frL f0 X.sz) 3 = .ptr 603 e3 3 0 0 := by rw [frOf_frL, hXs0, if_pos (by decide), k3]
  have k4' : frOf (frL f0 X.sz) 4 = .ptr 604 e4 1 0 0 := by rw [frOf_frL, hXs0, if_pos (by decide), k4]
  have k5' : frOf (frL f0 X.sz) 5 = .ptr 605 e5 4 0 0 := by rw [frOf_frL, hXs0, if_pos (by decide), k5]
  generalize frOf (frL f0 X.sz) = f1 at k1' k3' k4' k5'
  refine AW_lose 606 fun H1 w6 hs1 => ?_
  repeat' (first | (with_reducible refine sk ?_; intro K hK) | ((with_reducible first | refine rg (md := { base := 600, own := [3, 4, 5, 6], imp := [10] }) (h := ?_) | refine rgS [2, 3, 4, 5, 6] (md := { base := 600, own := [3, 4, 5, 6], imp := [10] }) (h := ?_) | refine nx ?_); try simp (disch := omega) only [k1', k3', k4', k5', w6,go_sem, simprocAttr]) | (with_reducible refine bk ?_) | ((with_reducible refine' cE ?hv ?_ ?_); (case hv => first | rfl | (simp only [k1', k3', k4', k5', w6,go_sem, simprocAttr]; rfl)); all_goals (intro hc; (try simp only [go_sem, simprocAttr] at hc); try (exfalso; omega))) | ((with_reducible first | refine grdS_split ?_ ?_ | refine lkG_split ?_ ?_) <;> intro hg <;> (try simp (disch := omega) only [hg, k1', k3', k4', k5', w6,go_sem, simprocAttr]) <;> (try simp only [go_sem, simprocAttr] at hg) <;> (try (exfalso; omega))) | with_reducible intro (ep : Nat → Nat) | with_reducible apply_assumption -exfalso -symm only [*])
  refine ⟨rfl, _, _, _, _, _, by rw [upd_ne _ _ (by decide), upd_ne _ _ (by decide), hs1 _ (by decide), j100], ?_⟩
  generalize hHs : (upd (upd (upd H1 _ _) _ _) 100 _ : Hp) = HB
  generalize hfB : (upd _ _ _ : Fr) = fB
  obtain ⟨e6, b1, b3, b4, b5, b6, B6, B100, Bs⟩ : ∃ e6, fB 1 = .pim [.ptr 436 e36 10 0 0] ∧ fB 3 = .ptr 603 e3 3 0 0 ∧ fB 4 = .ptr 604 e4 1 0 0 ∧ fB 5 = .ptr 605 e5 4 0 0 ∧ fB 6 = .ptr 606 e6 1 0 0 ∧ HB 606 = some (e6, .arr 1 [[.lst 1 (ints l)]]) ∧ HB 100 = _ ∧ ∀ j, ¬ j = 606 → ¬ j = 100 → HB j = Hs j := by
   refine ⟨_, by rw [← hfB]; simp only [k1', go_sem, simprocAttr], by rw [← hfB]; simp only [k3', go_sem, simprocAttr], by rw [← hfB]; simp only [k4', go_sem, simprocAttr], by rw [← hfB]; simp only [k5', go_sem, simprocAttr], by rw [← hfB]; rfl, by rw [← hHs]; rfl, by rw [← hHs, upd_same], fun j h1 h2 => ?_⟩
   rw [← hHs, upd_ne _ _ h2, upd_ne _ _ h1, upd_ne _ _ h1, hs1 _ h1]
  clear hHs hfB hs1 k1' k3' k4' k5' w6
  have B36 := (Bs 436 (by decide) (by decide)).trans j36
  have B34 := (Bs 434 (by decide) (by decide)).trans j34
  have hst : ∀ (ver' : Nat) (H : Hp), (∀ j, ¬ j = 434 → H j = HB j) → H 434 = some (e34, .map ver' (imap .i64 (offM l))) →
    ACall Try.prog 95 [.pim [.ptr 436 e36 10 0 0], .ptr 605 e5 4 0 0, .ptr 603 e3 3 0 0, .ptr 606 e6 1 0 0, .ptr 604 e4 1 0 0] H fun v H' => v = .tup [] ∧ H' 436 = H 436 ∧ (∃ ver2, H' 434 = some (e34, .map ver2 (imap .i64 (offM l)))) ∧
     ((∀ j, ¬ j = 434 → ¬ j = 603 → ¬ j = 604 → ¬ j = 1705 → H' j = HB j) ∧ H' 603 = some (e3, .arr 3 [cTold (getStep n hs (t, g) l).1]) ∧ H' 604 = some (e4, .arr 1 [[.bool (getStep n hs (t, g) l).2]])) := fun ver' H hH h34 => by
   have hc : ∀ j, ¬ j = 434 → ¬ j = 606 → ¬ j = 100 → H j = Hs j := fun j h1 h2 h3 => (hH j h1).trans (Bs j h2 h3)
   refine (gets1_ok n hF hs h5 hsl hnd l hol e36 e33 e34 ver' e3 e4 e5 e6 t hkn g H ((hc _ (by decide) (by decide) (by decide)).trans j36) ((hc _ (by decide) (by decide) (by decide)).trans j33) h34 ((hc _ (by decide) (by decide) (by decide)).trans j3) ((hc _ (by decide) (by decide) (by decide)).trans j4) ((hc _ (by decide) (by decide) (by decide)).trans j5) ((hH _ (by decide)).trans B6)
    ⟨(hc _ (by decide) (by decide) (by decide)).trans jr0, (hc _ (by decide) (by decide) (by decide)).trans jr1, (hc _ (by decide) (by decide) (by decide)).trans jr2, (hc _ (by decide) (by decide) (by decide)).trans jr3⟩).imp ?_
   rintro v H' ⟨hv, hlow, h3, h4⟩
   exact ⟨hv, hlow _ (by decide) (by decide) (by decide), ⟨ver', (hlow _ (by decide) (by decide) (by decide)).trans h34⟩, fun j a1 a2 a3 a4 => (hlow j a2 a3 a4).trans (hH j a1), h3, h4⟩
  have hlo : l.length ≤ 100000 := by
   have h1 := (out_facts hol).2.2
   have h2 := hF.out.2
   have h3 := hF.pumps.2
   omega
  repeat' (first | (with_reducible refine sk ?_; intro K hK) | ((with_reducible first | refine rg (md := { base := 600, own := [], imp := [15] }) (h := ?_) | refine rgS [2, 3, 4, 5, 6] (md := { base := 600, own := [], imp := [15] }) (h := ?_) | refine nx ?_); try simp (disch := omega) only [b1, b3, b4, b5, b6, B36, B6,go_sem, simprocAttr]) | (with_reducible refine bk ?_) | ((with_reducible refine' cE ?hv ?_ ?_); (case hv => first | rfl | (simp only [b1, b3, b4, b5, b6, B36, B6,go_sem, simprocAttr]; rfl)); all_goals (intro hc; (try simp only [go_sem, simprocAttr] at hc); try (exfalso; omega))) | ((with_reducible first | refine grdS_split ?_ ?_ | refine lkG_split ?_ ?_) <;> intro hg <;> (try simp (disch := omega) only [hg, b1, b3, b4, b5, b6, B36, B6,go_sem, simprocAttr]) <;> (try simp only [go_sem, simprocAttr] at hg) <;> (try (exfalso; omega))) | with_reducible intro (ep : Nat → Nat) | with_reducible apply_assumption -exfalso -symm only [*])
  refine iK (without_fro n hs e36 e33 e34 ver' l hlo (out_facts hol).2.1 _ _ HB (by (first | rfl | (simp only [B36, go_sem, simprocAttr]; done) | (simp only [B36, go_sem, simprocAttr]; rfl))) (by (first | rfl | (simp only [B34, go_sem, simprocAttr]; done) | (simp only [B34, go_sem, simprocAttr]; rfl))) _ hst) ?_
  rintro v H3 ⟨rfl, H2, ver2, ⟨hlow, r3, r4⟩, hsame, hm⟩
  have hc : ∀ j, ¬ j = 434 → ¬ j = 603 → ¬ j = 604 → ¬ j = 1705 → H3 j = HB j := fun j h1 h2 h3 h4 => (hsame j h1).trans (hlow j h1 h2 h3 h4)
  have hd : ∀ j, ¬ j = 434 → ¬ j = 603 → ¬ j = 604 → ¬ j = 1705 → ¬ j = 606 → ¬ j = 100 → H3 j = Hs j := fun j h1 h2 h3 h4 h5 h6 => (hc j h1 h2 h3 h4).trans (Bs j h5 h6)
  have C100 := (hc 100 (by decide) (by decide) (by decide) (by decide)).trans B100
  have C3 := (hsame 603 (by decide)).trans r3
  have C4 := (hsame 604 (by decide)).trans r4
  rw [← hsn] at C3 C4
  refine ⟨_, _, _, _, _, _, C100, ?_⟩
  refine ⟨rfl, ?_⟩
  have z : ∀ {o : Option (Nat × AObj)} (j : Nat), ¬ j = 434 → ¬ j = 603 → ¬ j = 604 → ¬ j = 1705 → ¬ j = 606 → ¬ j = 100 → upd H3 100 o j = Hs j := fun j h1 h2 h3 h4 h5 h6 => by rw [upd_ne _ _ h6]; exact hd j h1 h2 h3 h4 h5 h6
  exact ⟨fun j hj => (z j (by omega) (by omega) (by omega) (by omega) (by omega) (by omega)).trans (jl j hj), (z 436 (by decide) (by decide) (by decide) (by decide) (by decide) (by decide)).trans j36, (z 433 (by decide) (by decide) (by decide) (by decide) (by decide) (by decide)).trans j33, ⟨ver2, by rw [upd_ne _ _ (by decide)]; exact hm⟩, (z 602 (by decide) (by decide) (by decide) (by decide) (by decide) (by decide)).trans j2, by rw [upd_ne _ _ (by decide)]; exact C3, by rw [upd_ne _ _ (by decide)]; exact C4,
   (z 605 (by decide) (by decide) (by decide) (by decide) (by decide) (by decide)).trans j5, upd_same _ _ _, (z 1208 (by decide) (by decide) (by decide) (by decide) (by decide) (by decide)).trans jr0, (z 1604 (by decide) (by decide) (by decide) (by decide) (by decide) (by decide)).trans jr1,
   (z 1605 (by decide) (by decide) (by decide) (by decide) (by decide) (by decide)).trans jr2, (z 1607 (by decide) (by decide) (by decide) (by decide) (by decide) (by decide)).trans jr3⟩
 ·clear G36 G33 G34 G2 G3 G4 G5 Gr
  rintro v Hs ⟨jl, j36, j33, ⟨ver', j34⟩, j2, j3, j4, j5, j100, jr0, jr1, jr2, jr3⟩
  rw [List.take_of_length_le (Nat.le_refl _)] at j3 j4
  subst hL
  refine ⟨_, _, _, _, _, _, j100, by simp, ?_⟩
  have hkn := @getF_kn n hs (outsL n.pumps.length n.out.toNat).length (outsL n.pumps.length n.out.toNat)
  rw [List.take_of_length_le (Nat.le_refl _)] at hkn
  obtain ⟨G, hG⟩ : ∃ G, getsS n hs = G := ⟨_, rfl⟩
  have hgs := hG
  unfold getsS at hgs
  generalize getF n hs (outsL n.pumps.length n.out.toNat) = s at *
  obtain ⟨⟨kn, hd, ol⟩, g⟩ := s
  have yl : ∀ j, j < 100 → upd Hs 100 none j = H0 j := fun j hj => by rw [upd_ne _ _ (by omega), jl j hj]
  have y2 : upd Hs 100 none 602 = _ := (upd_ne _ _ (by decide)).trans j2
  have y3 : upd Hs 100 none 603 = _ := (upd_ne _ _ (by decide)).trans j3
  have y4 : upd Hs 100 none 604 = _ := (upd_ne _ _ (by decide)).trans j4
  generalize upd Hs 100 none = H2 at y2 y3 y4 yl
  clear j36 j33 j34 j2 j3 j4 j5 j100 jr0 jr1 jr2 jr3 hmo hll
  simp only at hkn
  rcases hkn with rfl | rfl <;> cases g
  ·simp only [cTold] at y3
   simp only [Bool.false_eq_true, false_and, and_self, if_true, if_false, Int.reduceEq, true_and] at hgs
   repeat' (first | (with_reducible refine sk ?_; intro K hK) | ((with_reducible first | refine rg (md := { base := 600, own := [], imp := [] }) (h := ?_) | refine rgS [2, 3, 4, 5, 6] (md := { base := 600, own := [], imp := [] }) (h := ?_) | refine nx ?_); try simp (disch := omega) only [k1, k2, k3, k4, y2, y3, y4,go_sem, simprocAttr]) | (with_reducible refine bk ?_) | ((with_reducible refine' cE ?hv ?_ ?_); (case hv => first | rfl | (simp only [k1, k2, k3, k4, y2, y3, y4,go_sem, simprocAttr]; rfl)); all_goals (intro hc; (try simp only [go_sem, simprocAttr] at hc); try (exfalso; omega))) | ((with_reducible first | refine grdS_split ?_ ?_ | refine lkG_split ?_ ?_) <;> intro hg <;> (try simp (disch := omega) only [hg, k1, k2, k3, k4, y2, y3, y4,go_sem, simprocAttr]) <;> (try simp only [go_sem, simprocAttr] at hg) <;> (try (exfalso; omega))) | with_reducible intro (ep : Nat → Nat) | with_reducible apply_assumption -exfalso -symm only [*])
   exact FnQ_end (Or.inl rfl) (.refl _) (by simp only [Try.f69, go_sem, simprocAttr, k2]; rfl) ⟨by rw [hG, ← hgs]; simp only [cTold, go_sem, simprocAttr], fun j hj => by (repeat rw [upd_ne _ _ (by omega)]); exact yl j hj⟩
  ·simp only [cTold] at y3
   simp only [Bool.false_eq_true, false_and, and_self, if_true, if_false, Int.reduceEq, true_and] at hgs
   repeat' (first | (with_reducible refine sk ?_; intro K hK) | ((with_reducible first | refine rg (md := { base := 600, own := [], imp := [] }) (h := ?_) | refine rgS [2, 3, 4, 5, 6] (md := { base := 600, own := [], imp := [] }) (h := ?_) | refine nx ?_); try simp (disch := omega) only [k1, k2, k3, k4, y2, y3, y4,go_sem, simprocAttr]) | (with_reducible refine bk ?_) | ((with_reducible refine' cE ?hv ?_ ?_); (case hv => first | rfl | (simp only [k1, k2, k3, k4, y2, y3, y4,go_sem, simprocAttr]; rfl)); all_goals (intro hc; (try simp only [go_sem, simprocAttr] at hc); try (exfalso; omega))) | ((with_reducible first | refine grdS_split ?_ ?_ | refine lkG_split ?_ ?_) <;> intro hg <;> (try simp (disch := omega) only [hg, k1, k2, k3, k4, y2, y3, y4,go_sem, simprocAttr]) <;> (try simp only [go_sem, simprocAttr] at hg) <;> (try (exfalso; omega))) | with_reducible intro (ep : Nat → Nat) | with_reducible apply_assumption -exfalso -symm only [*])
   exact FnQ_end (Or.inl rfl) (.refl _) (by simp only [Try.f69, go_sem, simprocAttr, k2]; rfl) ⟨by rw [hG, ← hgs]; simp only [cTold, go_sem, simprocAttr], fun j hj => by (repeat rw [upd_ne _ _ (by omega)]); exact yl j hj⟩
  ·simp only [cTold] at y3
   simp only [Bool.false_eq_true, false_and, and_self, if_true, if_false, Int.reduceEq, true_and] at hgs
   repeat' (first | (with_reducible refine sk ?_; intro K hK) | ((with_reducible first | refine rg (md := { base := 600, own := [], imp := [] }) (h := ?_) | refine rgS [2, 3, 4, 5, 6] (md := { base := 600, own := [], imp := [] }) (h := ?_) | refine nx ?_); try simp (disch := omega) only [k1, k2, k3, k4, y2, y3, y4,go_sem, simprocAttr]) | (with_reducible refine bk ?_) | ((with_reducible refine' cE ?hv ?_ ?_); (case hv => first | rfl | (simp only [k1, k2, k3, k4, y2, y3, y4,go_sem, simprocAttr]; rfl)); all_goals (intro hc; (try simp only [go_sem, simprocAttr] at hc); try (exfalso; omega))) | ((with_reducible first | refine grdS_split ?_ ?_ | refine lkG_split ?_ ?_) <;> intro hg <;> (try simp (disch := omega) only [hg, k1, k2, k3, k4, y2, y3, y4,go_sem, simprocAttr]) <;> (try simp only [go_sem, simprocAttr] at hg) <;> (try (exfalso; omega))) | with_reducible intro (ep : Nat → Nat) | with_reducible apply_assumption -exfalso -symm only [*])
   exact FnQ_end (Or.inl rfl) (.refl _) (by simp only [Try.f69, go_sem, simprocAttr, k2]; rfl) ⟨by rw [hG, ← hgs]; simp only [cTold, go_sem, simprocAttr], fun j hj => by (repeat rw [upd_ne _ _ (by omega)]); exact yl j hj⟩
  ·simp only [cTold] at y3
   simp only [Bool.false_eq_true, false_and, and_self, if_true, if_false, Int.reduceEq, true_and] at hgs
   repeat' (first | (with_reducible refine sk ?_; intro K hK) | ((with_reducible first | refine rg (md := { base := 600, own := [], imp := [] }) (h := ?_) | refine rgS [2, 3, 4, 5, 6] (md := { base := 600, own := [], imp := [] }) (h := ?_) | refine nx ?_); try simp (disch := omega) only [k1, k2, k3, k4, y2, y3, y4,go_sem, simprocAttr]) | (with_reducible refine bk ?_) | ((with_reducible refine' cE ?hv ?_ ?_); (case hv => first | rfl | (simp only [k1, k2, k3, k4, y2, y3, y4,go_sem, simprocAttr]; rfl)); all_goals (intro hc; (try simp only [go_sem, simprocAttr] at hc); try (exfalso; omega))) | ((with_reducible first | refine grdS_split ?_ ?_ | refine lkG_split ?_ ?_) <;> intro hg <;> (try simp (disch := omega) only [hg, k1, k2, k3, k4, y2, y3, y4,go_sem, simprocAttr]) <;> (try simp only [go_sem, simprocAttr] at hg) <;> (try (exfalso; omega))) | with_reducible intro (ep : Nat → Nat) | with_reducible apply_assumption -exfalso -symm only [*])
   exact FnQ_end (Or.inl rfl) (.refl _) (by simp only [Try.f69, go_sem, simprocAttr, k2]; rfl) ⟨by rw [hG, ← hgs]; simp only [cTold, go_sem, simprocAttr], fun j hj => by (repeat rw [upd_ne _ _ (by omega)]); exact yl j hj⟩
def lackV (t : LackT) : Val := .agg [.int .u8 t.known, .int .i64 t.head, .lst 1 (ints t.out)]
theorem cTold_weak (n : NetT) (h0 : 0 ≤ n.out) (hs : List HeadT) {G : Gh} {w : World} {x : Value} (h : VR G w (.agg (cTold (getsS n hs))) x) : VR G w (lackV (getsS n hs)) x := by
 have hf := gets_facts h0 hs
 unfold cTold at h
 unfold lackV
 split at h
 ·rename_i hk
  rw [(hf.yes hk).2.1]
  exact h.agg3_nils
 ·exact h
theorem getsV_ok (n : NetT) (hF : NetF n) (hs : List HeadT) (h5 : heads500 hs) (hsl : hs.length ≤ 12) (hnd : ∀ h ∈ hs, 1 ≤ h.node ∧ h.node ≤ n.pipes.length) (e36 e33 e34 ver : Nat) (H0 : Hp)
  (g36 : H0 436 = some (e36, .fro 10 [cPlant n hs e33 e34 (n.pipes.length + 1)])) (g33 : H0 433 = some (e33, .arr 1 (ints (flowL n.pipes (n.pipes.length + 1) hs)))) (g34 : H0 434 = some (e34, .map ver []))
  (hroom : ∀ j, 600 ≤ j → H0 j = none) (h100 : H0 100 = none) :
  ACall Try.prog 69 [.ptr 436 e36 10 0 0] H0 fun v H' => v = lackV (getsS n hs) ∧ ∀ j, j < 100 → H' j = H0 j :=
 (gets_ok n hF hs h5 hsl hnd e36 e33 e34 ver H0 g36 g33 g34 hroom h100).weak fun G w x h => cTold_weak n hF.out.1 hs h
end Cp
