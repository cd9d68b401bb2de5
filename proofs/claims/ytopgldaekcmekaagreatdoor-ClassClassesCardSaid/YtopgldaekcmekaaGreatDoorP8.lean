/- Rules, facts and contracts that the statement's proof leans on. Conditions: none. -/
import Derived.Test.YtopgldaekcmekaaGreatDoorP7
set_option linter.unusedVariables false
set_option linter.unusedSimpArgs false
set_option linter.unusedSectionVars false
namespace Cp
open Go Go.Proofs
set_option maxRecDepth 10000
set_option maxHeartbeats 1000000
theorem failC_held (t : TestT) (c : Nat) : (failC t c).held = 0 ∨ (failC t c).held = 1 ∨ (failC t c).held = 2 := by
 unfold failC
 split
 ·exact .inr (.inr rfl)
 ·cases (badC t c).isSome <;> simp
def failsL (t : TestT) (n : Nat) : List FailT := (List.range n).map (failC t)
def letterS (t : TestT) (l : Nat) : FailT := fstS (failsL t (2 * l))
theorem failsL_succ {t : TestT} {n : Nat} : failsL t (n + 1) = failsL t n ++ [failC t n] := by simp [failsL, List.range_succ]
theorem failsL_len {t : TestT} {n : Nat} : (failsL t n).length = n := by simp [failsL]
theorem encI_vc (f : FailT) : vcells (encI f) = some [encI f] := by unfold encI; split <;> rfl
theorem encI_fzd {f : FailT} {H : Hp} {n : Nat} : fzd H (n + 3) (encI f) = encI f := by unfold encI; split <;> rfl
theorem letter_ok (t : TestT) (hT : testOK t = true) (hR : t.run.rows.length ≤ 60) (l : Nat) (hl : 1 ≤ l ∧ l ≤ 3) (eb em ver : Nat) (m : List SeenT) (hS : SeenM t 6 m) (H0 : Hp) (hL : TriL t eb em ver m H0) :
  ACall Tryz.prog 39 [.ptr 2204 eb 24 0 0, .int .u8 (l : Int)] H0 fun v H' => v = encI (letterS t l) ∧ ∀ j, j < 2600 → H' j = H0 j := by
 refine ACall_of (fn := Tryz.f39) tabOK (by kernel_rfl) rfl (by kernel_rfl) (by simp [Tryz.f39]) ?_
 intro X hX0 hXs
 have h2l : (2 : Int) * (l : Int) = ((2 * l : Nat) : Int) := by omega
 repeat' (first | with_reducible (first | (refine sk ?_; intro K hK) | apply_assumption -exfalso -symm only [*]) | ((with_reducible refine rgL [] [18] (md := { base := 2600, own := [20] }) (h := ?_)); try simp (disch := omega) only [h2l,go_sem, simprocAttr]) | fail)
 refine AW_range tabOK (2 * l) (fun k f H => (f 0 = .ptr 2204 eb 24 0 0 ∧ ∃ _ : Unit, ∀ j, j < 2600 → H j = H0 j) ∧ TriL t eb em ver m H ∧ LstC 2620 1 ((failsL t k).map fun f => [encI f]) (f 5) H) (by omega) (by rw [hXs]; decide) (by decide) (by (first | rfl | (simp only [go_sem, simprocAttr]; done) | (simp only [go_sem, simprocAttr]; rfl))) (by (first | rfl | (simp only [go_sem, simprocAttr]; done) | (simp only [go_sem, simprocAttr]; rfl)))
  ⟨⟨by (first | rfl | (simp only [go_sem, simprocAttr]; done) | (simp only [go_sem, simprocAttr]; rfl)), (), fun j hj => rfl⟩, hL, .inl ⟨rfl, by (first | rfl | (simp only [go_sem, simprocAttr]; done) | (simp only [go_sem, simprocAttr]; rfl))⟩⟩ ?_ ?_
 ·rintro k f H hk h10 h9 ⟨⟨h0, hlo⟩, hL, hG⟩
  have hw : IntKind.u8.wrap ((k + 1 : Nat) : Int) = ((k + 1 : Nat) : Int) := IntWalk.u8_in _ (by omega)
  have cl := fun H h => cfails_look t hT hR k (by omega) eb em ver m hS H h
  have hln := @failsL_len t k
  rw [failsL_succ, List.map_append, List.map_cons, List.map_nil]
  generalize failsL t k = C at *
  rcases hG with ⟨hC, h5⟩ | ⟨hne, ea, h5, k20⟩
  ·refine AW_lose 2620 fun H3 g20 hs3 => ?_
   have hL3 : TriL t eb em ver m H3 := ⟨(hs3 2204 (by decide)).trans hL.1, (hs3 2202 (by decide)).trans hL.2⟩
   clear hL
   repeat' (first | with_reducible (first | (refine sk ?_; intro K hK) | intro (ep : Nat → Nat) | apply_assumption -exfalso -symm only [*]) | ((first | (with_reducible refine rgL [] [18] (md := { base := 2600, own := [20] }) (h := ?_)) | refine lK (cl _ hL3) ?_); try simp (disch := omega) only [h0, h5, h9, h10, g20, hw, encI_vc,go_sem, simprocAttr]) | fail)
   exact ⟨⟨(), fun j hj => by obtain ⟨_, hlo⟩ := hlo; rw [if_neg (by omega), hs3 j (by omega), hlo j hj]⟩, ⟨(upd_ne _ _ (by decide)).trans hL3.1, (upd_ne _ _ (by decide)).trans hL3.2⟩, by rw [hC]; exact .one (upd_same _ _ _)⟩
  ·rw [List.length_map] at h5
   have hkb : C.length ≤ 1073741823 := by omega
   repeat' (first | with_reducible (first | (refine sk ?_; intro K hK) | intro (ep : Nat → Nat) | apply_assumption -exfalso -symm only [*]) | ((first | (with_reducible refine rgL [] [18] (md := { base := 2600, own := [20] }) (h := ?_)) | refine lK (cl _ hL) ?_); try simp (disch := omega) only [h0, h5, h9, h10, k20, hw, hkb, encI_vc,go_sem, simprocAttr]) | fail)
   exact ⟨⟨(), fun j hj => by obtain ⟨_, hlo⟩ := hlo; rw [if_neg (by omega), hlo j hj]⟩, ⟨(upd_ne _ _ (by decide)).trans hL.1, (upd_ne _ _ (by decide)).trans hL.2⟩, by rw [← List.length_map (f := fun f : FailT => [encI f])]; exact .snoc (upd_same _ _ _)⟩
 ·rintro f H h10 h9 ⟨⟨h0, hlo⟩, hL, hG⟩
  repeat' (first | with_reducible apply_assumption -exfalso -symm only [*] | fail)
  have hz : ∀ H : Hp, (((failsL t (2 * l)).map fun f => [encI f]).map fun es => es.map (fzd H 5)) = (failsL t (2 * l)).map fun f => [encI f] := fun H => map_id2 (fun f => by simp only [List.map_cons, List.map_nil, encI_fzd]) _
  refine AW_lstC (t := 5) (k := 2620) (L := (failsL t (2 * l)).map fun f => [encI f]) hz hG fun f2 H2 h5 hf2 hH2 => ?_
  have hlo2 : ∃ _ : Unit, ∀ j, j < 2600 → H2 j = H0 j := by obtain ⟨_, h⟩ := hlo; exact ⟨(), fun j hj => (hH2 j (by omega)).trans (h j hj)⟩
  clear hf2 hH2 hG hz h10 h9 h0 hlo
  have cf := cfirst_ok (failsL t (2 * l)) (by rw [failsL_len]; omega) (fun f hf => by
   unfold failsL at hf
   obtain ⟨c, _, rfl⟩ := List.mem_map.1 hf
   exact failC_held t c)
  repeat' (first | with_reducible (first | (refine sk ?_; intro K hK) | apply_assumption -exfalso -symm only [*]) | ((first | (with_reducible first | refine rgL [] [18] (md := { base := 2600, own := [20] }) (h := ?_) | refine nx ?_) | refine pK (cf) ?_); try simp (disch := omega) only [h5,go_sem, simprocAttr]) | fail)
  refine FnQ_end (Or.inl rfl) (.refl _) (by simp only [Tryz.f39, go_sem, simprocAttr]; rfl) ?_
  obtain ⟨_, hlo3⟩ := hlo2
  exact ⟨encI_fzd, hlo3⟩
end Cp
namespace Cp
open Go
def rStep (o f : FailT) : FailT := if f.held = 2 then o else if o.held = 2 then f else
 ⟨min o.held f.held, ⟨min o.at1.lo f.at1.lo, if f.held = 0 ∧ o.held = 0 then min o.at1.hi f.at1.hi else if f.held = 0 then f.at1.hi else if o.held = 1 then max o.at1.hi f.at1.hi else o.at1.hi⟩⟩
def FailB (f : FailT) : Prop := (f.held = 0 ∨ f.held = 1 ∨ f.held = 2) ∧ -36000 ≤ f.at1.hi ∧ f.at1.hi ≤ 36000
theorem hi_none {l : List FailT} : ∀ {h : Int}, (∀ f ∈ l, ¬ f.held = 0) → l.foldl (hiStep true) h = h := by
 induction l with
 | nil => intro h _; rfl
 | cons a l ih =>
  intro h hh
  rw [List.foldl_cons]
  have : hiStep true h a = h := by simp [hiStep, hh a (by simp)]
  rw [this]
  exact ih fun f hf => hh f (by simp [hf])
theorem come_mem {fs : List FailT} {f : FailT} (h : f ∈ comeF fs) : f ∈ fs ∧ ¬ f.held = 2 := by
 simpa [comeF] using h
theorem first_snoc {fs : List FailT} {x : FailT} (hx : FailB x) (hb : ∀ f ∈ fs, FailB f) : fstS (fs ++ [x]) = rStep (fstS fs) x := by
 have hc : comeF (fs ++ [x]) = comeF fs ++ (if x.held = 2 then [] else [x]) := by
  rw [comeF, List.filter_append]
  by_cases h : x.held = 2 <;> simp [comeF, h]
 have hs : sureF (fs ++ [x]) = (sureF fs || decide (x.held = 0)) := by simp [sureF]
 obtain ⟨hx1, hx2, hx3⟩ := hx
 by_cases h2 : x.held = 2
 ·have h0 : ¬ x.held = 0 := by omega
  rw [if_pos h2, List.append_nil] at hc
  rw [decide_eq_false h0, Bool.or_false] at hs
  unfold fstS rStep
  rw [hc, hs, if_pos h2]
 ·rw [if_neg h2] at hc
  unfold fstS rStep
  rw [if_neg h2, hc, hs]
  cases hC : comeF fs with
  | nil =>
   have hns : sureF fs = false := by
    rw [sureF, List.any_eq_false]
    intro f hf
    by_cases h : f.held = 2
    ·simp [h]
    ·have : f ∈ comeF fs := by simp [comeF, hf, h]
     rw [hC] at this; cases this
   rw [hns]
   obtain ⟨a, b, c⟩ := x
   simp only at *
   rcases hx1 with rfl | rfl | rfl
   ·simp [hiStep]; omega
   ·simp [hiStep]; omega
   ·exact absurd rfl h2
  | cons b l =>
   simp only [List.cons_append]
   have hfo : ∀ {β : Type} (g : β → FailT → β) (a : β), (b :: (l ++ [x])).foldl g a = g ((b :: l).foldl g a) x := fun g a => by
    rw [← List.cons_append, List.foldl_append]; rfl
   rw [hfo, hfo]
   cases hS : sureF fs with
   | true =>
    simp only [Bool.true_or, if_true]
    rcases hx1 with h | h | h
    ·simp [hiStep, h]
    ·simp [hiStep, h]; decide
    ·exact absurd h h2
   | false =>
    have hn0 : ∀ f ∈ b :: l, ¬ f.held = 0 := fun f hf h => by
     rw [← hC] at hf
     have hm := (come_mem hf).1
     rw [sureF, List.any_eq_false] at hS
     have := hS f hm
     simp [h] at this
    simp only [Bool.false_or]
    rcases hx1 with h | h | h
    ·have e := hi_none (h := 36000) hn0
     simp only [h, decide_true, if_true, e]
     simp [hiStep, h]; omega
    ·simp [hiStep, h]
    ·exact absurd h h2
theorem first_fold (fs : List FailT) (hb : ∀ f ∈ fs, FailB f) : fs.foldl rStep ⟨2, ⟨0, 0⟩⟩ = fstS fs := by
 have gen : ∀ n, (fs.take n).foldl rStep ⟨2, ⟨0, 0⟩⟩ = fstS (fs.take n) := by
  intro n
  induction n with
  | zero => rfl
  | succ n ih =>
   by_cases h : n < fs.length
   ·have hx : fs[n]? = some fs[n] := List.getElem?_eq_getElem h
    rw [take_snocC hx, List.foldl_append, ih, first_snoc (hb _ (List.getElem_mem h)) fun f hf => hb f (List.mem_of_mem_take hf)]
    rfl
   ·rw [List.take_of_length_le (by omega)] at ih ⊢
    exact ih
 have := gen fs.length
 rwa [List.take_of_length_le (Nat.le_refl _)] at this
end Cp
namespace Cp
open Go Go.Proofs
set_option maxRecDepth 10000
theorem plus_ok (a b : Span) (h : (-1000000000000 ≤ a.lo ∧ a.lo ≤ 1000000000000) ∧ (-1000000000000 ≤ a.hi ∧ a.hi ≤ 1000000000000) ∧ (-1000000000000 ≤ b.lo ∧ b.lo ≤ 1000000000000) ∧ (-1000000000000 ≤ b.hi ∧ b.hi ≤ 1000000000000)) :
  PureC Tryz.prog 102 [encSpan a, .lst 2 [[.int .i64 b.lo, .int .i64 b.hi]]] (encSpan ⟨a.lo + b.lo, a.hi + b.hi⟩) := by
 refine PureC_of (fn := Tryz.f102) tabOK (by kernel_rfl) rfl (by kernel_rfl) (by simp [Tryz.f102]) (by simp [noids, noid, noidss, go_sem, encSpan]) (by first | rfl | simp [noids, noid, noidss, go_sem, encSpan]) ?_
 intro X hX0 hXs
 repeat' (first | with_reducible (first | (refine sk ?_; intro K hK) | intro (ep : Nat → Nat) | apply_assumption -exfalso -symm only [*]) | ((with_reducible refine rg (md := { base := 0, own := [2] }) (h := ?_)); try simp (disch := omega) only [encSpan,go_sem, simprocAttr]) | fail)
 refine AW_range tabOK 1 (fun k f H => f 7 = .lst 2 [[.int .i64 b.lo, .int .i64 b.hi]] ∧ ∃ e2 e4 x y, f 2 = .ptr 2 e2 2 0 0 ∧ H 2 = some (e2, .arr 2 [[.int .i64 x, .int .i64 y]]) ∧ f 4 = .ptr 4 e4 2 0 0 ∧ H 4 = some (e4, .arr 2 [[.int .i64 0, .int .i64 0]]) ∧ x = a.lo + k * b.lo ∧ y = a.hi + k * b.hi) (by omega) (by rw [hXs]; decide) (by decide) (by simp only [go_sem, simprocAttr]) (by (first | rfl | (simp only [go_sem, simprocAttr]; done) | (simp only [go_sem, simprocAttr]; rfl)))
  ⟨by (first | rfl | (simp only [go_sem, simprocAttr]; done) | (simp only [go_sem, simprocAttr]; rfl)), _, _, a.lo, a.hi, by (first | rfl | (simp only [go_sem, simprocAttr]; done) | (simp only [go_sem, simprocAttr]; rfl)), by (first | rfl | (simp only [go_sem, simprocAttr]; done) | (simp only [go_sem, simprocAttr]; rfl)), by (first | rfl | (simp only [go_sem, simprocAttr]; done) | (simp only [go_sem, simprocAttr]; rfl)), by (first | rfl | (simp only [go_sem, simprocAttr]; done) | (simp only [go_sem, simprocAttr]; rfl)), by simp, by simp⟩ ?_ ?_
 ·rintro k f H hk h9 h8 ⟨h7, e2, e4, x, y, h2, hH2, h4, hH4, hx, hy⟩
  obtain rfl : k = 0 := by omega
  simp only [Int.ofNat_zero, Int.zero_mul, Int.add_zero, Int.natCast_zero, Int.cast_ofNat_Int] at hx hy
  have hx' : x = a.lo := by simpa using hx
  have hy' : y = a.hi := by simpa using hy
  subst hx' hy'
  refine AW_keep [2, 4] ?_
  repeat' (first | with_reducible (first | (refine sk ?_; intro K hK) | intro (ep : Nat → Nat) | apply_assumption -exfalso -symm only [*]) | ((with_reducible refine rg (md := { base := 0, own := [2] }) (h := ?_)); try simp (disch := omega) only [h2, h4, h7, h8, h9, hH2, hH4,go_sem, simprocAttr]) | fail)
  exact ⟨_, _, _, _, rfl, rfl, rfl, rfl, by simp, by simp⟩
 ·rintro f H h9 h8 ⟨h7, e2, e4, x, y, h2, hH2, h4, hH4, hx, hy⟩
  repeat' (first | with_reducible (first | (refine sk ?_; intro K hK) | apply_assumption -exfalso -symm only [*]) | ((with_reducible first | refine rg (md := { base := 0, own := [2] }) (h := ?_) | refine nx ?_); try simp (disch := omega) only [h2, h4, hH2, hH4, encSpan,go_sem, simprocAttr]) | ((with_reducible refine fe ?_); refine ⟨_, (by simp only [Tryz.f102, h2, h4, hH2, hH4, encSpan,go_sem, simprocAttr]; rfl), ?_⟩; (try simp only [h2, h4, hH2, hH4, encSpan,go_sem, simprocAttr, seval])) | fail)
  simp [hx, hy]
theorem times_ok (a : Span) (n : Int) (h : (-1000000000 ≤ a.lo ∧ a.lo ≤ 1000000000) ∧ (-1000000000 ≤ a.hi ∧ a.hi ≤ 1000000000) ∧ 0 ≤ n ∧ n ≤ 1000000000) :
  PureC Tryz.prog 104 [encSpan a, .int .i64 n] (encSpan ⟨a.lo * n, a.hi * n⟩) := by
 have b1 := mul_bnd (a := a.lo) (q := n) (A := 1000000000) (B := 1000000000) (C := 1000000000) (by omega) (by omega) (by omega) (by omega) (by omega) (by omega)
 have b2 := mul_bnd (a := a.hi) (q := n) (A := 1000000000) (B := 1000000000) (C := 1000000000) (by omega) (by omega) (by omega) (by omega) (by omega) (by omega)
 refine PureC_of (fn := Tryz.f104) tabOK (by kernel_rfl) rfl (by kernel_rfl) (by simp [Tryz.f104]) (by simp [noids, noid, noidss, go_sem, encSpan]) (by first | rfl | simp [noids, noid, noidss, go_sem, encSpan]) ?_
 intro X hX0 hXs
 repeat' (first | with_reducible (first | (refine sk ?_; intro K hK) | intro (ep : Nat → Nat) | apply_assumption -exfalso -symm only [*]) | ((with_reducible first | refine rg (h := ?_) | refine nx ?_); try simp (disch := omega) only [encSpan,go_sem, simprocAttr]) | ((with_reducible refine fe ?_); refine ⟨_, (by simp only [Tryz.f104, encSpan,go_sem, simprocAttr]; rfl), ?_⟩; rfl) | fail)
def Pts (H : Hp) (fp : Val) (cs : List Val) : Prop := fp = .pim cs ∨ ∃ k e n, fp = .ptr k e n 0 0 ∧ frzH H k = some (e, .fro n [cs])
theorem reads_look (r : RunT) (hF : RunF r) (rest : List Val) (H : Hp) (fp : Val) (hp : Pts H fp (cRun r ++ rest)) (i : Nat) (hi : i < r.cpls.length) (m last lag : Int) (hl : 1 ≤ last ∧ last ≤ r.rows.length) (hm : 1 ≤ m ∧ m ≤ r.rows.length) (hg : 0 ≤ lag ∧ lag ≤ 10) :
  LookC Tryz.prog 121 [.int .i64 lag, .pim [fp], .pim [.int .i64 m], .pim [.int .i64 last], .pim [.int .i64 i]] H (.int .i64 (readAt r i (min (m + lag) last))) := by
 have hrows := hF.rows
 have hcl := hF.cpls
 obtain ⟨x, d, hx, hd, hrd, hd1, hd2⟩ := readAt_ok hF hi (row := min (m + lag) last) (by omega) (by omega)
 have hge : 0 ≤ min (m + lag) last - 1 := by omega
 refine LookC_of (fn := Tryz.f121) tabOK (by kernel_rfl) rfl (by kernel_rfl) (by simp [Tryz.f121]) rfl ?_
 intro X hX0 hXs
 rcases hp with rfl | ⟨k, e, n, rfl, hk⟩
 ·repeat' (first | with_reducible (first | (refine sk ?_; intro K hK) | apply_assumption -exfalso -symm only [*]) | ((with_reducible first | refine rg (h := ?_) | refine nx ?_); try simp (disch := omega) only [hx, hd, hrd, hge, cRun, cRow,go_sem, simprocAttr]) | ((with_reducible refine fe ?_); refine ⟨_, (by simp only [Tryz.f121, hx, hd, hrd, hge, cRun, cRow,go_sem, simprocAttr]; rfl), ?_⟩; rfl) | fail)
 ·have hk' : frz1 (H k) = some (e, .fro n [cRun r ++ rest]) := hk
  repeat' (first | with_reducible (first | (refine sk ?_; intro K hK) | apply_assumption -exfalso -symm only [*]) | ((with_reducible first | refine rg (h := ?_) | refine nx ?_); try simp (disch := omega) only [hk', hx, hd, hrd, hge, cRun, cRow,go_sem, simprocAttr]) | ((with_reducible refine fe ?_); refine ⟨_, (by simp only [Tryz.f121, hk', hx, hd, hrd, hge, cRun, cRow,go_sem, simprocAttr]; rfl), ?_⟩; rfl) | fail)
end Cp
namespace Cp
open Go Go.Proofs
set_option maxRecDepth 10000
theorem Pts.upd {H : Hp} {fp : Val} {cs : List Val} {k : Nat} {p : Option (Nat × AObj)} (h : Pts H fp cs) (hk : ∀ e n, ¬ frz1 (H k) = some (e, .fro n [cs])) : Pts (Cp.upd H k p) fp cs := by
 rcases h with h | ⟨k', e', n', h, hk2⟩
 ·exact .inl h
 ·refine .inr ⟨k', e', n', h, ?_⟩
  by_cases hkk : k' = k
  ·subst hkk; exact (hk _ _ hk2).elim
  ·unfold frzH at hk2 ⊢; rw [upd_ne _ _ hkk]; exact hk2
def Room (H : Hp) (b n : Nat) : Prop := ∀ d, d < n → H (b + d) = none
theorem truth_look (r : RunT) (hF : RunF r) (rest : List Val) (H : Hp) (fp : Val) (hp : Pts H fp (cRun r ++ rest)) (hroom : Room H 1000 100) (i : Nat) (c : Cpl) (hci : r.cpls[i]? = some c) (m : Int) (hm : 1 ≤ m ∧ m ≤ r.rows.length) (hw : works c m = true) :
  LookC Tryz.prog 103 [fp, .int .i64 i, .int .i64 m] H (encSpan (truth r c i m)) := by
 have hrows := hF.rows
 have hcl := hF.cpls
 have hi : i < r.cpls.length := (List.getElem?_eq_some_iff.1 hci).1
 have hcf := hF.cpl i c hci
 obtain ⟨l1, l2⟩ := lastRow_pos hF hci hm.1 hw
 have r6 : frz1 (H 1006) = none := by rw [hroom 6 (by omega)]; rfl
 have r7 : frz1 (H 1007) = none := by rw [hroom 7 (by omega)]; rfl
 have r8 : frz1 (H 1008) = none := by rw [hroom 8 (by omega)]; rfl
 have r10 : frz1 (H 1010) = none := by rw [hroom 10 (by omega)]; rfl
 have hge : (0 : Int) ≤ i := by omega
 refine LookC_of (fn := Tryz.f103) tabOK (by kernel_rfl) rfl (by kernel_rfl) (by simp [Tryz.f103]) rfl ?_
 intro X hX0 hXs
 rcases hp with hfp | ⟨k, e, n, hfp, hk⟩
 ·repeat' (first | with_reducible (first | ((fail_if_success (refine AW_at (id := 3) ?_)); refine sk ?_; intro K hK) | intro (ep : Nat → Nat) | apply_assumption -exfalso -symm only [*]) | ((with_reducible refine rgL [] [39, 44, 61, 67] (md := { base := 1000, own := [] }) (h := ?_)); try simp (disch := omega) only [hfp, r6, r7, r8, r10, hci, cRun, cCpl,go_sem, simprocAttr]) | fail)
  have hcut : ∀ f H, (f 3 = .pim [fp] ∧ f 4 = .pim [.int .i64 i] ∧ f 5 = .pim [.int .i64 m] ∧ H 1010 = none ∧ Pts H fp (cRun r ++ rest) ∧ ∃ e6 e7 e8, f 6 = .ptr 1006 e6 2 0 0 ∧ H 1006 = some (e6, .arr 2 [[.int .i64 0, .int .i64 0]]) ∧ f 7 = .ptr 1007 e7 6 0 0 ∧ H 1007 = some (e7, .arr 6 [cCpl c]) ∧ f 8 = .ptr 1008 e8 1 0 0 ∧ H 1008 = some (e8, .arr 1 [[.int .i64 (lastRow r c)]])) → K f H := by
   rintro f H ⟨h3, h4, h5, hH10, hP, e6, e7, e8, h6, hH6, h7, hH7, h8, hH8⟩
   refine hK f H ?_
   refine AW_freeze 1008 hH8 ?_
   have hP' : Pts (upd H 1008 (some (e8, .fro 1 [[.int .i64 (lastRow r c)]]))) fp (cRun r ++ rest) := by
    rcases hP with h | ⟨k', e', n', h, hk2⟩
    ·exact .inl h
    ·refine .inr ⟨k', e', n', h, ?_⟩
     by_cases hk8 : k' = 1008
     ·subst hk8; unfold frzH at hk2; rw [hH8] at hk2; simp only [frz1, Option.some.injEq, Prod.mk.injEq, AObj.fro.injEq] at hk2; unfold frzH; rw [upd_same]; simp only [frz1, Option.some.injEq, Prod.mk.injEq, AObj.fro.injEq]; exact hk2
     ·unfold frzH at hk2 ⊢; rw [upd_ne _ _ hk8]; exact hk2
   refine AW_retell8 (v := .pim [.int .i64 (lastRow r c)]) 8 2 (by simp only [go_sem, simprocAttr, h8]) ?_
   have hP'' : ∀ e x, Pts (upd (upd (upd H 1008 (some (e8, .fro 1 [[.int .i64 (lastRow r c)]]))) 1010 (some (e, .arr 2 [[.int .i64 0, .int .i64 0]]))) 1010 (some (e, .arr 2 [x]))) fp (cRun r ++ rest) := fun e x => by
    rcases hP' with h | ⟨k', e', n', h, hk2⟩
    ·exact .inl h
    ·refine .inr ⟨k', e', n', h, ?_⟩
     by_cases hk8 : k' = 1010
     ·subst hk8; unfold frzH at hk2; rw [upd_ne _ _ (by decide), hH10] at hk2; cases hk2
     ·unfold frzH at hk2 ⊢; rw [upd_ne _ _ hk8, upd_ne _ _ hk8]; exact hk2
   repeat' (first | with_reducible (first | (refine sk ?_; intro K hK) | intro (ep : Nat → Nat) | apply_assumption -exfalso -symm only [*]) | ((first | (with_reducible refine rgL [] [39, 44, 61, 67] (md := { base := 1000, own := [] }) (h := ?_)) | refine lK (reads_look r hF rest _ _ hP' i hi m _ _ ⟨l1, l2⟩ hm (by omega)) ?_); try simp (disch := omega) only [h3, h4, h5, h6, hH6, h7, hH7, hH10, cCpl,go_sem, simprocAttr]) | fail)
   refine AW_block (AW_loop (fun n f H => ∃ k : Nat, n = (c.lag.hi - c.lag.lo).toNat - k ∧ k ≤ (c.lag.hi - c.lag.lo).toNat ∧ (f 9 = .fn 121 [.pim [fp], .pim [.int .i64 m], .pim [.int .i64 (lastRow r c)], .pim [.int .i64 i]]) ∧ Pts H fp (cRun r ++ rest) ∧ ∃ lag lo hi e6 e7 e10, lag = c.lag.lo + 1 + k ∧ f 11 = .int .i64 lag ∧ f 6 = .ptr 1006 e6 2 0 0 ∧ H 1006 = some (e6, .arr 2 [[.int .i64 0, .int .i64 0]]) ∧ f 7 = .ptr 1007 e7 6 0 0 ∧ H 1007 = some (e7, .arr 6 [cCpl c]) ∧ f 10 = .ptr 1010 e10 2 0 0 ∧ H 1010 = some (e10, .arr 2 [[.int .i64 lo, .int .i64 hi]]) ∧
     lo = extLo (readLag r c i m) c.lag.lo k ∧ hi = extHi (readLag r c i m) c.lag.lo k) (c.lag.hi - c.lag.lo).toNat
    ⟨0, by simp, Nat.zero_le _, by (first | rfl | (simp only [h3, h4, h5, go_sem, simprocAttr]; done) | (simp only [h3, h4, h5, go_sem, simprocAttr]; rfl)), hP'' _ _, c.lag.lo + 1, readLag r c i m c.lag.lo, readLag r c i m c.lag.lo, _, _, _, by simp, by (first | rfl | (simp only [go_sem, simprocAttr]; done) | (simp only [go_sem, simprocAttr]; rfl)), by (first | rfl | (simp only [h6, go_sem, simprocAttr]; done) | (simp only [h6, go_sem, simprocAttr]; rfl)), by (first | rfl | (simp only [hH6, go_sem, simprocAttr]; done) | (simp only [hH6, go_sem, simprocAttr]; rfl)), by (first | rfl | (simp only [h7, go_sem, simprocAttr]; done) | (simp only [h7, go_sem, simprocAttr]; rfl)), by (first | rfl | (simp only [hH7, cCpl, go_sem, simprocAttr]; done) | (simp only [hH7, cCpl, go_sem, simprocAttr]; rfl)), by (first | rfl | (simp only [go_sem, simprocAttr]; done) | (simp only [go_sem, simprocAttr]; rfl)), by (first | rfl | (simp only [go_sem, simprocAttr]; done) | (simp only [go_sem, simprocAttr]; rfl)), rfl, rfl⟩ ?_)
   rintro n f H ⟨k, rfl, hk, h9, hP, lag, lo, hi', e6, e7, e10, hlag, h11, h6, hH6, h7, hH7, h10, hH10, hlo, hhi⟩
   have hbd := ext_bounds (g := readLag r c i m) (lo := c.lag.lo) (a := 0) (b := 2000) k (fun j hj => by
    obtain ⟨x, d, _, _, q1, q2, q3⟩ := readAt_ok hF hi (row := min (m + (c.lag.lo + j)) (lastRow r c)) (by omega) (by omega)
    unfold readLag
    rw [q1]; exact ⟨q2, q3⟩)
   rw [← hlo, ← hhi] at hbd
   by_cases hlt : lag ≤ c.lag.hi
   ·have stepL : min lo (readLag r c i m lag) = extLo (readLag r c i m) c.lag.lo (k + 1) ∧ max hi' (readLag r c i m lag) = extHi (readLag r c i m) c.lag.lo (k + 1) := by
     simp only [extLo, extHi]
     rw [show c.lag.lo + ((k + 1 : Nat) : Int) = lag by omega, ← hlo, ← hhi]
     exact ⟨rfl, rfl⟩
    repeat' (first | with_reducible (first | (refine sk ?_; intro K hK) | refine bk ?_ | apply_assumption -exfalso -symm only [*]) | ((first | (with_reducible first | refine rgL [] [39, 44, 61, 67] (md := { base := 1000, own := [] }) (h := ?_) | refine nx ?_) | refine lK (reads_look r hF rest _ _ hP i hi m _ _ ⟨l1, l2⟩ hm (by omega)) ?_); try simp (disch := omega) only [h6, h7, h9, h10, h11, hH6, hH7, hH10, cCpl,go_sem, simprocAttr]) | ((with_reducible refine' cE ?hv ?_ ?_); (case hv => rfl); all_goals (intro hc; (try simp only [go_sem, simprocAttr] at hc); try (exfalso; omega))) | fail)
    exact ⟨(c.lag.hi - c.lag.lo).toNat - (k + 1), by omega, k + 1, rfl, by omega, hP.upd (fun e n h => by rw [hH10] at h; simp [frz1, cRun] at h), _, _, _, _, _, _, by omega, rfl, rfl, rfl, rfl, rfl, rfl, rfl, stepL.1, stepL.2⟩
   ·have hkk : (c.lag.hi - c.lag.lo).toNat = k := by omega
    repeat' (first | with_reducible (first | (refine sk ?_; intro K hK) | apply_assumption -exfalso -symm only [*]) | ((first | (with_reducible first | refine rgL [] [39, 44, 61, 67] (md := { base := 1000, own := [] }) (h := ?_) | refine nx ?_) | refine pK (plus_ok ⟨lo, hi'⟩ ⟨0 - c.err.hi, 0 - c.err.lo⟩ (by simp only; omega)) ?_); try simp (disch := omega) only [h6, h7, h9, h10, h11, hH6, hH7, hH10, cCpl, encSpan,go_sem, simprocAttr]) | ((with_reducible refine' cE ?hv ?_ ?_); (case hv => rfl); all_goals (intro hc; (try simp only [go_sem, simprocAttr] at hc); try (exfalso; omega))) | ((with_reducible refine fe ?_); refine ⟨_, (by simp only [Tryz.f103, h6, h7, h9, h10, h11, hH6, hH7, hH10, cCpl, encSpan,go_sem, simprocAttr]; rfl), ?_⟩; (try simp only [h6, h7, h9, h10, h11, hH6, hH7, hH10, cCpl, encSpan,go_sem, simprocAttr, seval])) | fail)
    simp only [truth, hkk]
    rw [← hlo, ← hhi]
    constructor <;> omega
  clear hK
  by_cases hb : 0 < c.brk
  ·have hlr : lastRow r c = min (r.rows.length : Int) (c.brk - 1) := by rw [lastRow, if_pos hb]
   repeat' (first | with_reducible (first | (refine sk ?_; intro K hK) | apply_assumption -exfalso -symm only [*]) | ((with_reducible refine rgL [] [39, 44, 61, 67] (md := { base := 1000, own := [] }) (h := ?_)); try simp (disch := omega) only [hfp, r6, r7, r8, r10, hci, cRun, cCpl,go_sem, simprocAttr]) | ((with_reducible refine' cE ?hv ?_ ?_); (case hv => rfl); all_goals (intro hc; (try simp only [go_sem, simprocAttr] at hc); try (exfalso; omega))) | fail)
   exact ⟨by (first | rfl | (simp only [hfp, go_sem, simprocAttr]; done) | (simp only [hfp, go_sem, simprocAttr]; rfl)), by (first | rfl | (simp only [go_sem, simprocAttr]; done) | (simp only [go_sem, simprocAttr]; rfl)), by (first | rfl | (simp only [go_sem, simprocAttr]; done) | (simp only [go_sem, simprocAttr]; rfl)), by (first | rfl | (simp only [r10, go_sem, simprocAttr]; done) | (simp only [r10, go_sem, simprocAttr]; rfl)), .inl hfp, _, _, _, by (first | rfl | (simp only [go_sem, simprocAttr]; done) | (simp only [go_sem, simprocAttr]; rfl)), by (first | rfl | (simp only [go_sem, simprocAttr]; done) | (simp only [go_sem, simprocAttr]; rfl)), by (first | rfl | (simp only [go_sem, simprocAttr]; done) | (simp only [go_sem, simprocAttr]; rfl)), by (first | rfl | (simp only [cCpl, go_sem, simprocAttr]; done) | (simp only [cCpl, go_sem, simprocAttr]; rfl)), by (first | rfl | (simp only [go_sem, simprocAttr]; done) | (simp only [go_sem, simprocAttr]; rfl)), by (first | rfl | (simp only [hlr, go_sem, simprocAttr]; done) | (simp only [hlr, go_sem, simprocAttr]; rfl))⟩
  ·have hlr : lastRow r c = r.rows.length := by rw [lastRow, if_neg hb]
   repeat' (first | with_reducible (first | (refine sk ?_; intro K hK) | apply_assumption -exfalso -symm only [*]) | ((with_reducible first | refine rgL [] [39, 44, 61, 67] (md := { base := 1000, own := [] }) (h := ?_) | refine nx ?_); try simp (disch := omega) only [hfp, r6, r7, r8, r10, hci, cRun, cCpl,go_sem, simprocAttr]) | ((with_reducible refine' cE ?hv ?_ ?_); (case hv => rfl); all_goals (intro hc; (try simp only [go_sem, simprocAttr] at hc); try (exfalso; omega))) | fail)
   exact ⟨by (first | rfl | (simp only [hfp, go_sem, simprocAttr]; done) | (simp only [hfp, go_sem, simprocAttr]; rfl)), by (first | rfl | (simp only [go_sem, simprocAttr]; done) | (simp only [go_sem, simprocAttr]; rfl)), by (first | rfl | (simp only [go_sem, simprocAttr]; done) | (simp only [go_sem, simprocAttr]; rfl)), by (first | rfl | (simp only [r10, go_sem, simprocAttr]; done) | (simp only [r10, go_sem, simprocAttr]; rfl)), .inl hfp, _, _, _, by (first | rfl | (simp only [go_sem, simprocAttr]; done) | (simp only [go_sem, simprocAttr]; rfl)), by (first | rfl | (simp only [go_sem, simprocAttr]; done) | (simp only [go_sem, simprocAttr]; rfl)), by (first | rfl | (simp only [go_sem, simprocAttr]; done) | (simp only [go_sem, simprocAttr]; rfl)), by (first | rfl | (simp only [cCpl, go_sem, simprocAttr]; done) | (simp only [cCpl, go_sem, simprocAttr]; rfl)), by (first | rfl | (simp only [go_sem, simprocAttr]; done) | (simp only [go_sem, simprocAttr]; rfl)), by (first | rfl | (simp only [hlr, go_sem, simprocAttr]; done) | (simp only [hlr, go_sem, simprocAttr]; rfl))⟩
 ·have hk' : frz1 (H k) = some (e, .fro n [cRun r ++ rest]) := hk
  have k6 : ¬ k = 1006 := fun e1 => by subst e1; rw [r6] at hk'; cases hk'
  have k7 : ¬ k = 1007 := fun e1 => by subst e1; rw [r7] at hk'; cases hk'
  have k8 : ¬ k = 1008 := fun e1 => by subst e1; rw [r8] at hk'; cases hk'
  have k10 : ¬ k = 1010 := fun e1 => by subst e1; rw [r10] at hk'; cases hk'
  repeat' (first | with_reducible (first | ((fail_if_success (refine AW_at (id := 3) ?_)); refine sk ?_; intro K hK) | intro (ep : Nat → Nat) | apply_assumption -exfalso -symm only [*]) | ((with_reducible refine rgL [] [39, 44, 61, 67] (md := { base := 1000, own := [] }) (h := ?_)); try simp (disch := omega) only [hfp, r6, r7, r8, r10, hk', k6, k7, k8, k10, hci, cRun, cCpl,go_sem, simprocAttr]) | fail)
  have hcut : ∀ f H, (f 3 = .pim [fp] ∧ f 4 = .pim [.int .i64 i] ∧ f 5 = .pim [.int .i64 m] ∧ H 1010 = none ∧ Pts H fp (cRun r ++ rest) ∧ ∃ e6 e7 e8, f 6 = .ptr 1006 e6 2 0 0 ∧ H 1006 = some (e6, .arr 2 [[.int .i64 0, .int .i64 0]]) ∧ f 7 = .ptr 1007 e7 6 0 0 ∧ H 1007 = some (e7, .arr 6 [cCpl c]) ∧ f 8 = .ptr 1008 e8 1 0 0 ∧ H 1008 = some (e8, .arr 1 [[.int .i64 (lastRow r c)]])) → K f H := by
   rintro f H ⟨h3, h4, h5, hH10, hP, e6, e7, e8, h6, hH6, h7, hH7, h8, hH8⟩
   refine hK f H ?_
   refine AW_freeze 1008 hH8 ?_
   have hP' : Pts (upd H 1008 (some (e8, .fro 1 [[.int .i64 (lastRow r c)]]))) fp (cRun r ++ rest) := by
    rcases hP with h | ⟨k', e', n', h, hk2⟩
    ·exact .inl h
    ·refine .inr ⟨k', e', n', h, ?_⟩
     by_cases hk8 : k' = 1008
     ·subst hk8; unfold frzH at hk2; rw [hH8] at hk2; simp only [frz1, Option.some.injEq, Prod.mk.injEq, AObj.fro.injEq] at hk2; unfold frzH; rw [upd_same]; simp only [frz1, Option.some.injEq, Prod.mk.injEq, AObj.fro.injEq]; exact hk2
     ·unfold frzH at hk2 ⊢; rw [upd_ne _ _ hk8]; exact hk2
   refine AW_retell8 (v := .pim [.int .i64 (lastRow r c)]) 8 2 (by simp only [go_sem, simprocAttr, h8]) ?_
   have hP'' : ∀ e x, Pts (upd (upd (upd H 1008 (some (e8, .fro 1 [[.int .i64 (lastRow r c)]]))) 1010 (some (e, .arr 2 [[.int .i64 0, .int .i64 0]]))) 1010 (some (e, .arr 2 [x]))) fp (cRun r ++ rest) := fun e x => by
    rcases hP' with h | ⟨k', e', n', h, hk2⟩
    ·exact .inl h
    ·refine .inr ⟨k', e', n', h, ?_⟩
     by_cases hk8 : k' = 1010
     ·subst hk8; unfold frzH at hk2; rw [upd_ne _ _ (by decide), hH10] at hk2; cases hk2
     ·unfold frzH at hk2 ⊢; rw [upd_ne _ _ hk8, upd_ne _ _ hk8]; exact hk2
   repeat' (first | with_reducible (first | (refine sk ?_; intro K hK) | intro (ep : Nat → Nat) | apply_assumption -exfalso -symm only [*]) | ((first | (with_reducible refine rgL [] [39, 44, 61, 67] (md := { base := 1000, own := [] }) (h := ?_)) | refine lK (reads_look r hF rest _ _ hP' i hi m _ _ ⟨l1, l2⟩ hm (by omega)) ?_); try simp (disch := omega) only [h3, h4, h5, h6, hH6, h7, hH7, hH10, cCpl,go_sem, simprocAttr]) | fail)
   refine AW_block (AW_loop (fun n f H => ∃ k : Nat, n = (c.lag.hi - c.lag.lo).toNat - k ∧ k ≤ (c.lag.hi - c.lag.lo).toNat ∧ (f 9 = .fn 121 [.pim [fp], .pim [.int .i64 m], .pim [.int .i64 (lastRow r c)], .pim [.int .i64 i]]) ∧ Pts H fp (cRun r ++ rest) ∧ ∃ lag lo hi e6 e7 e10, lag = c.lag.lo + 1 + k ∧ f 11 = .int .i64 lag ∧ f 6 = .ptr 1006 e6 2 0 0 ∧ H 1006 = some (e6, .arr 2 [[.int .i64 0, .int .i64 0]]) ∧ f 7 = .ptr 1007 e7 6 0 0 ∧ H 1007 = some (e7, .arr 6 [cCpl c]) ∧ f 10 = .ptr 1010 e10 2 0 0 ∧ H 1010 = some (e10, .arr 2 [[.int .i64 lo, .int .i64 hi]]) ∧
     lo = extLo (readLag r c i m) c.lag.lo k ∧ hi = extHi (readLag r c i m) c.lag.lo k) (c.lag.hi - c.lag.lo).toNat
    ⟨0, by simp, Nat.zero_le _, by (first | rfl | (simp only [h3, h4, h5, go_sem, simprocAttr]; done) | (simp only [h3, h4, h5, go_sem, simprocAttr]; rfl)), hP'' _ _, c.lag.lo + 1, readLag r c i m c.lag.lo, readLag r c i m c.lag.lo, _, _, _, by simp, by (first | rfl | (simp only [go_sem, simprocAttr]; done) | (simp only [go_sem, simprocAttr]; rfl)), by (first | rfl | (simp only [h6, go_sem, simprocAttr]; done) | (simp only [h6, go_sem, simprocAttr]; rfl)), by (first | rfl | (simp only [hH6, go_sem, simprocAttr]; done) | (simp only [hH6, go_sem, simprocAttr]; rfl)), by (first | rfl | (simp only [h7, go_sem, simprocAttr]; done) | (simp only [h7, go_sem, simprocAttr]; rfl)), by (first | rfl | (simp only [hH7, cCpl, go_sem, simprocAttr]; done) | (simp only [hH7, cCpl, go_sem, simprocAttr]; rfl)), by (first | rfl | (simp only [go_sem, simprocAttr]; done) | (simp only [go_sem, simprocAttr]; rfl)), by (first | rfl | (simp only [go_sem, simprocAttr]; done) | (simp only [go_sem, simprocAttr]; rfl)), rfl, rfl⟩ ?_)
   rintro n f H ⟨k, rfl, hk, h9, hP, lag, lo, hi', e6, e7, e10, hlag, h11, h6, hH6, h7, hH7, h10, hH10, hlo, hhi⟩
   have hbd := ext_bounds (g := readLag r c i m) (lo := c.lag.lo) (a := 0) (b := 2000) k (fun j hj => by
    obtain ⟨x, d, _, _, q1, q2, q3⟩ := readAt_ok hF hi (row := min (m + (c.lag.lo + j)) (lastRow r c)) (by omega) (by omega)
    unfold readLag
    rw [q1]; exact ⟨q2, q3⟩)
   rw [← hlo, ← hhi] at hbd
   by_cases hlt : lag ≤ c.lag.hi
   ·have stepL : min lo (readLag r c i m lag) = extLo (readLag r c i m) c.lag.lo (k + 1) ∧ max hi' (readLag r c i m lag) = extHi (readLag r c i m) c.lag.lo (k + 1) := by
     simp only [extLo, extHi]
     rw [show c.lag.lo + ((k + 1 : Nat) : Int) = lag by omega, ← hlo, ← hhi]
     exact ⟨rfl, rfl⟩
    repeat' (first | with_reducible (first | (refine sk ?_; intro K hK) | refine bk ?_ | apply_assumption -exfalso -symm only [*]) | ((first | (with_reducible first | refine rgL [] [39, 44, 61, 67] (md := { base := 1000, own := [] }) (h := ?_) | refine nx ?_) | refine lK (reads_look r hF rest _ _ hP i hi m _ _ ⟨l1, l2⟩ hm (by omega)) ?_); try simp (disch := omega) only [h6, h7, h9, h10, h11, hH6, hH7, hH10, cCpl,go_sem, simprocAttr]) | ((with_reducible refine' cE ?hv ?_ ?_); (case hv => rfl); all_goals (intro hc; (try simp only [go_sem, simprocAttr] at hc); try (exfalso; omega))) | fail)
    exact ⟨(c.lag.hi - c.lag.lo).toNat - (k + 1), by omega, k + 1, rfl, by omega, hP.upd (fun e n h => by rw [hH10] at h; simp [frz1, cRun] at h), _, _, _, _, _, _, by omega, rfl, rfl, rfl, rfl, rfl, rfl, rfl, stepL.1, stepL.2⟩
   ·have hkk : (c.lag.hi - c.lag.lo).toNat = k := by omega
    repeat' (first | with_reducible (first | (refine sk ?_; intro K hK) | apply_assumption -exfalso -symm only [*]) | ((first | (with_reducible first | refine rgL [] [39, 44, 61, 67] (md := { base := 1000, own := [] }) (h := ?_) | refine nx ?_) | refine pK (plus_ok ⟨lo, hi'⟩ ⟨0 - c.err.hi, 0 - c.err.lo⟩ (by simp only; omega)) ?_); try simp (disch := omega) only [h6, h7, h9, h10, h11, hH6, hH7, hH10, cCpl, encSpan,go_sem, simprocAttr]) | ((with_reducible refine' cE ?hv ?_ ?_); (case hv => rfl); all_goals (intro hc; (try simp only [go_sem, simprocAttr] at hc); try (exfalso; omega))) | ((with_reducible refine fe ?_); refine ⟨_, (by simp only [Tryz.f103, h6, h7, h9, h10, h11, hH6, hH7, hH10, cCpl, encSpan,go_sem, simprocAttr]; rfl), ?_⟩; (try simp only [h6, h7, h9, h10, h11, hH6, hH7, hH10, cCpl, encSpan,go_sem, simprocAttr, seval])) | fail)
    simp only [truth, hkk]
    rw [← hlo, ← hhi]
    constructor <;> omega
  clear hK
  have hpk : ∀ H' : Hp, H' k = some (e, .fro n [cRun r ++ rest]) → Pts H' (.ptr k e n 0 0) (cRun r ++ rest) := fun H' h => .inr ⟨k, e, n, rfl, by simp only [frzH, h, frz1]⟩
  by_cases hb : 0 < c.brk
  ·have hlr : lastRow r c = min (r.rows.length : Int) (c.brk - 1) := by rw [lastRow, if_pos hb]
   repeat' (first | with_reducible (first | (refine sk ?_; intro K hK) | apply_assumption -exfalso -symm only [*]) | ((with_reducible refine rgL [] [39, 44, 61, 67] (md := { base := 1000, own := [] }) (h := ?_)); try simp (disch := omega) only [hfp, r6, r7, r8, r10, hk', k6, k7, k8, k10, hci, cRun, cCpl,go_sem, simprocAttr]) | ((with_reducible refine' cE ?hv ?_ ?_); (case hv => rfl); all_goals (intro hc; (try simp only [go_sem, simprocAttr] at hc); try (exfalso; omega))) | fail)
   exact ⟨by (first | rfl | (simp only [hfp, go_sem, simprocAttr]; done) | (simp only [hfp, go_sem, simprocAttr]; rfl)), by (first | rfl | (simp only [go_sem, simprocAttr]; done) | (simp only [go_sem, simprocAttr]; rfl)), by (first | rfl | (simp only [go_sem, simprocAttr]; done) | (simp only [go_sem, simprocAttr]; rfl)), by (first | rfl | (simp only [r10, go_sem, simprocAttr]; done) | (simp only [r10, go_sem, simprocAttr]; rfl)), by rw [hfp]; exact hpk _ (by simp only [go_sem, simprocAttr, hk', k6, k7, k8, cRun]), _, _, _, by (first | rfl | (simp only [go_sem, simprocAttr]; done) | (simp only [go_sem, simprocAttr]; rfl)), by (first | rfl | (simp only [go_sem, simprocAttr]; done) | (simp only [go_sem, simprocAttr]; rfl)), by (first | rfl | (simp only [go_sem, simprocAttr]; done) | (simp only [go_sem, simprocAttr]; rfl)), by (first | rfl | (simp only [cCpl, go_sem, simprocAttr]; done) | (simp only [cCpl, go_sem, simprocAttr]; rfl)), by (first | rfl | (simp only [go_sem, simprocAttr]; done) | (simp only [go_sem, simprocAttr]; rfl)), by (first | rfl | (simp only [hlr, go_sem, simprocAttr]; done) | (simp only [hlr, go_sem, simprocAttr]; rfl))⟩
  ·have hlr : lastRow r c = r.rows.length := by rw [lastRow, if_neg hb]
   repeat' (first | with_reducible (first | (refine sk ?_; intro K hK) | apply_assumption -exfalso -symm only [*]) | ((with_reducible first | refine rgL [] [39, 44, 61, 67] (md := { base := 1000, own := [] }) (h := ?_) | refine nx ?_); try simp (disch := omega) only [hfp, r6, r7, r8, r10, hk', k6, k7, k8, k10, hci, cRun, cCpl,go_sem, simprocAttr]) | ((with_reducible refine' cE ?hv ?_ ?_); (case hv => rfl); all_goals (intro hc; (try simp only [go_sem, simprocAttr] at hc); try (exfalso; omega))) | fail)
   exact ⟨by (first | rfl | (simp only [hfp, go_sem, simprocAttr]; done) | (simp only [hfp, go_sem, simprocAttr]; rfl)), by (first | rfl | (simp only [go_sem, simprocAttr]; done) | (simp only [go_sem, simprocAttr]; rfl)), by (first | rfl | (simp only [go_sem, simprocAttr]; done) | (simp only [go_sem, simprocAttr]; rfl)), by (first | rfl | (simp only [r10, go_sem, simprocAttr]; done) | (simp only [r10, go_sem, simprocAttr]; rfl)), by rw [hfp]; exact hpk _ (by simp only [go_sem, simprocAttr, hk', k6, k7, k8, cRun]), _, _, _, by (first | rfl | (simp only [go_sem, simprocAttr]; done) | (simp only [go_sem, simprocAttr]; rfl)), by (first | rfl | (simp only [go_sem, simprocAttr]; done) | (simp only [go_sem, simprocAttr]; rfl)), by (first | rfl | (simp only [go_sem, simprocAttr]; done) | (simp only [go_sem, simprocAttr]; rfl)), by (first | rfl | (simp only [cCpl, go_sem, simprocAttr]; done) | (simp only [cCpl, go_sem, simprocAttr]; rfl)), by (first | rfl | (simp only [go_sem, simprocAttr]; done) | (simp only [go_sem, simprocAttr]; rfl)), by (first | rfl | (simp only [hlr, go_sem, simprocAttr]; done) | (simp only [hlr, go_sem, simprocAttr]; rfl))⟩
end Cp
namespace Cp
open Go
def tl (l : List Nat) : List (Int × Val) := l.map fun (i : Nat) => ((i : Int), Val.bool true)
theorem tl_snoc {l : List Nat} {i : Nat} : tl l ++ [((i : Int), .bool true)] = tl (l ++ [i]) := by simp [tl]
theorem tl_app {l l' : List Nat} : tl (l ++ l') = tl l ++ tl l' := by simp [tl]
@[go_sem] theorem tl_len {l : List Nat} : (tl l).length = l.length := by simp [tl]
theorem tl_get {l : List Nat} {i : Nat} : (tl l)[i]? = (l[i]?).map fun (i : Nat) => ((i : Int), Val.bool true) := by simp [tl]
theorem tl_not {l : List Nat} {i : Nat} (h : i ∉ l) : ∀ p ∈ tl l, p.1 ≠ (i : Int) := by
 intro p hp e
 simp only [tl, List.mem_map] at hp
 obtain ⟨j, hj, rfl⟩ := hp
 simp only at e
 obtain rfl : j = i := by omega
 exact h hj
theorem find_new {k : Nat} {l : List Nat} (h : k ∉ l) : findI (k : Int) (tl l) 0 = none := findI_none (tl_not h)
theorem find_mid {k : Nat} {l l' : List Nat} (h : k ∉ l) : findI (k : Int) (tl (l ++ k :: l')) 0 = some (l.length, .bool true) := by
 have : tl (l ++ k :: l') = tl l ++ ((k : Int), .bool true) :: tl l' := by simp [tl]
 rw [this, findI_mid (tl_not h), tl_len, Nat.zero_add]
theorem eraseI_mid {k : Nat} {l l' : List Nat} : (tl (l ++ k :: l')).eraseIdx l.length = tl (l ++ l') := by
 have e : tl (l ++ k :: l') = tl l ++ ((k : Int), .bool true) :: tl l' := by simp [tl]
 have := erase_mid (A := tl l) (x := ((k : Int), Val.bool true)) (B := tl l')
 rw [tl_len] at this
 rw [e, this, tl_app]
theorem wkFrom_app (m : Int) : ∀ (l : List Cpl) (k : Nat) (l' : List Cpl), wkFrom m k (l ++ l') = wkFrom m k l ++ wkFrom m (k + l.length) l'
 | [], k, l' => by simp [wkFrom]
 | c :: l, k, l' => by
  have ih := wkFrom_app m l (k + 1) l'
  have e : k + 1 + l.length = k + (c :: l).length := by simp only [List.length_cons]; omega
  rw [e] at ih
  simp only [List.cons_append, wkFrom, ih]
  split <;> rfl
theorem take_snoc' {α : Type} {l : List α} {k : Nat} {x : α} (h : l[k]? = some x) : l.take (k + 1) = l.take k ++ [x] := by
 obtain ⟨hk, rfl⟩ := List.getElem?_eq_some_iff.1 h
 simp [List.take_add_one]
def wkTo (r : RunT) (m : Int) (k : Nat) : List Nat := wkFrom m 0 (r.cpls.take k) ++ List.range' k (r.cpls.length - k)
theorem wkTo_zero {r : RunT} {m : Int} : wkTo r m 0 = List.range r.cpls.length := by simp [wkTo, wkFrom, List.range_eq_range']
theorem wkTo_end {r : RunT} {m : Int} : wkTo r m r.cpls.length = wk r m := by simp [wkTo, wk]
theorem wkTo_split {r : RunT} {m : Int} {k : Nat} (h : k < r.cpls.length) : wkTo r m k = wkFrom m 0 (r.cpls.take k) ++ k :: List.range' (k + 1) (r.cpls.length - (k + 1)) := by
 unfold wkTo
 rw [show r.cpls.length - k = (r.cpls.length - (k + 1)) + 1 by omega, List.range'_succ]
theorem wkTo_not {r : RunT} {m : Int} {k : Nat} : k ∉ wkFrom m 0 (r.cpls.take k) := by
 intro h
 obtain ⟨j, c, h1, h2, _⟩ := (wkFrom_mem _ _ _ _).1 h
 have := (List.getElem?_eq_some_iff.1 h2).1
 simp at this
 omega
theorem wkTo_stay {r : RunT} {m : Int} {k : Nat} {c : Cpl} (h : r.cpls[k]? = some c) (hw : works c m = true) : wkTo r m (k + 1) = wkTo r m k := by
 have hk := (List.getElem?_eq_some_iff.1 h).1
 rw [wkTo_split hk]
 unfold wkTo
 rw [take_snoc' h, wkFrom_app, List.append_assoc]
 have : (r.cpls.take k).length = k := by simp; omega
 simp [wkFrom, hw, this]
theorem wkTo_gone {r : RunT} {m : Int} {k : Nat} {c : Cpl} (h : r.cpls[k]? = some c) (hw : works c m = false) : wkTo r m (k + 1) = wkFrom m 0 (r.cpls.take k) ++ List.range' (k + 1) (r.cpls.length - (k + 1)) := by
 unfold wkTo
 rw [take_snoc' h, wkFrom_app]
 have : (r.cpls.take k).length = k := by have hk := (List.getElem?_eq_some_iff.1 h).1; simp; omega
 simp [wkFrom, hw]
end Cp
namespace Cp
open Go Go.Proofs
set_option maxRecDepth 10000
@[go_sem] theorem xfind_tl {i : Int} {l : List (Int × Val)} : xfind tab 3 (.int .i64 i) (imap .i64 l) 0 = some (findI i l 0) := xfind_imap tab_3 _ _
def Ptw (H : Hp) (fp : Val) (cs : List Val) : Prop := fp = .pim cs ∨ ∃ k e n, fp = .ptr k e n 0 0 ∧ H k = some (e, .arr n [cs]) ∧ k < 2000
theorem working_ok (r : RunT) (hF : RunF r) (rest : List Val) (H0 : Hp) (fp : Val) (hp : Ptw H0 fp (cRun r ++ rest)) (m : Int) :
  ACall Tryz.prog 101 [fp, .int .i64 m] H0 (fun v H' => ∃ e ver, v = .map 2009 e ∧ H' 2009 = some (e, .map ver (imap .i64 (tl (wk r m)))) ∧ ∀ k, k < 2000 → H' k = H0 k) := by
 refine ACall_of (fn := Tryz.f101) tabOK (by kernel_rfl) rfl (by kernel_rfl) (by simp [Tryz.f101]) ?_
 intro X hX0 hXs
 have hcl := hF.cpls
 refine AW_lose 2008 fun H1 g8 hs1 => ?_
 refine AW_lose 2009 fun H2 g9 hs2 => ?_
 have g8' : H2 2008 = none := by rw [hs2 _ (by decide), g8]
 have hlow : ∀ j, j < 2000 → H2 j = H0 j := fun j hj => by rw [hs2 _ (by omega), hs1 _ (by omega)]
 clear g8 hs1 hs2
 have hp' := hp
 rcases hp' with hfp | ⟨k, e, n, hfp, hk, hk2⟩
 ·repeat' (first | with_reducible (first | ((fail_if_success (refine AW_at (id := 3) ?_)); refine sk ?_; intro K hK) | intro (ep : Nat → Nat) | apply_assumption -exfalso -symm only [*]) | ((with_reducible refine rg (md := { base := 2000, own := [8, 9] }) (h := ?_)); try simp (disch := omega) only [hfp, cRun, g9, g8',go_sem, simprocAttr]) | fail)
  refine AW_range tabOK r.cpls.length (fun k f H => f 0 = fp ∧ f 1 = .int .i64 m ∧ (∀ j, j < 2000 → H j = H0 j) ∧ H 2008 = none ∧ ∃ e, f 5 = .map 2009 e ∧ ∃ ver, H 2009 = some (e, .map ver (imap .i64 (tl (List.range k))))) (by omega) (by rw [hXs]; decide) (by decide) (by (first | rfl | (simp only [go_sem, simprocAttr]; done) | (simp only [go_sem, simprocAttr]; rfl))) (by (first | rfl | (simp only [cRun, go_sem, simprocAttr]; done) | (simp only [cRun, go_sem, simprocAttr]; rfl)))
   ⟨by (first | rfl | (simp only [hfp, go_sem, simprocAttr]; done) | (simp only [hfp, go_sem, simprocAttr]; rfl)), by (first | rfl | (simp only [go_sem, simprocAttr]; done) | (simp only [go_sem, simprocAttr]; rfl)), fun j hj => by simp only [go_sem, simprocAttr]; rw [if_neg (by omega)]; exact hlow j hj, by (first | rfl | (simp only [g8', go_sem, simprocAttr]; done) | (simp only [g8', go_sem, simprocAttr]; rfl)), _, by (first | rfl | (simp only [go_sem, simprocAttr]; done) | (simp only [go_sem, simprocAttr]; rfl)), _, by (first | rfl | (simp only [go_sem, simprocAttr]; done) | (simp only [go_sem, simprocAttr]; rfl))⟩ ?_ ?_
  ·rintro k f H hk h16 h15 ⟨h0, h1, hlow, g8, e, h5, ver, hH9⟩
   have hnew : findI (k : Int) (tl (List.range k)) 0 = none := find_new (by simp)
   repeat' (first | with_reducible (first | (refine sk ?_; intro K hK) | intro (ep : Nat → Nat) | apply_assumption -exfalso -symm only [*]) | ((with_reducible refine rg (md := { base := 2000, own := [8, 9] }) (h := ?_)); try simp (disch := omega) only [h0, h1, h5, h15, h16, hH9, g8, hnew,go_sem, simprocAttr]) | fail)
   exact ⟨fun j hj => by rw [if_neg (by omega)]; exact hlow j hj, e, rfl, _, by rw [imap_snoc, tl_snoc]⟩
  ·rintro f H h16 h15 ⟨h0, h1, hlow, g8, e, h5, ver, hH9⟩
   rcases hp with hfp | ⟨k, e0, n, hfp, hk, hk2⟩
   ·have hkk : True := trivial
    repeat' (first | with_reducible (first | ((fail_if_success (refine AW_at (id := 8) ?_)); refine sk ?_; intro K hK) | apply_assumption -exfalso -symm only [*]) | ((with_reducible refine rg (md := { base := 2000, own := [8, 9] }) (h := ?_)); try simp (disch := omega) only [h0, h1, h5, hH9, g8, hfp, cRun,go_sem, simprocAttr]) | fail)
    refine AW_range tabOK r.cpls.length (fun k f H => f 1 = .int .i64 m ∧ f 26 = .lst 6 (r.cpls.map cCpl) ∧ (∀ j, j < 2000 → H j = H0 j) ∧ ∃ e, f 5 = .map 2009 e ∧ ∃ ver, H 2009 = some (e, .map ver (imap .i64 (tl (wkTo r m k))))) (by omega) (by rw [hXs]; decide) (by decide) (by (first | rfl | (simp only [go_sem, simprocAttr]; done) | (simp only [go_sem, simprocAttr]; rfl))) (by (first | rfl | (simp only [cRun, go_sem, simprocAttr]; done) | (simp only [cRun, go_sem, simprocAttr]; rfl)))
     ⟨by (first | rfl | (simp only [h1, go_sem, simprocAttr]; done) | (simp only [h1, go_sem, simprocAttr]; rfl)), by (first | rfl | (simp only [hfp, hkk, cRun, go_sem, simprocAttr]; done) | (simp only [hfp, hkk, cRun, go_sem, simprocAttr]; rfl)), hlow, _, by (first | rfl | (simp only [h5, go_sem, simprocAttr]; done) | (simp only [h5, go_sem, simprocAttr]; rfl)), _, by simp only [wkTo_zero]; (first | rfl | (simp only [hH9, go_sem, simprocAttr]; done) | (simp only [hH9, go_sem, simprocAttr]; rfl))⟩ ?_ ?_
    ·rintro k f H hk h28 h27 ⟨h1, h26, hlow, e, h5, ver, hH9⟩
     obtain ⟨x, hx⟩ : ∃ x, r.cpls[k]? = some x := ⟨_, List.getElem?_eq_getElem hk⟩
     refine AW_lose 2008 fun H1 g8 hs1 => ?_
     have hlow' : ∀ j, j < 2000 → H1 j = H0 j := fun j hj => by rw [hs1 _ (by omega), hlow _ hj]
     have hH9' : H1 2009 = some (e, .map ver (imap .i64 (tl (wkTo r m k)))) := by rw [hs1 _ (by decide), hH9]
     clear hs1 hlow hH9
     have hbk := (hF.cpl k x hx).2.2.2.1
     have hsp := wkTo_split (r := r) (m := m) hk
     have hw1 := @wkTo_stay r m k x hx
     have hw2 := @wkTo_gone r m k x hx
     have hnot := @wkTo_not r m k
     have hf := find_mid (l' := List.range' (k + 1) (r.cpls.length - (k + 1))) hnot
     rw [← hsp] at hf
     have he := @eraseI_mid k (wkFrom m 0 (r.cpls.take k)) (List.range' (k + 1) (r.cpls.length - (k + 1)))
     rw [← hsp] at he
     repeat' (first | with_reducible (first | (refine sk ?_; intro K hK) | intro (ep : Nat → Nat) | apply_assumption -exfalso -symm only [*]) | ((with_reducible first | refine rg (md := { base := 2000, own := [8, 9] }) (h := ?_) | refine nx ?_); try simp (disch := omega) only [h1, h5, h26, h27, h28, hH9', g8, hx, hf, he, imap_erase, cCpl,go_sem, simprocAttr]) | ((with_reducible refine' cE ?hv ?_ ?_); (case hv => rfl); all_goals (intro hc; (try simp only [go_sem, simprocAttr] at hc))) | ((with_reducible refine grdS_split ?_ ?_) <;> intro hg <;> (try simp (disch := omega) only [hg, h1, h5, h26, h27, h28, hH9', g8, hx, hf, he, imap_erase, cCpl,go_sem, simprocAttr]) <;> (try simp only [go_sem, simprocAttr] at hg) <;> (try (exfalso; omega))) | fail)
     ·exact ⟨fun j hj => by (repeat rw [if_neg (by omega)]); exact hlow' j hj, e, rfl, _, by rw [hw2 (by simp only [works, decide_eq_false_iff_not]; omega)]⟩
     ·exact ⟨fun j hj => by (repeat rw [if_neg (by omega)]); exact hlow' j hj, e, rfl, _, by rw [hw1 (by simp only [works, decide_eq_true_eq]; omega)]⟩
     ·exact ⟨fun j hj => by (repeat rw [if_neg (by omega)]); exact hlow' j hj, e, rfl, _, by rw [hw1 (by simp only [works, decide_eq_true_eq]; omega)]⟩
    ·rintro f H h28 h27 ⟨h1, h26, hlow, e, h5, ver, hH9⟩
     rw [wkTo_end] at hH9
     repeat' (first | with_reducible (first | (refine sk ?_; intro K hK) | apply_assumption -exfalso -symm only [*]) | ((with_reducible first | refine rg (md := { base := 2000, own := [8, 9] }) (h := ?_) | refine nx ?_); try simp (disch := omega) only [h1, h5, h26, h27, h28, hH9,go_sem, simprocAttr]) | fail)
     exact ⟨H, .map 2009 e, .refl H, (by (first | rfl | (simp only [Tryz.f101, go_sem, simprocAttr]; done) | (simp only [Tryz.f101, go_sem, simprocAttr]; rfl))), e, ver, by simp only [go_sem, simprocAttr], hH9, hlow⟩
   ·have hkk : H k = some (e0, .arr n [cRun r ++ rest]) := by rw [hlow k hk2, hk]
    have k8 : ¬ k = 2008 := by omega
    have k9 : ¬ k = 2009 := by omega
    repeat' (first | with_reducible (first | ((fail_if_success (refine AW_at (id := 8) ?_)); refine sk ?_; intro K hK) | apply_assumption -exfalso -symm only [*]) | ((with_reducible refine rg (md := { base := 2000, own := [8, 9] }) (h := ?_)); try simp (disch := omega) only [h0, h1, h5, hH9, g8, hfp, hkk, k8, k9, cRun,go_sem, simprocAttr]) | fail)
    refine AW_range tabOK r.cpls.length (fun k f H => f 1 = .int .i64 m ∧ f 26 = .lst 6 (r.cpls.map cCpl) ∧ (∀ j, j < 2000 → H j = H0 j) ∧ ∃ e, f 5 = .map 2009 e ∧ ∃ ver, H 2009 = some (e, .map ver (imap .i64 (tl (wkTo r m k))))) (by omega) (by rw [hXs]; decide) (by decide) (by (first | rfl | (simp only [go_sem, simprocAttr]; done) | (simp only [go_sem, simprocAttr]; rfl))) (by (first | rfl | (simp only [cRun, go_sem, simprocAttr]; done) | (simp only [cRun, go_sem, simprocAttr]; rfl)))
     ⟨by (first | rfl | (simp only [h1, go_sem, simprocAttr]; done) | (simp only [h1, go_sem, simprocAttr]; rfl)), by (first | rfl | (simp only [hfp, hkk, cRun, go_sem, simprocAttr]; done) | (simp only [hfp, hkk, cRun, go_sem, simprocAttr]; rfl)), hlow, _, by (first | rfl | (simp only [h5, go_sem, simprocAttr]; done) | (simp only [h5, go_sem, simprocAttr]; rfl)), _, by simp only [wkTo_zero]; (first | rfl | (simp only [hH9, go_sem, simprocAttr]; done) | (simp only [hH9, go_sem, simprocAttr]; rfl))⟩ ?_ ?_
    ·rintro k f H hk h28 h27 ⟨h1, h26, hlow, e, h5, ver, hH9⟩
     obtain ⟨x, hx⟩ : ∃ x, r.cpls[k]? = some x := ⟨_, List.getElem?_eq_getElem hk⟩
     refine AW_lose 2008 fun H1 g8 hs1 => ?_
     have hlow' : ∀ j, j < 2000 → H1 j = H0 j := fun j hj => by rw [hs1 _ (by omega), hlow _ hj]
     have hH9' : H1 2009 = some (e, .map ver (imap .i64 (tl (wkTo r m k)))) := by rw [hs1 _ (by decide), hH9]
     clear hs1 hlow hH9
     have hbk := (hF.cpl k x hx).2.2.2.1
     have hsp := wkTo_split (r := r) (m := m) hk
     have hw1 := @wkTo_stay r m k x hx
     have hw2 := @wkTo_gone r m k x hx
     have hnot := @wkTo_not r m k
     have hf := find_mid (l' := List.range' (k + 1) (r.cpls.length - (k + 1))) hnot
     rw [← hsp] at hf
     have he := @eraseI_mid k (wkFrom m 0 (r.cpls.take k)) (List.range' (k + 1) (r.cpls.length - (k + 1)))
     rw [← hsp] at he
     repeat' (first | with_reducible (first | (refine sk ?_; intro K hK) | intro (ep : Nat → Nat) | apply_assumption -exfalso -symm only [*]) | ((with_reducible first | refine rg (md := { base := 2000, own := [8, 9] }) (h := ?_) | refine nx ?_); try simp (disch := omega) only [h1, h5, h26, h27, h28, hH9', g8, hx, hf, he, imap_erase, cCpl,go_sem, simprocAttr]) | ((with_reducible refine' cE ?hv ?_ ?_); (case hv => rfl); all_goals (intro hc; (try simp only [go_sem, simprocAttr] at hc))) | ((with_reducible refine grdS_split ?_ ?_) <;> intro hg <;> (try simp (disch := omega) only [hg, h1, h5, h26, h27, h28, hH9', g8, hx, hf, he, imap_erase, cCpl,go_sem, simprocAttr]) <;> (try simp only [go_sem, simprocAttr] at hg) <;> (try (exfalso; omega))) | fail)
     ·exact ⟨fun j hj => by (repeat rw [if_neg (by omega)]); exact hlow' j hj, e, rfl, _, by rw [hw2 (by simp only [works, decide_eq_false_iff_not]; omega)]⟩
     ·exact ⟨fun j hj => by (repeat rw [if_neg (by omega)]); exact hlow' j hj, e, rfl, _, by rw [hw1 (by simp only [works, decide_eq_true_eq]; omega)]⟩
     ·exact ⟨fun j hj => by (repeat rw [if_neg (by omega)]); exact hlow' j hj, e, rfl, _, by rw [hw1 (by simp only [works, decide_eq_true_eq]; omega)]⟩
    ·rintro f H h28 h27 ⟨h1, h26, hlow, e, h5, ver, hH9⟩
     rw [wkTo_end] at hH9
     repeat' (first | with_reducible (first | (refine sk ?_; intro K hK) | apply_assumption -exfalso -symm only [*]) | ((with_reducible first | refine rg (md := { base := 2000, own := [8, 9] }) (h := ?_) | refine nx ?_); try simp (disch := omega) only [h1, h5, h26, h27, h28, hH9,go_sem, simprocAttr]) | fail)
     exact ⟨H, .map 2009 e, .refl H, (by (first | rfl | (simp only [Tryz.f101, go_sem, simprocAttr]; done) | (simp only [Tryz.f101, go_sem, simprocAttr]; rfl))), e, ver, by simp only [go_sem, simprocAttr], hH9, hlow⟩
 ·have hk' : H2 k = some (e, .arr n [cRun r ++ rest]) := by rw [hlow k hk2, hk]
  have k8 : ¬ k = 2008 := by omega
  have k9 : ¬ k = 2009 := by omega
  repeat' (first | with_reducible (first | ((fail_if_success (refine AW_at (id := 3) ?_)); refine sk ?_; intro K hK) | intro (ep : Nat → Nat) | apply_assumption -exfalso -symm only [*]) | ((with_reducible refine rg (md := { base := 2000, own := [8, 9] }) (h := ?_)); try simp (disch := omega) only [hfp, cRun, hk', k8, k9, g9, g8',go_sem, simprocAttr]) | fail)
  refine AW_range tabOK r.cpls.length (fun k f H => f 0 = fp ∧ f 1 = .int .i64 m ∧ (∀ j, j < 2000 → H j = H0 j) ∧ H 2008 = none ∧ ∃ e, f 5 = .map 2009 e ∧ ∃ ver, H 2009 = some (e, .map ver (imap .i64 (tl (List.range k))))) (by omega) (by rw [hXs]; decide) (by decide) (by (first | rfl | (simp only [go_sem, simprocAttr]; done) | (simp only [go_sem, simprocAttr]; rfl))) (by (first | rfl | (simp only [cRun, go_sem, simprocAttr]; done) | (simp only [cRun, go_sem, simprocAttr]; rfl)))
   ⟨by (first | rfl | (simp only [hfp, go_sem, simprocAttr]; done) | (simp only [hfp, go_sem, simprocAttr]; rfl)), by (first | rfl | (simp only [go_sem, simprocAttr]; done) | (simp only [go_sem, simprocAttr]; rfl)), fun j hj => by simp only [go_sem, simprocAttr]; rw [if_neg (by omega)]; exact hlow j hj, by (first | rfl | (simp only [g8', go_sem, simprocAttr]; done) | (simp only [g8', go_sem, simprocAttr]; rfl)), _, by (first | rfl | (simp only [go_sem, simprocAttr]; done) | (simp only [go_sem, simprocAttr]; rfl)), _, by (first | rfl | (simp only [go_sem, simprocAttr]; done) | (simp only [go_sem, simprocAttr]; rfl))⟩ ?_ ?_
  ·rintro k f H hk h16 h15 ⟨h0, h1, hlow, g8, e, h5, ver, hH9⟩
   have hnew : findI (k : Int) (tl (List.range k)) 0 = none := find_new (by simp)
   repeat' (first | with_reducible (first | (refine sk ?_; intro K hK) | intro (ep : Nat → Nat) | apply_assumption -exfalso -symm only [*]) | ((with_reducible refine rg (md := { base := 2000, own := [8, 9] }) (h := ?_)); try simp (disch := omega) only [h0, h1, h5, h15, h16, hH9, g8, hnew,go_sem, simprocAttr]) | fail)
   exact ⟨fun j hj => by rw [if_neg (by omega)]; exact hlow j hj, e, rfl, _, by rw [imap_snoc, tl_snoc]⟩
  ·rintro f H h16 h15 ⟨h0, h1, hlow, g8, e, h5, ver, hH9⟩
   rcases hp with hfp | ⟨k, e0, n, hfp, hk, hk2⟩
   ·have hkk : True := trivial
    repeat' (first | with_reducible (first | ((fail_if_success (refine AW_at (id := 8) ?_)); refine sk ?_; intro K hK) | apply_assumption -exfalso -symm only [*]) | ((with_reducible refine rg (md := { base := 2000, own := [8, 9] }) (h := ?_)); try simp (disch := omega) only [h0, h1, h5, hH9, g8, hfp, cRun,go_sem, simprocAttr]) | fail)
    refine AW_range tabOK r.cpls.length (fun k f H => f 1 = .int .i64 m ∧ f 26 = .lst 6 (r.cpls.map cCpl) ∧ (∀ j, j < 2000 → H j = H0 j) ∧ ∃ e, f 5 = .map 2009 e ∧ ∃ ver, H 2009 = some (e, .map ver (imap .i64 (tl (wkTo r m k))))) (by omega) (by rw [hXs]; decide) (by decide) (by (first | rfl | (simp only [go_sem, simprocAttr]; done) | (simp only [go_sem, simprocAttr]; rfl))) (by (first | rfl | (simp only [cRun, go_sem, simprocAttr]; done) | (simp only [cRun, go_sem, simprocAttr]; rfl)))
     ⟨by (first | rfl | (simp only [h1, go_sem, simprocAttr]; done) | (simp only [h1, go_sem, simprocAttr]; rfl)), by (first | rfl | (simp only [hfp, hkk, cRun, go_sem, simprocAttr]; done) | (simp only [hfp, hkk, cRun, go_sem, simprocAttr]; rfl)), hlow, _, by (first | rfl | (simp only [h5, go_sem, simprocAttr]; done) | (simp only [h5, go_sem, simprocAttr]; rfl)), _, by simp only [wkTo_zero]; (first | rfl | (simp only [hH9, go_sem, simprocAttr]; done) | (simp only [hH9, go_sem, simprocAttr]; rfl))⟩ ?_ ?_
    ·rintro k f H hk h28 h27 ⟨h1, h26, hlow, e, h5, ver, hH9⟩
     obtain ⟨x, hx⟩ : ∃ x, r.cpls[k]? = some x := ⟨_, List.getElem?_eq_getElem hk⟩
     refine AW_lose 2008 fun H1 g8 hs1 => ?_
     have hlow' : ∀ j, j < 2000 → H1 j = H0 j := fun j hj => by rw [hs1 _ (by omega), hlow _ hj]
     have hH9' : H1 2009 = some (e, .map ver (imap .i64 (tl (wkTo r m k)))) := by rw [hs1 _ (by decide), hH9]
     clear hs1 hlow hH9
     have hbk := (hF.cpl k x hx).2.2.2.1
     have hsp := wkTo_split (r := r) (m := m) hk
     have hw1 := @wkTo_stay r m k x hx
     have hw2 := @wkTo_gone r m k x hx
     have hnot := @wkTo_not r m k
     have hf := find_mid (l' := List.range' (k + 1) (r.cpls.length - (k + 1))) hnot
     rw [← hsp] at hf
     have he := @eraseI_mid k (wkFrom m 0 (r.cpls.take k)) (List.range' (k + 1) (r.cpls.length - (k + 1)))
     rw [← hsp] at he
     repeat' (first | with_reducible (first | (refine sk ?_; intro K hK) | intro (ep : Nat → Nat) | apply_assumption -exfalso -symm only [*]) | ((with_reducible first | refine rg (md := { base := 2000, own := [8, 9] }) (h := ?_) | refine nx ?_); try simp (disch := omega) only [h1, h5, h26, h27, h28, hH9', g8, hx, hf, he, imap_erase, cCpl,go_sem, simprocAttr]) | ((with_reducible refine' cE ?hv ?_ ?_); (case hv => rfl); all_goals (intro hc; (try simp only [go_sem, simprocAttr] at hc))) | ((with_reducible refine grdS_split ?_ ?_) <;> intro hg <;> (try simp (disch := omega) only [hg, h1, h5, h26, h27, h28, hH9', g8, hx, hf, he, imap_erase, cCpl,go_sem, simprocAttr]) <;> (try simp only [go_sem, simprocAttr] at hg) <;> (try (exfalso; omega))) | fail)
     ·exact ⟨fun j hj => by (repeat rw [if_neg (by omega)]); exact hlow' j hj, e, rfl, _, by rw [hw2 (by simp only [works, decide_eq_false_iff_not]; omega)]⟩
     ·exact ⟨fun j hj => by (repeat rw [if_neg (by omega)]); exact hlow' j hj, e, rfl, _, by rw [hw1 (by simp only [works, decide_eq_true_eq]; omega)]⟩
     ·exact ⟨fun j hj => by (repeat rw [if_neg (by omega)]); exact hlow' j hj, e, rfl, _, by rw [hw1 (by simp only [works, decide_eq_true_eq]; omega)]⟩
    ·rintro f H h28 h27 ⟨h1, h26, hlow, e, h5, ver, hH9⟩
     rw [wkTo_end] at hH9
     repeat' (first | with_reducible (first | (refine sk ?_; intro K hK) | apply_assumption -exfalso -symm only [*]) | ((with_reducible first | refine rg (md := { base := 2000, own := [8, 9] }) (h := ?_) | refine nx ?_); try simp (disch := omega) only [h1, h5, h26, h27, h28, hH9,go_sem, simprocAttr]) | fail)
     exact ⟨H, .map 2009 e, .refl H, (by (first | rfl | (simp only [Tryz.f101, go_sem, simprocAttr]; done) | (simp only [Tryz.f101, go_sem, simprocAttr]; rfl))), e, ver, by simp only [go_sem, simprocAttr], hH9, hlow⟩
   ·have hkk : H k = some (e0, .arr n [cRun r ++ rest]) := by rw [hlow k hk2, hk]
    have k8 : ¬ k = 2008 := by omega
    have k9 : ¬ k = 2009 := by omega
    repeat' (first | with_reducible (first | ((fail_if_success (refine AW_at (id := 8) ?_)); refine sk ?_; intro K hK) | apply_assumption -exfalso -symm only [*]) | ((with_reducible refine rg (md := { base := 2000, own := [8, 9] }) (h := ?_)); try simp (disch := omega) only [h0, h1, h5, hH9, g8, hfp, hkk, k8, k9, cRun,go_sem, simprocAttr]) | fail)
    refine AW_range tabOK r.cpls.length (fun k f H => f 1 = .int .i64 m ∧ f 26 = .lst 6 (r.cpls.map cCpl) ∧ (∀ j, j < 2000 → H j = H0 j) ∧ ∃ e, f 5 = .map 2009 e ∧ ∃ ver, H 2009 = some (e, .map ver (imap .i64 (tl (wkTo r m k))))) (by omega) (by rw [hXs]; decide) (by decide) (by (first | rfl | (simp only [go_sem, simprocAttr]; done) | (simp only [go_sem, simprocAttr]; rfl))) (by (first | rfl | (simp only [cRun, go_sem, simprocAttr]; done) | (simp only [cRun, go_sem, simprocAttr]; rfl)))
     ⟨by (first | rfl | (simp only [h1, go_sem, simprocAttr]; done) | (simp only [h1, go_sem, simprocAttr]; rfl)), by (first | rfl | (simp only [hfp, hkk, cRun, go_sem, simprocAttr]; done) | (simp only [hfp, hkk, cRun, go_sem, simprocAttr]; rfl)), hlow, _, by (first | rfl | (simp only [h5, go_sem, simprocAttr]; done) | (simp only [h5, go_sem, simprocAttr]; rfl)), _, by simp only [wkTo_zero]; (first | rfl | (simp only [hH9, go_sem, simprocAttr]; done) | (simp only [hH9, go_sem, simprocAttr]; rfl))⟩ ?_ ?_
    ·rintro k f H hk h28 h27 ⟨h1, h26, hlow, e, h5, ver, hH9⟩
     obtain ⟨x, hx⟩ : ∃ x, r.cpls[k]? = some x := ⟨_, List.getElem?_eq_getElem hk⟩
     refine AW_lose 2008 fun H1 g8 hs1 => ?_
     have hlow' : ∀ j, j < 2000 → H1 j = H0 j := fun j hj => by rw [hs1 _ (by omega), hlow _ hj]
     have hH9' : H1 2009 = some (e, .map ver (imap .i64 (tl (wkTo r m k)))) := by rw [hs1 _ (by decide), hH9]
     clear hs1 hlow hH9
     have hbk := (hF.cpl k x hx).2.2.2.1
     have hsp := wkTo_split (r := r) (m := m) hk
     have hw1 := @wkTo_stay r m k x hx
     have hw2 := @wkTo_gone r m k x hx
     have hnot := @wkTo_not r m k
     have hf := find_mid (l' := List.range' (k + 1) (r.cpls.length - (k + 1))) hnot
     rw [← hsp] at hf
     have he := @eraseI_mid k (wkFrom m 0 (r.cpls.take k)) (List.range' (k + 1) (r.cpls.length - (k + 1)))
     rw [← hsp] at he
     repeat' (first | with_reducible (first | (refine sk ?_; intro K hK) | intro (ep : Nat → Nat) | apply_assumption -exfalso -symm only [*]) | ((with_reducible first | refine rg (md := { base := 2000, own := [8, 9] }) (h := ?_) | refine nx ?_); try simp (disch := omega) only [h1, h5, h26, h27, h28, hH9', g8, hx, hf, he, imap_erase, cCpl,go_sem, simprocAttr]) | ((with_reducible refine' cE ?hv ?_ ?_); (case hv => rfl); all_goals (intro hc; (try simp only [go_sem, simprocAttr] at hc))) | ((with_reducible refine grdS_split ?_ ?_) <;> intro hg <;> (try simp (disch := omega) only [hg, h1, h5, h26, h27, h28, hH9', g8, hx, hf, he, imap_erase, cCpl,go_sem, simprocAttr]) <;> (try simp only [go_sem, simprocAttr] at hg) <;> (try (exfalso; omega))) | fail)
     ·exact ⟨fun j hj => by (repeat rw [if_neg (by omega)]); exact hlow' j hj, e, rfl, _, by rw [hw2 (by simp only [works, decide_eq_false_iff_not]; omega)]⟩
     ·exact ⟨fun j hj => by (repeat rw [if_neg (by omega)]); exact hlow' j hj, e, rfl, _, by rw [hw1 (by simp only [works, decide_eq_true_eq]; omega)]⟩
     ·exact ⟨fun j hj => by (repeat rw [if_neg (by omega)]); exact hlow' j hj, e, rfl, _, by rw [hw1 (by simp only [works, decide_eq_true_eq]; omega)]⟩
    ·rintro f H h28 h27 ⟨h1, h26, hlow, e, h5, ver, hH9⟩
     rw [wkTo_end] at hH9
     repeat' (first | with_reducible (first | (refine sk ?_; intro K hK) | apply_assumption -exfalso -symm only [*]) | ((with_reducible first | refine rg (md := { base := 2000, own := [8, 9] }) (h := ?_) | refine nx ?_); try simp (disch := omega) only [h1, h5, h26, h27, h28, hH9,go_sem, simprocAttr]) | fail)
     exact ⟨H, .map 2009 e, .refl H, (by (first | rfl | (simp only [Tryz.f101, go_sem, simprocAttr]; done) | (simp only [Tryz.f101, go_sem, simprocAttr]; rfl))), e, ver, by simp only [go_sem, simprocAttr], hH9, hlow⟩
end Cp
namespace Cp
open Go
set_option maxRecDepth 10000
@[go_sem] theorem splice2 {a b c d : Val} : splice [a, b] 0 [c, d] = [c, d] := rfl
theorem splice_len {es vs : List Val} {j : Nat} (h : j + vs.length ≤ es.length) : (splice es j vs).length = es.length := by
 simp only [splice, List.length_append, List.length_take, List.length_drop]; omega
theorem splice_mem {es vs : List Val} {j : Nat} {v : Val} (h : v ∈ splice es j vs) : v ∈ es ∨ v ∈ vs := by
 simp only [splice, List.mem_append] at h
 rcases h with (h | h) | h
 ·exact .inl (List.mem_of_mem_take h)
 ·exact .inr h
 ·exact .inl (List.mem_of_mem_drop h)
theorem drop_splice {es vs : List Val} {j : Nat} (h : j ≤ es.length) : (splice es j vs).drop j = vs ++ es.drop (j + vs.length) := by
 have e : (es.take j).length = j := by simp; omega
 unfold splice
 rw [List.append_assoc, List.drop_append, e, List.drop_of_length_le (by omega), Nat.sub_self]
 rfl
theorem splice_get3 {es vs : List Val} {j i : Nat} (h : j + vs.length ≤ es.length) : (splice es j vs)[i]? = if i < j then es[i]? else if i < j + vs.length then vs[i - j]? else es[i]? := by
 have e : (es.take j).length = j := by simp; omega
 unfold splice
 rw [List.append_assoc, List.getElem?_append, e]
 by_cases h1 : i < j
 ·rw [if_pos h1, if_pos h1, List.getElem?_take, if_pos h1]
 ·rw [if_neg h1, if_neg h1, List.getElem?_append]
  by_cases h2 : i < j + vs.length
  ·rw [if_pos (by omega), if_pos h2]
  ·rw [if_neg (by omega), if_neg h2, List.getElem?_drop]
   congr 1; omega
theorem splice_app {es es' vs : List Val} {j : Nat} (h : es.length ≤ j) : splice (es ++ es') j vs = es ++ splice es' (j - es.length) vs := by
 unfold splice
 rw [List.take_append, List.take_of_length_le h, List.drop_append, List.drop_of_length_le (by omega)]
 simp only [List.append_assoc, List.nil_append]
 rw [show j + vs.length - es.length = j - es.length + vs.length by omega]
def fireAt (r : RunT) : Nat → List Val
 | 0 => cRun r ++ (List.replicate 122 (.int .i64 0) ++ List.replicate 61 (.bool false))
 | k + 1 =>
  if 0 < (wk r ((k + 1 : Nat) : Int)).length then splice (splice (fireAt r k) (128 + (k + 1)) [.bool true]) (6 + (k + 1) * 2) [.int .i64 (meanS r ((k + 1 : Nat) : Int)).lo, .int .i64 (meanS r ((k + 1 : Nat) : Int)).hi]
  else splice (fireAt r k) (128 + (k + 1)) [.bool false]
theorem fireAt_len {r : RunT} : ∀ {k : Nat}, k ≤ 60 → (fireAt r k).length = 189
 | 0, _ => by simp [fireAt, cRun]
 | k + 1, h => by
  have ih := @fireAt_len r k (by omega)
  have e : ∀ v, (splice (fireAt r k) (128 + (k + 1)) [v]).length = 189 := fun v => by rw [splice_len (by simp only [List.length_cons, List.length_nil]; omega), ih]
  simp only [fireAt]
  split
  ·rw [splice_len (by rw [e]; simp only [List.length_cons, List.length_nil]; omega), e]
  ·exact e _
theorem fireAt_run {r : RunT} : ∀ {k : Nat}, ∃ rest, fireAt r k = cRun r ++ rest
 | 0 => ⟨_, rfl⟩
 | k + 1 => by
  obtain ⟨rest, e⟩ := @fireAt_run r k
  have h6 : (cRun r).length = 6 := rfl
  simp only [fireAt, e]
  split
  ·exact ⟨_, by rw [splice_app (by rw [h6]; omega), splice_app (by rw [h6]; omega)]⟩
  ·exact ⟨_, by rw [splice_app (by rw [h6]; omega)]⟩
def stillCell (v : Val) : Prop := noid v = true ∧ ∀ H, fzd H 5 v = v
theorem still_int {k : IntKind} {n : Int} : stillCell (.int k n) := ⟨rfl, fun _ => rfl⟩
theorem still_bool {b : Bool} : stillCell (.bool b) := ⟨rfl, fun _ => rfl⟩
theorem fireAt_still {r : RunT} : ∀ {k : Nat} (v : Val), v ∈ fireAt r k → stillCell v
 | 0, v, h => by
  simp only [fireAt, cRun, List.mem_append, List.mem_cons, List.not_mem_nil, or_false, List.mem_replicate] at h
  rcases h with (rfl | rfl | rfl | rfl | rfl | rfl) | h | h
  all_goals first | exact still_int | skip
  ·exact ⟨by simp only [noid, cPt_noid], fun H => by simp only [fzd_lst, fzd_cPt]⟩
  ·exact ⟨by simp only [noid, cCpl_noid], fun H => by simp only [fzd_lst, fzd_cCpl]⟩
  ·exact ⟨by simp only [noid, cRow_noid], fun H => by simp only [fzd_lst, fzd_cRow]⟩
  ·rw [h.2]; exact still_int
  ·rw [h.2]; exact still_bool
 | k + 1, v, h => by
  have ih := @fireAt_still r k
  have one : ∀ b, v ∈ splice (fireAt r k) (128 + (k + 1)) [.bool b] → stillCell v := fun b h => by
   rcases splice_mem h with h | h
   ·exact ih v h
   ·simp at h; subst h; exact still_bool
  simp only [fireAt] at h
  split at h
  ·rcases splice_mem h with h | h
   ·exact one _ h
   ·simp at h; rcases h with rfl | rfl <;> exact still_int
  ·exact one _ h
theorem noids_still : ∀ {l : List Val}, (∀ v ∈ l, stillCell v) → noids l = true
 | [], _ => rfl
 | v :: l, h => by
  have ih := @noids_still l fun u hu => h u (List.mem_cons_of_mem _ hu)
  simp only [noids, (h v (by simp)).1, ih, Bool.and_self]
theorem fzd_still {H : Hp} {l : List Val} (h : ∀ v ∈ l, stillCell v) : l.map (fzd H 5) = l := by
 conv => rhs; rw [← List.map_id l]
 exact List.map_congr_left fun v hv => (h v hv).2 H
def lfI (r : RunT) (m : Int) (left : List Nat) : List Nat := left.map fun p => (wk r m).getD p 0
theorem lf_all {r : RunT} {m : Int} : lfI r m (List.range (wk r m).length) = wk r m := by
 unfold lfI
 apply List.ext_getElem?
 intro i
 rw [List.getElem?_map]
 by_cases h : i < (wk r m).length
 ·rw [List.getElem?_range h]; simp [List.getD, h]
 ·rw [List.getElem?_eq_none (by simp; omega), List.getElem?_eq_none (by omega)]; rfl
theorem sumLo_perm {r : RunT} {m : Int} {a b : List Nat} (h : a.Perm b) : sumLo r m a = sumLo r m b ∧ sumHi r m a = sumHi r m b := by
 induction h with
 | nil => exact ⟨rfl, rfl⟩
 | cons x _ ih => simp only [sumLo, sumHi, ih.1, ih.2, and_self]
 | swap x y l => simp only [sumLo, sumHi]; omega
 | trans _ _ ih1 ih2 => exact ⟨ih1.1.trans ih2.1, ih1.2.trans ih2.2⟩
theorem lf_take {r : RunT} {m : Int} {left : List Nat} {p w : Nat} {c : Cpl} (h : p ∈ left) (hw : (wk r m)[p]? = some w) (hc : r.cpls[w]? = some c) :
  sumLo r m (lfI r m left) = (truth r c w m).lo + sumLo r m (lfI r m (left.erase p)) ∧ sumHi r m (lfI r m left) = (truth r c w m).hi + sumHi r m (lfI r m (left.erase p)) := by
 have e := sumLo_perm (r := r) (m := m) ((List.perm_cons_erase h).map fun p => (wk r m).getD p 0)
 have e2 : (wk r m).getD p 0 = w := by simp [List.getD, hw]
 simp only [List.map_cons, e2, sumLo, sumHi, hc] at e
 exact e
theorem lf_mem {r : RunT} {m : Int} {left : List Nat} (h : ∀ p ∈ left, p < (wk r m).length) : ∀ i ∈ lfI r m left, i ∈ wk r m := by
 intro i hi
 simp only [lfI, List.mem_map] at hi
 obtain ⟨p, hp, rfl⟩ := hi
 have := h p hp
 simp [List.getD, this]
@[go_sem] theorem lf_len {r : RunT} {m : Int} {left : List Nat} : (lfI r m left).length = left.length := by simp [lfI]
end Cp
namespace Cp
open Go
theorem warm_get {r : RunT} {m : Nat} (h1 : 1 ≤ m) : ∀ {n : Nat}, m ≤ n → n ≤ 60 → (fireAt r n)[128 + m]? = some (.bool (decide (0 < (wk r (m : Int)).length)))
 | 0, h, _ => by omega
 | n + 1, h, h60 => by
  have hl := @fireAt_len r n (by omega)
  have e : ∀ b, (splice (fireAt r n) (128 + (n + 1)) [.bool b])[128 + m]? = if m = n + 1 then some (.bool b) else (fireAt r n)[128 + m]? := fun b => by
   rw [splice_get3 (by simp only [List.length_cons, List.length_nil]; omega)]
   by_cases hm : m = n + 1
   ·subst hm; rw [if_neg (by omega), if_pos (by simp), if_pos rfl, Nat.sub_self]; rfl
   ·rw [if_pos (by omega), if_neg hm]
  have hl1 : ∀ b, (splice (fireAt r n) (128 + (n + 1)) [.bool b]).length = 189 := fun b => by rw [splice_len (by simp only [List.length_cons, List.length_nil]; omega), hl]
  simp only [fireAt]
  by_cases hz : 0 < (wk r ((n + 1 : Nat) : Int)).length
  ·rw [if_pos hz, splice_get3 (by rw [hl1]; simp only [List.length_cons, List.length_nil]; omega), if_neg (by omega), if_neg (by simp only [List.length_cons, List.length_nil]; omega), e]
   by_cases hm : m = n + 1
   ·subst hm; rw [if_pos rfl, decide_eq_true hz]
   ·rw [if_neg hm, warm_get h1 (by omega) (by omega)]
  ·rw [if_neg hz, e]
   by_cases hm : m = n + 1
   ·subst hm; rw [if_pos rfl, decide_eq_false hz]
   ·rw [if_neg hm, warm_get h1 (by omega) (by omega)]
theorem mean_get {r : RunT} {m : Nat} (h1 : 1 ≤ m) (hw : 0 < (wk r (m : Int)).length) : ∀ {n : Nat}, m ≤ n → n ≤ 60 → (fireAt r n)[6 + m * 2]? = some (.int .i64 (meanS r (m : Int)).lo) ∧ (fireAt r n)[6 + m * 2 + 1]? = some (.int .i64 (meanS r (m : Int)).hi)
 | 0, h, _ => by omega
 | n + 1, h, h60 => by
  have hl := @fireAt_len r n (by omega)
  have e : ∀ b i, i < 128 → (splice (fireAt r n) (128 + (n + 1)) [.bool b])[i]? = (fireAt r n)[i]? := fun b i hi => by
   rw [splice_get3 (by simp only [List.length_cons, List.length_nil]; omega), if_pos (by omega)]
  have hl1 : ∀ b, (splice (fireAt r n) (128 + (n + 1)) [.bool b]).length = 189 := fun b => by rw [splice_len (by simp only [List.length_cons, List.length_nil]; omega), hl]
  simp only [fireAt]
  by_cases hz : 0 < (wk r ((n + 1 : Nat) : Int)).length
  ·have g : ∀ i, (splice (splice (fireAt r n) (128 + (n + 1)) [.bool true]) (6 + (n + 1) * 2) [.int .i64 (meanS r ((n + 1 : Nat) : Int)).lo, .int .i64 (meanS r ((n + 1 : Nat) : Int)).hi])[i]? = if i < 6 + (n + 1) * 2 then (splice (fireAt r n) (128 + (n + 1)) [.bool true])[i]? else if i < 6 + (n + 1) * 2 + 2 then [Val.int .i64 (meanS r ((n + 1 : Nat) : Int)).lo, .int .i64 (meanS r ((n + 1 : Nat) : Int)).hi][i - (6 + (n + 1) * 2)]? else (splice (fireAt r n) (128 + (n + 1)) [.bool true])[i]? := fun i =>
    splice_get3 (by rw [hl1]; simp only [List.length_cons, List.length_nil]; omega)
   rw [if_pos hz, g, g]
   by_cases hm : m = n + 1
   ·subst hm
    refine ⟨?_, ?_⟩
    ·rw [if_neg (by omega), if_pos (by omega), Nat.sub_self]; rfl
    ·rw [if_neg (by omega), if_pos (by omega), show 6 + (n + 1) * 2 + 1 - (6 + (n + 1) * 2) = 1 by omega]; rfl
   ·have ih := mean_get h1 hw (n := n) (by omega) (by omega)
    refine ⟨?_, ?_⟩
    ·rw [if_pos (by omega), e _ _ (by omega)]; exact ih.1
    ·rw [if_pos (by omega), e _ _ (by omega)]; exact ih.2
  ·by_cases hm : m = n + 1
   ·subst hm; exact absurd hw hz
   ·rw [if_neg hz, e _ _ (by omega), e _ _ (by omega)]
    exact mean_get h1 hw (by omega) (by omega)
end Cp
namespace Cp
open Go Go.Proofs
set_option maxRecDepth 10000
theorem open_ok (r : RunT) (hF : RunF r) : PureC Tryz.prog 80 [encRun r] (.pim (fireAt r r.rows.length)) := by
 have hcl := hF.cpls
 have hrl := hF.rows
 have hnn : noids (fireAt r r.rows.length) = true := noids_still fireAt_still
 refine PureC_of (fn := Tryz.f80) tabOK (by kernel_rfl) rfl (by kernel_rfl) (by simp [Tryz.f80]) (by simp [noids, noid, noidss, go_sem, encRun, cRun, hnn]) (by first | rfl | simp [noids, noid, noidss, go_sem, encRun, cRun, hnn]) ?_
 intro X hX0 hXs
 repeat' (first | with_reducible (first | ((fail_if_success (refine AW_at (id := 3) ?_)); refine sk ?_; intro K hK) | intro (ep : Nat → Nat) | apply_assumption -exfalso -symm only [*]) | ((with_reducible refine rgL [] [31] (md := { base := 0, own := [6, 10, 22], imp := [20] }) (h := ?_)); try simp (disch := omega) only [encRun, cRun,go_sem, simprocAttr]) | fail)
 refine AW_block (AW_loop (fun n f H => ∃ k : Nat, n = r.rows.length - k ∧ k ≤ r.rows.length ∧ (f 1 = .pim (cRun r) ∧ f 4 = .int .i64 ((k + 1 : Nat) : Int)) ∧ ∃ e10, f 3 = .ptr 10 e10 189 0 0 ∧ H 10 = some (e10, .arr 189 [fireAt r k]) ∧ Room H 1000 100) r.rows.length
  ⟨0, by simp, Nat.zero_le _, by (and_intros <;> first | rfl | (simp only [cRun, go_sem, simprocAttr]; done) | (simp only [cRun, go_sem, simprocAttr]; rfl)), _, by (first | rfl | (simp only [go_sem, simprocAttr]; done) | (simp only [go_sem, simprocAttr]; rfl)), by simp only [go_sem, simprocAttr]; rfl, fun d hd => by simp only [go_sem, simprocAttr]; rw [if_neg (by omega)]⟩ ?_)
 rintro n f H ⟨k, rfl, hk, ⟨h1, h4⟩, e10, h3, hH10, hroom⟩
 by_cases hlt : k < r.rows.length
 ·refine AW_lose 6 fun H1 g6 hs1 => ?_
  refine AW_lose 22 fun H2 g22 hs2 => ?_
  have g6' : H2 6 = none := by rw [hs2 _ (by decide), g6]
  have hH10' : H2 10 = some (e10, .arr 189 [fireAt r k]) := by rw [hs2 _ (by decide), hs1 _ (by decide), hH10]
  have hroom' : Room H2 1000 100 := fun d hd => by rw [hs2 _ (by omega), hs1 _ (by omega)]; exact hroom d hd
  clear hs1 hs2 g6 hroom hH10
  obtain ⟨rest, hrest⟩ := @fireAt_run r k
  repeat' (first | with_reducible (first | (refine sk ?_; intro K hK) | refine bk ?_ | apply_assumption -exfalso -symm only [*]) | ((with_reducible first | refine rgL [] [31] (md := { base := 0, own := [6, 10, 22], imp := [20] }) (h := ?_) | refine nx ?_); try simp (disch := omega) only [h1, h3, h4, hH10', g6', g22, cRun,go_sem, simprocAttr]) | ((with_reducible refine' cE ?hv ?_ ?_); (case hv => rfl); all_goals (intro hc; (try simp only [go_sem, simprocAttr] at hc); try (exfalso; omega))) | refine iK (working_ok r hF rest _ _ (.inr ⟨10, e10, 189, rfl, by simp only [go_sem, simprocAttr, hH10', hrest], by decide⟩) _) ?_ | fail)
  rintro v H3 ⟨em, ver, rfl, hmap, hs3⟩
  have g6 : H3 6 = none := by rw [hs3 _ (by decide), g6']
  have g22' : H3 22 = none := by rw [hs3 _ (by decide), g22]
  have hH10 : H3 10 = some (e10, .arr 189 [fireAt r k]) := by rw [hs3 _ (by decide), hH10']
  have hroom : Room H3 1000 100 := fun d hd => by rw [hs3 _ (by omega)]; exact hroom' d hd
  clear hs3 g6' g22 hH10' hroom'
  have hwl := @wk_len r ((k + 1 : Nat) : Int)
  simp only [go_sem, simprocAttr]
  repeat' (first | with_reducible (first | (refine sk ?_; intro K hK) | intro (ep : Nat → Nat) | apply_assumption -exfalso -symm only [*]) | ((with_reducible refine rgL [] [31] (md := { base := 0, own := [6, 10, 22], imp := [20] }) (h := ?_)); try simp (disch := omega) only [h1, h3, h4, hH10, hmap, g6, g22', cRun,go_sem, simprocAttr]) | fail)
  refine AW_block (AW_loop (fun n f H => ∃ left : List Nat, n = left.length ∧ left.length ≤ (wk r ((k + 1 : Nat) : Int)).length ∧ (∀ p ∈ left, p < (wk r ((k + 1 : Nat) : Int)).length) ∧ (f 1 = .pim (cRun r) ∧ f 3 = .ptr 10 e10 189 0 0 ∧ f 4 = .int .i64 ((k + 1 : Nat) : Int) ∧ f 5 = .map 2009 em ∧ H 10 = some (e10, .arr 189 [fireAt r k]) ∧ H 2009 = some (em, .map ver (imap .i64 (tl (wk r ((k + 1 : Nat) : Int)))))) ∧ Room H 1000 100 ∧
    ∃ x y e6 e22 cur, f 6 = .ptr 6 e6 2 0 0 ∧ H 6 = some (e6, .arr 2 [[.int .i64 x, .int .i64 y]]) ∧ f 22 = .itr 22 e22 ∧ H 22 = some (e22, .itr 2009 em ver left cur) ∧
     x + sumLo r ((k + 1 : Nat) : Int) (lfI r ((k + 1 : Nat) : Int) left) = sumLo r ((k + 1 : Nat) : Int) (wk r ((k + 1 : Nat) : Int)) ∧ y + sumHi r ((k + 1 : Nat) : Int) (lfI r ((k + 1 : Nat) : Int) left) = sumHi r ((k + 1 : Nat) : Int) (wk r ((k + 1 : Nat) : Int))) (wk r ((k + 1 : Nat) : Int)).length
   ⟨List.range (wk r ((k + 1 : Nat) : Int)).length, by simp, by simp, by simp, by (and_intros <;> first | rfl | (simp only [h1, h3, h4, hH10, hmap, cRun, go_sem, simprocAttr]; done) | (simp only [h1, h3, h4, hH10, hmap, cRun, go_sem, simprocAttr]; rfl)), fun d hd => by simp only [go_sem, simprocAttr]; rw [if_neg (by omega), if_neg (by omega)]; exact hroom d hd, 0, 0, _, _, _, by (first | rfl | (simp only [go_sem, simprocAttr]; done) | (simp only [go_sem, simprocAttr]; rfl)), by (first | rfl | (simp only [go_sem, simprocAttr]; done) | (simp only [go_sem, simprocAttr]; rfl)), by (first | rfl | (simp only [go_sem, simprocAttr]; done) | (simp only [go_sem, simprocAttr]; rfl)), by (first | rfl | (simp only [go_sem, simprocAttr]; done) | (simp only [go_sem, simprocAttr]; rfl)), by rw [lf_all]; omega, by rw [lf_all]; omega⟩ ?_)
  clear g6 g22' hH10 hroom h1 h3 h4 hmap
  rintro n f H ⟨left, rfl, hll, hlt2, ⟨h1, h3, h4, h5, hH10, hmap⟩, hroom, x, y, e6, e22, cur, h6, hH6, h22, hH22, hx, hy⟩
  have hm1 : (1 : Int) ≤ ((k + 1 : Nat) : Int) ∧ ((k + 1 : Nat) : Int) ≤ r.rows.length := by omega
  have hsb := sum_bounds hF hm1.1 hm1.2 (lfI r ((k + 1 : Nat) : Int) left) (lf_mem hlt2)
  have hst := sum_bounds hF hm1.1 hm1.2 (wk r ((k + 1 : Nat) : Int)) (fun j hj => hj)
  rw [lf_len] at hsb
  repeat' (first | with_reducible (refine sk ?_; intro K hK) | ((with_reducible refine AW_regN (id := 8) tabOK { base := 0, own := [6, 10, 22], imp := [20] } [] [31] (by rw [hXs]; decide +kernel) ?_); try simp (disch := omega) only [h1, h3, h4, h5, h6, h22, hH10, hH6, hH22, hmap, cRun,go_sem, simprocAttr]) | fail)
  refine ⟨fun hl => ?_, fun p hp a v hav => ?_⟩
  ·subst hl
   simp only [lfI, List.map_nil, sumLo, sumHi, Int.add_zero] at hx hy
   subst hx hy
   have hfl := @fireAt_len r k (by omega)
   have h61 : k + 1 < 61 := by omega
   have h188 : 128 + (k + 1) * 1 ≤ 188 := by omega
   have h187 : 6 + (k + 1) * 2 ≤ 187 := by omega
   have hds : ∀ v, (splice (fireAt r k) (128 + (k + 1) * 1) [v]).drop (128 + (k + 1) * 1) = v :: (fireAt r k).drop (128 + (k + 1) * 1 + 1) := fun v => drop_splice (by omega)
   have hlen1 : ∀ v, (splice (fireAt r k) (128 + (k + 1) * 1) [v]).length = 189 := fun v => by rw [splice_len (by simp only [List.length_cons, List.length_nil]; omega), hfl]
   by_cases hz : 0 < (wk r ((k + 1 : Nat) : Int)).length
   ·obtain ⟨q1, q2, q3⟩ := quo840 (n := (wk r ((k + 1 : Nat) : Int)).length) (by omega) (by omega)
    have hz0 : (0 : Int) < ((wk r ((k + 1 : Nat) : Int)).length : Int) := by omega
    have hzn : ¬ ((wk r ((k + 1 : Nat) : Int)).length : Int) = 0 := by omega
    repeat' (first | with_reducible (first | (refine sk ?_; intro K hK) | apply_assumption -exfalso -symm only [*]) | ((first | (with_reducible first | refine rgL [] [31] (md := { base := 0, own := [6, 10, 22], imp := [20] }) (h := ?_) | refine nx ?_) | refine pK (times_ok ⟨sumLo r ((k + 1 : Nat) : Int) (wk r ((k + 1 : Nat) : Int)), sumHi r ((k + 1 : Nat) : Int) (wk r ((k + 1 : Nat) : Int))⟩ _ (by simp only; omega)) ?_); try simp (disch := omega) only [h1, h3, h4, h5, h6, h22, hH10, hH6, hH22, hmap, hfl, h61, h188, h187, hds, hlen1, hz0, hzn, q1, cRun, encSpan,go_sem, simprocAttr]) | ((with_reducible refine' cE ?hv ?_ ?_); (case hv => rfl); all_goals (intro hc; (try simp only [go_sem, simprocAttr] at hc))) | fail)
    exact ⟨r.rows.length - (k + 1), by omega, k + 1, rfl, by omega, rfl, e10, rfl, by simp only [fireAt, if_pos hz, Nat.mul_one, meanS], fun d hd => by rw [upd_ne _ _ (by omega), upd_ne _ _ (by omega)]; exact hroom d hd⟩
   ·have hz0 : ¬ (0 : Int) < ((wk r ((k + 1 : Nat) : Int)).length : Int) := by omega
    repeat' (first | with_reducible (first | (refine sk ?_; intro K hK) | apply_assumption -exfalso -symm only [*]) | ((with_reducible first | refine rgL [] [31] (md := { base := 0, own := [6, 10, 22], imp := [20] }) (h := ?_) | refine nx ?_); try simp (disch := omega) only [h1, h3, h4, h5, h6, h22, hH10, hH6, hH22, hmap, hfl, h61, h188, h187, hds, hlen1, hz0, cRun,go_sem, simprocAttr]) | ((with_reducible refine' cE ?hv ?_ ?_); (case hv => rfl); all_goals (intro hc; (try simp only [go_sem, simprocAttr] at hc))) | fail)
    exact ⟨r.rows.length - (k + 1), by omega, k + 1, rfl, by omega, rfl, e10, rfl, by simp only [fireAt, if_neg hz, Nat.mul_one], fun d hd => by rw [upd_ne _ _ (by omega)]; exact hroom d hd⟩
  ·obtain ⟨w, hw⟩ : ∃ w, (wk r ((k + 1 : Nat) : Int))[p]? = some w := ⟨_, List.getElem?_eq_getElem (hlt2 p hp)⟩
   obtain ⟨c, hcc, hwk⟩ := wk_mem.1 (List.mem_of_getElem? hw)
   obtain ⟨e1, e2⟩ := lf_take hp hw hcc
   have htb := truth_bounds hF hcc hm1.1 hm1.2 hwk
   have hle := List.length_erase_of_mem hp
   have hpos := List.length_pos_of_mem hp
   have hg : (tl (wk r ((k + 1 : Nat) : Int)))[p]? = some ((w : Int), .bool true) := by rw [tl_get, hw]; rfl
   rw [hg] at hav
   simp only [Option.map_some, Option.some.injEq, Prod.mk.injEq] at hav
   obtain ⟨rfl, rfl⟩ := hav
   rw [e1] at hx
   rw [e2] at hy
   repeat' (first | with_reducible (first | (refine sk ?_; intro K hK) | refine bk ?_ | apply_assumption -exfalso -symm only [*]) | ((with_reducible first | refine AW_regN (id := 9) tabOK { base := 0, own := [6, 10, 22], imp := [20] } [] [31] (by rw [hXs]; decide +kernel) ?_ | refine nx ?_); try simp (disch := omega) only [h1, h3, h4, h5, h6, h22, hH10, hH6, hH22, hmap, hg, cRun,go_sem, simprocAttr]) | ((with_reducible refine' cE ?hv ?_ ?_); (case hv => rfl); all_goals (intro hc; (try simp only [go_sem, simprocAttr] at hc))) | fail)
   refine ⟨_, _, rfl, ?_⟩
   have hroom2 : ∀ q, Room (upd H 22 q) 1000 100 := fun q d hd => by rw [upd_ne _ _ (by omega)]; exact hroom d hd
   have hpts : ∀ q, Pts (upd H 22 q) (.ptr 10 e10 189 0 0) (cRun r ++ rest) := fun q => .inr ⟨10, e10, 189, rfl, by unfold frzH; rw [upd_ne _ _ (by decide), hH10, hrest]; rfl⟩
   repeat' (first | with_reducible apply_assumption -exfalso -symm only [*] | ((first | (with_reducible refine rgL [] [31] (md := { base := 0, own := [6, 10, 22], imp := [20] }) (h := ?_)) | refine pK (plus_ok ⟨x, y⟩ (truth r c w _) (by simp only; omega)) ?_ | refine lK (truth_look r hF rest _ _ (hpts _) (hroom2 _) w c hcc _ hm1 hwk) ?_); try simp (disch := omega) only [h1, h3, h4, h5, h6, h22, hH10, hH6, hH22, hmap, hg, cRun, encSpan,go_sem, simprocAttr]) | fail)
   exact ⟨(left.erase p).length, by omega, left.erase p, rfl, by omega, fun q hq => hlt2 q (List.mem_of_mem_erase hq), fun d hd => by rw [upd_ne _ _ (by omega)]; exact hroom2 _ d hd, _, _, _, _, _, rfl, rfl, rfl, rfl, by omega, by omega⟩
 ·obtain rfl : k = r.rows.length := by omega
  repeat' (first | with_reducible (first | (refine sk ?_; intro K hK) | apply_assumption -exfalso -symm only [*]) | ((with_reducible first | refine rgL [] [31] (md := { base := 0, own := [6, 10, 22], imp := [20] }) (h := ?_) | refine nx ?_); try simp (disch := omega) only [h1, h3, h4, hH10, cRun,go_sem, simprocAttr]) | ((with_reducible refine' cE ?hv ?_ ?_); (case hv => rfl); all_goals (intro hc; (try simp only [go_sem, simprocAttr] at hc); try (exfalso; omega))) | fail)
  refine FnP_frz 10 (Or.inl rfl) (by simp only [go_sem, simprocAttr, hH10]; rfl) ⟨_, (by simp only [Tryz.f80, go_sem, simprocAttr]; rfl), ?_⟩
  simp only [go_sem, simprocAttr, fzd_still fireAt_still]
end Cp
namespace Cp
open Go
def outK (s o : Span) : Int := if s.hi < o.lo ∨ o.hi < s.lo then 2 else if s.lo < o.lo ∨ o.hi < s.hi then 1 else 0
theorem outK_bnd {s o : Span} : 0 ≤ outK s o ∧ outK s o ≤ 2 := by unfold outK; split <;> (try split) <;> omega
def partFrom (m : Int) (acc : Int) : List StepT → Int
 | [] => acc
 | s :: l => partFrom m (if s.frm ≤ m then s.part else acc) l
def partS (u : RulesT) (m : Int) : Int := partFrom m (-1) u.steps
def cutS (u : RulesT) (m : Int) : Nat := (u.steps.takeWhile fun s => decide (s.frm ≤ m)).length
theorem idx_take {α : Type} {p : α → Bool} : ∀ (l : List α) (k : Int), idxFrom (fun x => !p x) l k = if (l.takeWhile p).length < l.length then k + (l.takeWhile p).length else -1
 | [], k => by simp [idxFrom]
 | x :: l, k => by
  have ih := idx_take (p := p) l (k + 1)
  simp only [idxFrom]
  by_cases hp : p x = true
  case neg =>
   simp only [Bool.not_eq_true] at hp
   simp [List.takeWhile_cons, hp]
  case pos =>
   simp only [List.takeWhile_cons, hp, Bool.not_true, Bool.false_eq_true, if_false, ih, if_true, List.length_cons]
   split
   ·rw [if_pos (by omega)]; omega
   ·rw [if_neg (by omega)]
theorem partFrom_gt {m : Int} : ∀ (l : List StepT) (acc : Int), (∀ s ∈ l, m < s.frm) → partFrom m acc l = acc
 | [], acc, h => rfl
 | s :: l, acc, h => by
  have h1 := h s (by simp)
  simp only [partFrom]
  rw [if_neg (by omega)]
  exact partFrom_gt l acc fun x hx => h x (by simp [hx])
theorem steps_gt : ∀ (l : List StepT) (last : Int), stepsFrom last l = true → ∀ s ∈ l, last < s.frm
 | [], _, _, s, hs => by simp at hs
 | a :: l, last, h, s, hs => by
  simp only [stepsFrom, stepOK, Bool.and_eq_true, decide_eq_true_eq] at h
  rcases List.mem_cons.1 hs with rfl | hs
  ·omega
  ·have := steps_gt l a.frm h.2 s hs; omega
theorem part_cut {m : Int} : ∀ (l : List StepT) (last acc : Int), stepsFrom last l = true →
  ((l.takeWhile fun s => decide (s.frm ≤ m)).length = 0 → partFrom m acc l = acc) ∧ (∀ j, (l.takeWhile fun s => decide (s.frm ≤ m)).length = j + 1 → ∃ s, l[j]? = some s ∧ partFrom m acc l = s.part)
 | [], last, acc, h => ⟨fun _ => rfl, fun j hj => by simp at hj⟩
 | a :: l, last, acc, h => by
  simp only [stepsFrom, stepOK, Bool.and_eq_true, decide_eq_true_eq] at h
  obtain ⟨ih1, ih2⟩ := part_cut (m := m) l a.frm (if a.frm ≤ m then a.part else acc) h.2
  simp only [List.takeWhile_cons, partFrom]
  by_cases ha : a.frm ≤ m
  ·simp only [ha, decide_true, if_true, List.length_cons] at ih1 ih2 ⊢
   refine ⟨fun h => by omega, fun j hj => ?_⟩
   cases j with
   | zero => exact ⟨a, rfl, ih1 (by omega)⟩
   | succ j =>
    obtain ⟨s, h1, h2⟩ := ih2 j (by omega)
    exact ⟨s, by simpa using h1, h2⟩
  ·simp only [ha, decide_false, Bool.false_eq_true, if_false, List.length_nil]
   refine ⟨fun _ => partFrom_gt l acc fun s hs => by have := steps_gt l a.frm h.2 s hs; omega, fun j hj => by omega⟩
structure RulesF (u : RulesT) : Prop where
 len : u.steps.length ≤ 5
 single : 0 ≤ u.single ∧ u.single ≤ 2000
 sfrom : 1 ≤ u.sfrom ∧ u.sfrom ≤ 600
 press : -100 ≤ u.press.lo ∧ u.press.lo ≤ u.press.hi ∧ u.press.hi ≤ 100
 pfrom : 1 ≤ u.pfrom ∧ u.pfrom ≤ 600
 from0 : stepsFrom 0 u.steps = true
 step : ∀ s ∈ u.steps, (1 ≤ s.frm ∧ s.frm ≤ 600) ∧ 0 ≤ s.part ∧ s.part ≤ 1000
theorem steps_all : ∀ (l : List StepT) (last : Int), 0 ≤ last → stepsFrom last l = true → ∀ s ∈ l, (last < s.frm ∧ s.frm ≤ 600) ∧ 0 ≤ s.part ∧ s.part ≤ 1000
 | [], _, _, _, s, hs => by simp at hs
 | a :: l, last, h0, h, s, hs => by
  simp only [stepsFrom, stepOK, Bool.and_eq_true, decide_eq_true_eq] at h
  rcases List.mem_cons.1 hs with rfl | hs
  ·omega
  ·have := steps_all l a.frm (by omega) h.2 s hs; omega
theorem rules_facts {u : RulesT} (h : rulesOK u = true) : RulesF u := by
 simp only [rulesOK, limsOK, Bool.and_eq_true, decide_eq_true_eq] at h
 obtain ⟨⟨h1, h2, h3, h4, h5⟩, h6⟩ := h
 exact ⟨h1, h2, h3, h4, h5, h6, fun s hs => by have := steps_all u.steps 0 (by omega) h6 s hs; omega⟩
theorem cutS_le {u : RulesT} {m : Int} : cutS u m ≤ u.steps.length := by
 unfold cutS
 exact (List.takeWhile_sublist _).length_le
theorem partS_none {u : RulesT} (hU : RulesF u) {m : Int} (h : cutS u m = 0) : partS u m = -1 := (part_cut u.steps 0 (-1) hU.from0).1 h
theorem partS_some {u : RulesT} (hU : RulesF u) {m : Int} {j : Nat} (h : cutS u m = j + 1) : ∃ s, u.steps[j]? = some s ∧ partS u m = s.part ∧ 0 ≤ s.part ∧ s.part ≤ 1000 := by
 obtain ⟨s, h1, h2⟩ := (part_cut u.steps 0 (-1) hU.from0).2 j h
 exact ⟨s, h1, h2, (hU.step s (List.mem_of_getElem? h1)).2⟩
def cumLo (r : RunT) : Nat → Int
 | 0 => 0
 | k + 1 => cumLo r k + if wk r ((k + 1 : Nat) : Int) = [] then 0 else (meanS r ((k + 1 : Nat) : Int)).lo
def cumHi (r : RunT) : Nat → Int
 | 0 => 0
 | k + 1 => cumHi r k + if wk r ((k + 1 : Nat) : Int) = [] then 0 else (meanS r ((k + 1 : Nat) : Int)).hi
def cumC (r : RunT) : Nat → Int
 | 0 => 0
 | k + 1 => cumC r k + if wk r ((k + 1 : Nat) : Int) = [] then 0 else degAt r.curve ((k + 1 : Nat) : Int)
theorem mean_bounds {r : RunT} (hF : RunF r) {m : Int} (hm : 1 ≤ m) (hm2 : m ≤ r.rows.length) (hne : wk r m ≠ []) : -42000 ≤ (meanS r m).lo ∧ (meanS r m).lo ≤ (meanS r m).hi ∧ (meanS r m).hi ≤ 1722000 := by
 have hs := sum_bounds hF hm hm2 (wk r m) fun _ h => h
 have hl := @wk_len r m
 have hcl := hF.cpls
 have h0 : 0 < (wk r m).length := List.length_pos_iff.2 hne
 simp only [meanS]
 obtain hq | hq | hq | hq | hq | hq | hq | hq : (wk r m).length = 1 ∨ (wk r m).length = 2 ∨ (wk r m).length = 3 ∨ (wk r m).length = 4 ∨ (wk r m).length = 5 ∨ (wk r m).length = 6 ∨ (wk r m).length = 7 ∨ (wk r m).length = 8 := by omega
 all_goals rw [hq] at hs ⊢; omega
theorem cum_bounds {r : RunT} (hF : RunF r) (hdeg : ∀ m : Int, 0 ≤ m → m ≤ lastM r.curve → 0 ≤ degAt r.curve m ∧ degAt r.curve m ≤ 2000) : ∀ (k : Nat), k ≤ r.rows.length → -42000 * (k : Int) ≤ cumLo r k ∧ cumLo r k ≤ cumHi r k ∧ cumHi r k ≤ 1722000 * (k : Int) ∧ 0 ≤ cumC r k ∧ cumC r k ≤ 2000 * (k : Int)
 | 0, _ => by simp [cumLo, cumHi, cumC]
 | k + 1, hk => by
  have ih := cum_bounds hF hdeg k (by omega)
  have hr := hF.rows
  have hd := hdeg ((k + 1 : Nat) : Int) (by omega) (by omega)
  simp only [cumLo, cumHi, cumC]
  by_cases hne : wk r ((k + 1 : Nat) : Int) = []
  ·simp only [hne, if_true]; omega
  ·have hb := mean_bounds hF (m := ((k + 1 : Nat) : Int)) (by omega) (by omega) hne
   simp only [hne, if_false]; omega
def oneB (m kind cpl known : Int) : List Brc := if known = 0 then [] else [⟨m, kind, cpl, known⟩]
def areaS (r : RunT) (u : RulesT) (k : Nat) : Int :=
 if partS u (k : Int) < 0 then 0 else
  outK ⟨cumLo r k * 1000, cumHi r k * 1000⟩ ⟨cumC r k * 840 * 1000 - cumC r k * 840 * partS u (k : Int), cumC r k * 840 * 1000 + cumC r k * 840 * partS u (k : Int)⟩
def singS (r : RunT) (u : RulesT) (c : Cpl) (i : Nat) (m : Int) : Int := outK (truth r c i m) ⟨degAt r.curve m - u.single, degAt r.curve m + u.single⟩
def pressAt (r : RunT) (m : Int) : Int := ((r.rows[(m - 1).toNat]?).map (·.press)).getD 0
def pressS (r : RunT) (u : RulesT) (m : Int) : Int := outK ⟨pressAt r m - r.gauge.hi, pressAt r m - r.gauge.lo⟩ u.press
def singI (r : RunT) (u : RulesT) (m : Int) (i : Nat) : List Brc := match r.cpls[i]? with | some c => oneB m 3 c.id (singS r u c i m) | none => []
def singL (r : RunT) (u : RulesT) (m : Int) : List Nat → List Brc
 | [] => []
 | i :: l => singI r u m i ++ singL r u m l
theorem singL_app {r : RunT} {u : RulesT} {m : Int} : ∀ {a b : List Nat}, singL r u m (a ++ b) = singL r u m a ++ singL r u m b
 | [], b => rfl
 | i :: a, b => by simp only [List.cons_append, singL, singL_app (a := a), List.append_assoc]
def blindB (r : RunT) (m : Int) : List Brc := if wk r m = [] then [⟨m, 1, -1, 2⟩] else []
def singB (r : RunT) (u : RulesT) (m : Int) : List Brc := if m < u.sfrom then [] else singL r u m (wk r m)
def pressB (r : RunT) (u : RulesT) (m : Int) : List Brc := if m < u.pfrom then [] else oneB m 4 (-1) (pressS r u m)
def minB (r : RunT) (u : RulesT) (k : Nat) : List Brc := blindB r (k : Int) ++ oneB (k : Int) 2 (-1) (areaS r u k) ++ singB r u (k : Int) ++ pressB r u (k : Int)
def leftB (r : RunT) (u : RulesT) : Nat → List Brc
 | 0 => []
 | k + 1 => leftB r u k ++ minB r u (k + 1)
def leftS (r : RunT) (u : RulesT) : List Brc := leftB r u r.rows.length
end Cp
namespace Cp
open Go Go.Proofs
set_option maxRecDepth 10000
theorem outside_ok (s o : Span) : PureC Tryz.prog 111 [encSpan s, encSpan o] (.int .u8 (outK s o)) := by
 refine PureC_of (fn := Tryz.f111) tabOK (by kernel_rfl) rfl (by kernel_rfl) (by simp [Tryz.f111]) (by simp [noids, noid, noidss, go_sem, encSpan]) (by first | rfl | simp [noids, noid, noidss, go_sem, encSpan]) ?_
 intro X hX0 hXs
 repeat' (first | with_reducible (first | (refine sk ?_; intro K hK) | refine bk ?_ | apply_assumption -exfalso -symm only [*]) | ((with_reducible first | refine rg (h := ?_) | refine nx ?_); try simp (disch := omega) only [encSpan,go_sem, simprocAttr]) | ((with_reducible refine' cE ?hv ?_ ?_); (case hv => rfl); all_goals (intro hc; (try simp only [go_sem, simprocAttr] at hc))) | ((with_reducible refine grdS_split ?_ ?_) <;> intro hg <;> (try simp (disch := omega) only [hg, encSpan,go_sem, simprocAttr]) <;> (try simp only [go_sem, simprocAttr] at hg) <;> (try (exfalso; omega))) | ((with_reducible refine fe ?_); refine ⟨_, (by simp only [Tryz.f111, encSpan,go_sem, simprocAttr]; rfl), ?_⟩; (try simp only [encSpan,go_sem, simprocAttr, seval])) | fail)
 all_goals (unfold outK; repeat' split) <;> first | rfl | omega
theorem routside_ok (s o : Span) : PureC Tryz.prog 98 [.int .i64 s.lo, .int .i64 s.hi, .int .i64 o.lo, .int .i64 o.hi] (.int .u8 (outK s o)) := by
 refine PureC_of (fn := Tryz.f98) tabOK (by kernel_rfl) rfl (by kernel_rfl) (by simp [Tryz.f98]) (by simp [noids, noid, noidss, go_sem]) (by first | rfl | simp [noids, noid, noidss, go_sem]) ?_
 intro X hX0 hXs
 repeat' (first | with_reducible (first | (refine sk ?_; intro K hK) | apply_assumption -exfalso -symm only [*]) | ((with_reducible first | refine rg (h := ?_) | refine nx ?_); try simp (disch := omega) only [go_sem, simprocAttr]) | ((with_reducible refine' cE ?hv ?_ ?_); (case hv => rfl); all_goals (intro hc; (try simp only [go_sem, simprocAttr] at hc))) | ((with_reducible refine grdS_split ?_ ?_) <;> intro hg <;> (try simp (disch := omega) only [hg, go_sem, simprocAttr]) <;> (try simp only [go_sem, simprocAttr] at hg) <;> (try (exfalso; omega))) | ((with_reducible refine fe ?_); refine ⟨_, (by simp only [Tryz.f98, go_sem, simprocAttr]; rfl), ?_⟩; (try simp only [go_sem, simprocAttr, seval])) | fail)
 all_goals (unfold outK; repeat' split) <;> first | rfl | omega
theorem indexStep_ok (xs : List StepT) (hx : xs.length ≤ 4611686018427387904) (g : FuncId) (caps : List Val) (hcp : noids caps = true) (p : StepT → Bool) (hp : ∀ x ∈ xs, PureC Tryz.prog g (.agg (cStep x) :: caps) (.bool (p x))) :
  PureC Tryz.prog 109 [.lst 2 (xs.map cStep), .fn g caps] (.int .i64 (idxFrom p xs 0)) := by
 simp only [cStep] at hp
 refine PureC_of (fn := Tryz.f109) tabOK (by kernel_rfl) rfl (by kernel_rfl) (by simp [Tryz.f109]) (by simp [noids, noid, noidss, go_sem, hcp]) (by first | rfl | simp [noids, noid, noidss, go_sem, hcp]) ?_
 intro X hX0 hXs
 repeat' (first | with_reducible (first | (refine sk ?_; intro K hK) | apply_assumption -exfalso -symm only [*]) | ((with_reducible refine rg (h := ?_)); try simp (disch := omega) only [go_sem, simprocAttr]) | fail)
 refine AW_range tabOK xs.length (fun k f H => f 0 = .lst 2 (xs.map cStep) ∧ f 1 = .fn g caps ∧ H = none0 ∧ idxFrom p xs 0 = idxFrom p (xs.drop k) k) hx (by rw [hXs]; decide) (by decide) (by simp only [go_sem, simprocAttr]) (by simp only [go_sem, simprocAttr]) ⟨by simp only [go_sem, simprocAttr], by simp only [go_sem, simprocAttr], rfl, by simp⟩ ?_ ?_
 ·rintro k f H hk h8 h7 ⟨h0, h1, rfl, hr⟩
  obtain ⟨x, hx⟩ : ∃ x, xs[k]? = some x := ⟨_, List.getElem?_eq_getElem hk⟩
  repeat' (first | with_reducible (first | (refine sk ?_; intro K hK) | apply_assumption -exfalso -symm only [*]) | ((first | (with_reducible first | refine rg (h := ?_) | refine nx ?_) | refine pK (hp x (List.mem_of_getElem? hx)) ?_); try simp (disch := omega) only [h0, h1, h8, h7, hx, cStep,go_sem, simprocAttr]) | ((with_reducible refine' cE ?hv ?_ ?_); (case hv => rfl); all_goals (intro hc)) | ((with_reducible refine fe ?_); refine ⟨_, (by simp only [Tryz.f109, h0, h1, h8, h7, hx, cStep,go_sem, simprocAttr]; rfl), ?_⟩; (try simp only [h0, h1, h8, h7, hx, cStep,go_sem, simprocAttr, seval])) | fail)
  ·rw [hr, drop_cons hx]; simp [idxFrom, hc]
  ·rw [hr, drop_cons hx]; simp [idxFrom, hc]
 ·rintro f H h8 h7 ⟨h0, h1, rfl, hr⟩
  repeat' (first | with_reducible (first | (refine sk ?_; intro K hK) | apply_assumption -exfalso -symm only [*]) | ((with_reducible first | refine rg (h := ?_) | refine nx ?_); try simp (disch := omega) only [go_sem, simprocAttr]) | ((with_reducible refine fe ?_); refine ⟨_, (by simp only [Tryz.f109, go_sem, simprocAttr]; rfl), ?_⟩; (try simp only [go_sem, simprocAttr, seval])) | fail)
  rw [hr]; simp [idxFrom]
theorem chk21_ok (s : StepT) (m : Int) : PureC Tryz.prog 110 [.agg (cStep s), .pim [.int .i64 m]] (.bool (!decide (s.frm ≤ m))) := by
 refine PureC_of (fn := Tryz.f110) tabOK (by kernel_rfl) rfl (by kernel_rfl) (by simp [Tryz.f110]) (by simp [noids, noid, noidss, go_sem, cStep]) (by first | rfl | simp [noids, noid, noidss, go_sem, cStep]) ?_
 intro X hX0 hXs
 repeat' (first | with_reducible (first | (refine sk ?_; intro K hK) | apply_assumption -exfalso -symm only [*]) | ((with_reducible first | refine rg (h := ?_) | refine nx ?_); try simp (disch := omega) only [cStep,go_sem, simprocAttr]) | ((with_reducible refine fe ?_); refine ⟨_, (by simp only [Tryz.f110, cStep,go_sem, simprocAttr]; rfl), ?_⟩; (try simp only [cStep,go_sem, simprocAttr, seval])) | fail)
 rw [Bool.eq_iff_iff]; simp
def MapR (H0 : Hp) (X : List (Int × Val)) (v : Val) (H' : Hp) : Prop :=
 (∀ j, j < 400 → H' j = H0 j) ∧ ∃ es : List (Int × Val), es.Perm X ∧ ((es = [] ∧ v = .nilm) ∨ ∃ k em ver, 400 ≤ k ∧ k < 500 ∧ v = .map k em ∧ H' k = some (em, .map ver (imap .i64 es)))
def kn (n : Int) : Val := .int .u8 n
def areaK (u : RulesT) (m c lo hi : Int) : Int := outK ⟨lo * 1000, hi * 1000⟩ ⟨c * 840 * 1000 - c * 840 * partS u m, c * 840 * 1000 + c * 840 * partS u m⟩
theorem chk1_ok (r : RunT) (hF : RunF r) (u : RulesT) (k : Nat) (hk : k + 1 ≤ r.rows.length) (a b c d : Int) (H0 : Hp) :
  ACall Tryz.prog 107 [.pim (fireAt r r.rows.length), encRules u, .int .i64 ((k + 1 : Nat) : Int), .agg [.int .i64 a, .int .i64 b, .int .i64 c, .int .i64 d]] H0 (MapR H0 (if wk r ((k + 1 : Nat) : Int) = [] then [(-1, kn 2)] else [])) := by
 refine ACall_of (fn := Tryz.f107) tabOK (by kernel_rfl) rfl (by kernel_rfl) (by simp [Tryz.f107]) ?_
 intro X hX0 hXs
 have hrl := hF.rows
 have hcl := hF.cpls
 have hwg := drop_cons (warm_get (r := r) (m := k + 1) (by omega) (n := r.rows.length) (by omega) (by omega))
 have h61 : k + 1 < 61 := by omega
 refine AW_lose 415 fun H1 g8 hs1 => ?_
 by_cases hne : wk r ((k + 1 : Nat) : Int) = []
 ·have hwg' : ((fireAt r r.rows.length).drop 128).drop ((k + 1) * 1) = .bool false :: (fireAt r r.rows.length).drop (128 + (k + 1) + 1) := by rw [List.drop_drop, Nat.mul_one, hwg, hne]; rfl
  rw [if_pos hne]
  repeat' (first | with_reducible (first | (refine sk ?_; intro K hK) | intro (ep : Nat → Nat) | apply_assumption -exfalso -symm only [*]) | ((with_reducible first | refine rg (md := { base := 400, own := [15] }) (h := ?_) | refine nx ?_); try simp (disch := omega) only [encRules, cRules, h61, hwg', g8,go_sem, simprocAttr]) | ((with_reducible refine' cE ?hv ?_ ?_); (case hv => rfl); all_goals (intro hc; (try simp only [go_sem, simprocAttr] at hc))) | fail)
  refine FnQ_end (Or.inl rfl) (.refl _) (by simp only [Tryz.f107, go_sem, simprocAttr]; rfl) ?_
  exact ⟨fun j hj => by rw [upd_ne _ _ (by omega), upd_ne _ _ (by omega)]; exact hs1 j (by omega), _, .refl _, .inr ⟨415, _, _, by omega, by omega, rfl, by simp only [go_sem, simprocAttr]; rfl⟩⟩
 ·have hwg' : ((fireAt r r.rows.length).drop 128).drop ((k + 1) * 1) = .bool true :: (fireAt r r.rows.length).drop (128 + (k + 1) + 1) := by rw [List.drop_drop, Nat.mul_one, hwg, decide_eq_true (List.length_pos_iff.2 hne)]
  rw [if_neg hne]
  repeat' (first | with_reducible (first | (refine sk ?_; intro K hK) | apply_assumption -exfalso -symm only [*]) | ((with_reducible first | refine rg (md := { base := 400, own := [15] }) (h := ?_) | refine nx ?_); try simp (disch := omega) only [encRules, cRules, h61, hwg', g8,go_sem, simprocAttr]) | ((with_reducible refine' cE ?hv ?_ ?_); (case hv => rfl); all_goals (intro hc; (try simp only [go_sem, simprocAttr] at hc))) | fail)
  refine FnQ_end (Or.inl rfl) (.refl _) (by simp only [Tryz.f107, go_sem, simprocAttr]; rfl) ?_
  exact ⟨fun j hj => hs1 j (by omega), _, .refl _, .inl ⟨rfl, rfl⟩⟩
theorem chk2_ok (u : RulesT) (hU : RulesF u) (fp : Val) (k : Nat) (a lo hi c : Int) (hlo : -200000000 ≤ lo ∧ lo ≤ 200000000) (hhi : -200000000 ≤ hi ∧ hi ≤ 200000000) (hc0 : 0 ≤ c ∧ c ≤ 200000) (H0 : Hp) :
  ACall Tryz.prog 108 [fp, encRules u, .int .i64 ((k + 1 : Nat) : Int), .agg [.int .i64 a, .int .i64 c, .int .i64 lo, .int .i64 hi]] H0 (MapR H0 (if partS u ((k + 1 : Nat) : Int) < 0 then [] else [(-1, kn (areaK u ((k + 1 : Nat) : Int) c lo hi))])) := by
 refine ACall_of (fn := Tryz.f108) tabOK (by kernel_rfl) rfl (by kernel_rfl) (by simp [Tryz.f108]) ?_
 intro X hX0 hXs
 have hul := hU.len
 have hcle := @cutS_le u ((k + 1 : Nat) : Int)
 refine AW_lose 438 fun H1 g8 hs1 => ?_
 have hix := idx_take (p := fun s : StepT => decide (s.frm ≤ ((k + 1 : Nat) : Int))) u.steps 0
 obtain ⟨i, hi0⟩ : ∃ i, cutS u ((k + 1 : Nat) : Int) = i := ⟨_, rfl⟩
 have hi0' : (u.steps.takeWhile fun s => decide (s.frm ≤ ((k + 1 : Nat) : Int))).length = i := hi0
 rw [hi0'] at hix
 rw [hi0] at hcle
 rcases i with _ | j
 ·have hpn := partS_none hU hi0
  have h0 : partS u ((k + 1 : Nat) : Int) < 0 := by omega
  rw [if_pos h0]
  by_cases hlt : 0 < u.steps.length
  ·rw [if_pos hlt] at hix
   repeat' (first | with_reducible (first | (refine sk ?_; intro K hK) | apply_assumption -exfalso -symm only [*]) | ((first | (with_reducible first | refine rg (md := { base := 400, own := [38] }) (h := ?_) | refine nx ?_) | refine pK (indexStep_ok u.steps (by omega) 110 [.pim [.int .i64 ((k + 1 : Nat) : Int)]] rfl (fun s => !decide (s.frm ≤ ((k + 1 : Nat) : Int))) (fun s _ => chk21_ok s _)) ?_); try simp (disch := omega) only [encRules, cRules, hix, g8,go_sem, simprocAttr]) | ((with_reducible refine' cE ?hv ?_ ?_); (case hv => rfl); all_goals (intro hc; (try simp only [go_sem, simprocAttr] at hc))) | fail)
   refine FnQ_end (Or.inl rfl) (.refl _) (by simp only [Tryz.f108, go_sem, simprocAttr]; rfl) ?_
   exact ⟨fun j hj => hs1 j (by omega), _, .refl _, .inl ⟨rfl, rfl⟩⟩
  ·rw [if_neg hlt] at hix
   have hl0 : u.steps.length = 0 := by omega
   repeat' (first | with_reducible (first | (refine sk ?_; intro K hK) | apply_assumption -exfalso -symm only [*]) | ((first | (with_reducible first | refine rg (md := { base := 400, own := [38] }) (h := ?_) | refine nx ?_) | refine pK (indexStep_ok u.steps (by omega) 110 [.pim [.int .i64 ((k + 1 : Nat) : Int)]] rfl (fun s => !decide (s.frm ≤ ((k + 1 : Nat) : Int))) (fun s _ => chk21_ok s _)) ?_); try simp (disch := omega) only [encRules, cRules, hix, hl0, g8,go_sem, simprocAttr]) | ((with_reducible refine' cE ?hv ?_ ?_); (case hv => rfl); all_goals (intro hc; (try simp only [go_sem, simprocAttr] at hc))) | fail)
   refine FnQ_end (Or.inl rfl) (.refl _) (by simp only [Tryz.f108, go_sem, simprocAttr]; rfl) ?_
   exact ⟨fun j hj => hs1 j (by omega), _, .refl _, .inl ⟨rfl, rfl⟩⟩
 ·obtain ⟨s, hs, hps, hs0, hs1000⟩ := partS_some hU hi0
  have h0 : ¬ partS u ((k + 1 : Nat) : Int) < 0 := by omega
  have hb := mul_bnd (a := c * 840) (q := s.part) (A := 0) (B := 168000000) (C := 1000) (by omega) (by omega) (by omega) (by omega) (by omega) (by omega)
  rw [if_neg h0, areaK, hps]
  by_cases hlt : j + 1 < u.steps.length
  ·rw [if_pos hlt] at hix
   have hcx : (0 : Int) + ((j + 1 : Nat) : Int) = ((j + 1 : Nat) : Int) := by omega
   repeat' (first | with_reducible (first | (refine sk ?_; intro K hK) | intro (ep : Nat → Nat) | apply_assumption -exfalso -symm only [*]) | ((first | (with_reducible first | refine rg (md := { base := 400, own := [38] }) (h := ?_) | refine nx ?_) | refine pK (indexStep_ok u.steps (by omega) 110 [.pim [.int .i64 ((k + 1 : Nat) : Int)]] rfl (fun s => !decide (s.frm ≤ ((k + 1 : Nat) : Int))) (fun s _ => chk21_ok s _)) ?_ | refine pK (times_ok ⟨lo, hi⟩ 1000 (by simp only; omega)) ?_ | refine pK (outside_ok ⟨lo * 1000, hi * 1000⟩ ⟨c * 840 * 1000 - c * 840 * s.part, c * 840 * 1000 + c * 840 * s.part⟩) ?_); try simp (disch := omega) only [encRules, cRules, encSpan, hix, hcx, hs, cStep, g8,go_sem, simprocAttr]) | ((with_reducible refine' cE ?hv ?_ ?_); (case hv => rfl); all_goals (intro hc; (try simp only [go_sem, simprocAttr] at hc); try (exfalso; omega))) | fail)
   refine FnQ_end (Or.inl rfl) (.refl _) (by simp only [Tryz.f108, go_sem, simprocAttr]; rfl) ?_
   refine ⟨fun j hj => by rw [upd_ne _ _ (by omega), upd_ne _ _ (by omega)]; exact hs1 j (by omega), _, .refl _, .inr ⟨438, _, _, by omega, by omega, rfl, by simp only [go_sem, simprocAttr]; rfl⟩⟩
  ·rw [if_neg hlt] at hix
   have hcx : u.steps.length = j + 1 := by omega
   repeat' (first | with_reducible (first | (refine sk ?_; intro K hK) | intro (ep : Nat → Nat) | apply_assumption -exfalso -symm only [*]) | ((first | (with_reducible first | refine rg (md := { base := 400, own := [38] }) (h := ?_) | refine nx ?_) | refine pK (indexStep_ok u.steps (by omega) 110 [.pim [.int .i64 ((k + 1 : Nat) : Int)]] rfl (fun s => !decide (s.frm ≤ ((k + 1 : Nat) : Int))) (fun s _ => chk21_ok s _)) ?_ | refine pK (times_ok ⟨lo, hi⟩ 1000 (by simp only; omega)) ?_ | refine pK (outside_ok ⟨lo * 1000, hi * 1000⟩ ⟨c * 840 * 1000 - c * 840 * s.part, c * 840 * 1000 + c * 840 * s.part⟩) ?_); try simp (disch := omega) only [encRules, cRules, encSpan, hix, hcx, hs, cStep, g8,go_sem, simprocAttr]) | ((with_reducible refine' cE ?hv ?_ ?_); (case hv => rfl); all_goals (intro hc; (try simp only [go_sem, simprocAttr] at hc); try (exfalso; omega))) | fail)
   refine FnQ_end (Or.inl rfl) (.refl _) (by simp only [Tryz.f108, go_sem, simprocAttr]; rfl) ?_
   refine ⟨fun j hj => by rw [upd_ne _ _ (by omega), upd_ne _ _ (by omega)]; exact hs1 j (by omega), _, .refl _, .inr ⟨438, _, _, by omega, by omega, rfl, by simp only [go_sem, simprocAttr]; rfl⟩⟩
end Cp
namespace Cp
open Go Go.Proofs
set_option maxRecDepth 10000
theorem chk4_ok (r : RunT) (hF : RunF r) (u : RulesT) (hU : RulesF u) (k : Nat) (hk : k + 1 ≤ r.rows.length) (nv : List Val) (hnv : nv.length = 4) (H0 : Hp) :
  ACall Tryz.prog 113 [.pim (fireAt r r.rows.length), encRules u, .int .i64 ((k + 1 : Nat) : Int), .agg nv] H0 (MapR H0 (if ((k + 1 : Nat) : Int) < u.pfrom then [] else [(-1, kn (pressS r u ((k + 1 : Nat) : Int)))])) := by
 refine ACall_of (fn := Tryz.f113) tabOK (by kernel_rfl) rfl (by kernel_rfl) (by simp [Tryz.f113]) ?_
 intro X hX0 hXs
 have hrl := hF.rows
 have hg := hF.gauge
 obtain ⟨rest, hrest⟩ := @fireAt_run r r.rows.length
 obtain ⟨x, hx⟩ : ∃ x, r.rows[k]? = some x := ⟨_, List.getElem?_eq_getElem (by omega)⟩
 have hxb := hF.row k x hx
 have hpa : pressAt r ((k + 1 : Nat) : Int) = x.press := by
  unfold pressAt
  rw [show (((k + 1 : Nat) : Int) - 1).toNat = k by omega, hx]; rfl
 obtain ⟨n0, n1, n2, n3, rfl⟩ : ∃ a b c d, nv = [a, b, c, d] := by
  match nv, hnv with
  | [a, b, c, d], _ => exact ⟨a, b, c, d, rfl⟩
 rw [hrest]
 refine AW_lose 424 fun H1 g8 hs1 => ?_
 by_cases hp : ((k + 1 : Nat) : Int) < u.pfrom
 ·rw [if_pos hp]
  repeat' (first | with_reducible (first | (refine sk ?_; intro K hK) | apply_assumption -exfalso -symm only [*]) | ((with_reducible first | refine rg (md := { base := 400, own := [24] }) (h := ?_) | refine nx ?_); try simp (disch := omega) only [encRules, cRules, cRun, hp, g8,go_sem, simprocAttr]) | ((with_reducible refine' cE ?hv ?_ ?_); (case hv => rfl); all_goals (intro hc; (try simp only [go_sem, simprocAttr] at hc))) | fail)
  refine FnQ_end (Or.inl rfl) (.refl _) (by simp only [Tryz.f113, go_sem, simprocAttr]; rfl) ?_
  exact ⟨fun j hj => hs1 j (by omega), _, .refl _, .inl ⟨rfl, rfl⟩⟩
 ·rw [if_neg hp, pressS, hpa]
  repeat' (first | with_reducible (first | (refine sk ?_; intro K hK) | intro (ep : Nat → Nat) | apply_assumption -exfalso -symm only [*]) | ((first | (with_reducible first | (refine AW_drawP (id := 4) (l := ?l) tabOK mix { base := 400, own := [24] } [] [] [1, 2, 3, 4, 5, 6, 7, 8, 9, 10, 11, 12, 13, 14, 15, 16, 17, 18, 19, 20, 0, 21, 22, 23] ?hsz ?hok ?hl ?_; (case hsz => rw [hXs]; decide +kernel); (case hok => decide +kernel); (case hl => simp only [ordOps, pickO, List.toList_toArray]; rfl)) | refine rg (md := { base := 400, own := [24] }) (h := ?_) | refine nx ?_) | refine pK (outside_ok ⟨x.press - r.gauge.hi, x.press - r.gauge.lo⟩ u.press) ?_); try simp (disch := omega) only [encRules, cRules, cRun, cRow, encSpan, hp, hx, g8,go_sem, simprocAttr]) | ((with_reducible refine' cE ?hv ?_ ?_); (case hv => rfl); all_goals (intro hc; (try simp only [go_sem, simprocAttr] at hc))) | fail)
  refine FnQ_end (Or.inl rfl) (.refl _) (by simp only [Tryz.f113, go_sem, simprocAttr]; rfl) ?_
  exact ⟨fun j hj => by rw [upd_ne _ _ (by omega), upd_ne _ _ (by omega)]; exact hs1 j (by omega), _, .refl _, .inr ⟨424, _, _, by omega, by omega, rfl, by simp only [go_sem, simprocAttr]; rfl⟩⟩
def entS (r : RunT) (u : RulesT) (m : Int) (i : Nat) : Int × Val := match r.cpls[i]? with | some c => (c.id, kn (singS r u c i m)) | none => (0, kn 0)
theorem entS_some {r : RunT} {u : RulesT} {m : Int} {i : Nat} {c : Cpl} (h : r.cpls[i]? = some c) : entS r u m i = (c.id, kn (singS r u c i m)) := by unfold entS; rw [h]
theorem wkFrom_sorted (m : Int) : ∀ (l : List Cpl) (k : Nat), (wkFrom m k l).Pairwise (· < ·)
 | [], k => .nil
 | c :: l, k => by
  have ih := wkFrom_sorted m l (k + 1)
  simp only [wkFrom]
  split
  ·refine .cons (fun j hj => ?_) ih
   obtain ⟨i, _, h, _⟩ := (wkFrom_mem _ _ _ _).1 hj
   omega
  ·exact ih
theorem wk_sorted {r : RunT} {m : Int} : (wk r m).Pairwise (· < ·) := wkFrom_sorted m _ _
structure Laid (r : RunT) (u : RulesT) (m : Int) (es : List (Int × Val)) (left : List Nat) : Prop where
 ex : ∃ done : List Nat, (done ++ left).Perm (List.range (wk r m).length) ∧ es = done.map fun p => entS r u m ((wk r m).getD p 0)
theorem Laid.start {r : RunT} {u : RulesT} {m : Int} : Laid r u m [] (List.range (wk r m).length) := ⟨[], .refl _, rfl⟩
theorem Laid.step {r : RunT} {u : RulesT} {m : Int} {es : List (Int × Val)} {left : List Nat} (h : Laid r u m es left) (hF : RunF r) {p w : Nat} {c : Cpl} (hp : p ∈ left) (hw : (wk r m)[p]? = some w) (hc : r.cpls[w]? = some c) :
  findI c.id es 0 = none ∧ Laid r u m (es ++ [(c.id, kn (singS r u c w m))]) (left.erase p) := by
 obtain ⟨done, hperm, rfl⟩ := h.ex
 have hwD : (wk r m).getD p 0 = w := by simp [List.getD, hw]
 refine ⟨findI_none fun q hq => ?_, ⟨done ++ [p], ?_, by rw [List.map_append, List.map_cons, List.map_nil, hwD, entS_some hc]⟩⟩
 ·obtain ⟨j, hj, rfl⟩ := List.mem_map.1 hq
  have hnd : (done ++ left).Nodup := hperm.nodup_iff.2 List.nodup_range
  have hjp : j ≠ p := fun e => by
   subst e
   exact (List.nodup_append.1 hnd).2.2 _ hj _ hp rfl
  have hjl : j < (wk r m).length := List.mem_range.1 (hperm.mem_iff.1 (List.mem_append_left _ hj))
  have hpl : p < (wk r m).length := (List.getElem?_eq_some_iff.1 hw).1
  obtain ⟨w2, hw2⟩ : ∃ w2, (wk r m)[j]? = some w2 := ⟨_, List.getElem?_eq_getElem hjl⟩
  have hw2D : (wk r m).getD j 0 = w2 := by simp [List.getD, hw2]
  obtain ⟨c2, hc2, _⟩ := wk_mem.1 (List.mem_of_getElem? hw2)
  rw [hw2D, entS_some hc2]
  have hs := List.pairwise_iff_getElem.1 (wk_sorted (r := r) (m := m))
  obtain ⟨e1, rfl⟩ := List.getElem?_eq_some_iff.1 hw
  obtain ⟨e2, rfl⟩ := List.getElem?_eq_some_iff.1 hw2
  rcases Nat.lt_or_gt_of_ne hjp with hlt | hlt
  ·have := hF.ids _ _ _ _ (hs j p e2 e1 hlt) hc2 hc; simp only; omega
  ·have := hF.ids _ _ _ _ (hs p j e1 e2 hlt) hc hc2; simp only; omega
 ·refine .trans ?_ hperm
  rw [List.append_assoc]
  exact .append_left _ (List.perm_cons_erase hp).symm
theorem Laid.stop {r : RunT} {u : RulesT} {m : Int} {es : List (Int × Val)} (h : Laid r u m es []) : es.Perm ((wk r m).map (entS r u m)) := by
 obtain ⟨done, hperm, rfl⟩ := h.ex
 rw [List.append_nil] at hperm
 refine (hperm.map _).trans ?_
 have : (List.range (wk r m).length).map (fun p => entS r u m ((wk r m).getD p 0)) = (wk r m).map (entS r u m) := by
  apply List.ext_getElem?
  intro i
  rw [List.getElem?_map, List.getElem?_map]
  by_cases hi : i < (wk r m).length
  ·rw [List.getElem?_range hi]; simp [List.getD, hi]
  ·rw [List.getElem?_eq_none (by simp; omega), List.getElem?_eq_none (by omega)]; rfl
 rw [this]
theorem Laid.mem {r : RunT} {u : RulesT} {m : Int} {es : List (Int × Val)} {left : List Nat} (h : Laid r u m es left) : ∀ p ∈ left, p < (wk r m).length := by
 obtain ⟨done, hperm, rfl⟩ := h.ex
 exact fun p hp => List.mem_range.1 (hperm.mem_iff.1 (List.mem_append_right _ hp))
theorem chk3_ok (r : RunT) (hF : RunF r) (u : RulesT) (hU : RulesF u) (k : Nat) (hk : k + 1 ≤ r.rows.length) (hd : 0 ≤ degAt r.curve ((k + 1 : Nat) : Int) ∧ degAt r.curve ((k + 1 : Nat) : Int) ≤ 2000) (b c d : Int) (H0 : Hp) (hroom0 : Room H0 1000 100) :
  ACall Tryz.prog 112 [.pim (fireAt r r.rows.length), encRules u, .int .i64 ((k + 1 : Nat) : Int), .agg [.int .i64 (degAt r.curve ((k + 1 : Nat) : Int)), .int .i64 b, .int .i64 c, .int .i64 d]] H0
   (MapR H0 (if ((k + 1 : Nat) : Int) < u.sfrom then [] else (wk r ((k + 1 : Nat) : Int)).map (entS r u ((k + 1 : Nat) : Int)))) := by
 refine ACall_of (fn := Tryz.f112) tabOK (by kernel_rfl) rfl (by kernel_rfl) (by simp [Tryz.f112]) ?_
 intro X hX0 hXs
 have hrl := hF.rows
 have hcl := hF.cpls
 have hus := hU.single
 obtain ⟨rest, hrest⟩ := @fireAt_run r r.rows.length
 rw [hrest]
 refine AW_lose 411 fun H1 g11 hs1 => ?_
 refine AW_lose 420 fun H2 g20 hs2 => ?_
 have g11' : H2 411 = none := by rw [hs2 _ (by decide), g11]
 have hlow : ∀ j, j < 400 → H2 j = H0 j := fun j hj => by rw [hs2 _ (by omega), hs1 _ (by omega)]
 have hroom : Room H2 1000 100 := fun d hd => by rw [hs2 _ (by omega), hs1 _ (by omega)]; exact hroom0 d hd
 clear hs1 hs2 g11 hroom0
 by_cases hp : ((k + 1 : Nat) : Int) < u.sfrom
 ·rw [if_pos hp]
  repeat' (first | with_reducible (first | (refine sk ?_; intro K hK) | intro (ep : Nat → Nat) | apply_assumption -exfalso -symm only [*]) | ((with_reducible first | refine rgL [] [38] (md := { base := 400, own := [11, 20], imp := [19] }) (h := ?_) | refine nx ?_); try simp (disch := omega) only [encRules, cRules, cRun, hp, g11', g20,go_sem, simprocAttr]) | ((with_reducible refine' cE ?hv ?_ ?_); (case hv => rfl); all_goals (intro hc; (try simp only [go_sem, simprocAttr] at hc))) | fail)
  refine FnQ_end (Or.inl rfl) (.refl _) (by simp only [Tryz.f112, go_sem, simprocAttr]; rfl) ?_
  exact ⟨fun j hj => by rw [upd_ne _ _ (by omega)]; exact hlow j hj, _, .refl _, .inr ⟨411, _, _, by omega, by omega, rfl, by simp only [go_sem, simprocAttr]; rfl⟩⟩
 ·rw [if_neg hp]
  repeat' (first | with_reducible (first | (refine sk ?_; intro K hK) | intro (ep : Nat → Nat) | apply_assumption -exfalso -symm only [*]) | ((with_reducible first | refine rgL [] [38] (md := { base := 400, own := [11, 20], imp := [19] }) (h := ?_) | refine nx ?_); try simp (disch := omega) only [encRules, cRules, cRun, hp, g11', g20,go_sem, simprocAttr]) | ((with_reducible refine' cE ?hv ?_ ?_); (case hv => rfl); all_goals (intro hc; (try simp only [go_sem, simprocAttr] at hc))) | refine iK (working_ok r hF rest _ _ (.inl rfl) _) ?_ | fail)
  rintro v H3 ⟨em, ver, rfl, hmap, hs3⟩
  have g20' : H3 420 = none := by rw [hs3 _ (by decide), upd_ne _ _ (by decide), g20]
  have hlow' : ∀ j, j < 400 → H3 j = H0 j := fun j hj => by rw [hs3 _ (by omega), upd_ne _ _ (by omega)]; exact hlow j hj
  have hroom' : Room H3 1000 100 := fun d hd => by rw [hs3 _ (by omega), upd_ne _ _ (by omega)]; exact hroom d hd
  have hH11 := (hs3 411 (by decide)).trans (upd_same _ _ _)
  clear hs3 g20 hlow hroom g11'
  have hwl := @wk_len r ((k + 1 : Nat) : Int)
  simp only [hmap, g20', go_sem, simprocAttr]
  repeat' (first | with_reducible (first | intro (ep : Nat → Nat) | apply_assumption -exfalso -symm only [*]) | fail)
  refine AW_block (AW_loop (fun n f H => ∃ left : List Nat, n = left.length ∧ (f 0 = .pim (cRun r ++ rest) ∧ f 2 = .int .i64 ((k + 1 : Nat) : Int) ∧ f 5 = .pim (cRules u) ∧ f 7 = .pim [.int .i64 (degAt r.curve ((k + 1 : Nat) : Int)), .int .i64 b, .int .i64 c, .int .i64 d] ∧ H 2009 = some (em, .map ver (imap .i64 (tl (wk r ((k + 1 : Nat) : Int)))))) ∧ Room H 1000 100 ∧ (∀ j, j < 400 → H j = H0 j) ∧
    ∃ e9 e20 cur v11 es, f 9 = .map 411 e9 ∧ H 411 = some (e9, .map v11 (imap .i64 es)) ∧ f 20 = .itr 420 e20 ∧ H 420 = some (e20, .itr 2009 em ver left cur) ∧ Laid r u ((k + 1 : Nat) : Int) es left) (wk r ((k + 1 : Nat) : Int)).length
   ⟨List.range (wk r ((k + 1 : Nat) : Int)).length, by simp, by (and_intros <;> first | rfl | (simp only [hmap, cRun, cRules, go_sem, simprocAttr]; done) | (simp only [hmap, cRun, cRules, go_sem, simprocAttr]; rfl)), fun d hd => by simp only [go_sem, simprocAttr]; rw [if_neg (by omega)]; exact hroom' d hd, fun j hj => by simp only [go_sem, simprocAttr]; rw [if_neg (by omega)]; exact hlow' j hj, _, _, _, _, [], by (first | rfl | (simp only [go_sem, simprocAttr]; done) | (simp only [go_sem, simprocAttr]; rfl)), by (first | rfl | (simp only [hH11, go_sem, simprocAttr]; done) | (simp only [hH11, go_sem, simprocAttr]; rfl)), by (first | rfl | (simp only [go_sem, simprocAttr]; done) | (simp only [go_sem, simprocAttr]; rfl)), by (first | rfl | (simp only [go_sem, simprocAttr]; done) | (simp only [go_sem, simprocAttr]; rfl)), Laid.start⟩ ?_)
  clear g20' hmap hroom' hlow' hH11
  rintro n f H ⟨left, rfl, ⟨h0, h2, h5, h7, hmap⟩, hroom, hlow, e9, e20, cur, v11, es, h9, hH11, h20, hH20, hL⟩
  have hm1 : (1 : Int) ≤ ((k + 1 : Nat) : Int) ∧ ((k + 1 : Nat) : Int) ≤ r.rows.length := by omega
  repeat' (first | with_reducible (refine sk ?_; intro K hK) | ((with_reducible refine AW_regN (id := 5) tabOK { base := 400, own := [11, 20], imp := [19] } [] [38] (by rw [hXs]; decide +kernel) ?_); try simp (disch := omega) only [h0, h2, h5, h7, h9, h20, hH11, hH20, hmap, cRun, cRules,go_sem, simprocAttr]) | fail)
  refine ⟨fun hl => ?_, fun p hp a v hav => ?_⟩
  ·subst hl
   repeat' (first | with_reducible (first | (refine sk ?_; intro K hK) | apply_assumption -exfalso -symm only [*]) | ((with_reducible first | refine rgL [] [38] (md := { base := 400, own := [11, 20], imp := [19] }) (h := ?_) | refine nx ?_); try simp (disch := omega) only [h0, h2, h5, h7, h9, h20, hH11, hH20, hmap, cRun, cRules,go_sem, simprocAttr]) | ((with_reducible refine' cE ?hv ?_ ?_); (case hv => rfl); all_goals (intro hc; (try simp only [go_sem, simprocAttr] at hc))) | fail)
   refine FnQ_end (Or.inl rfl) (.refl _) (by simp only [Tryz.f112, h9, go_sem, simprocAttr]; rfl) ?_
   exact ⟨hlow, es, hL.stop, .inr ⟨411, _, _, by omega, by omega, rfl, hH11⟩⟩
  ·obtain ⟨w, hw⟩ : ∃ w, (wk r ((k + 1 : Nat) : Int))[p]? = some w := ⟨_, List.getElem?_eq_getElem (hL.mem p hp)⟩
   obtain ⟨cc, hcc, hwk⟩ := wk_mem.1 (List.mem_of_getElem? hw)
   obtain ⟨hnew, hL'⟩ := hL.step hF hp hw hcc
   have htb := truth_bounds hF hcc hm1.1 hm1.2 hwk
   have hle := List.length_erase_of_mem hp
   have hpos := List.length_pos_of_mem hp
   have hg : (tl (wk r ((k + 1 : Nat) : Int)))[p]? = some ((w : Int), .bool true) := by rw [tl_get, hw]; rfl
   rw [hg] at hav
   simp only [Option.map_some, Option.some.injEq, Prod.mk.injEq] at hav
   obtain ⟨rfl, rfl⟩ := hav
   repeat' (first | with_reducible (first | (refine sk ?_; intro K hK) | refine bk ?_ | apply_assumption -exfalso -symm only [*]) | ((with_reducible first | refine AW_regN (id := 6) tabOK { base := 400, own := [11, 20], imp := [19] } [] [38] (by rw [hXs]; decide +kernel) ?_ | refine nx ?_); try simp (disch := omega) only [h0, h2, h5, h7, h9, h20, hH11, hH20, hmap, hg, cRun, cRules,go_sem, simprocAttr]) | ((with_reducible refine' cE ?hv ?_ ?_); (case hv => rfl); all_goals (intro hc; (try simp only [go_sem, simprocAttr] at hc))) | fail)
   refine ⟨_, _, rfl, ?_⟩
   have hroom2 : ∀ q, Room (upd H 420 q) 1000 100 := fun q d hd => by rw [upd_ne _ _ (by omega)]; exact hroom d hd
   repeat' (first | with_reducible (first | intro (ep : Nat → Nat) | apply_assumption -exfalso -symm only [*]) | ((first | (with_reducible refine rgL [] [38] (md := { base := 400, own := [11, 20], imp := [19] }) (h := ?_)) | refine pK (outside_ok (truth r cc w _) ⟨degAt r.curve ((k + 1 : Nat) : Int) - u.single, degAt r.curve ((k + 1 : Nat) : Int) + u.single⟩) ?_ | refine lK (truth_look r hF rest _ _ (.inl rfl) (hroom2 _) w cc hcc _ hm1 hwk) ?_); try simp (disch := omega) only [h0, h2, h5, h7, h9, h20, hH11, hH20, hmap, hg, hcc, hnew, cRun, cRules, cCpl, encSpan,go_sem, simprocAttr]) | fail)
   exact ⟨(left.erase p).length, by omega, left.erase p, rfl, fun d hd => by rw [upd_ne _ _ (by omega)]; exact hroom2 _ d hd, fun j hj => by rw [if_neg (by omega), if_neg (by omega)]; exact hlow j hj, _, _, _, _, _, rfl, by rw [imap_snoc]; rfl, rfl, rfl, hL'⟩
end Cp
namespace Cp
open Go
def kOf : Val → Int
 | .int _ n => n
 | _ => 0
def toB (m q : Int) (es : List (Int × Val)) : List Brc := es.flatMap fun p => oneB m q p.1 (kOf p.2)
theorem toB_perm {m q : Int} {es X : List (Int × Val)} (h : es.Perm X) : (toB m q es).Perm (toB m q X) := by
 unfold toB; exact h.flatMap_right _
def lfE (es : List (Int × Val)) (left : List Nat) : List (Int × Val) := left.map fun p => es.getD p (0, kn 0)
theorem lfE_all {es : List (Int × Val)} : lfE es (List.range es.length) = es := by
 unfold lfE
 apply List.ext_getElem?
 intro i
 rw [List.getElem?_map]
 by_cases h : i < es.length
 ·rw [List.getElem?_range h]; simp [List.getD, h]
 ·rw [List.getElem?_eq_none (by simp; omega), List.getElem?_eq_none (by omega)]; rfl
theorem toB_take {m q : Int} {es : List (Int × Val)} {left : List Nat} {p : Nat} {c n : Int} (hp : p ∈ left) (he : es[p]? = some (c, kn n)) {l B : List Brc} (h : (l ++ toB m q (lfE es left)).Perm B) :
  ((l ++ oneB m q c n) ++ toB m q (lfE es (left.erase p))).Perm B := by
 refine .trans ?_ h
 rw [List.append_assoc]
 refine .append_left _ ?_
 have e := (List.perm_cons_erase hp).map fun p => es.getD p (0, kn 0)
 have e2 := toB_perm (m := m) (q := q) e.symm
 have e3 : es.getD p (0, kn 0) = (c, kn n) := by simp [List.getD, he]
 rw [List.map_cons, e3] at e2
 exact e2
def KnAll (X : List (Int × Val)) : Prop := ∀ p ∈ X, ∃ n, p.2 = kn n ∧ 0 ≤ n ∧ n ≤ 255
theorem oneB_len {m q c n : Int} : (oneB m q c n).length ≤ 1 := by unfold oneB; split <;> simp
theorem singL_len {r : RunT} {u : RulesT} {m : Int} : ∀ (l : List Nat), (singL r u m l).length ≤ l.length
 | [] => by simp [singL]
 | i :: l => by
  have ih := singL_len (r := r) (u := u) (m := m) l
  have : (singI r u m i).length ≤ 1 := by unfold singI; split; exact oneB_len; simp
  simp only [singL, List.length_append, List.length_cons]; omega
theorem minB_len {r : RunT} {u : RulesT} {k : Nat} (hF : RunF r) : (minB r u k).length ≤ 11 := by
 have h1 := hF.cpls
 have h2 := @wk_len r (k : Int)
 have h3 := singL_len (r := r) (u := u) (m := (k : Int)) (wk r (k : Int))
 have h4 : (blindB r (k : Int)).length ≤ 1 := by unfold blindB; split <;> simp
 have h5 : (singB r u (k : Int)).length ≤ 8 := by unfold singB; split; simp; omega
 have h6 : (pressB r u (k : Int)).length ≤ 1 := by unfold pressB; split; simp; exact oneB_len
 have h7 := @oneB_len (k : Int) 2 (-1) (areaS r u k)
 simp only [minB, List.length_append]; omega
theorem leftB_len {r : RunT} {u : RulesT} (hF : RunF r) : ∀ (k : Nat), (leftB r u k).length ≤ 11 * k
 | 0 => by simp [leftB]
 | k + 1 => by
  have ih := leftB_len (u := u) hF k
  have := minB_len (u := u) (k := k + 1) hF
  simp only [leftB, List.length_append]; omega
theorem toB_wk {r : RunT} {u : RulesT} {m : Int} : ∀ (l : List Nat), (∀ i ∈ l, ∃ c, r.cpls[i]? = some c) → toB m 3 (l.map (entS r u m)) = singL r u m l
 | [], _ => rfl
 | i :: l, h => by
  obtain ⟨c, hc⟩ := h i (by simp)
  have ih := toB_wk (r := r) (u := u) (m := m) l fun j hj => h j (by simp [hj])
  simp only [toB, List.map_cons, List.flatMap_cons, singL, singI, hc, entS_some hc] at ih ⊢
  rw [ih]; rfl
def chkX (r : RunT) (u : RulesT) (k : Nat) : Nat → List (Int × Val)
 | 0 => if wk r ((k + 1 : Nat) : Int) = [] then [(-1, kn 2)] else []
 | 1 => if partS u ((k + 1 : Nat) : Int) < 0 then [] else [(-1, kn (areaK u ((k + 1 : Nat) : Int) (cumC r (k + 1)) (cumLo r (k + 1)) (cumHi r (k + 1))))]
 | 2 => if ((k + 1 : Nat) : Int) < u.sfrom then [] else (wk r ((k + 1 : Nat) : Int)).map (entS r u ((k + 1 : Nat) : Int))
 | 3 => if ((k + 1 : Nat) : Int) < u.pfrom then [] else [(-1, kn (pressS r u ((k + 1 : Nat) : Int)))]
 | _ => []
theorem chkX_kn {r : RunT} {u : RulesT} {k i : Nat} : KnAll (chkX r u k i) := by
 intro p hp
 have one : ∀ n, 0 ≤ n → n ≤ 255 → p ∈ [((-1 : Int), kn n)] → ∃ n, p.2 = kn n ∧ 0 ≤ n ∧ n ≤ 255 := fun n h1 h2 h => by
  simp at h; subst h; exact ⟨n, rfl, h1, h2⟩
 match i with
 | 0 => simp only [chkX] at hp; split at hp; exact one 2 (by omega) (by omega) hp; simp at hp
 | 1 =>
  simp only [chkX] at hp; split at hp
  ·simp at hp
  ·have := @outK_bnd ⟨cumLo r (k + 1) * 1000, cumHi r (k + 1) * 1000⟩ ⟨cumC r (k + 1) * 840 * 1000 - cumC r (k + 1) * 840 * partS u ((k + 1 : Nat) : Int), cumC r (k + 1) * 840 * 1000 + cumC r (k + 1) * 840 * partS u ((k + 1 : Nat) : Int)⟩
   exact one _ this.1 (by omega) hp
 | 2 =>
  simp only [chkX] at hp; split at hp
  ·simp at hp
  ·obtain ⟨j, hj, rfl⟩ := List.mem_map.1 hp
   obtain ⟨c, hc, _⟩ := wk_mem.1 hj
   rw [entS_some hc]
   have := @outK_bnd (truth r c j ((k + 1 : Nat) : Int)) ⟨degAt r.curve ((k + 1 : Nat) : Int) - u.single, degAt r.curve ((k + 1 : Nat) : Int) + u.single⟩
   exact ⟨_, rfl, this.1, by simp only [singS]; omega⟩
 | 3 =>
  simp only [chkX] at hp; split at hp
  ·simp at hp
  ·have := @outK_bnd ⟨pressAt r ((k + 1 : Nat) : Int) - r.gauge.hi, pressAt r ((k + 1 : Nat) : Int) - r.gauge.lo⟩ u.press
   exact one _ this.1 (by omega) hp
 | i + 4 => simp [chkX] at hp
def chkB (r : RunT) (u : RulesT) (k : Nat) : Nat → List Brc
 | 0 => []
 | i + 1 => chkB r u k i ++ toB ((k + 1 : Nat) : Int) ((i + 1 : Nat) : Int) (chkX r u k i)
theorem chkB_all {r : RunT} {u : RulesT} {k : Nat} : chkB r u k 4 = minB r u (k + 1) := by
 have one : ∀ m q n : Int, toB m q [((-1 : Int), kn n)] = oneB m q (-1) n := fun m q n => by simp [toB, kn, kOf]
 have nil : ∀ m q : Int, toB m q [] = [] := fun m q => rfl
 have e1 : toB ((k + 1 : Nat) : Int) 1 (chkX r u k 0) = blindB r ((k + 1 : Nat) : Int) := by
  simp only [chkX, blindB]; split
  ·rw [one]; rfl
  ·rfl
 have e2 : toB ((k + 1 : Nat) : Int) 2 (chkX r u k 1) = oneB ((k + 1 : Nat) : Int) 2 (-1) (areaS r u (k + 1)) := by
  simp only [chkX, areaS]; split
  ·rfl
  ·rw [one]; rfl
 have e3 : toB ((k + 1 : Nat) : Int) 3 (chkX r u k 2) = singB r u ((k + 1 : Nat) : Int) := by
  simp only [chkX, singB]; split
  ·rfl
  ·exact toB_wk _ fun i hi => by obtain ⟨c, hc, _⟩ := wk_mem.1 hi; exact ⟨c, hc⟩
 have e4 : toB ((k + 1 : Nat) : Int) 4 (chkX r u k 3) = pressB r u ((k + 1 : Nat) : Int) := by
  simp only [chkX, pressB]; split
  ·rfl
  ·rw [one]
 show ((([] ++ toB _ _ _) ++ toB _ _ _) ++ toB _ _ _) ++ toB _ _ _ = _
 rw [List.nil_append]
 have e5 : toB ((k + 1 : Nat) : Int) ((0 + 1 : Nat) : Int) (chkX r u k 0) = _ := e1
 have e6 : toB ((k + 1 : Nat) : Int) ((1 + 1 : Nat) : Int) (chkX r u k 1) = _ := e2
 have e7 : toB ((k + 1 : Nat) : Int) ((2 + 1 : Nat) : Int) (chkX r u k 2) = _ := e3
 have e8 : toB ((k + 1 : Nat) : Int) ((3 + 1 : Nat) : Int) (chkX r u k 3) = _ := e4
 rw [e5, e6, e7, e8]; rfl
theorem chkB_len {r : RunT} {u : RulesT} {k : Nat} (hF : RunF r) {i : Nat} (hi : i ≤ 4) : (chkB r u k i).length ≤ 11 := by
 have h := minB_len (u := u) (k := k + 1) hF
 rw [← chkB_all] at h
 have e : (chkB r u k 4).length = (chkB r u k 3).length + _ := List.length_append
 have e2 : (chkB r u k 3).length = (chkB r u k 2).length + _ := List.length_append
 have e3 : (chkB r u k 2).length = (chkB r u k 1).length + _ := List.length_append
 have e4 : (chkB r u k 1).length = (chkB r u k 0).length + _ := List.length_append
 obtain rfl | rfl | rfl | rfl | rfl : i = 0 ∨ i = 1 ∨ i = 2 ∨ i = 3 ∨ i = 4 := by omega
 all_goals omega
theorem AW_cut {P : Program} {ro : Option Nat} {X : Cx} {c : Code} {Q : Exit → Fr → Hp → Prop} {f : Fr} {H : Hp} (n : Nat) (h : ∀ H' : Hp, (∀ j, j < n → H' j = H j) → (∀ j, n ≤ j → H' j = none) → AW P ro X c Q f H') : AW P ro X c Q f H :=
 AW_drop (fun j => if j < n then H j else none) (fun j => by
  by_cases hj : j < n
  ·exact .inr (if_pos hj)
  ·exact .inl (if_neg hj)) (h _ (fun j hj => if_pos hj) fun j hj => if_neg (by omega))
def AllL (e6 : Nat) (l : List Brc) (H : Hp) : Prop := (l = [] ∧ H 6 = some (e6, .arr 1 [[.nils]])) ∨ l ≠ [] ∧ ∃ ea, H 6 = some (e6, .arr 1 [[.gr 355 ea l.length]]) ∧ H 355 = some (ea, .arr 4 (l.map cBrc))
theorem AllL.same {e6 : Nat} {l : List Brc} {H H' : Hp} (h : AllL e6 l H) (h6 : H' 6 = H 6) (h355 : H' 355 = H 355) : AllL e6 l H' := by
 unfold AllL; rw [h6, h355]; exact h
theorem toB_len {m q : Int} : ∀ (es : List (Int × Val)), (toB m q es).length ≤ es.length
 | [] => by simp [toB]
 | p :: es => by
  have ih := toB_len (m := m) (q := q) es
  have h1 := @oneB_len m q p.1 (kOf p.2)
  simp only [toB, List.flatMap_cons, List.length_append, List.length_cons] at ih ⊢
  omega
theorem chkX_len {r : RunT} {u : RulesT} {k i : Nat} (hF : RunF r) : (chkX r u k i).length ≤ 8 := by
 have h1 := hF.cpls
 have h2 := @wk_len r ((k + 1 : Nat) : Int)
 match i with
 | 0 => simp only [chkX]; split <;> simp
 | 1 => simp only [chkX]; split <;> simp
 | 2 =>
  simp only [chkX]
  split
  ·simp
  ·simp only [List.length_map]; omega
 | 3 => simp only [chkX]; split <;> simp
 | i + 4 => simp [chkX]
end Cp
namespace Cp
open Go Go.Proofs
set_option maxRecDepth 10000
def chkV : List (List Val) := [[kn 1, .fn 107 []], [kn 2, .fn 108 []], [kn 3, .fn 112 []], [kn 4, .fn 113 []]]
theorem checks_ok : PureC Tryz.prog 82 [] (.lst 2 chkV) := by
 refine PureC_of (fn := Tryz.f82) tabOK (by kernel_rfl) rfl (by kernel_rfl) (by simp [Tryz.f82]) (by simp [noids, noid, noidss, go_sem, chkV, kn]) (by first | rfl | simp [noids, noid, noidss, go_sem, chkV, kn]) ?_
 intro X hX0 hXs
 repeat' (first | with_reducible (first | (refine sk ?_; intro K hK) | apply_assumption -exfalso -symm only [*]) | ((with_reducible first | refine rg (h := ?_) | refine nx ?_); try simp (disch := omega) only [chkV, kn,go_sem, simprocAttr]) | ((with_reducible refine fe ?_); refine ⟨_, (by simp only [Tryz.f82, chkV, kn,go_sem, simprocAttr]; rfl), ?_⟩; rfl) | fail)
theorem minutes_ok (cs : List Val) (hcs : noids cs = true) : PureC Tryz.prog 81 [.pim cs] (.fn 105 [.pim [.pim cs]]) := by
 refine PureC_of (fn := Tryz.f81) tabOK (by kernel_rfl) rfl (by kernel_rfl) (by simp [Tryz.f81]) (by simp [noids, noid, noidss, go_sem, hcs]) (by first | rfl | simp [noids, noid, noidss, go_sem, hcs]) ?_
 intro X hX0 hXs
 repeat' (first | with_reducible (first | (refine sk ?_; intro K hK) | apply_assumption -exfalso -symm only [*]) | ((with_reducible first | refine rg (h := ?_) | refine nx ?_); try simp (disch := omega) only [hcs,go_sem, simprocAttr]) | ((with_reducible refine fe ?_); refine ⟨_, (by simp only [Tryz.f81, hcs,go_sem, simprocAttr]; rfl), ?_⟩; rfl) | fail)
theorem key1_ok (b : Brc) : PureC Tryz.prog 86 [.agg (cBrc b)] (.int .i64 b.m) := by
 refine PureC_of (fn := Tryz.f86) tabOK (by kernel_rfl) rfl (by kernel_rfl) (by simp [Tryz.f86]) (by simp [noids, noid, noidss, go_sem, cBrc]) (by first | rfl | simp [noids, noid, noidss, go_sem, cBrc]) ?_
 intro X hX0 hXs
 repeat' (first | with_reducible (first | (refine sk ?_; intro K hK) | apply_assumption -exfalso -symm only [*]) | ((with_reducible first | refine rg (h := ?_) | refine nx ?_); try simp (disch := omega) only [cBrc,go_sem, simprocAttr]) | ((with_reducible refine fe ?_); refine ⟨_, (by simp only [Tryz.f86, cBrc,go_sem, simprocAttr]; rfl), ?_⟩; rfl) | fail)
theorem key2_ok (b : Brc) (h : 0 ≤ b.kind ∧ b.kind ≤ 255) : PureC Tryz.prog 87 [.agg (cBrc b)] (.int .i64 b.kind) := by
 refine PureC_of (fn := Tryz.f87) tabOK (by kernel_rfl) rfl (by kernel_rfl) (by simp [Tryz.f87]) (by simp [noids, noid, noidss, go_sem, cBrc]) (by first | rfl | simp [noids, noid, noidss, go_sem, cBrc]) ?_
 intro X hX0 hXs
 repeat' (first | with_reducible (first | (refine sk ?_; intro K hK) | apply_assumption -exfalso -symm only [*]) | ((with_reducible first | refine rg (h := ?_) | refine nx ?_); try simp (disch := omega) only [cBrc,go_sem, simprocAttr]) | ((with_reducible refine fe ?_); refine ⟨_, (by simp only [Tryz.f87, cBrc,go_sem, simprocAttr]; rfl), ?_⟩; rfl) | fail)
theorem key3_ok (b : Brc) : PureC Tryz.prog 88 [.agg (cBrc b)] (.int .i64 b.cpl) := by
 refine PureC_of (fn := Tryz.f88) tabOK (by kernel_rfl) rfl (by kernel_rfl) (by simp [Tryz.f88]) (by simp [noids, noid, noidss, go_sem, cBrc]) (by first | rfl | simp [noids, noid, noidss, go_sem, cBrc]) ?_
 intro X hX0 hXs
 repeat' (first | with_reducible (first | (refine sk ?_; intro K hK) | apply_assumption -exfalso -symm only [*]) | ((with_reducible first | refine rg (h := ?_) | refine nx ?_); try simp (disch := omega) only [cBrc,go_sem, simprocAttr]) | ((with_reducible refine fe ?_); refine ⟨_, (by simp only [Tryz.f88, cBrc,go_sem, simprocAttr]; rfl), ?_⟩; rfl) | fail)
def cmpB (a b : Brc) : Int := if cmpI a.m b.m ≠ 0 then cmpI a.m b.m else if cmpI a.kind b.kind ≠ 0 then cmpI a.kind b.kind else cmpI a.cpl b.cpl
def keysV : List (List Val) := [[.fn 86 []], [.fn 87 []], [.fn 88 []]]
theorem by_ok (a b : Brc) (ha : 0 ≤ a.kind ∧ a.kind ≤ 255) (hb : 0 ≤ b.kind ∧ b.kind ≤ 255) : PureC Tryz.prog 85 [.agg (cBrc a), .agg (cBrc b), .lst 1 keysV] (.int .i64 (cmpB a b)) := by
 have k1 := key1_ok a
 have k2 := key2_ok a ha
 have k3 := key3_ok a
 have l1 := key1_ok b
 have l2 := key2_ok b hb
 have l3 := key3_ok b
 simp only [cBrc] at k1 k2 k3 l1 l2 l3
 refine PureC_of (fn := Tryz.f85) tabOK (by kernel_rfl) rfl (by kernel_rfl) (by simp [Tryz.f85]) (by simp [noids, noid, noidss, go_sem, cBrc, keysV]) (by first | rfl | simp [noids, noid, noidss, go_sem, cBrc, keysV]) ?_
 intro X hX0 hXs
 repeat' (first | with_reducible (first | (refine sk ?_; intro K hK) | apply_assumption -exfalso -symm only [*]) | ((with_reducible refine rg (h := ?_)); try simp (disch := omega) only [cBrc, keysV,go_sem, simprocAttr]) | fail)
 refine AW_range tabOK 3 (fun k f H => (f 3 = .pim (cBrc a) ∧ f 4 = .pim (cBrc b) ∧ f 10 = .lst 1 keysV ∧ H = none0) ∧ (k = 0 ∨ cmpI a.m b.m = 0) ∧ (k ≤ 1 ∨ cmpI a.kind b.kind = 0) ∧ (k ≤ 2 ∨ cmpI a.cpl b.cpl = 0)) (by omega) (by rw [hXs]; decide) (by decide) (by simp only [go_sem, simprocAttr]) (by (first | rfl | (simp only [go_sem, simprocAttr]; done) | (simp only [go_sem, simprocAttr]; rfl)))
  ⟨by (and_intros <;> first | rfl | (simp only [cBrc, keysV, go_sem, simprocAttr]; done) | (simp only [cBrc, keysV, go_sem, simprocAttr]; rfl)), by simp, by simp, by simp⟩ ?_ ?_
 ·rintro k f H hk h12 h11 ⟨⟨h3, h4, h10, rfl⟩, q1, q2, q3⟩
  obtain rfl | rfl | rfl : k = 0 ∨ k = 1 ∨ k = 2 := by omega
  ·repeat' (first | with_reducible (first | (refine sk ?_; intro K hK) | apply_assumption -exfalso -symm only [*]) | ((first | (with_reducible first | refine rg (h := ?_) | refine nx ?_) | refine pK (k1) ?_ | refine pK (l1) ?_ | refine pK (compare_ok _ _) ?_); try simp (disch := omega) only [h3, h4, h10, h11, h12, cBrc, keysV,go_sem, simprocAttr]) | ((with_reducible refine' cE ?hv ?_ ?_); (case hv => rfl); all_goals (intro hc; (try simp only [go_sem, simprocAttr] at hc))) | ((with_reducible refine fe ?_); refine ⟨_, (by simp only [Tryz.f85, h3, h4, h10, h11, h12, cBrc, keysV,go_sem, simprocAttr]; rfl), ?_⟩; (try simp only [h3, h4, h10, h11, h12, cBrc, keysV,go_sem, simprocAttr, seval])) | fail)
   ·unfold cmpB; rw [if_pos hc]
   ·exact .inr hc
  ·repeat' (first | with_reducible (first | (refine sk ?_; intro K hK) | apply_assumption -exfalso -symm only [*]) | ((first | (with_reducible first | refine rg (h := ?_) | refine nx ?_) | refine pK (k2) ?_ | refine pK (l2) ?_ | refine pK (compare_ok _ _) ?_); try simp (disch := omega) only [h3, h4, h10, h11, h12, cBrc, keysV,go_sem, simprocAttr]) | ((with_reducible refine' cE ?hv ?_ ?_); (case hv => rfl); all_goals (intro hc; (try simp only [go_sem, simprocAttr] at hc))) | ((with_reducible refine fe ?_); refine ⟨_, (by simp only [Tryz.f85, h3, h4, h10, h11, h12, cBrc, keysV,go_sem, simprocAttr]; rfl), ?_⟩; (try simp only [h3, h4, h10, h11, h12, cBrc, keysV,go_sem, simprocAttr, seval])) | fail)
   ·unfold cmpB; rw [if_neg (by simp [q1.resolve_left (by omega)]), if_pos hc]
   ·exact ⟨.inr (q1.resolve_left (by omega)), .inr hc⟩
  ·repeat' (first | with_reducible (first | (refine sk ?_; intro K hK) | apply_assumption -exfalso -symm only [*]) | ((first | (with_reducible first | refine rg (h := ?_) | refine nx ?_) | refine pK (k3) ?_ | refine pK (l3) ?_ | refine pK (compare_ok _ _) ?_); try simp (disch := omega) only [h3, h4, h10, h11, h12, cBrc, keysV,go_sem, simprocAttr]) | ((with_reducible refine' cE ?hv ?_ ?_); (case hv => rfl); all_goals (intro hc; (try simp only [go_sem, simprocAttr] at hc))) | ((with_reducible refine fe ?_); refine ⟨_, (by simp only [Tryz.f85, h3, h4, h10, h11, h12, cBrc, keysV,go_sem, simprocAttr]; rfl), ?_⟩; (try simp only [h3, h4, h10, h11, h12, cBrc, keysV,go_sem, simprocAttr, seval])) | fail)
   ·unfold cmpB; rw [if_neg (by simp [q1.resolve_left (by omega)]), if_neg (by simp [q2.resolve_left (by omega)])]
   ·exact ⟨.inr (q1.resolve_left (by omega)), .inr (q2.resolve_left (by omega)), .inr hc⟩
 ·rintro f H h12 h11 ⟨⟨h3, h4, h10, rfl⟩, q1, q2, q3⟩
  repeat' (first | with_reducible (first | (refine sk ?_; intro K hK) | apply_assumption -exfalso -symm only [*]) | ((with_reducible first | refine rg (h := ?_) | refine nx ?_); try simp (disch := omega) only [h3, h4, h10, h11, h12, cBrc, keysV,go_sem, simprocAttr]) | ((with_reducible refine fe ?_); refine ⟨_, (by simp only [Tryz.f85, h3, h4, h10, h11, h12, cBrc, keysV,go_sem, simprocAttr]; rfl), ?_⟩; (try simp only [h3, h4, h10, h11, h12, cBrc, keysV,go_sem, simprocAttr, seval])) | fail)
  have e1 := q1.resolve_left (by omega)
  have e2 := q2.resolve_left (by omega)
  have e3 := q3.resolve_left (by omega)
  simp [cmpB, e1, e2, e3]
theorem cmp_ok (a b : Brc) (ha : 0 ≤ a.kind ∧ a.kind ≤ 255) (hb : 0 ≤ b.kind ∧ b.kind ≤ 255) : PureC Tryz.prog 84 [.agg (cBrc a), .agg (cBrc b)] (.int .i64 (cmpB a b)) := by
 refine PureC_of (fn := Tryz.f84) tabOK (by kernel_rfl) rfl (by kernel_rfl) (by simp [Tryz.f84]) (by simp [noids, noid, noidss, go_sem, cBrc]) (by first | rfl | simp [noids, noid, noidss, go_sem, cBrc]) ?_
 intro X hX0 hXs
 repeat' (first | with_reducible (first | (refine sk ?_; intro K hK) | apply_assumption -exfalso -symm only [*]) | ((first | (with_reducible first | refine rg (h := ?_) | refine nx ?_) | refine pK (by_ok a b ha hb) ?_); try simp (disch := omega) only [cBrc,go_sem, simprocAttr]) | ((with_reducible refine fe ?_); refine ⟨_, (by simp only [Tryz.f84, cBrc,go_sem, simprocAttr]; rfl), ?_⟩; rfl) | fail)
end Cp
