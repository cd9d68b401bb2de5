/- Rules, facts and contracts that the statement's proof leans on. Conditions: none. -/
import Derived.Shelf.SlSortCmp.NoneTotal
import Derived.Test.YtioeikglibjefaaP9
set_option linter.unusedVariables false
set_option linter.unusedSimpArgs false
set_option linter.unusedSectionVars false
namespace Cp
open Go
@[go_sem] theorem fzd_fn {H : Hp} {n : Nat} {g : FuncId} {cs : List Val} : fzd H n (.fn g cs) = .fn g cs := by cases n <;> rfl
section
variable {P : Program} {T : Tab} {md : Me} {os : List Oper} {K : Fr → Hp → Prop} {f : Fr} {H H' : Hp} {d : Option Tmp} {ty : TypeId} {pos : String} {af : Array Edge} {g : Option (Nat × Bool)} {ss lk : List Nat}
theorem FnQ_end {fn : Func} {R : Val → Hp → Prop} {e : Exit} {v : Val} (he : e = .ret ∨ e = .normal) (hf : Frz H H') (hx : xres T f H' fn.results.toList = some v) (h : R v H') : FnQ T fn R e f H := by
 rcases he with rfl | rfl <;> exact ⟨H', v, hf, hx, h⟩
@[go_sem] theorem fzd_nilm {n : Nat} : fzd H n .nilm = .nilm := by cases n <;> rfl
@[go_sem] theorem stpL_insert {t : TypeId} {x y z : Operand} : stpL P T md os ss lk { dst := d, op := .insert t x y z, type := ty, pos := pos, after := af, guard := g } K f H = stpS P T md os ss { dst := d, op := .insert t x y z, type := ty, pos := pos, after := af, guard := g } K f H := rfl
@[go_sem] theorem xfind_nil {kt : TypeId} {key : Val} {i : Nat} : xfind T kt key [] i = some none := rfl
theorem stpY_stpL {o : Oper} (h : ∀ a, o.op ≠ .call a) : stpY P T md os ss lk o K f H = stpL P T md os ss lk o K f H := by
 unfold stpY
 split
 ·rename_i h1 _; exact absurd h1 (h _)
 ·rfl
@[go_sem] theorem stpY_call {h : Operand} {xs : Array Operand} {ts : Array TypeId} : stpY P T md os ss lk { dst := d, op := .call { callee := .value h, args := xs, argTypes := ts }, type := ty, pos := pos, after := af, guard := none } K f H =
  yvK P d K f H (xs.toList.map (ev f)) (stpL P T md os ss lk { dst := d, op := .call { callee := .value h, args := xs, argTypes := ts }, type := ty, pos := pos, after := af, guard := none } K f H) (ev f h) := rfl
@[go_sem] theorem yvK_yld {args : List Val} {rest : Prop} {k e : Nat} : yvK P d K f H args rest (.yld k e) = yldK P d K f H k e args := rfl
@[go_sem] theorem yvK_fn {args caps : List Val} {rest : Prop} {fid : FuncId} : yvK P d K f H args rest (.fn fid caps) = rest := rfl
@[go_sem] theorem stpY_builtin {b : Builtin} {xs : Array Operand} {ts : Array TypeId} : stpY P T md os ss lk { dst := d, op := .call { callee := .builtin b, args := xs, argTypes := ts }, type := ty, pos := pos, after := af, guard := g } K f H =
  stpL P T md os ss lk { dst := d, op := .call { callee := .builtin b, args := xs, argTypes := ts }, type := ty, pos := pos, after := af, guard := g } K f H := by cases g <;> rfl
@[go_sem] theorem stpY_move {x : Operand} : stpY P T md os ss lk { dst := d, op := .move x, type := ty, pos := pos, after := af, guard := g } K f H = stpL P T md os ss lk { dst := d, op := .move x, type := ty, pos := pos, after := af, guard := g } K f H := stpY_stpL (by simp)
@[go_sem] theorem stpY_assign {x : Operand} : stpY P T md os ss lk { dst := d, op := .assign x, type := ty, pos := pos, after := af, guard := g } K f H = stpL P T md os ss lk { dst := d, op := .assign x, type := ty, pos := pos, after := af, guard := g } K f H := stpY_stpL (by simp)
@[go_sem] theorem stpY_load {t : TypeId} {x : Operand} : stpY P T md os ss lk { dst := d, op := .load t x, type := ty, pos := pos, after := af, guard := g } K f H = stpL P T md os ss lk { dst := d, op := .load t x, type := ty, pos := pos, after := af, guard := g } K f H := stpY_stpL (by simp)
@[go_sem] theorem stpY_unOp {p : UnOp} {t : TypeId} {x : Operand} : stpY P T md os ss lk { dst := d, op := .unOp p t x, type := ty, pos := pos, after := af, guard := g } K f H = stpL P T md os ss lk { dst := d, op := .unOp p t x, type := ty, pos := pos, after := af, guard := g } K f H := stpY_stpL (by simp)
@[go_sem] theorem stpY_fieldAddr {t : TypeId} {x : Operand} {n : Nat} : stpY P T md os ss lk { dst := d, op := .fieldAddr t x n, type := ty, pos := pos, after := af, guard := g } K f H = stpL P T md os ss lk { dst := d, op := .fieldAddr t x n, type := ty, pos := pos, after := af, guard := g } K f H := stpY_stpL (by simp)
@[go_sem] theorem stpY_binOp {p : BinOp} {t u : TypeId} {x y : Operand} : stpY P T md os ss lk { dst := d, op := .binOp p t x y u, type := ty, pos := pos, after := af, guard := g } K f H = stpL P T md os ss lk { dst := d, op := .binOp p t x y u, type := ty, pos := pos, after := af, guard := g } K f H := stpY_stpL (by simp)
@[go_sem] theorem stpY_indexAddr {t : TypeId} {x y : Operand} : stpY P T md os ss lk { dst := d, op := .indexAddr t x y, type := ty, pos := pos, after := af, guard := g } K f H = stpL P T md os ss lk { dst := d, op := .indexAddr t x y, type := ty, pos := pos, after := af, guard := g } K f H := stpY_stpL (by simp)
end
end Cp
namespace Cp
open Go
section
variable {P : Program} {T : Tab} {md : Me} {os : List Oper} {K : Fr → Hp → Prop} {f : Fr} {H : Hp} {d : Option Tmp} {ty : TypeId} {pos : String} {af : Array Edge} {g : Option (Nat × Bool)} {ss lk : List Nat}
 {s b : Nat} {z : Val} {p : Bool}
@[go_sem] theorem xck_struct {n : Nat} {fs : List (Nat × Nat)} {cs : List Val} : xck T (n + 1) { kind := .struct fs, sz := s, bytes := b, zero := z, plain := p } (.agg cs) = xckF T (xck T n) cs fs := rfl
def xckF1 (T : Tab) (g : TI → Val → Bool) (cs : List Val) (fs : List (Nat × Nat)) (off : Nat) : Option TI → Bool
 | none => false
 | some fi => match rdC fi (cs.drop off) with | none => false | some a => g fi a && xckF T g cs fs
@[go_sem] theorem xckF_nil {g : TI → Val → Bool} {cs : List Val} : xckF T g cs [] = true := rfl
@[go_sem] theorem xckF_cons {g : TI → Val → Bool} {cs : List Val} {off ft : Nat} {fs : List (Nat × Nat)} : xckF T g cs ((off, ft) :: fs) = xckF1 T g cs fs off (T ft) := by
 simp only [xckF, xckF1]
 cases T ft <;> rfl
def xckF2 (T : Tab) (g : TI → Val → Bool) (cs : List Val) (fs : List (Nat × Nat)) (fi : TI) : Option Val → Bool
 | none => false
 | some a => g fi a && xckF T g cs fs
@[go_sem] theorem xckF1_some {g : TI → Val → Bool} {cs : List Val} {off : Nat} {fs : List (Nat × Nat)} {fi : TI} : xckF1 T g cs fs off (some fi) = xckF2 T g cs fs fi (rdC fi (cs.drop off)) := rfl
@[go_sem] theorem xckF2_some {g : TI → Val → Bool} {cs : List Val} {fs : List (Nat × Nat)} {fi : TI} {a : Val} : xckF2 T g cs fs fi (some a) = (g fi a && xckF T g cs fs) := rfl
def lkF (z : Val) : Option (Option (Nat × Val)) → Option Val
 | none => none
 | some none => some z
 | some (some (_, v)) => some v
@[go_sem] theorem lkF_no : lkF z (some none) = some z := rfl
@[go_sem] theorem lkF_yes {i : Nat} {v : Val} : lkF z (some (some (i, v))) = some v := rfl
def lkH (T : Tab) (kt : TypeId) (key : Val) (z : Val) (e : Nat) (ck : Bool) : Option (Nat × AObj) → Option Val
 | some (e', .map _ es) => if e = e' ∧ ck = true then lkF z (xfind T kt key es 0) else none
 | some (e', .frm _ es) => if e = e' ∧ ck = true then lkF z (xfind T kt key es 0) else none
 | _ => none
@[go_sem] theorem lkH_map {kt : TypeId} {key : Val} {e e' ver : Nat} {ck : Bool} {es : List (Val × Val)} : lkH T kt key z e ck (some (e', .map ver es)) = if e = e' ∧ ck = true then lkF z (xfind T kt key es 0) else none := rfl
@[go_sem] theorem lkH_frm {kt : TypeId} {key : Val} {e e' ver : Nat} {ck : Bool} {es : List (Val × Val)} : lkH T kt key z e ck (some (e', .frm ver es)) = if e = e' ∧ ck = true then lkF z (xfind T kt key es 0) else none := rfl
def lkT2 (T : Tab) (H : Hp) (kt : TypeId) (key : Val) (k e : Nat) : Option TI → Option TI → Option Val
 | some ki, some vi => lkH T kt key vi.zero e (xck T 8 ki key) (H k)
 | _, _ => none
@[go_sem] theorem lkT2_some {kt : TypeId} {key : Val} {k e : Nat} {ki vi : TI} : lkT2 T H kt key k e (some ki) (some vi) = lkH T kt key vi.zero e (xck T 8 ki key) (H k) := rfl
def lkT (T : Tab) (H : Hp) (key : Val) (k e : Nat) : Option TI → Option Val
 | some { kind := .map kt vt, .. } => lkT2 T H kt key k e (T kt) (T vt)
 | _ => none
@[go_sem] theorem lkT_map {key : Val} {k e kt vt : Nat} : lkT T H key k e (some { kind := .map kt vt, sz := s, bytes := b, zero := z, plain := p }) = lkT2 T H kt key k e (T kt) (T vt) := rfl
@[go_sem] theorem xlookup_eq {t : TypeId} {k e : Nat} {key : Val} : xlookup T H t (.map k e) key false = lkT T H key k e (T t) := by
 unfold xlookup lkT
 cases T t with
 | none => rfl
 | some ti =>
  obtain ⟨kind, _, _, _, _⟩ := ti
  cases kind <;> try rfl
  rename_i kt vt
  simp only [lkT2]
  cases T kt with
  | none => rfl
  | some ki =>
   cases T vt with
   | none => rfl
   | some vi =>
    simp only
    have hF : ∀ es : List (Val × Val), (match xfind T kt key es 0 with | none => none | some none => some (if false = true then Val.tup [vi.zero, .bool false] else vi.zero) | some (some (_, v)) => some (if false = true then Val.tup [v, .bool true] else v)) = lkF vi.zero (xfind T kt key es 0) := fun es => by
     cases xfind T kt key es 0 with
     | none => rfl
     | some q => cases q <;> rfl
    cases hc : xck T 8 ki key with
    | false =>
     cases H k with
     | none => rfl
     | some q => obtain ⟨e', o⟩ := q; cases o <;> simp [lkH]
    | true =>
     cases H k with
     | none => rfl
     | some q =>
      obtain ⟨e', o⟩ := q
      cases o <;> try rfl
      all_goals
       by_cases he : e = e'
       ·subst he; simp only [if_true, lkH, and_self]; exact hF _
       ·simp [lkH, he]
@[go_sem] theorem xgo_lookup {t : TypeId} {m key : Operand} {o : Bool} : xgo P T md { dst := d, op := .lookup t m key o, type := ty, pos := pos, after := af, guard := g } K f H = one K d f H (xlookup T H t (ev f m) (ev f key) o) := by
 simp only [xgo, xop]
 generalize xlookup T H t (ev f m) (ev f key) o = X
 cases X <;> exact kk _
end
def limK (b : Brc) : Val := .agg [.int .i64 b.m, .int .u8 b.kind, .int .i64 b.cpl]
def kmap (v : Brc → Val) (l : List Brc) : List (Val × Val) := l.map fun b => (limK b, v b)
def sameL (a b : Brc) : Prop := a.m = b.m ∧ a.kind = b.kind ∧ a.cpl = b.cpl
instance {a b : Brc} : Decidable (sameL a b) := by unfold sameL; infer_instance
def findB (b : Brc) (v : Brc → Val) : List Brc → Nat → Option (Nat × Val)
 | [], _ => none
 | x :: l, i => if sameL b x then some (i, v x) else findB b v l (i + 1)
theorem xeq_limK {a b : Brc} : xeq tab 73 (limK a) (limK b) = some (decide (sameL a b)) := by
 have e : xeq tab 73 (limK a) (limK b) = some (decide (a.m = b.m) && (decide (a.kind = b.kind) && (decide (a.cpl = b.cpl) && true))) := rfl
 rw [e, Bool.and_true]; congr 1; rw [Bool.eq_iff_iff, decide_eq_true_iff]; simp [sameL]
theorem keq_limK {a b : Brc} (h : sameL a b) : keq (limK a) (limK b) = true := by
 obtain ⟨h1, h2, h3⟩ := h
 simp [limK, keq, keqs, h1, h2, h3]
theorem xfind_kmap {b : Brc} {v : Brc → Val} : ∀ (l : List Brc) (i : Nat), xfind tab 73 (limK b) (kmap v l) i = some (findB b v l i)
 | [], i => rfl
 | x :: l, i => by
  have ih := xfind_kmap (b := b) (v := v) l (i + 1)
  show xfind tab 73 (limK b) ((limK x, v x) :: kmap v l) i = _
  simp only [xfind, xeq_limK, findB]
  by_cases h : sameL b x
  ·simp [h, keq_limK h]
  ·simp only [decide_eq_false h, if_neg h]; exact ih
theorem findB_none {b : Brc} {v : Brc → Val} : ∀ {l : List Brc} {i : Nat}, (∀ x ∈ l, ¬ sameL b x) → findB b v l i = none
 | [], i, h => rfl
 | x :: l, i, h => by
  simp only [findB]
  rw [if_neg (h x (by simp))]
  exact findB_none fun p hp => h p (by simp [hp])
theorem kmap_snoc {v : Brc → Val} {l : List Brc} {b : Brc} : kmap v l ++ [(limK b, v b)] = kmap v (l ++ [b]) := by simp [kmap]
attribute [go_sem] Bool.true_and
end Cp
namespace Cp
open Go Go.Proofs
set_option maxRecDepth 10000
end Cp
namespace Cp
open Go
def outK (s o : Span) : Int := if s.hi < o.lo ∨ o.hi < s.lo then 2 else if s.lo < o.lo ∨ o.hi < s.hi then 1 else 0
theorem outK_bnd {s o : Span} : 0 ≤ outK s o ∧ outK s o ≤ 2 := by unfold outK; split <;> (try split) <;> omega
def partFrom (m : Int) (acc : Int) : List StepT → Int
 | [] => acc
 | s :: l => partFrom m (if s.frm ≤ m then s.part else acc) l
def partS (u : RulesT) (m : Int) : Int := partFrom m (-1) u.steps
def cutS (u : RulesT) (m : Int) : Nat := (u.steps.takeWhile fun s => decide (s.frm ≤ m)).length
theorem idx_take {α : Type} {p : α → Bool} : ∀ (l : List α) (k : Int), idxFrom (fun x => !p x) l k = if (l.takeWhile p).length < l.length then k + (l.takeWhile p).length else -1
 | [], k => by simp [idxFrom]
 | x :: l, k => by
  have ih := idx_take (p := p) l (k + 1)
  simp only [idxFrom]
  by_cases hp : p x = true
  case neg =>
   simp only [Bool.not_eq_true] at hp
   simp [List.takeWhile_cons, hp]
  case pos =>
   simp only [List.takeWhile_cons, hp, Bool.not_true, Bool.false_eq_true, if_false, ih, if_true, List.length_cons]
   split
   ·rw [if_pos (by omega)]; omega
   ·rw [if_neg (by omega)]
theorem partFrom_gt {m : Int} : ∀ (l : List StepT) (acc : Int), (∀ s ∈ l, m < s.frm) → partFrom m acc l = acc
 | [], acc, h => rfl
 | s :: l, acc, h => by
  have h1 := h s (by simp)
  simp only [partFrom]
  rw [if_neg (by omega)]
  exact partFrom_gt l acc fun x hx => h x (by simp [hx])
theorem steps_gt : ∀ (l : List StepT) (last : Int), stepsFrom last l = true → ∀ s ∈ l, last < s.frm
 | [], _, _, s, hs => by simp at hs
 | a :: l, last, h, s, hs => by
  simp only [stepsFrom, stepOK, Bool.and_eq_true, decide_eq_true_eq] at h
  rcases List.mem_cons.1 hs with rfl | hs
  ·omega
  ·have := steps_gt l a.frm h.2 s hs; omega
theorem part_cut {m : Int} : ∀ (l : List StepT) (last acc : Int), stepsFrom last l = true →
  ((l.takeWhile fun s => decide (s.frm ≤ m)).length = 0 → partFrom m acc l = acc) ∧ (∀ j, (l.takeWhile fun s => decide (s.frm ≤ m)).length = j + 1 → ∃ s, l[j]? = some s ∧ partFrom m acc l = s.part)
 | [], last, acc, h => ⟨fun _ => rfl, fun j hj => by simp at hj⟩
 | a :: l, last, acc, h => by
  simp only [stepsFrom, stepOK, Bool.and_eq_true, decide_eq_true_eq] at h
  obtain ⟨ih1, ih2⟩ := part_cut (m := m) l a.frm (if a.frm ≤ m then a.part else acc) h.2
  simp only [List.takeWhile_cons, partFrom]
  by_cases ha : a.frm ≤ m
  ·simp only [ha, decide_true, if_true, List.length_cons] at ih1 ih2 ⊢
   refine ⟨fun h => by omega, fun j hj => ?_⟩
   cases j with
   | zero => exact ⟨a, rfl, ih1 (by omega)⟩
   | succ j =>
    obtain ⟨s, h1, h2⟩ := ih2 j (by omega)
    exact ⟨s, by simpa using h1, h2⟩
  ·simp only [ha, decide_false, Bool.false_eq_true, if_false, List.length_nil]
   refine ⟨fun _ => partFrom_gt l acc fun s hs => by have := steps_gt l a.frm h.2 s hs; omega, fun j hj => by omega⟩
structure RulesF (u : RulesT) : Prop where
 len : u.steps.length ≤ 5
 single : 0 ≤ u.single ∧ u.single ≤ 2000
 sfrom : 1 ≤ u.sfrom ∧ u.sfrom ≤ 600
 press : -100 ≤ u.press.lo ∧ u.press.lo ≤ u.press.hi ∧ u.press.hi ≤ 100
 pfrom : 1 ≤ u.pfrom ∧ u.pfrom ≤ 600
 from0 : stepsFrom 0 u.steps = true
 step : ∀ s ∈ u.steps, (1 ≤ s.frm ∧ s.frm ≤ 600) ∧ 0 ≤ s.part ∧ s.part ≤ 1000
theorem steps_all : ∀ (l : List StepT) (last : Int), 0 ≤ last → stepsFrom last l = true → ∀ s ∈ l, (last < s.frm ∧ s.frm ≤ 600) ∧ 0 ≤ s.part ∧ s.part ≤ 1000
 | [], _, _, _, s, hs => by simp at hs
 | a :: l, last, h0, h, s, hs => by
  simp only [stepsFrom, stepOK, Bool.and_eq_true, decide_eq_true_eq] at h
  rcases List.mem_cons.1 hs with rfl | hs
  ·omega
  ·have := steps_all l a.frm (by omega) h.2 s hs; omega
theorem rules_facts {u : RulesT} (h : rulesOK u = true) : RulesF u := by
 simp only [rulesOK, limsOK, Bool.and_eq_true, decide_eq_true_eq] at h
 obtain ⟨⟨h1, h2, h3, h4, h5⟩, h6⟩ := h
 exact ⟨h1, h2, h3, h4, h5, h6, fun s hs => by have := steps_all u.steps 0 (by omega) h6 s hs; omega⟩
theorem cutS_le {u : RulesT} {m : Int} : cutS u m ≤ u.steps.length := by
 unfold cutS
 exact (List.takeWhile_sublist _).length_le
theorem partS_none {u : RulesT} (hU : RulesF u) {m : Int} (h : cutS u m = 0) : partS u m = -1 := (part_cut u.steps 0 (-1) hU.from0).1 h
theorem partS_some {u : RulesT} (hU : RulesF u) {m : Int} {j : Nat} (h : cutS u m = j + 1) : ∃ s, u.steps[j]? = some s ∧ partS u m = s.part ∧ 0 ≤ s.part ∧ s.part ≤ 1000 := by
 obtain ⟨s, h1, h2⟩ := (part_cut u.steps 0 (-1) hU.from0).2 j h
 exact ⟨s, h1, h2, (hU.step s (List.mem_of_getElem? h1)).2⟩
def cumLo (r : RunT) : Nat → Int
 | 0 => 0
 | k + 1 => cumLo r k + if wk r ((k + 1 : Nat) : Int) = [] then 0 else (meanS r ((k + 1 : Nat) : Int)).lo
def cumHi (r : RunT) : Nat → Int
 | 0 => 0
 | k + 1 => cumHi r k + if wk r ((k + 1 : Nat) : Int) = [] then 0 else (meanS r ((k + 1 : Nat) : Int)).hi
def cumC (r : RunT) : Nat → Int
 | 0 => 0
 | k + 1 => cumC r k + if wk r ((k + 1 : Nat) : Int) = [] then 0 else degAt r.curve ((k + 1 : Nat) : Int)
theorem mean_bounds {r : RunT} (hF : RunF r) {m : Int} (hm : 1 ≤ m) (hm2 : m ≤ r.rows.length) (hne : wk r m ≠ []) : -42000 ≤ (meanS r m).lo ∧ (meanS r m).lo ≤ (meanS r m).hi ∧ (meanS r m).hi ≤ 1722000 := by
 have hs := sum_bounds hF hm hm2 (wk r m) fun _ h => h
 have hl := @wk_len r m
 have hcl := hF.cpls
 have h0 : 0 < (wk r m).length := List.length_pos_iff.2 hne
 simp only [meanS]
 obtain hq | hq | hq | hq | hq | hq | hq | hq : (wk r m).length = 1 ∨ (wk r m).length = 2 ∨ (wk r m).length = 3 ∨ (wk r m).length = 4 ∨ (wk r m).length = 5 ∨ (wk r m).length = 6 ∨ (wk r m).length = 7 ∨ (wk r m).length = 8 := by omega
 all_goals rw [hq] at hs ⊢; omega
theorem cum_bounds {r : RunT} (hF : RunF r) (hdeg : ∀ m : Int, 0 ≤ m → m ≤ lastM r.curve → 0 ≤ degAt r.curve m ∧ degAt r.curve m ≤ 2000) : ∀ (k : Nat), k ≤ r.rows.length → -42000 * (k : Int) ≤ cumLo r k ∧ cumLo r k ≤ cumHi r k ∧ cumHi r k ≤ 1722000 * (k : Int) ∧ 0 ≤ cumC r k ∧ cumC r k ≤ 2000 * (k : Int)
 | 0, _ => by simp [cumLo, cumHi, cumC]
 | k + 1, hk => by
  have ih := cum_bounds hF hdeg k (by omega)
  have hr := hF.rows
  have hd := hdeg ((k + 1 : Nat) : Int) (by omega) (by omega)
  simp only [cumLo, cumHi, cumC]
  by_cases hne : wk r ((k + 1 : Nat) : Int) = []
  ·simp only [hne, if_true]; omega
  ·have hb := mean_bounds hF (m := ((k + 1 : Nat) : Int)) (by omega) (by omega) hne
   simp only [hne, if_false]; omega
def oneB (m kind cpl known : Int) : List Brc := if known = 0 then [] else [⟨m, kind, cpl, known⟩]
def areaS (r : RunT) (u : RulesT) (k : Nat) : Int :=
 if partS u (k : Int) < 0 then 0 else
  outK ⟨cumLo r k * 1000, cumHi r k * 1000⟩ ⟨cumC r k * 840 * 1000 - cumC r k * 840 * partS u (k : Int), cumC r k * 840 * 1000 + cumC r k * 840 * partS u (k : Int)⟩
def singS (r : RunT) (u : RulesT) (c : Cpl) (i : Nat) (m : Int) : Int := outK (truth r c i m) ⟨degAt r.curve m - u.single, degAt r.curve m + u.single⟩
def pressAt (r : RunT) (m : Int) : Int := ((r.rows[(m - 1).toNat]?).map (·.press)).getD 0
def pressS (r : RunT) (u : RulesT) (m : Int) : Int := outK ⟨pressAt r m - r.gauge.hi, pressAt r m - r.gauge.lo⟩ u.press
def singI (r : RunT) (u : RulesT) (m : Int) (i : Nat) : List Brc := match r.cpls[i]? with | some c => oneB m 3 c.id (singS r u c i m) | none => []
def singL (r : RunT) (u : RulesT) (m : Int) : List Nat → List Brc
 | [] => []
 | i :: l => singI r u m i ++ singL r u m l
def blindB (r : RunT) (m : Int) : List Brc := if wk r m = [] then [⟨m, 1, -1, 2⟩] else []
def singB (r : RunT) (u : RulesT) (m : Int) : List Brc := if m < u.sfrom then [] else singL r u m (wk r m)
def pressB (r : RunT) (u : RulesT) (m : Int) : List Brc := if m < u.pfrom then [] else oneB m 4 (-1) (pressS r u m)
def minB (r : RunT) (u : RulesT) (k : Nat) : List Brc := blindB r (k : Int) ++ oneB (k : Int) 2 (-1) (areaS r u k) ++ singB r u (k : Int) ++ pressB r u (k : Int)
def leftB (r : RunT) (u : RulesT) : Nat → List Brc
 | 0 => []
 | k + 1 => leftB r u k ++ minB r u (k + 1)
def leftS (r : RunT) (u : RulesT) : List Brc := leftB r u r.rows.length
end Cp
namespace Cp
open Go Go.Proofs
set_option maxRecDepth 10000
theorem outside_ok (s o : Span) : PureC Try.prog 97 [encSpan s, encSpan o] (.int .u8 (outK s o)) := by
 refine PureC_of (fn := Try.f97) tabOK (by kernel_rfl) rfl (by kernel_rfl) (by simp [Try.f97]) (by simp [noids, noid, noidss, go_sem, encSpan]) (by first | rfl | simp [noids, noid, noidss, go_sem, encSpan]) ?_
 intro X hX0 hXs
 repeat' (first | (with_reducible refine sk ?_; intro K hK) | ((with_reducible first | refine rg (h := ?_) | refine nx ?_); try simp (disch := omega) only [encSpan,go_sem, simprocAttr]) | (with_reducible refine bk ?_) | ((with_reducible refine' cE ?hv ?_ ?_); (case hv => first | rfl | (simp only [encSpan,go_sem, simprocAttr]; rfl)); all_goals (intro hc; (try simp only [go_sem, simprocAttr] at hc); try (exfalso; omega))) | ((with_reducible first | refine grdS_split ?_ ?_ | refine lkG_split ?_ ?_) <;> intro hg <;> (try simp (disch := omega) only [hg, encSpan,go_sem, simprocAttr]) <;> (try simp only [go_sem, simprocAttr] at hg) <;> (try (exfalso; omega))) | ((with_reducible refine fe ?_); refine ⟨_, (by simp only [Try.f97, encSpan,go_sem, simprocAttr]; rfl), ?_⟩; first | rfl | (try simp only [encSpan,go_sem, simprocAttr, seval])) | with_reducible intro (ep : Nat → Nat) | with_reducible apply_assumption -exfalso -symm only [*])
 all_goals (unfold outK; repeat' split) <;> first | rfl | omega
theorem indexStep_ok (xs : List StepT) (hx : xs.length ≤ 4611686018427387904) (g : FuncId) (caps : List Val) (hcp : noids caps = true) (p : StepT → Bool) (hp : ∀ x ∈ xs, PureC Try.prog g (.agg (cStep x) :: caps) (.bool (p x))) :
  PureC Try.prog 95 [.lst 2 (xs.map cStep), .fn g caps] (.int .i64 (idxFrom p xs 0)) := by
 simp only [cStep] at hp
 refine PureC_of (fn := Try.f95) tabOK (by kernel_rfl) rfl (by kernel_rfl) (by simp [Try.f95]) (by simp [noids, noid, noidss, go_sem, hcp]) (by first | rfl | simp [noids, noid, noidss, go_sem, hcp]) ?_
 intro X hX0 hXs
 repeat' (first | (with_reducible refine sk ?_; intro K hK) | ((with_reducible first | refine rg (h := ?_) | refine nx ?_); try simp (disch := omega) only [go_sem, simprocAttr]) | (with_reducible refine bk ?_) | ((with_reducible refine' cE ?hv ?_ ?_); (case hv => first | rfl | (simp only [go_sem, simprocAttr]; rfl)); all_goals (intro hc; (try simp only [go_sem, simprocAttr] at hc); try (exfalso; omega))) | ((with_reducible refine fe ?_); refine ⟨_, (by simp only [Try.f95, go_sem, simprocAttr]; rfl), ?_⟩; first | rfl | (try simp only [go_sem, simprocAttr, seval])) | with_reducible intro (ep : Nat → Nat) | with_reducible apply_assumption -exfalso -symm only [*])
 refine AW_range tabOK xs.length (fun k f H => f 0 = .lst 2 (xs.map cStep) ∧ f 1 = .fn g caps ∧ H = none0 ∧ idxFrom p xs 0 = idxFrom p (xs.drop k) k) hx (by rw [hXs]; decide) (by decide) (by simp only [go_sem, simprocAttr]) (by simp only [go_sem, simprocAttr]) ⟨by simp only [go_sem, simprocAttr], by simp only [go_sem, simprocAttr], rfl, by simp⟩ ?_ ?_
 ·rintro k f H hk h8 h7 ⟨h0, h1, rfl, hr⟩
  obtain ⟨x, hx⟩ : ∃ x, xs[k]? = some x := ⟨_, List.getElem?_eq_getElem hk⟩
  repeat' (first | (with_reducible refine sk ?_; intro K hK) | ((first | (with_reducible first | refine rg (h := ?_) | refine nx ?_) | refine pK (hp x (List.mem_of_getElem? hx)) ?_); try simp (disch := omega) only [h0, h1, h8, h7, hx, cStep,go_sem, simprocAttr]) | (with_reducible refine bk ?_) | ((with_reducible refine' cE ?hv ?_ ?_); (case hv => first | rfl | (simp only [h0, h1, h8, h7, hx, cStep,go_sem, simprocAttr]; rfl)); all_goals (intro hc; (try simp only [go_sem, simprocAttr] at hc); try (exfalso; omega))) | ((with_reducible refine fe ?_); refine ⟨_, (by simp only [Try.f95, h0, h1, h8, h7, hx, cStep,go_sem, simprocAttr]; rfl), ?_⟩; first | rfl | (try simp only [h0, h1, h8, h7, hx, cStep,go_sem, simprocAttr, seval])) | with_reducible intro (ep : Nat → Nat) | with_reducible apply_assumption -exfalso -symm only [*])
  ·rw [hr, drop_cons hx]; simp [idxFrom, hc]
  ·rw [hr, drop_cons hx]; simp [idxFrom, hc]
 ·rintro f H h8 h7 ⟨h0, h1, rfl, hr⟩
  repeat' (first | (with_reducible refine sk ?_; intro K hK) | ((with_reducible first | refine rg (h := ?_) | refine nx ?_); try simp (disch := omega) only [go_sem, simprocAttr]) | (with_reducible refine bk ?_) | ((with_reducible refine' cE ?hv ?_ ?_); (case hv => first | rfl | (simp only [go_sem, simprocAttr]; rfl)); all_goals (intro hc; (try simp only [go_sem, simprocAttr] at hc); try (exfalso; omega))) | ((with_reducible refine fe ?_); refine ⟨_, (by simp only [Try.f95, go_sem, simprocAttr]; rfl), ?_⟩; first | rfl | (try simp only [go_sem, simprocAttr, seval])) | with_reducible intro (ep : Nat → Nat) | with_reducible apply_assumption -exfalso -symm only [*])
  rw [hr]; simp [idxFrom]
theorem chk21_ok (s : StepT) (m : Int) : PureC Try.prog 96 [.agg (cStep s), .pim [.int .i64 m]] (.bool (!decide (s.frm ≤ m))) := by
 refine PureC_of (fn := Try.f96) tabOK (by kernel_rfl) rfl (by kernel_rfl) (by simp [Try.f96]) (by simp [noids, noid, noidss, go_sem, cStep]) (by first | rfl | simp [noids, noid, noidss, go_sem, cStep]) ?_
 intro X hX0 hXs
 repeat' (first | (with_reducible refine sk ?_; intro K hK) | ((with_reducible first | refine rg (h := ?_) | refine nx ?_); try simp (disch := omega) only [cStep,go_sem, simprocAttr]) | (with_reducible refine bk ?_) | ((with_reducible refine' cE ?hv ?_ ?_); (case hv => first | rfl | (simp only [cStep,go_sem, simprocAttr]; rfl)); all_goals (intro hc; (try simp only [go_sem, simprocAttr] at hc); try (exfalso; omega))) | ((with_reducible refine fe ?_); refine ⟨_, (by simp only [Try.f96, cStep,go_sem, simprocAttr]; rfl), ?_⟩; first | rfl | (try simp only [cStep,go_sem, simprocAttr, seval])) | with_reducible intro (ep : Nat → Nat) | with_reducible apply_assumption -exfalso -symm only [*])
 rw [Bool.eq_iff_iff]; simp
def MapR (H0 : Hp) (X : List (Int × Val)) (v : Val) (H' : Hp) : Prop :=
 (∀ j, j < 400 → H' j = H0 j) ∧ ∃ es : List (Int × Val), es.Perm X ∧ ((es = [] ∧ v = .nilm) ∨ ∃ k em ver, 400 ≤ k ∧ k < 500 ∧ v = .map k em ∧ H' k = some (em, .map ver (imap .i64 es)))
def kn (n : Int) : Val := .int .u8 n
def areaK (u : RulesT) (m c lo hi : Int) : Int := outK ⟨lo * 1000, hi * 1000⟩ ⟨c * 840 * 1000 - c * 840 * partS u m, c * 840 * 1000 + c * 840 * partS u m⟩
theorem chk1_ok (r : RunT) (hF : RunF r) (u : RulesT) (k : Nat) (hk : k + 1 ≤ r.rows.length) (a b c d : Int) (H0 : Hp) :
  ACall Try.prog 93 [.pim (fireAt r r.rows.length), encRules u, .int .i64 ((k + 1 : Nat) : Int), .agg [.int .i64 a, .int .i64 b, .int .i64 c, .int .i64 d]] H0 (MapR H0 (if wk r ((k + 1 : Nat) : Int) = [] then [(-1, kn 2)] else [])) := by
 refine ACall_of (fn := Try.f93) tabOK (by kernel_rfl) rfl (by kernel_rfl) (by simp [Try.f93]) ?_
 intro X hX0 hXs
 have hrl := hF.rows
 have hcl := hF.cpls
 have hwg := drop_cons (warm_get (r := r) (m := k + 1) (by omega) (n := r.rows.length) (by omega) (by omega))
 have h61 : k + 1 < 61 := by omega
 refine AW_lose 415 fun H1 g8 hs1 => ?_
 by_cases hne : wk r ((k + 1 : Nat) : Int) = []
 ·have hwg' : ((fireAt r r.rows.length).drop 128).drop ((k + 1) * 1) = .bool false :: (fireAt r r.rows.length).drop (128 + (k + 1) + 1) := by rw [List.drop_drop, Nat.mul_one, hwg, hne]; rfl
  rw [if_pos hne]
  repeat' (first | (with_reducible refine sk ?_; intro K hK) | ((with_reducible first | refine rg (md := { base := 400, own := [15] }) (h := ?_) | refine nx ?_); try simp (disch := omega) only [encRules, cRules, h61, hwg', g8,go_sem, simprocAttr]) | (with_reducible refine bk ?_) | ((with_reducible refine' cE ?hv ?_ ?_); (case hv => first | rfl | (simp only [encRules, cRules, h61, hwg', g8,go_sem, simprocAttr]; rfl)); all_goals (intro hc; (try simp only [go_sem, simprocAttr] at hc); try (exfalso; omega))) | with_reducible intro (ep : Nat → Nat) | with_reducible apply_assumption -exfalso -symm only [*])
  refine FnQ_end (Or.inl rfl) (.refl _) (by simp only [Try.f93, go_sem, simprocAttr]; rfl) ?_
  exact ⟨fun j hj => by rw [upd_ne _ _ (by omega), upd_ne _ _ (by omega)]; exact hs1 j (by omega), _, .refl _, .inr ⟨415, _, _, by omega, by omega, rfl, by simp only [go_sem, simprocAttr]; rfl⟩⟩
 ·have hwg' : ((fireAt r r.rows.length).drop 128).drop ((k + 1) * 1) = .bool true :: (fireAt r r.rows.length).drop (128 + (k + 1) + 1) := by rw [List.drop_drop, Nat.mul_one, hwg, decide_eq_true (List.length_pos_iff.2 hne)]
  rw [if_neg hne]
  repeat' (first | (with_reducible refine sk ?_; intro K hK) | ((with_reducible first | refine rg (md := { base := 400, own := [15] }) (h := ?_) | refine nx ?_); try simp (disch := omega) only [encRules, cRules, h61, hwg', g8,go_sem, simprocAttr]) | (with_reducible refine bk ?_) | ((with_reducible refine' cE ?hv ?_ ?_); (case hv => first | rfl | (simp only [encRules, cRules, h61, hwg', g8,go_sem, simprocAttr]; rfl)); all_goals (intro hc; (try simp only [go_sem, simprocAttr] at hc); try (exfalso; omega))) | with_reducible intro (ep : Nat → Nat) | with_reducible apply_assumption -exfalso -symm only [*])
  refine FnQ_end (Or.inl rfl) (.refl _) (by simp only [Try.f93, go_sem, simprocAttr]; rfl) ?_
  exact ⟨fun j hj => hs1 j (by omega), _, .refl _, .inl ⟨rfl, rfl⟩⟩
theorem chk2_ok (u : RulesT) (hU : RulesF u) (fp : Val) (k : Nat) (a lo hi c : Int) (hlo : -200000000 ≤ lo ∧ lo ≤ 200000000) (hhi : -200000000 ≤ hi ∧ hi ≤ 200000000) (hc0 : 0 ≤ c ∧ c ≤ 200000) (H0 : Hp) :
  ACall Try.prog 94 [fp, encRules u, .int .i64 ((k + 1 : Nat) : Int), .agg [.int .i64 a, .int .i64 c, .int .i64 lo, .int .i64 hi]] H0 (MapR H0 (if partS u ((k + 1 : Nat) : Int) < 0 then [] else [(-1, kn (areaK u ((k + 1 : Nat) : Int) c lo hi))])) := by
 refine ACall_of (fn := Try.f94) tabOK (by kernel_rfl) rfl (by kernel_rfl) (by simp [Try.f94]) ?_
 intro X hX0 hXs
 have hul := hU.len
 have hcle := @cutS_le u ((k + 1 : Nat) : Int)
 refine AW_lose 438 fun H1 g8 hs1 => ?_
 have hix := idx_take (p := fun s : StepT => decide (s.frm ≤ ((k + 1 : Nat) : Int))) u.steps 0
 obtain ⟨i, hi0⟩ : ∃ i, cutS u ((k + 1 : Nat) : Int) = i := ⟨_, rfl⟩
 have hi0' : (u.steps.takeWhile fun s => decide (s.frm ≤ ((k + 1 : Nat) : Int))).length = i := hi0
 rw [hi0'] at hix
 rw [hi0] at hcle
 rcases i with _ | j
 ·have hpn := partS_none hU hi0
  have h0 : partS u ((k + 1 : Nat) : Int) < 0 := by omega
  rw [if_pos h0]
  by_cases hlt : 0 < u.steps.length
  ·rw [if_pos hlt] at hix
   repeat' (first | (with_reducible refine sk ?_; intro K hK) | ((first | (with_reducible first | refine rg (md := { base := 400, own := [38] }) (h := ?_) | refine nx ?_) | refine pK (indexStep_ok u.steps (by omega) 96 [.pim [.int .i64 ((k + 1 : Nat) : Int)]] rfl (fun s => !decide (s.frm ≤ ((k + 1 : Nat) : Int))) (fun s _ => chk21_ok s _)) ?_); try simp (disch := omega) only [encRules, cRules, hix, g8,go_sem, simprocAttr]) | (with_reducible refine bk ?_) | ((with_reducible refine' cE ?hv ?_ ?_); (case hv => first | rfl | (simp only [encRules, cRules, hix, g8,go_sem, simprocAttr]; rfl)); all_goals (intro hc; (try simp only [go_sem, simprocAttr] at hc); try (exfalso; omega))) | with_reducible intro (ep : Nat → Nat) | with_reducible apply_assumption -exfalso -symm only [*])
   refine FnQ_end (Or.inl rfl) (.refl _) (by simp only [Try.f94, go_sem, simprocAttr]; rfl) ?_
   exact ⟨fun j hj => hs1 j (by omega), _, .refl _, .inl ⟨rfl, rfl⟩⟩
  ·rw [if_neg hlt] at hix
   have hl0 : u.steps.length = 0 := by omega
   repeat' (first | (with_reducible refine sk ?_; intro K hK) | ((first | (with_reducible first | refine rg (md := { base := 400, own := [38] }) (h := ?_) | refine nx ?_) | refine pK (indexStep_ok u.steps (by omega) 96 [.pim [.int .i64 ((k + 1 : Nat) : Int)]] rfl (fun s => !decide (s.frm ≤ ((k + 1 : Nat) : Int))) (fun s _ => chk21_ok s _)) ?_); try simp (disch := omega) only [encRules, cRules, hix, hl0, g8,go_sem, simprocAttr]) | (with_reducible refine bk ?_) | ((with_reducible refine' cE ?hv ?_ ?_); (case hv => first | rfl | (simp only [encRules, cRules, hix, hl0, g8,go_sem, simprocAttr]; rfl)); all_goals (intro hc; (try simp only [go_sem, simprocAttr] at hc); try (exfalso; omega))) | with_reducible intro (ep : Nat → Nat) | with_reducible apply_assumption -exfalso -symm only [*])
   refine FnQ_end (Or.inl rfl) (.refl _) (by simp only [Try.f94, go_sem, simprocAttr]; rfl) ?_
   exact ⟨fun j hj => hs1 j (by omega), _, .refl _, .inl ⟨rfl, rfl⟩⟩
 ·obtain ⟨s, hs, hps, hs0, hs1000⟩ := partS_some hU hi0
  have h0 : ¬ partS u ((k + 1 : Nat) : Int) < 0 := by omega
  have hb := mul_bnd (a := c * 840) (q := s.part) (A := 0) (B := 168000000) (C := 1000) (by omega) (by omega) (by omega) (by omega) (by omega) (by omega)
  rw [if_neg h0, areaK, hps]
  by_cases hlt : j + 1 < u.steps.length
  ·rw [if_pos hlt] at hix
   have hcx : (0 : Int) + ((j + 1 : Nat) : Int) = ((j + 1 : Nat) : Int) := by omega
   repeat' (first | (with_reducible refine sk ?_; intro K hK) | ((first | (with_reducible first | refine rg (md := { base := 400, own := [38] }) (h := ?_) | refine nx ?_) | refine pK (indexStep_ok u.steps (by omega) 96 [.pim [.int .i64 ((k + 1 : Nat) : Int)]] rfl (fun s => !decide (s.frm ≤ ((k + 1 : Nat) : Int))) (fun s _ => chk21_ok s _)) ?_ | refine pK (times_ok ⟨lo, hi⟩ 1000 (by simp only; omega)) ?_ | refine pK (outside_ok ⟨lo * 1000, hi * 1000⟩ ⟨c * 840 * 1000 - c * 840 * s.part, c * 840 * 1000 + c * 840 * s.part⟩) ?_); try simp (disch := omega) only [encRules, cRules, encSpan, hix, hcx, hs, cStep, g8,go_sem, simprocAttr]) | (with_reducible refine bk ?_) | ((with_reducible refine' cE ?hv ?_ ?_); (case hv => first | rfl | (simp only [encRules, cRules, encSpan, hix, hcx, hs, cStep, g8,go_sem, simprocAttr]; rfl)); all_goals (intro hc; (try simp only [go_sem, simprocAttr] at hc); try (exfalso; omega))) | with_reducible intro (ep : Nat → Nat) | with_reducible apply_assumption -exfalso -symm only [*])
   refine FnQ_end (Or.inl rfl) (.refl _) (by simp only [Try.f94, go_sem, simprocAttr]; rfl) ?_
   refine ⟨fun j hj => by rw [upd_ne _ _ (by omega), upd_ne _ _ (by omega)]; exact hs1 j (by omega), _, .refl _, .inr ⟨438, _, _, by omega, by omega, rfl, by simp only [go_sem, simprocAttr]; rfl⟩⟩
  ·rw [if_neg hlt] at hix
   have hcx : u.steps.length = j + 1 := by omega
   repeat' (first | (with_reducible refine sk ?_; intro K hK) | ((first | (with_reducible first | refine rg (md := { base := 400, own := [38] }) (h := ?_) | refine nx ?_) | refine pK (indexStep_ok u.steps (by omega) 96 [.pim [.int .i64 ((k + 1 : Nat) : Int)]] rfl (fun s => !decide (s.frm ≤ ((k + 1 : Nat) : Int))) (fun s _ => chk21_ok s _)) ?_ | refine pK (times_ok ⟨lo, hi⟩ 1000 (by simp only; omega)) ?_ | refine pK (outside_ok ⟨lo * 1000, hi * 1000⟩ ⟨c * 840 * 1000 - c * 840 * s.part, c * 840 * 1000 + c * 840 * s.part⟩) ?_); try simp (disch := omega) only [encRules, cRules, encSpan, hix, hcx, hs, cStep, g8,go_sem, simprocAttr]) | (with_reducible refine bk ?_) | ((with_reducible refine' cE ?hv ?_ ?_); (case hv => first | rfl | (simp only [encRules, cRules, encSpan, hix, hcx, hs, cStep, g8,go_sem, simprocAttr]; rfl)); all_goals (intro hc; (try simp only [go_sem, simprocAttr] at hc); try (exfalso; omega))) | with_reducible intro (ep : Nat → Nat) | with_reducible apply_assumption -exfalso -symm only [*])
   refine FnQ_end (Or.inl rfl) (.refl _) (by simp only [Try.f94, go_sem, simprocAttr]; rfl) ?_
   refine ⟨fun j hj => by rw [upd_ne _ _ (by omega), upd_ne _ _ (by omega)]; exact hs1 j (by omega), _, .refl _, .inr ⟨438, _, _, by omega, by omega, rfl, by simp only [go_sem, simprocAttr]; rfl⟩⟩
end Cp
namespace Cp
open Go Go.Proofs
set_option maxRecDepth 10000
theorem chk4_ok (r : RunT) (hF : RunF r) (u : RulesT) (hU : RulesF u) (k : Nat) (hk : k + 1 ≤ r.rows.length) (nv : List Val) (hnv : nv.length = 4) (H0 : Hp) :
  ACall Try.prog 99 [.pim (fireAt r r.rows.length), encRules u, .int .i64 ((k + 1 : Nat) : Int), .agg nv] H0 (MapR H0 (if ((k + 1 : Nat) : Int) < u.pfrom then [] else [(-1, kn (pressS r u ((k + 1 : Nat) : Int)))])) := by
 refine ACall_of (fn := Try.f99) tabOK (by kernel_rfl) rfl (by kernel_rfl) (by simp [Try.f99]) ?_
 intro X hX0 hXs
 have hrl := hF.rows
 have hg := hF.gauge
 obtain ⟨rest, hrest⟩ := @fireAt_run r r.rows.length
 obtain ⟨x, hx⟩ : ∃ x, r.rows[k]? = some x := ⟨_, List.getElem?_eq_getElem (by omega)⟩
 have hxb := hF.row k x hx
 have hpa : pressAt r ((k + 1 : Nat) : Int) = x.press := by
  unfold pressAt
  rw [show (((k + 1 : Nat) : Int) - 1).toNat = k by omega, hx]; rfl
 obtain ⟨n0, n1, n2, n3, rfl⟩ : ∃ a b c d, nv = [a, b, c, d] := by
  match nv, hnv with
  | [a, b, c, d], _ => exact ⟨a, b, c, d, rfl⟩
 rw [hrest]
 refine AW_lose 424 fun H1 g8 hs1 => ?_
 by_cases hp : ((k + 1 : Nat) : Int) < u.pfrom
 ·rw [if_pos hp]
  repeat' (first | (with_reducible refine sk ?_; intro K hK) | ((with_reducible first | (refine AW_drawP (id := 4) (l := ?l) tabOK mix { base := 400, own := [24] } [] [] [1, 2, 3, 4, 5, 6, 7, 8, 9, 10, 11, 12, 13, 14, 15, 16, 17, 18, 19, 20, 0, 21, 22, 23] ?hsz ?hok ?hl ?_; (case hsz => rw [hXs]; decide +kernel); (case hok => decide +kernel); (case hl => simp only [ordOps, pickO, List.toList_toArray]; rfl)) | refine rg (md := { base := 400, own := [24] }) (h := ?_) | refine nx ?_); try simp (disch := omega) only [encRules, cRules, cRun, hp, g8,go_sem, simprocAttr]) | (with_reducible refine bk ?_) | ((with_reducible refine' cE ?hv ?_ ?_); (case hv => first | rfl | (simp only [encRules, cRules, cRun, hp, g8,go_sem, simprocAttr]; rfl)); all_goals (intro hc; (try simp only [go_sem, simprocAttr] at hc); try (exfalso; omega))) | with_reducible intro (ep : Nat → Nat) | with_reducible apply_assumption -exfalso -symm only [*])
  refine FnQ_end (Or.inl rfl) (.refl _) (by simp only [Try.f99, go_sem, simprocAttr]; rfl) ?_
  exact ⟨fun j hj => hs1 j (by omega), _, .refl _, .inl ⟨rfl, rfl⟩⟩
 ·rw [if_neg hp, pressS, hpa]
  repeat' (first | (with_reducible refine sk ?_; intro K hK) | ((first | (with_reducible first | (refine AW_drawP (id := 4) (l := ?l) tabOK mix { base := 400, own := [24] } [] [] [1, 2, 3, 4, 5, 6, 7, 8, 9, 10, 11, 12, 13, 14, 15, 16, 17, 18, 19, 20, 0, 21, 22, 23] ?hsz ?hok ?hl ?_; (case hsz => rw [hXs]; decide +kernel); (case hok => decide +kernel); (case hl => simp only [ordOps, pickO, List.toList_toArray]; rfl)) | refine rg (md := { base := 400, own := [24] }) (h := ?_) | refine nx ?_) | refine pK (outside_ok ⟨x.press - r.gauge.hi, x.press - r.gauge.lo⟩ u.press) ?_); try simp (disch := omega) only [encRules, cRules, cRun, cRow, encSpan, hp, hx, g8,go_sem, simprocAttr]) | (with_reducible refine bk ?_) | ((with_reducible refine' cE ?hv ?_ ?_); (case hv => first | rfl | (simp only [encRules, cRules, cRun, cRow, encSpan, hp, hx, g8,go_sem, simprocAttr]; rfl)); all_goals (intro hc; (try simp only [go_sem, simprocAttr] at hc); try (exfalso; omega))) | with_reducible intro (ep : Nat → Nat) | with_reducible apply_assumption -exfalso -symm only [*])
  refine FnQ_end (Or.inl rfl) (.refl _) (by simp only [Try.f99, go_sem, simprocAttr]; rfl) ?_
  exact ⟨fun j hj => by rw [upd_ne _ _ (by omega), upd_ne _ _ (by omega)]; exact hs1 j (by omega), _, .refl _, .inr ⟨424, _, _, by omega, by omega, rfl, by simp only [go_sem, simprocAttr]; rfl⟩⟩
def entS (r : RunT) (u : RulesT) (m : Int) (i : Nat) : Int × Val := match r.cpls[i]? with | some c => (c.id, kn (singS r u c i m)) | none => (0, kn 0)
theorem entS_some {r : RunT} {u : RulesT} {m : Int} {i : Nat} {c : Cpl} (h : r.cpls[i]? = some c) : entS r u m i = (c.id, kn (singS r u c i m)) := by unfold entS; rw [h]
theorem wkFrom_sorted (m : Int) : ∀ (l : List Cpl) (k : Nat), (wkFrom m k l).Pairwise (· < ·)
 | [], k => .nil
 | c :: l, k => by
  have ih := wkFrom_sorted m l (k + 1)
  simp only [wkFrom]
  split
  ·refine .cons (fun j hj => ?_) ih
   obtain ⟨i, _, h, _⟩ := (wkFrom_mem _ _ _ _).1 hj
   omega
  ·exact ih
theorem wk_sorted {r : RunT} {m : Int} : (wk r m).Pairwise (· < ·) := wkFrom_sorted m _ _
structure Laid (r : RunT) (u : RulesT) (m : Int) (es : List (Int × Val)) (left : List Nat) : Prop where
 ex : ∃ done : List Nat, (done ++ left).Perm (List.range (wk r m).length) ∧ es = done.map fun p => entS r u m ((wk r m).getD p 0)
theorem Laid.start {r : RunT} {u : RulesT} {m : Int} : Laid r u m [] (List.range (wk r m).length) := ⟨[], .refl _, rfl⟩
theorem Laid.step {r : RunT} {u : RulesT} {m : Int} {es : List (Int × Val)} {left : List Nat} (h : Laid r u m es left) (hF : RunF r) {p w : Nat} {c : Cpl} (hp : p ∈ left) (hw : (wk r m)[p]? = some w) (hc : r.cpls[w]? = some c) :
  findI c.id es 0 = none ∧ Laid r u m (es ++ [(c.id, kn (singS r u c w m))]) (left.erase p) := by
 obtain ⟨done, hperm, rfl⟩ := h.ex
 have hwD : (wk r m).getD p 0 = w := by simp [List.getD, hw]
 refine ⟨findI_none fun q hq => ?_, ⟨done ++ [p], ?_, by rw [List.map_append, List.map_cons, List.map_nil, hwD, entS_some hc]⟩⟩
 ·obtain ⟨j, hj, rfl⟩ := List.mem_map.1 hq
  have hnd : (done ++ left).Nodup := hperm.nodup_iff.2 List.nodup_range
  have hjp : j ≠ p := fun e => by
   subst e
   exact (List.nodup_append.1 hnd).2.2 _ hj _ hp rfl
  have hjl : j < (wk r m).length := List.mem_range.1 (hperm.mem_iff.1 (List.mem_append_left _ hj))
  have hpl : p < (wk r m).length := (List.getElem?_eq_some_iff.1 hw).1
  obtain ⟨w2, hw2⟩ : ∃ w2, (wk r m)[j]? = some w2 := ⟨_, List.getElem?_eq_getElem hjl⟩
  have hw2D : (wk r m).getD j 0 = w2 := by simp [List.getD, hw2]
  obtain ⟨c2, hc2, _⟩ := wk_mem.1 (List.mem_of_getElem? hw2)
  rw [hw2D, entS_some hc2]
  have hs := List.pairwise_iff_getElem.1 (wk_sorted (r := r) (m := m))
  obtain ⟨e1, rfl⟩ := List.getElem?_eq_some_iff.1 hw
  obtain ⟨e2, rfl⟩ := List.getElem?_eq_some_iff.1 hw2
  rcases Nat.lt_or_gt_of_ne hjp with hlt | hlt
  ·have := hF.ids _ _ _ _ (hs j p e2 e1 hlt) hc2 hc; simp only; omega
  ·have := hF.ids _ _ _ _ (hs p j e1 e2 hlt) hc hc2; simp only; omega
 ·refine .trans ?_ hperm
  rw [List.append_assoc]
  exact .append_left _ (List.perm_cons_erase hp).symm
theorem Laid.stop {r : RunT} {u : RulesT} {m : Int} {es : List (Int × Val)} (h : Laid r u m es []) : es.Perm ((wk r m).map (entS r u m)) := by
 obtain ⟨done, hperm, rfl⟩ := h.ex
 rw [List.append_nil] at hperm
 refine (hperm.map _).trans ?_
 have : (List.range (wk r m).length).map (fun p => entS r u m ((wk r m).getD p 0)) = (wk r m).map (entS r u m) := by
  apply List.ext_getElem?
  intro i
  rw [List.getElem?_map, List.getElem?_map]
  by_cases hi : i < (wk r m).length
  ·rw [List.getElem?_range hi]; simp [List.getD, hi]
  ·rw [List.getElem?_eq_none (by simp; omega), List.getElem?_eq_none (by omega)]; rfl
 rw [this]
theorem Laid.mem {r : RunT} {u : RulesT} {m : Int} {es : List (Int × Val)} {left : List Nat} (h : Laid r u m es left) : ∀ p ∈ left, p < (wk r m).length := by
 obtain ⟨done, hperm, rfl⟩ := h.ex
 exact fun p hp => List.mem_range.1 (hperm.mem_iff.1 (List.mem_append_right _ hp))
theorem chk3_ok (r : RunT) (hF : RunF r) (u : RulesT) (hU : RulesF u) (k : Nat) (hk : k + 1 ≤ r.rows.length) (hd : 0 ≤ degAt r.curve ((k + 1 : Nat) : Int) ∧ degAt r.curve ((k + 1 : Nat) : Int) ≤ 2000) (b c d : Int) (H0 : Hp) (hroom0 : Room H0 1000 100) :
  ACall Try.prog 98 [.pim (fireAt r r.rows.length), encRules u, .int .i64 ((k + 1 : Nat) : Int), .agg [.int .i64 (degAt r.curve ((k + 1 : Nat) : Int)), .int .i64 b, .int .i64 c, .int .i64 d]] H0
   (MapR H0 (if ((k + 1 : Nat) : Int) < u.sfrom then [] else (wk r ((k + 1 : Nat) : Int)).map (entS r u ((k + 1 : Nat) : Int)))) := by
 refine ACall_of (fn := Try.f98) tabOK (by kernel_rfl) rfl (by kernel_rfl) (by simp [Try.f98]) ?_
 intro X hX0 hXs
 have hrl := hF.rows
 have hcl := hF.cpls
 have hus := hU.single
 obtain ⟨rest, hrest⟩ := @fireAt_run r r.rows.length
 rw [hrest]
 refine AW_lose 411 fun H1 g11 hs1 => ?_
 refine AW_lose 420 fun H2 g20 hs2 => ?_
 have g11' : H2 411 = none := by rw [hs2 _ (by decide), g11]
 have hlow : ∀ j, j < 400 → H2 j = H0 j := fun j hj => by rw [hs2 _ (by omega), hs1 _ (by omega)]
 have hroom : Room H2 1000 100 := fun d hd => by rw [hs2 _ (by omega), hs1 _ (by omega)]; exact hroom0 d hd
 clear hs1 hs2 g11 hroom0
 by_cases hp : ((k + 1 : Nat) : Int) < u.sfrom
 ·rw [if_pos hp]
  repeat' (first | (with_reducible refine sk ?_; intro K hK) | ((with_reducible first | refine AW_regN (id := 5) tabOK { base := 400, own := [11, 20], imp := [19] } [] [38] (by rw [hXs]; decide +kernel) ?_ | refine AW_regN (id := 6) tabOK { base := 400, own := [11, 20], imp := [19] } [] [38] (by rw [hXs]; decide +kernel) ?_ | refine rgL [] [38] (md := { base := 400, own := [11, 20], imp := [19] }) (h := ?_) | refine nx ?_); try simp (disch := omega) only [encRules, cRules, cRun, hp, g11', g20,go_sem, simprocAttr]) | (with_reducible refine bk ?_) | ((with_reducible refine' cE ?hv ?_ ?_); (case hv => first | rfl | (simp only [encRules, cRules, cRun, hp, g11', g20,go_sem, simprocAttr]; rfl)); all_goals (intro hc; (try simp only [go_sem, simprocAttr] at hc); try (exfalso; omega))) | with_reducible intro (ep : Nat → Nat) | with_reducible apply_assumption -exfalso -symm only [*])
  refine FnQ_end (Or.inl rfl) (.refl _) (by simp only [Try.f98, go_sem, simprocAttr]; rfl) ?_
  exact ⟨fun j hj => by rw [upd_ne _ _ (by omega)]; exact hlow j hj, _, .refl _, .inr ⟨411, _, _, by omega, by omega, rfl, by simp only [go_sem, simprocAttr]; rfl⟩⟩
 ·rw [if_neg hp]
  repeat' (first | (with_reducible refine sk ?_; intro K hK) | ((first | (with_reducible first | refine AW_regN (id := 5) tabOK { base := 400, own := [11, 20], imp := [19] } [] [38] (by rw [hXs]; decide +kernel) ?_ | refine AW_regN (id := 6) tabOK { base := 400, own := [11, 20], imp := [19] } [] [38] (by rw [hXs]; decide +kernel) ?_ | refine rgL [] [38] (md := { base := 400, own := [11, 20], imp := [19] }) (h := ?_) | refine nx ?_) | refine pK (working_ok r hF rest _ _ (.inl rfl) _) ?_ | refine lK (working_ok r hF rest _ _ (.inl rfl) _) ?_); try simp (disch := omega) only [encRules, cRules, cRun, hp, g11', g20,go_sem, simprocAttr]) | (with_reducible refine bk ?_) | ((with_reducible refine' cE ?hv ?_ ?_); (case hv => first | rfl | (simp only [encRules, cRules, cRun, hp, g11', g20,go_sem, simprocAttr]; rfl)); all_goals (intro hc; (try simp only [go_sem, simprocAttr] at hc); try (exfalso; omega))) | (first | refine iK (working_ok r hF rest _ _ (.inl rfl) _) ?_) | ((with_reducible refine fe ?_); refine ⟨_, (by simp only [Try.f98, encRules, cRules, cRun, hp, g11', g20,go_sem, simprocAttr]; rfl), ?_⟩; first | rfl | (try simp only [encRules, cRules, cRun, hp, g11', g20,go_sem, simprocAttr, seval])) | with_reducible intro (ep : Nat → Nat) | with_reducible apply_assumption -exfalso -symm only [*])
  rintro v H3 ⟨em, ver, rfl, hmap, hs3⟩
  have g20' : H3 420 = none := by rw [hs3 _ (by decide), upd_ne _ _ (by decide), g20]
  have hlow' : ∀ j, j < 400 → H3 j = H0 j := fun j hj => by rw [hs3 _ (by omega), upd_ne _ _ (by omega)]; exact hlow j hj
  have hroom' : Room H3 1000 100 := fun d hd => by rw [hs3 _ (by omega), upd_ne _ _ (by omega)]; exact hroom d hd
  have hH11 := (hs3 411 (by decide)).trans (upd_same _ _ _)
  clear hs3 g20 hlow hroom g11'
  have hwl := @wk_len r ((k + 1 : Nat) : Int)
  simp only [hmap, g20', go_sem, simprocAttr]
  repeat' (first | (with_reducible refine sk ?_; intro K hK) | ((with_reducible first | refine AW_regN (id := 5) tabOK { base := 400, own := [11, 20], imp := [19] } [] [38] (by rw [hXs]; decide +kernel) ?_ | refine AW_regN (id := 6) tabOK { base := 400, own := [11, 20], imp := [19] } [] [38] (by rw [hXs]; decide +kernel) ?_ | refine rgL [] [38] (md := { base := 400, own := [11, 20], imp := [19] }) (h := ?_) | refine nx ?_); try simp (disch := omega) only [hmap, g20', cRun,go_sem, simprocAttr]) | (with_reducible refine bk ?_) | ((with_reducible refine' cE ?hv ?_ ?_); (case hv => first | rfl | (simp only [hmap, g20', cRun,go_sem, simprocAttr]; rfl)); all_goals (intro hc; (try simp only [go_sem, simprocAttr] at hc); try (exfalso; omega))) | ((with_reducible refine fe ?_); refine ⟨_, (by simp only [Try.f98, hmap, g20', cRun,go_sem, simprocAttr]; rfl), ?_⟩; first | rfl | (try simp only [hmap, g20', cRun,go_sem, simprocAttr, seval])) | with_reducible intro (ep : Nat → Nat) | with_reducible apply_assumption -exfalso -symm only [*])
  refine AW_block (AW_loop (fun n f H => ∃ left : List Nat, n = left.length ∧ (f 0 = .pim (cRun r ++ rest) ∧ f 2 = .int .i64 ((k + 1 : Nat) : Int) ∧ f 5 = .pim (cRules u) ∧ f 7 = .pim [.int .i64 (degAt r.curve ((k + 1 : Nat) : Int)), .int .i64 b, .int .i64 c, .int .i64 d] ∧ H 2009 = some (em, .map ver (imap .i64 (tl (wk r ((k + 1 : Nat) : Int)))))) ∧ Room H 1000 100 ∧ (∀ j, j < 400 → H j = H0 j) ∧
    ∃ e9 e20 cur v11 es, f 9 = .map 411 e9 ∧ H 411 = some (e9, .map v11 (imap .i64 es)) ∧ f 20 = .itr 420 e20 ∧ H 420 = some (e20, .itr 2009 em ver left cur) ∧ Laid r u ((k + 1 : Nat) : Int) es left) (wk r ((k + 1 : Nat) : Int)).length
   ⟨List.range (wk r ((k + 1 : Nat) : Int)).length, by simp, by (and_intros <;> first | rfl | (simp only [hmap, cRun, cRules, go_sem, simprocAttr]; done) | (simp only [hmap, cRun, cRules, go_sem, simprocAttr]; rfl)), fun d hd => by simp only [go_sem, simprocAttr]; rw [if_neg (by omega)]; exact hroom' d hd, fun j hj => by simp only [go_sem, simprocAttr]; rw [if_neg (by omega)]; exact hlow' j hj, _, _, _, _, [], by (first | rfl | (simp only [go_sem, simprocAttr]; done) | (simp only [go_sem, simprocAttr]; rfl)), by (first | rfl | (simp only [hH11, go_sem, simprocAttr]; done) | (simp only [hH11, go_sem, simprocAttr]; rfl)), by (first | rfl | (simp only [go_sem, simprocAttr]; done) | (simp only [go_sem, simprocAttr]; rfl)), by (first | rfl | (simp only [go_sem, simprocAttr]; done) | (simp only [go_sem, simprocAttr]; rfl)), Laid.start⟩ ?_)
  clear g20' hmap hroom' hlow' hH11
  rintro n f H ⟨left, rfl, ⟨h0, h2, h5, h7, hmap⟩, hroom, hlow, e9, e20, cur, v11, es, h9, hH11, h20, hH20, hL⟩
  have hm1 : (1 : Int) ≤ ((k + 1 : Nat) : Int) ∧ ((k + 1 : Nat) : Int) ≤ r.rows.length := by omega
  repeat' (first | (with_reducible refine sk ?_; intro K hK) | ((with_reducible first | refine AW_regN (id := 5) tabOK { base := 400, own := [11, 20], imp := [19] } [] [38] (by rw [hXs]; decide +kernel) ?_ | refine AW_regN (id := 6) tabOK { base := 400, own := [11, 20], imp := [19] } [] [38] (by rw [hXs]; decide +kernel) ?_ | refine rgL [] [38] (md := { base := 400, own := [11, 20], imp := [19] }) (h := ?_) | refine nx ?_); try simp (disch := omega) only [h0, h2, h5, h7, h9, h20, hH11, hH20, hmap, cRun, cRules,go_sem, simprocAttr]) | (with_reducible refine bk ?_) | ((with_reducible refine' cE ?hv ?_ ?_); (case hv => first | rfl | (simp only [h0, h2, h5, h7, h9, h20, hH11, hH20, hmap, cRun, cRules,go_sem, simprocAttr]; rfl)); all_goals (intro hc; (try simp only [go_sem, simprocAttr] at hc); try (exfalso; omega))) | with_reducible intro (ep : Nat → Nat) | with_reducible apply_assumption -exfalso -symm only [*])
  refine ⟨fun hl => ?_, fun p hp a v hav => ?_⟩
  ·subst hl
   repeat' (first | (with_reducible refine sk ?_; intro K hK) | ((with_reducible first | refine AW_regN (id := 5) tabOK { base := 400, own := [11, 20], imp := [19] } [] [38] (by rw [hXs]; decide +kernel) ?_ | refine AW_regN (id := 6) tabOK { base := 400, own := [11, 20], imp := [19] } [] [38] (by rw [hXs]; decide +kernel) ?_ | refine rgL [] [38] (md := { base := 400, own := [11, 20], imp := [19] }) (h := ?_) | refine nx ?_); try simp (disch := omega) only [h0, h2, h5, h7, h9, h20, hH11, hH20, hmap, cRun, cRules,go_sem, simprocAttr]) | (with_reducible refine bk ?_) | ((with_reducible refine' cE ?hv ?_ ?_); (case hv => first | rfl | (simp only [h0, h2, h5, h7, h9, h20, hH11, hH20, hmap, cRun, cRules,go_sem, simprocAttr]; rfl)); all_goals (intro hc; (try simp only [go_sem, simprocAttr] at hc); try (exfalso; omega))) | with_reducible intro (ep : Nat → Nat) | with_reducible apply_assumption -exfalso -symm only [*])
   refine FnQ_end (Or.inl rfl) (.refl _) (by simp only [Try.f98, h9, go_sem, simprocAttr]; rfl) ?_
   exact ⟨hlow, es, hL.stop, .inr ⟨411, _, _, by omega, by omega, rfl, hH11⟩⟩
  ·obtain ⟨w, hw⟩ : ∃ w, (wk r ((k + 1 : Nat) : Int))[p]? = some w := ⟨_, List.getElem?_eq_getElem (hL.mem p hp)⟩
   obtain ⟨cc, hcc, hwk⟩ := wk_mem.1 (List.mem_of_getElem? hw)
   obtain ⟨hnew, hL'⟩ := hL.step hF hp hw hcc
   have htb := truth_bounds hF hcc hm1.1 hm1.2 hwk
   have hle := List.length_erase_of_mem hp
   have hpos := List.length_pos_of_mem hp
   have hg : (tl (wk r ((k + 1 : Nat) : Int)))[p]? = some ((w : Int), .bool true) := by rw [tl_get, hw]; rfl
   rw [hg] at hav
   simp only [Option.map_some, Option.some.injEq, Prod.mk.injEq] at hav
   obtain ⟨rfl, rfl⟩ := hav
   repeat' (first | (with_reducible refine sk ?_; intro K hK) | ((with_reducible first | refine AW_regN (id := 5) tabOK { base := 400, own := [11, 20], imp := [19] } [] [38] (by rw [hXs]; decide +kernel) ?_ | refine AW_regN (id := 6) tabOK { base := 400, own := [11, 20], imp := [19] } [] [38] (by rw [hXs]; decide +kernel) ?_ | refine rgL [] [38] (md := { base := 400, own := [11, 20], imp := [19] }) (h := ?_) | refine nx ?_); try simp (disch := omega) only [h0, h2, h5, h7, h9, h20, hH11, hH20, hmap, hg, cRun, cRules,go_sem, simprocAttr]) | (with_reducible refine bk ?_) | ((with_reducible refine' cE ?hv ?_ ?_); (case hv => first | rfl | (simp only [h0, h2, h5, h7, h9, h20, hH11, hH20, hmap, hg, cRun, cRules,go_sem, simprocAttr]; rfl)); all_goals (intro hc; (try simp only [go_sem, simprocAttr] at hc); try (exfalso; omega))) | with_reducible intro (ep : Nat → Nat) | with_reducible apply_assumption -exfalso -symm only [*])
   refine ⟨_, _, rfl, ?_⟩
   have hroom2 : ∀ q, Room (upd H 420 q) 1000 100 := fun q d hd => by rw [upd_ne _ _ (by omega)]; exact hroom d hd
   repeat' (first | (with_reducible refine sk ?_; intro K hK) | ((first | (with_reducible first | refine AW_regN (id := 5) tabOK { base := 400, own := [11, 20], imp := [19] } [] [38] (by rw [hXs]; decide +kernel) ?_ | refine AW_regN (id := 6) tabOK { base := 400, own := [11, 20], imp := [19] } [] [38] (by rw [hXs]; decide +kernel) ?_ | refine rgL [] [38] (md := { base := 400, own := [11, 20], imp := [19] }) (h := ?_) | refine nx ?_) | refine pK (truth_look r hF rest _ _ (.inl rfl) (hroom2 _) w cc hcc _ hm1 hwk) ?_ | refine pK (outside_ok (truth r cc w _) ⟨degAt r.curve ((k + 1 : Nat) : Int) - u.single, degAt r.curve ((k + 1 : Nat) : Int) + u.single⟩) ?_ | refine lK (truth_look r hF rest _ _ (.inl rfl) (hroom2 _) w cc hcc _ hm1 hwk) ?_ | refine lK (outside_ok (truth r cc w _) ⟨degAt r.curve ((k + 1 : Nat) : Int) - u.single, degAt r.curve ((k + 1 : Nat) : Int) + u.single⟩) ?_); try simp (disch := omega) only [h0, h2, h5, h7, h9, h20, hH11, hH20, hmap, hg, hcc, hnew, cRun, cRules, cCpl, encSpan,go_sem, simprocAttr]) | (with_reducible refine bk ?_) | ((with_reducible refine' cE ?hv ?_ ?_); (case hv => first | rfl | (simp only [h0, h2, h5, h7, h9, h20, hH11, hH20, hmap, hg, hcc, hnew, cRun, cRules, cCpl, encSpan,go_sem, simprocAttr]; rfl)); all_goals (intro hc; (try simp only [go_sem, simprocAttr] at hc); try (exfalso; omega))) | (first | refine iK (truth_look r hF rest _ _ (.inl rfl) (hroom2 _) w cc hcc _ hm1 hwk) ?_ | refine iK (outside_ok (truth r cc w _) ⟨degAt r.curve ((k + 1 : Nat) : Int) - u.single, degAt r.curve ((k + 1 : Nat) : Int) + u.single⟩) ?_) | with_reducible intro (ep : Nat → Nat) | with_reducible apply_assumption -exfalso -symm only [*])
   exact ⟨(left.erase p).length, by omega, left.erase p, rfl, fun d hd => by rw [upd_ne _ _ (by omega)]; exact hroom2 _ d hd, fun j hj => by rw [if_neg (by omega), if_neg (by omega)]; exact hlow j hj, _, _, _, _, _, rfl, by rw [imap_snoc]; rfl, rfl, rfl, hL'⟩
end Cp
namespace Cp
open Go
def kOf : Val → Int
 | .int _ n => n
 | _ => 0
def toB (m q : Int) (es : List (Int × Val)) : List Brc := es.flatMap fun p => oneB m q p.1 (kOf p.2)
theorem toB_perm {m q : Int} {es X : List (Int × Val)} (h : es.Perm X) : (toB m q es).Perm (toB m q X) := by
 unfold toB; exact h.flatMap_right _
def lfE (es : List (Int × Val)) (left : List Nat) : List (Int × Val) := left.map fun p => es.getD p (0, kn 0)
theorem lfE_all {es : List (Int × Val)} : lfE es (List.range es.length) = es := by
 unfold lfE
 apply List.ext_getElem?
 intro i
 rw [List.getElem?_map]
 by_cases h : i < es.length
 ·rw [List.getElem?_range h]; simp [List.getD, h]
 ·rw [List.getElem?_eq_none (by simp; omega), List.getElem?_eq_none (by omega)]; rfl
theorem toB_take {m q : Int} {es : List (Int × Val)} {left : List Nat} {p : Nat} {c n : Int} (hp : p ∈ left) (he : es[p]? = some (c, kn n)) {l B : List Brc} (h : (l ++ toB m q (lfE es left)).Perm B) :
  ((l ++ oneB m q c n) ++ toB m q (lfE es (left.erase p))).Perm B := by
 refine .trans ?_ h
 rw [List.append_assoc]
 refine .append_left _ ?_
 have e := (List.perm_cons_erase hp).map fun p => es.getD p (0, kn 0)
 have e2 := toB_perm (m := m) (q := q) e.symm
 have e3 : es.getD p (0, kn 0) = (c, kn n) := by simp [List.getD, he]
 rw [List.map_cons, e3] at e2
 exact e2
def KnAll (X : List (Int × Val)) : Prop := ∀ p ∈ X, ∃ n, p.2 = kn n ∧ 0 ≤ n ∧ n ≤ 255
theorem oneB_len {m q c n : Int} : (oneB m q c n).length ≤ 1 := by unfold oneB; split <;> simp
theorem singL_len {r : RunT} {u : RulesT} {m : Int} : ∀ (l : List Nat), (singL r u m l).length ≤ l.length
 | [] => by simp [singL]
 | i :: l => by
  have ih := singL_len (r := r) (u := u) (m := m) l
  have : (singI r u m i).length ≤ 1 := by unfold singI; split; exact oneB_len; simp
  simp only [singL, List.length_append, List.length_cons]; omega
theorem minB_len {r : RunT} {u : RulesT} {k : Nat} (hF : RunF r) : (minB r u k).length ≤ 11 := by
 have h1 := hF.cpls
 have h2 := @wk_len r (k : Int)
 have h3 := singL_len (r := r) (u := u) (m := (k : Int)) (wk r (k : Int))
 have h4 : (blindB r (k : Int)).length ≤ 1 := by unfold blindB; split <;> simp
 have h5 : (singB r u (k : Int)).length ≤ 8 := by unfold singB; split; simp; omega
 have h6 : (pressB r u (k : Int)).length ≤ 1 := by unfold pressB; split; simp; exact oneB_len
 have h7 := @oneB_len (k : Int) 2 (-1) (areaS r u k)
 simp only [minB, List.length_append]; omega
theorem leftB_len {r : RunT} {u : RulesT} (hF : RunF r) : ∀ (k : Nat), (leftB r u k).length ≤ 11 * k
 | 0 => by simp [leftB]
 | k + 1 => by
  have ih := leftB_len (u := u) hF k
  have := minB_len (u := u) (k := k + 1) hF
  simp only [leftB, List.length_append]; omega
theorem toB_wk {r : RunT} {u : RulesT} {m : Int} : ∀ (l : List Nat), (∀ i ∈ l, ∃ c, r.cpls[i]? = some c) → toB m 3 (l.map (entS r u m)) = singL r u m l
 | [], _ => rfl
 | i :: l, h => by
  obtain ⟨c, hc⟩ := h i (by simp)
  have ih := toB_wk (r := r) (u := u) (m := m) l fun j hj => h j (by simp [hj])
  simp only [toB, List.map_cons, List.flatMap_cons, singL, singI, hc, entS_some hc] at ih ⊢
  rw [ih]; rfl
def chkX (r : RunT) (u : RulesT) (k : Nat) : Nat → List (Int × Val)
 | 0 => if wk r ((k + 1 : Nat) : Int) = [] then [(-1, kn 2)] else []
 | 1 => if partS u ((k + 1 : Nat) : Int) < 0 then [] else [(-1, kn (areaK u ((k + 1 : Nat) : Int) (cumC r (k + 1)) (cumLo r (k + 1)) (cumHi r (k + 1))))]
 | 2 => if ((k + 1 : Nat) : Int) < u.sfrom then [] else (wk r ((k + 1 : Nat) : Int)).map (entS r u ((k + 1 : Nat) : Int))
 | 3 => if ((k + 1 : Nat) : Int) < u.pfrom then [] else [(-1, kn (pressS r u ((k + 1 : Nat) : Int)))]
 | _ => []
theorem chkX_kn {r : RunT} {u : RulesT} {k i : Nat} : KnAll (chkX r u k i) := by
 intro p hp
 have one : ∀ n, 0 ≤ n → n ≤ 255 → p ∈ [((-1 : Int), kn n)] → ∃ n, p.2 = kn n ∧ 0 ≤ n ∧ n ≤ 255 := fun n h1 h2 h => by
  simp at h; subst h; exact ⟨n, rfl, h1, h2⟩
 match i with
 | 0 => simp only [chkX] at hp; split at hp; exact one 2 (by omega) (by omega) hp; simp at hp
 | 1 =>
  simp only [chkX] at hp; split at hp
  ·simp at hp
  ·have := @outK_bnd ⟨cumLo r (k + 1) * 1000, cumHi r (k + 1) * 1000⟩ ⟨cumC r (k + 1) * 840 * 1000 - cumC r (k + 1) * 840 * partS u ((k + 1 : Nat) : Int), cumC r (k + 1) * 840 * 1000 + cumC r (k + 1) * 840 * partS u ((k + 1 : Nat) : Int)⟩
   exact one _ this.1 (by omega) hp
 | 2 =>
  simp only [chkX] at hp; split at hp
  ·simp at hp
  ·obtain ⟨j, hj, rfl⟩ := List.mem_map.1 hp
   obtain ⟨c, hc, _⟩ := wk_mem.1 hj
   rw [entS_some hc]
   have := @outK_bnd (truth r c j ((k + 1 : Nat) : Int)) ⟨degAt r.curve ((k + 1 : Nat) : Int) - u.single, degAt r.curve ((k + 1 : Nat) : Int) + u.single⟩
   exact ⟨_, rfl, this.1, by simp only [singS]; omega⟩
 | 3 =>
  simp only [chkX] at hp; split at hp
  ·simp at hp
  ·have := @outK_bnd ⟨pressAt r ((k + 1 : Nat) : Int) - r.gauge.hi, pressAt r ((k + 1 : Nat) : Int) - r.gauge.lo⟩ u.press
   exact one _ this.1 (by omega) hp
 | i + 4 => simp [chkX] at hp
def chkB (r : RunT) (u : RulesT) (k : Nat) : Nat → List Brc
 | 0 => []
 | i + 1 => chkB r u k i ++ toB ((k + 1 : Nat) : Int) ((i + 1 : Nat) : Int) (chkX r u k i)
theorem chkB_all {r : RunT} {u : RulesT} {k : Nat} : chkB r u k 4 = minB r u (k + 1) := by
 have one : ∀ m q n : Int, toB m q [((-1 : Int), kn n)] = oneB m q (-1) n := fun m q n => by simp [toB, kn, kOf]
 have nil : ∀ m q : Int, toB m q [] = [] := fun m q => rfl
 have e1 : toB ((k + 1 : Nat) : Int) 1 (chkX r u k 0) = blindB r ((k + 1 : Nat) : Int) := by
  simp only [chkX, blindB]; split
  ·rw [one]; rfl
  ·rfl
 have e2 : toB ((k + 1 : Nat) : Int) 2 (chkX r u k 1) = oneB ((k + 1 : Nat) : Int) 2 (-1) (areaS r u (k + 1)) := by
  simp only [chkX, areaS]; split
  ·rfl
  ·rw [one]; rfl
 have e3 : toB ((k + 1 : Nat) : Int) 3 (chkX r u k 2) = singB r u ((k + 1 : Nat) : Int) := by
  simp only [chkX, singB]; split
  ·rfl
  ·exact toB_wk _ fun i hi => by obtain ⟨c, hc, _⟩ := wk_mem.1 hi; exact ⟨c, hc⟩
 have e4 : toB ((k + 1 : Nat) : Int) 4 (chkX r u k 3) = pressB r u ((k + 1 : Nat) : Int) := by
  simp only [chkX, pressB]; split
  ·rfl
  ·rw [one]
 show ((([] ++ toB _ _ _) ++ toB _ _ _) ++ toB _ _ _) ++ toB _ _ _ = _
 rw [List.nil_append]
 have e5 : toB ((k + 1 : Nat) : Int) ((0 + 1 : Nat) : Int) (chkX r u k 0) = _ := e1
 have e6 : toB ((k + 1 : Nat) : Int) ((1 + 1 : Nat) : Int) (chkX r u k 1) = _ := e2
 have e7 : toB ((k + 1 : Nat) : Int) ((2 + 1 : Nat) : Int) (chkX r u k 2) = _ := e3
 have e8 : toB ((k + 1 : Nat) : Int) ((3 + 1 : Nat) : Int) (chkX r u k 3) = _ := e4
 rw [e5, e6, e7, e8]; rfl
theorem chkB_len {r : RunT} {u : RulesT} {k : Nat} (hF : RunF r) {i : Nat} (hi : i ≤ 4) : (chkB r u k i).length ≤ 11 := by
 have h := minB_len (u := u) (k := k + 1) hF
 rw [← chkB_all] at h
 have e : (chkB r u k 4).length = (chkB r u k 3).length + _ := List.length_append
 have e2 : (chkB r u k 3).length = (chkB r u k 2).length + _ := List.length_append
 have e3 : (chkB r u k 2).length = (chkB r u k 1).length + _ := List.length_append
 have e4 : (chkB r u k 1).length = (chkB r u k 0).length + _ := List.length_append
 obtain rfl | rfl | rfl | rfl | rfl : i = 0 ∨ i = 1 ∨ i = 2 ∨ i = 3 ∨ i = 4 := by omega
 all_goals omega
theorem AW_cut {P : Program} {ro : Option Nat} {X : Cx} {c : Code} {Q : Exit → Fr → Hp → Prop} {f : Fr} {H : Hp} (n : Nat) (h : ∀ H' : Hp, (∀ j, j < n → H' j = H j) → (∀ j, n ≤ j → H' j = none) → AW P ro X c Q f H') : AW P ro X c Q f H :=
 AW_drop (fun j => if j < n then H j else none) (fun j => by
  by_cases hj : j < n
  ·exact .inr (if_pos hj)
  ·exact .inl (if_neg hj)) (h _ (fun j hj => if_pos hj) fun j hj => if_neg (by omega))
def AllL (e6 : Nat) (l : List Brc) (H : Hp) : Prop := (l = [] ∧ H 6 = some (e6, .arr 1 [[.nils]])) ∨ l ≠ [] ∧ ∃ ea, H 6 = some (e6, .arr 1 [[.gr 355 ea l.length]]) ∧ H 355 = some (ea, .arr 4 (l.map cBrc))
theorem AllL.same {e6 : Nat} {l : List Brc} {H H' : Hp} (h : AllL e6 l H) (h6 : H' 6 = H 6) (h355 : H' 355 = H 355) : AllL e6 l H' := by
 unfold AllL; rw [h6, h355]; exact h
theorem toB_len {m q : Int} : ∀ (es : List (Int × Val)), (toB m q es).length ≤ es.length
 | [] => by simp [toB]
 | p :: es => by
  have ih := toB_len (m := m) (q := q) es
  have h1 := @oneB_len m q p.1 (kOf p.2)
  simp only [toB, List.flatMap_cons, List.length_append, List.length_cons] at ih ⊢
  omega
theorem chkX_len {r : RunT} {u : RulesT} {k i : Nat} (hF : RunF r) : (chkX r u k i).length ≤ 8 := by
 have h1 := hF.cpls
 have h2 := @wk_len r ((k + 1 : Nat) : Int)
 match i with
 | 0 => simp only [chkX]; split <;> simp
 | 1 => simp only [chkX]; split <;> simp
 | 2 =>
  simp only [chkX]
  split
  ·simp
  ·simp only [List.length_map]; omega
 | 3 => simp only [chkX]; split <;> simp
 | i + 4 => simp [chkX]
end Cp
namespace Cp
open Go Go.Proofs
set_option maxRecDepth 10000
def chkV : List (List Val) := [[kn 1, .fn 93 []], [kn 2, .fn 94 []], [kn 3, .fn 98 []], [kn 4, .fn 99 []]]
theorem checks_ok : PureC Try.prog 80 [] (.lst 2 chkV) := by
 refine PureC_of (fn := Try.f80) tabOK (by kernel_rfl) rfl (by kernel_rfl) (by simp [Try.f80]) (by simp [noids, noid, noidss, go_sem, chkV, kn]) (by first | rfl | simp [noids, noid, noidss, go_sem, chkV, kn]) ?_
 intro X hX0 hXs
 repeat' (first | (with_reducible refine sk ?_; intro K hK) | ((with_reducible first | refine rg (h := ?_) | refine nx ?_); try simp (disch := omega) only [chkV, kn,go_sem, simprocAttr]) | (with_reducible refine bk ?_) | ((with_reducible refine' cE ?hv ?_ ?_); (case hv => first | rfl | (simp only [chkV, kn,go_sem, simprocAttr]; rfl)); all_goals (intro hc; (try simp only [go_sem, simprocAttr] at hc); try (exfalso; omega))) | ((with_reducible refine fe ?_); refine ⟨_, (by simp only [Try.f80, chkV, kn,go_sem, simprocAttr]; rfl), ?_⟩; first | rfl | (try simp only [chkV, kn,go_sem, simprocAttr, seval])) | with_reducible intro (ep : Nat → Nat) | with_reducible apply_assumption -exfalso -symm only [*])
theorem minutes_ok (cs : List Val) (hcs : noids cs = true) : PureC Try.prog 79 [.pim cs] (.fn 92 [.pim [.pim cs]]) := by
 refine PureC_of (fn := Try.f79) tabOK (by kernel_rfl) rfl (by kernel_rfl) (by simp [Try.f79]) (by simp [noids, noid, noidss, go_sem, hcs]) (by first | rfl | simp [noids, noid, noidss, go_sem, hcs]) ?_
 intro X hX0 hXs
 repeat' (first | (with_reducible refine sk ?_; intro K hK) | ((with_reducible first | refine rg (h := ?_) | refine nx ?_); try simp (disch := omega) only [hcs,go_sem, simprocAttr]) | (with_reducible refine bk ?_) | ((with_reducible refine' cE ?hv ?_ ?_); (case hv => first | rfl | (simp only [hcs,go_sem, simprocAttr]; rfl)); all_goals (intro hc; (try simp only [go_sem, simprocAttr] at hc); try (exfalso; omega))) | ((with_reducible refine fe ?_); refine ⟨_, (by simp only [Try.f79, hcs,go_sem, simprocAttr]; rfl), ?_⟩; first | rfl | (try simp only [hcs,go_sem, simprocAttr, seval])) | with_reducible intro (ep : Nat → Nat) | with_reducible apply_assumption -exfalso -symm only [*])
theorem key1_ok (b : Brc) : PureC Try.prog 84 [.agg (cBrc b)] (.int .i64 b.m) := by
 refine PureC_of (fn := Try.f84) tabOK (by kernel_rfl) rfl (by kernel_rfl) (by simp [Try.f84]) (by simp [noids, noid, noidss, go_sem, cBrc]) (by first | rfl | simp [noids, noid, noidss, go_sem, cBrc]) ?_
 intro X hX0 hXs
 repeat' (first | (with_reducible refine sk ?_; intro K hK) | ((with_reducible first | refine rg (h := ?_) | refine nx ?_); try simp (disch := omega) only [cBrc,go_sem, simprocAttr]) | (with_reducible refine bk ?_) | ((with_reducible refine' cE ?hv ?_ ?_); (case hv => first | rfl | (simp only [cBrc,go_sem, simprocAttr]; rfl)); all_goals (intro hc; (try simp only [go_sem, simprocAttr] at hc); try (exfalso; omega))) | ((with_reducible refine fe ?_); refine ⟨_, (by simp only [Try.f84, cBrc,go_sem, simprocAttr]; rfl), ?_⟩; first | rfl | (try simp only [cBrc,go_sem, simprocAttr, seval])) | with_reducible intro (ep : Nat → Nat) | with_reducible apply_assumption -exfalso -symm only [*])
theorem key2_ok (b : Brc) (h : 0 ≤ b.kind ∧ b.kind ≤ 255) : PureC Try.prog 85 [.agg (cBrc b)] (.int .i64 b.kind) := by
 refine PureC_of (fn := Try.f85) tabOK (by kernel_rfl) rfl (by kernel_rfl) (by simp [Try.f85]) (by simp [noids, noid, noidss, go_sem, cBrc]) (by first | rfl | simp [noids, noid, noidss, go_sem, cBrc]) ?_
 intro X hX0 hXs
 repeat' (first | (with_reducible refine sk ?_; intro K hK) | ((with_reducible first | refine rg (h := ?_) | refine nx ?_); try simp (disch := omega) only [cBrc,go_sem, simprocAttr]) | (with_reducible refine bk ?_) | ((with_reducible refine' cE ?hv ?_ ?_); (case hv => first | rfl | (simp only [cBrc,go_sem, simprocAttr]; rfl)); all_goals (intro hc; (try simp only [go_sem, simprocAttr] at hc); try (exfalso; omega))) | ((with_reducible refine fe ?_); refine ⟨_, (by simp only [Try.f85, cBrc,go_sem, simprocAttr]; rfl), ?_⟩; first | rfl | (try simp only [cBrc,go_sem, simprocAttr, seval])) | with_reducible intro (ep : Nat → Nat) | with_reducible apply_assumption -exfalso -symm only [*])
theorem key3_ok (b : Brc) : PureC Try.prog 86 [.agg (cBrc b)] (.int .i64 b.cpl) := by
 refine PureC_of (fn := Try.f86) tabOK (by kernel_rfl) rfl (by kernel_rfl) (by simp [Try.f86]) (by simp [noids, noid, noidss, go_sem, cBrc]) (by first | rfl | simp [noids, noid, noidss, go_sem, cBrc]) ?_
 intro X hX0 hXs
 repeat' (first | (with_reducible refine sk ?_; intro K hK) | ((with_reducible first | refine rg (h := ?_) | refine nx ?_); try simp (disch := omega) only [cBrc,go_sem, simprocAttr]) | (with_reducible refine bk ?_) | ((with_reducible refine' cE ?hv ?_ ?_); (case hv => first | rfl | (simp only [cBrc,go_sem, simprocAttr]; rfl)); all_goals (intro hc; (try simp only [go_sem, simprocAttr] at hc); try (exfalso; omega))) | ((with_reducible refine fe ?_); refine ⟨_, (by simp only [Try.f86, cBrc,go_sem, simprocAttr]; rfl), ?_⟩; first | rfl | (try simp only [cBrc,go_sem, simprocAttr, seval])) | with_reducible intro (ep : Nat → Nat) | with_reducible apply_assumption -exfalso -symm only [*])
def cmpB (a b : Brc) : Int := if cmpI a.m b.m ≠ 0 then cmpI a.m b.m else if cmpI a.kind b.kind ≠ 0 then cmpI a.kind b.kind else cmpI a.cpl b.cpl
def keysV : List (List Val) := [[.fn 84 []], [.fn 85 []], [.fn 86 []]]
theorem by_ok (a b : Brc) (ha : 0 ≤ a.kind ∧ a.kind ≤ 255) (hb : 0 ≤ b.kind ∧ b.kind ≤ 255) : PureC Try.prog 83 [.agg (cBrc a), .agg (cBrc b), .lst 1 keysV] (.int .i64 (cmpB a b)) := by
 have k1 := key1_ok a
 have k2 := key2_ok a ha
 have k3 := key3_ok a
 have l1 := key1_ok b
 have l2 := key2_ok b hb
 have l3 := key3_ok b
 simp only [cBrc] at k1 k2 k3 l1 l2 l3
 refine PureC_of (fn := Try.f83) tabOK (by kernel_rfl) rfl (by kernel_rfl) (by simp [Try.f83]) (by simp [noids, noid, noidss, go_sem, cBrc, keysV]) (by first | rfl | simp [noids, noid, noidss, go_sem, cBrc, keysV]) ?_
 intro X hX0 hXs
 repeat' (first | (with_reducible refine sk ?_; intro K hK) | ((with_reducible first | refine rg (h := ?_) | refine nx ?_); try simp (disch := omega) only [cBrc, keysV,go_sem, simprocAttr]) | (with_reducible refine bk ?_) | ((with_reducible refine' cE ?hv ?_ ?_); (case hv => first | rfl | (simp only [cBrc, keysV,go_sem, simprocAttr]; rfl)); all_goals (intro hc; (try simp only [go_sem, simprocAttr] at hc); try (exfalso; omega))) | ((with_reducible refine fe ?_); refine ⟨_, (by simp only [Try.f83, cBrc, keysV,go_sem, simprocAttr]; rfl), ?_⟩; first | rfl | (try simp only [cBrc, keysV,go_sem, simprocAttr, seval])) | with_reducible intro (ep : Nat → Nat) | with_reducible apply_assumption -exfalso -symm only [*])
 refine AW_range tabOK 3 (fun k f H => (f 3 = .pim (cBrc a) ∧ f 4 = .pim (cBrc b) ∧ f 10 = .lst 1 keysV ∧ H = none0) ∧ (k = 0 ∨ cmpI a.m b.m = 0) ∧ (k ≤ 1 ∨ cmpI a.kind b.kind = 0) ∧ (k ≤ 2 ∨ cmpI a.cpl b.cpl = 0)) (by omega) (by rw [hXs]; decide) (by decide) (by simp only [go_sem, simprocAttr]) (by (first | rfl | (simp only [go_sem, simprocAttr]; done) | (simp only [go_sem, simprocAttr]; rfl)))
  ⟨by (and_intros <;> first | rfl | (simp only [cBrc, keysV, go_sem, simprocAttr]; done) | (simp only [cBrc, keysV, go_sem, simprocAttr]; rfl)), by simp, by simp, by simp⟩ ?_ ?_
 ·rintro k f H hk h12 h11 ⟨⟨h3, h4, h10, rfl⟩, q1, q2, q3⟩
  obtain rfl | rfl | rfl : k = 0 ∨ k = 1 ∨ k = 2 := by omega
  ·repeat' (first | (with_reducible refine sk ?_; intro K hK) | ((first | (with_reducible first | refine rg (h := ?_) | refine nx ?_) | refine pK (k1) ?_ | refine pK (l1) ?_ | refine pK (compare_ok _ _) ?_); try simp (disch := omega) only [h3, h4, h10, h11, h12, cBrc, keysV,go_sem, simprocAttr]) | (with_reducible refine bk ?_) | ((with_reducible refine' cE ?hv ?_ ?_); (case hv => first | rfl | (simp only [h3, h4, h10, h11, h12, cBrc, keysV,go_sem, simprocAttr]; rfl)); all_goals (intro hc; (try simp only [go_sem, simprocAttr] at hc); try (exfalso; omega))) | ((with_reducible refine fe ?_); refine ⟨_, (by simp only [Try.f83, h3, h4, h10, h11, h12, cBrc, keysV,go_sem, simprocAttr]; rfl), ?_⟩; first | rfl | (try simp only [h3, h4, h10, h11, h12, cBrc, keysV,go_sem, simprocAttr, seval])) | with_reducible intro (ep : Nat → Nat) | with_reducible apply_assumption -exfalso -symm only [*])
   ·unfold cmpB; rw [if_pos hc]
   ·exact .inr hc
  ·repeat' (first | (with_reducible refine sk ?_; intro K hK) | ((first | (with_reducible first | refine rg (h := ?_) | refine nx ?_) | refine pK (k2) ?_ | refine pK (l2) ?_ | refine pK (compare_ok _ _) ?_); try simp (disch := omega) only [h3, h4, h10, h11, h12, cBrc, keysV,go_sem, simprocAttr]) | (with_reducible refine bk ?_) | ((with_reducible refine' cE ?hv ?_ ?_); (case hv => first | rfl | (simp only [h3, h4, h10, h11, h12, cBrc, keysV,go_sem, simprocAttr]; rfl)); all_goals (intro hc; (try simp only [go_sem, simprocAttr] at hc); try (exfalso; omega))) | ((with_reducible refine fe ?_); refine ⟨_, (by simp only [Try.f83, h3, h4, h10, h11, h12, cBrc, keysV,go_sem, simprocAttr]; rfl), ?_⟩; first | rfl | (try simp only [h3, h4, h10, h11, h12, cBrc, keysV,go_sem, simprocAttr, seval])) | with_reducible intro (ep : Nat → Nat) | with_reducible apply_assumption -exfalso -symm only [*])
   ·unfold cmpB; rw [if_neg (by simp [q1.resolve_left (by omega)]), if_pos hc]
   ·exact ⟨.inr (q1.resolve_left (by omega)), .inr hc⟩
  ·repeat' (first | (with_reducible refine sk ?_; intro K hK) | ((first | (with_reducible first | refine rg (h := ?_) | refine nx ?_) | refine pK (k3) ?_ | refine pK (l3) ?_ | refine pK (compare_ok _ _) ?_); try simp (disch := omega) only [h3, h4, h10, h11, h12, cBrc, keysV,go_sem, simprocAttr]) | (with_reducible refine bk ?_) | ((with_reducible refine' cE ?hv ?_ ?_); (case hv => first | rfl | (simp only [h3, h4, h10, h11, h12, cBrc, keysV,go_sem, simprocAttr]; rfl)); all_goals (intro hc; (try simp only [go_sem, simprocAttr] at hc); try (exfalso; omega))) | ((with_reducible refine fe ?_); refine ⟨_, (by simp only [Try.f83, h3, h4, h10, h11, h12, cBrc, keysV,go_sem, simprocAttr]; rfl), ?_⟩; first | rfl | (try simp only [h3, h4, h10, h11, h12, cBrc, keysV,go_sem, simprocAttr, seval])) | with_reducible intro (ep : Nat → Nat) | with_reducible apply_assumption -exfalso -symm only [*])
   ·unfold cmpB; rw [if_neg (by simp [q1.resolve_left (by omega)]), if_neg (by simp [q2.resolve_left (by omega)])]
   ·exact ⟨.inr (q1.resolve_left (by omega)), .inr (q2.resolve_left (by omega)), .inr hc⟩
 ·rintro f H h12 h11 ⟨⟨h3, h4, h10, rfl⟩, q1, q2, q3⟩
  repeat' (first | (with_reducible refine sk ?_; intro K hK) | ((with_reducible first | refine rg (h := ?_) | refine nx ?_); try simp (disch := omega) only [h3, h4, h10, h11, h12, cBrc, keysV,go_sem, simprocAttr]) | (with_reducible refine bk ?_) | ((with_reducible refine' cE ?hv ?_ ?_); (case hv => first | rfl | (simp only [h3, h4, h10, h11, h12, cBrc, keysV,go_sem, simprocAttr]; rfl)); all_goals (intro hc; (try simp only [go_sem, simprocAttr] at hc); try (exfalso; omega))) | ((with_reducible refine fe ?_); refine ⟨_, (by simp only [Try.f83, h3, h4, h10, h11, h12, cBrc, keysV,go_sem, simprocAttr]; rfl), ?_⟩; first | rfl | (try simp only [h3, h4, h10, h11, h12, cBrc, keysV,go_sem, simprocAttr, seval])) | with_reducible intro (ep : Nat → Nat) | with_reducible apply_assumption -exfalso -symm only [*])
  have e1 := q1.resolve_left (by omega)
  have e2 := q2.resolve_left (by omega)
  have e3 := q3.resolve_left (by omega)
  simp [cmpB, e1, e2, e3]
theorem cmp_ok (a b : Brc) (ha : 0 ≤ a.kind ∧ a.kind ≤ 255) (hb : 0 ≤ b.kind ∧ b.kind ≤ 255) : PureC Try.prog 82 [.agg (cBrc a), .agg (cBrc b)] (.int .i64 (cmpB a b)) := by
 refine PureC_of (fn := Try.f82) tabOK (by kernel_rfl) rfl (by kernel_rfl) (by simp [Try.f82]) (by simp [noids, noid, noidss, go_sem, cBrc]) (by first | rfl | simp [noids, noid, noidss, go_sem, cBrc]) ?_
 intro X hX0 hXs
 repeat' (first | (with_reducible refine sk ?_; intro K hK) | ((first | (with_reducible first | refine rg (h := ?_) | refine nx ?_) | refine pK (by_ok a b ha hb) ?_); try simp (disch := omega) only [cBrc,go_sem, simprocAttr]) | (with_reducible refine bk ?_) | ((with_reducible refine' cE ?hv ?_ ?_); (case hv => first | rfl | (simp only [cBrc,go_sem, simprocAttr]; rfl)); all_goals (intro hc; (try simp only [go_sem, simprocAttr] at hc); try (exfalso; omega))) | ((with_reducible refine fe ?_); refine ⟨_, (by simp only [Try.f82, cBrc,go_sem, simprocAttr]; rfl), ?_⟩; first | rfl | (try simp only [cBrc,go_sem, simprocAttr, seval])) | with_reducible intro (ep : Nat → Nat) | with_reducible apply_assumption -exfalso -symm only [*])
end Cp
namespace Cp
open Go Go.Proofs Go.Shelf Go.Sort
def cI {α : Type} (f : α → List (IntKind × Int)) (x : α) : List Val := (f x).map fun p => .int p.1 p.2
def vI {α : Type} (f : α → List (IntKind × Int)) (x : α) : List Value := (f x).map fun p => .int p.1 p.2
section
variable {P : Program} {ρ : Ren} {α : Type} [Inhabited α] {G : Gh} {w w' : World} {H : Hp}
def noG : Gh := ⟨fun _ => False, fun _ => none, fun _ => 0, fun _ => 0, fun _ => 0, []⟩
theorem noG_rel : HRel noG w none0 :=
 ⟨(fun k e o h => by cases h), fun k e km em ver left cur e' es h => (by cases h), fun k k' e e' o o' b h => (by cases h), fun b h => h.elim, fun b h => (Own.none0 h).elim, fun r h => by simp [noG] at h⟩
theorem world_eq {w w' : World} (h1 : w'.os = w.os) (h2 : w'.tape = w.tape ∧ w.drawn ≤ w'.drawn) (h3 : w'.output = w.output) (h4 : w.heap.size ≤ w'.heap.size) (h5 : ∀ b, b < w.heap.size → w'.heap[b]? = w.heap[b]?) :
  ∃ q os, w' = grow (w.drewN q) os := by
 refine ⟨w'.drawn - w.drawn, w'.heap.extract w.heap.size w'.heap.size, ?_⟩
 obtain ⟨hp, tp, dr, os, out⟩ := w
 obtain ⟨hp', tp', dr', os', out'⟩ := w'
 simp only at h1 h2 h3 h4 h5
 obtain ⟨h2, h6⟩ := h2
 subst h1 h2 h3
 simp only [grow, World.drewN, World.mk.injEq, and_true, true_and]
 refine ⟨?_, by omega⟩
 apply Array.ext_getElem?
 intro i
 rw [Array.getElem?_append]
 by_cases hi : i < hp.size
 ·rw [if_pos hi]; exact h5 i hi
 ·rw [if_neg hi, Array.getElem?_extract]
  split
  ·congr 1; omega
  ·rw [Array.getElem?_eq_none (by omega)]
theorem VRs_ints {f : α → List (IntKind × Int)} {x : α} : VR G w (.agg (cI f x)) (.agg (vI f x).toArray) := by
 refine .agg _ _ (by simp [cI, vI]) (fun i v hi => ?_) (fun i v hi => ?_)
 ·simp only [cI, List.getElem?_map, Option.map_eq_some_iff] at hi
  obtain ⟨p, _, rfl⟩ := hi; rfl
 ·simp only [cI, List.getElem?_map, Option.map_eq_some_iff] at hi
  obtain ⟨p, hp, rfl⟩ := hi
  have : (vI f x).toArray.getD i undef = .int p.1 p.2 := by
   rw [Array.getD_eq_getD_getElem?, List.getElem?_toArray, vI, List.getElem?_map, hp]; rfl
  rw [this]; exact .int _ _
theorem cmp_lays {f : α → List (IntKind × Int)} {g : FuncId} {cf : α → α → Int} (h : ∀ x y, PureC P g [.agg (cI f x), .agg (cI f y)] (.int .i64 (cf x y))) (k blk off size : Nat) : CmpLays P g #[] (vI f) k cf blk off size w := by
 intro m os dk _ x y
 obtain ⟨_, _, _, hP⟩ := h x y
 refine Calls.mono (hP noG (sortWorldK (vI f) k w blk off m dk os) _ noG_rel ⟨by simp, fun i v hi => ?_⟩) ?_
 ·match i, hi with
  | 0, hi => cases hi; exact VRs_ints
  | 1, hi => cases hi; exact VRs_ints
  | i + 2, hi => simp at hi
 ·rintro e w1 ⟨z, I', rfl, t, r, hv⟩
  cases hv
  exact ⟨rfl, world_eq t.os t.tape t.output t.size fun b hb => t.same b hb Own.none0⟩
theorem heap_putRow {enc : α → List Value} {k : Nat} {blk : Nat} {d : Array α} {m b : Nat} (h : b ≠ blk) : (putRowK enc k (Sort.ahead w m) blk 0 d).heap[b]? = w.heap[b]? := by
 show ((Sort.ahead w m).heap.modify blk _)[b]? = _
 rw [Array.getElem?_modify, if_neg (fun e => h e.symm)]
 rfl
theorem perm_of {n : Nat} {d d' : Array α} (hn : n = d.size) (h : PermIn 0 n d d') : d'.toList.Perm d.toList := by
 obtain ⟨h1, _, h3⟩ := h
 rw [hn] at h3
 have e1 : d'.extract 0 d.size = d' := by rw [← h1]; simp
 have e2 : d.extract 0 d.size = d := by simp
 rw [e1, e2] at h3
 exact h3
theorem sort_acall (L : SlLaysF0.n6 P ρ) {k : Nat} (aE : ∀ w, (isAgg (ρ.t 24)).run P w = .ok true w) (zE : ∀ w, (Go.sizeOf (ρ.t 24)).run P w = .ok k w) (hE : Ent P (ρ.f 6)) {f : α → List (IntKind × Int)} (hk : ∀ x, (f x).length = k) {g : FuncId} {cf : α → α → Int}
  (hO : SWO (ltOf cf)) (hcf : ∀ x y, PureC P g [.agg (cI f x), .agg (cI f y)] (.int .i64 (cf x y))) {j e n : Nat} {l : List α} (hj : H j = some (e, .arr k (l.map (cI f)))) (hn : n = l.length) (hl : l.length < 4611686018427387904) :
  ACall P (ρ.f 6) [.gr j e n, .fn g []] H (fun v H' => v = .tup [] ∧ ∃ l' : List α, l'.Perm l ∧ l'.Pairwise (fun a b => 0 ≤ cf b a) ∧ H' = upd H j (some (e, .arr k (l'.map (cI f))))) := by
 refine ⟨hE, fun G w xs hR hv => ?_⟩
 obtain ⟨hs, hv⟩ := hv
 obtain ⟨x0, x1, rfl⟩ : ∃ x0 x1, xs = #[x0, x1] := by
  obtain ⟨xs⟩ := xs
  match xs, hs with
  | [a, b], _ => exact ⟨a, b, rfl⟩
 have h0 := hv 0 _ rfl
 have h1 := hv 1 _ rfl
 simp only [show (#[x0, x1] : Array Value).getD 0 undef = x0 from rfl, show (#[x0, x1] : Array Value).getD 1 undef = x1 from rfl] at h0 h1
 cases h1 with
 | fn _ _ cb hcs hcv =>
  obtain rfl : cb = #[] := by simpa using hcs
  obtain ⟨hE0, hN0, hrow1, hrow2⟩ := hR.obj j e _ hj
  cases h0 with
  | gr _ _ _ a c he hp =>
   have hh := hp hE0
   unfold Gh.handle at hh
   have nul : n = 0 → Calls P (ρ.f 6) #[.slice a n c, .func (.func g) #[] #[]] w fun e1 w' => ∃ v x G' H', e1 = .returned x ∧ Tr G H w G' H' w' ∧ HRel G' w' H' ∧ G'.D = G.D ∧ VR G' w' v x ∧ (v = .tup [] ∧ ∃ l' : List α, l'.Perm l ∧ l'.Pairwise (fun a b => 0 ≤ cf b a) ∧ H' = upd H j (some (e, .arr k (l'.map (cI f))))) := fun hz => by
    have hl0 : l = [] := List.eq_nil_of_length_eq_zero (hn ▸ hz)
    subst hz
    refine Calls.mono (AnyF.slices_SortFunc_none L a c (.func (.func g) #[] #[]) w) ?_
    rintro e1 w1 ⟨rfl, rfl⟩
    refine ⟨.tup [], _, G, H, rfl, Tr.refl G H w1, hR, rfl, .tup _ _ rfl (fun i v h => by simp at h), rfl, l, .refl _, by subst hl0; exact .nil, ?_⟩
    funext t
    by_cases ht : t = j
    ·subst ht; rw [upd_same, hj]
    ·rw [upd_ne _ _ ht]
   by_cases hz : n = 0
   ·exact nul hz
   cases hK : G.K j with
   | none =>
    rw [hK] at hrow2
    obtain ⟨h2, _⟩ := hrow2
    exact absurd (by rw [hn]; have := congrArg List.length h2; simpa using this) hz
   | some b =>
    rw [hK] at hh hrow2
    simp only [Value.slice.injEq, true_and] at hh
    obtain ⟨rfl, rfl⟩ := hh
    obtain ⟨⟨cs, T0, hb, hcs2⟩, hle, hM⟩ := hrow2
    have hblk : b < w.heap.size := getElem?_lt hb
    have hklen : ∀ x, (vI f x).length = k := fun x => by simp [vI, hk]
    have hone : ∀ x, ∀ v ∈ vI f x, v.oneCell' = true := fun x v hv => by
     simp only [vI, List.mem_map] at hv
     obtain ⟨p, _, rfl⟩ := hv; rfl
    have hfroz : ∀ o, w.frozen? ⟨b, o, none⟩ = false := fun o => by simp [World.frozen?, hb]
    have hcell : ∀ (i : Nat) (x : α), l[i]? = some x → ∀ (q : Nat) (v : Value), (vI f x)[q]? = some v → w.cell? ⟨b, i * k + q, none⟩ = some v := fun i x hi q v hq => by
     have hm := hM i (cI f x) (by rw [List.getElem?_map, hi]; rfl)
     simp only [vI, List.getElem?_map, Option.map_eq_some_iff] at hq
     obtain ⟨p, hp, rfl⟩ := hq
     obtain ⟨y, q1, q2, q3⟩ := hm q (.int p.1 p.2) (by simp only [cI, List.getElem?_map, hp]; rfl)
     cases q3
     exact q1
    have hH : HoldsK (vI f) k w b 0 l.toArray := by
     intro t ht
     have ht' : t < l.toArray.size * k := by simpa using ht
     have hk0 : 0 < k := by
      rcases Nat.eq_zero_or_pos k with h | h
      ·subst h; simp at ht'
      ·exact h
     have hdiv : t / k < l.length := by
      rw [Nat.div_lt_iff_lt_mul hk0]; simpa using ht'
     have hmod := Nat.mod_lt t hk0
     refine ⟨?_, hfroz _⟩
     have hx : l[t / k]? = some l[t / k] := List.getElem?_eq_getElem hdiv
     have := hcell (t / k) _ hx (t % k) ((vI f l[t / k])[t % k]'(by rw [hklen]; exact hmod)) (List.getElem?_eq_getElem _)
     rw [Nat.div_add_mod' t k] at this
     rw [Nat.zero_add, this]
     show some _ = some (flatK (vI f) k l.toArray)[t]!
     rw [get_flatK _ _ _ _ ht']
     rw [getElem!_pos l.toArray (t / k) (by simpa using hdiv)]
     simp only [List.getElem_toArray]
     rw [getElem!_pos (vI f l[t / k]) (t % k) (by rw [hklen]; exact hmod)]
    have eg : ∀ args w, (callFunc g args).run P w = .ok (.enter g args) w := fun args w => by
     obtain ⟨fn, f1, f2, f3⟩ := (hcf default default).1
     simp only [callFunc, Sem.run_bind, run_program, Result.andThen, f1, f3, f2, Bool.false_eq_true, if_false, Sem.run_pure]
    have hsz : l.toArray.size = n := by simp [hn]
    have hc := AnyQ.slices_SortFunc L k aE zE (vI f) hklen hone cf hO g #[] b 0 (G.C j) l.toArray w eg (cmp_lays hcf _ _ _ _) hH hblk (by simpa using hl)
    rw [hsz] at hc
    refine Calls.mono hc ?_
    rintro e1 w1 ⟨rfl, d', m, os, hperm, hsort, rfl⟩
    have hpl : d'.toList.Perm l := by
     have := perm_of (by simp [hn]) hperm
     simpa using this
    have hdl : d'.size = l.length := by have := hpl.length_eq; simpa using this
    let w2 := putRowK (vI f) k (Sort.ahead w m) b 0 d'
    have hsame : ∀ k', k' ≠ j → G.E k' = G.E k' ∧ G.N k' = G.N k' := fun _ _ => ⟨rfl, rfl⟩
    have s4 : w2.heap.size = w.heap.size := by simp [w2, putRowK, Sort.ahead]
    have s5 : ∀ b', b' ≠ b → w2.heap[b']? = w.heap[b']? := fun b' hb' => heap_putRow hb'
    have t1 := Tr.write (w' := w2) (e := e) (ao := .arr k (d'.toList.map (cI f))) (E' := G.E) (N' := G.N) hR hj rfl hK hsame (.inl ⟨rfl, rfl⟩) rfl ⟨rfl, Nat.le_add_right _ _⟩ rfl s4 s5
    have hcell2 : ∀ t, t < d'.size * k → w2.cell? ⟨b, t, none⟩ = some ((flatK (vI f) k d')[t]!) := fun t ht => by
     have := cell?_putRow id (Sort.ahead w m) b 0 (flatK (vI f) k l.toArray) (flatK (vI f) k d') (fun q hq => hH q hq) (by simp [hdl]) t (by simpa using ht)
     rwa [Nat.zero_add] at this
    obtain ⟨cs3, hb2, hcs3⟩ : ∃ cs3, w2.heap[b]? = some (.cells cs3 T0 (0, 0)) ∧ cs3.size = cs.size := by
     have e1 : w2.heap[b]? = some (onCells (putCells id 0 (flatK (vI f) k d')) (.cells cs T0 (0, 0))) := by
      show ((Sort.ahead w m).heap.modify b _)[b]? = _
      rw [Array.getElem?_modify, if_pos rfl]
      show (w.heap[b]?).map _ = _
      rw [hb]; rfl
     exact ⟨_, e1, by simp [putCells]⟩
    have hrel : HRel G w2 (upd H j (some (e, .arr k (d'.toList.map (cI f))))) := by
     refine hR.write hj rfl hK hsame (.inl ⟨rfl, rfl⟩) rfl ⟨rfl, Nat.le_add_right _ _⟩ rfl s4 s5 ⟨hE0, hN0⟩ ?_ (fun _ _ _ _ _ h => by cases h) (fun _ _ h => by cases h)
     refine ⟨fun i es hi => ?_, ?_⟩
     ·rw [List.getElem?_map, Option.map_eq_some_iff] at hi
      obtain ⟨x, _, rfl⟩ := hi
      simp [cI, hk]
     ·simp only [hK]
      refine ⟨⟨cs3, T0, hb2, by rw [hcs3, hcs2]⟩, by simpa [hdl] using hle, fun i es hi => ?_⟩
      rw [List.getElem?_map, Option.map_eq_some_iff] at hi
      obtain ⟨x, hx, rfl⟩ := hi
      intro q v hq
      simp only [cI, List.getElem?_map, Option.map_eq_some_iff] at hq
      obtain ⟨p, hp, rfl⟩ := hq
      have hql : q < k := by have := (List.getElem?_eq_some_iff.1 hp).1; rwa [hk] at this
      have hil : i < d'.size := by have := (List.getElem?_eq_some_iff.1 hx).1; simpa using this
      have hlt : i * k + q < d'.size * k := by
       have : (i + 1) * k ≤ d'.size * k := Nat.mul_le_mul_right k hil
       rw [Nat.add_mul, Nat.one_mul] at this
       omega
      refine ⟨.int p.1 p.2, ?_, rfl, .int _ _⟩
      rw [hcell2 _ hlt, get_flatK _ _ _ _ hlt]
      have hk0 : 0 < k := by omega
      have e1 : (i * k + q) / k = i := by rw [Nat.add_comm, Nat.add_mul_div_right _ _ hk0, Nat.div_eq_of_lt hql, Nat.zero_add]
      have e2 : (i * k + q) % k = q := by rw [Nat.add_comm, Nat.add_mul_mod_self_right, Nat.mod_eq_of_lt hql]
      rw [e1, e2, getElem!_pos d' i hil]
      have e3 : d'[i] = x := by
       have := hx
       rw [Array.getElem?_toList, Array.getElem?_eq_getElem hil] at this
       simpa using this
      rw [e3, getElem!_pos (vI f x) q (by rw [hklen]; exact hql)]
      have e4 : (vI f x)[q]? = some (.int p.1 p.2) := by simp only [vI, List.getElem?_map, hp]; rfl
      rw [List.getElem?_eq_getElem (by rw [hklen]; exact hql)] at e4
      simpa using e4
    have hgrow : ∀ b', b' < w2.heap.size → (grow w2 os).heap[b']? = w2.heap[b']? := fun b' hb' => by
     show (w2.heap ++ os)[b']? = _
     rw [Array.getElem?_append_left hb']
    have t2 : Tr G (upd H j (some (e, .arr k (d'.toList.map (cI f))))) w2 G (upd H j (some (e, .arr k (d'.toList.map (cI f))))) (grow w2 os) :=
     ⟨rfl, ⟨rfl, Nat.le_refl _⟩, rfl, by show w2.heap.size ≤ (w2.heap ++ os).size; simp, fun b' hb' _ => hgrow b' hb', fun b' hb' => .inl hb', fun _ h => h, fun _ h => .inl h, fun _ => Nat.le_refl _, fun _ => .inl ⟨rfl, rfl, rfl⟩, [], rfl⟩
    have hrel2 := hrel.still t2 rfl (fun _ => ⟨rfl, rfl, rfl⟩) hgrow (fun b' hb' => ⟨Nat.lt_of_lt_of_le (hrel.imm b' hb').1 t2.size, (hrel.imm b' hb').2⟩)
    refine ⟨.tup [], _, G, _, rfl, t1.trans t2, hrel2, rfl, .tup _ _ rfl (fun i v h => by simp at h), rfl, d'.toList, hpl, ?_, rfl⟩
    rw [List.pairwise_iff_getElem]
    intro i q hi hq hiq
    have hq' : q < d'.size := by simpa using hq
    have hi' : i < d'.size := by simpa using hi
    have := hsort i q (Nat.zero_le _) hiq (by omega)
    rw [getElem!_pos d' q hq', getElem!_pos d' i hi'] at this
    simp only [ltOf, decide_eq_false_iff_not] at this
    simp only [Array.getElem_toList]
    omega
end
end Cp
namespace Cp
open Go Go.Proofs
set_option maxRecDepth 10000
def sortB_ren : Go.Shelf.Ren := ⟨fun | 6 => 81 | 14 => 100 | 15 => 101 | 20 => 102 | 21 => 103 | 22 => 104 | 23 => 105 | 24 => 106 | 25 => 107 | 26 => 108 | 27 => 109 | 28 => 110 | 29 => 111 | 46 => 112 | 47 => 113 | 48 => 114 | 49 => 115 | 50 => 116 | 57 => 117 | n => n, fun | 0 => 0 | 3 => 3 | 4 => 4 | 5 => 5 | 9 => 9 | 22 => 49 | 24 => 71 | 25 => 143 | 39 => 147 | 45 => 158 | 46 => 159 | 50 => 121 | 53 => 67 | 55 => 166 | 66 => 167 | 70 => 171 | 76 => 173 | 77 => 37 | n => n, fun n => n⟩
theorem sortB : Go.Proofs.SlLaysF0.n6 Try.prog sortB_ren := {
 mixed := by kernel_rfl,
 f6 := ⟨Try.f81.name, by decide, Try.func81.trans (congrArg some (by kernel_rfl))⟩,
 f14 := ⟨Try.f100.name, by decide, Try.func100.trans (congrArg some (by kernel_rfl))⟩,
 f15 := Try.func101.trans (congrArg some (by kernel_rfl)),
 f20 := ⟨Try.f102.name, by decide, Try.func102.trans (congrArg some (by kernel_rfl))⟩,
 f21 := ⟨Try.f103.name, by decide, Try.func103.trans (congrArg some (by kernel_rfl))⟩,
 f22 := ⟨Try.f104.name, by decide, Try.func104.trans (congrArg some (by kernel_rfl))⟩,
 f23 := ⟨Try.f105.name, by decide, Try.func105.trans (congrArg some (by kernel_rfl))⟩,
 f24 := ⟨Try.f106.name, by decide, Try.func106.trans (congrArg some (by kernel_rfl))⟩,
 f25 := ⟨Try.f107.name, by decide, Try.func107.trans (congrArg some (by kernel_rfl))⟩,
 f26 := ⟨Try.f108.name, by decide, Try.func108.trans (congrArg some (by kernel_rfl))⟩,
 f27 := ⟨Try.f109.name, by decide, Try.func109.trans (congrArg some (by kernel_rfl))⟩,
 f28 := Try.func110.trans (congrArg some (by kernel_rfl)),
 f29 := Try.func111.trans (congrArg some (by kernel_rfl)),
 f46 := ⟨Try.f112.name, by decide, Try.func112.trans (congrArg some (by kernel_rfl))⟩,
 f47 := Try.func113.trans (congrArg some (by kernel_rfl)),
 f48 := Try.func114.trans (congrArg some (by kernel_rfl)),
 f49 := ⟨Try.f115.name, by decide, Try.func115.trans (congrArg some (by kernel_rfl))⟩,
 f50 := ⟨Try.f116.name, by decide, Try.func116.trans (congrArg some (by kernel_rfl))⟩,
 f57 := ⟨Try.f117.name, by decide, Try.func117.trans (congrArg some (by kernel_rfl))⟩,
 t0 := Try.underlying0,
 a0 := Try.isAgg0,
 z0 := Try.sizeOf0,
 v0 := Try.zeroValue0,
 t3 := Try.underlying3,
 a3 := Try.isAgg3,
 z3 := Try.sizeOf3,
 v3 := Try.zeroValue3,
 t4 := Try.underlying4,
 a4 := Try.isAgg4,
 z4 := Try.sizeOf4,
 v4 := Try.zeroValue4,
 t5 := Try.underlying5,
 a5 := Try.isAgg5,
 z5 := Try.sizeOf5,
 v5 := Try.zeroValue5,
 t9 := Try.underlying9,
 a9 := Try.isAgg9,
 z9 := Try.sizeOf9,
 v9 := Try.zeroValue9,
 t22 := Try.underlying49,
 a22 := Try.isAgg49,
 z22 := Try.sizeOf49,
 v22 := Try.zeroValue49,
 t25 := Try.underlying143,
 a25 := Try.isAgg143,
 z25 := Try.sizeOf143,
 v25 := Try.zeroValue143,
 t39 := Try.underlying147,
 a39 := Try.isAgg147,
 z39 := Try.sizeOf147,
 v39 := Try.zeroValue147,
 t45 := Try.underlying158,
 a45 := Try.isAgg158,
 z45 := Try.sizeOf158,
 v45 := Try.zeroValue158,
 t46 := Try.underlying159,
 a46 := Try.isAgg159,
 z46 := Try.sizeOf159,
 v46 := Try.zeroValue159,
 t50 := Try.underlying121,
 a50 := Try.isAgg121,
 z50 := Try.sizeOf121,
 v50 := Try.zeroValue121,
 t53 := Try.underlying67,
 a53 := Try.isAgg67,
 z53 := Try.sizeOf67,
 v53 := Try.zeroValue67,
 t55 := Try.underlying166,
 a55 := Try.isAgg166,
 z55 := Try.sizeOf166,
 v55 := Try.zeroValue166,
 t66 := Try.underlying167,
 a66 := Try.isAgg167,
 z66 := Try.sizeOf167,
 v66 := Try.zeroValue167,
 t70 := Try.underlying171,
 a70 := Try.isAgg171,
 z70 := Try.sizeOf171,
 v70 := Try.zeroValue171,
 t76 := Try.underlying173,
 a76 := Try.isAgg173,
 z76 := Try.sizeOf173,
 v76 := Try.zeroValue173,
 t77 := Try.underlying37,
 a77 := Try.isAgg37,
 z77 := Try.sizeOf37,
 v77 := Try.zeroValue37 }
def BrB := { b : Brc // 0 ≤ b.kind ∧ b.kind ≤ 255 }
instance : Inhabited BrB := ⟨⟨⟨0, 0, 0, 0⟩, by decide⟩⟩
def brI (b : BrB) : List (IntKind × Int) := [(.i64, b.1.m), (.u8, b.1.kind), (.i64, b.1.cpl), (.u8, b.1.known)]
theorem cmpI_cases (a b : Int) : (a < b ∧ cmpI a b = -1) ∨ (a = b ∧ cmpI a b = 0) ∨ (b < a ∧ cmpI a b = 1) := by
 unfold cmpI
 by_cases h : a < b
 ·simp [h]
 ·by_cases h2 : b < a
  ·simp [h, h2]
  ·simp [h, h2]; omega
def brLt (a b : Brc) : Prop := a.m < b.m ∨ a.m = b.m ∧ (a.kind < b.kind ∨ a.kind = b.kind ∧ a.cpl < b.cpl)
theorem cmpB_neg (a b : Brc) : cmpB a b < 0 ↔ brLt a b := by
 unfold cmpB brLt
 rcases cmpI_cases a.m b.m with ⟨h, e⟩ | ⟨h, e⟩ | ⟨h, e⟩ <;> rw [e]
 ·simp; omega
 ·rcases cmpI_cases a.kind b.kind with ⟨h2, e⟩ | ⟨h2, e⟩ | ⟨h2, e⟩ <;> rw [e]
  ·simp; omega
  ·rcases cmpI_cases a.cpl b.cpl with ⟨h3, e⟩ | ⟨h3, e⟩ | ⟨h3, e⟩ <;> rw [e] <;> simp <;> omega
  ·simp; omega
 ·simp; omega
theorem brSWO : Go.Sort.SWO (ltOf fun a b : BrB => cmpB a.1 b.1) where
 irrefl x := by simp only [ltOf, decide_eq_false_iff_not, cmpB_neg, brLt]; omega
 trans x y z h1 h2 := by simp only [ltOf, decide_eq_true_eq, cmpB_neg, brLt] at *; omega
 ntrans x y z h1 h2 := by simp only [ltOf, decide_eq_false_iff_not, cmpB_neg, brLt] at *; omega
theorem brSort (H : Hp) (j e n : Nat) (l : List Brc) (hl : ∀ b ∈ l, 0 ≤ b.kind ∧ b.kind ≤ 255) (hj : H j = some (e, .arr 4 (l.map cBrc))) (hn : n = l.length) (hlen : l.length < 4611686018427387904) :
  ACall Try.prog 81 [.gr j e n, .fn 82 []] H (fun v H' => ∃ l' : List Brc, l'.Perm l ∧ l'.Pairwise (fun a b => ¬ brLt b a) ∧ H' = upd H j (some (e, .arr 4 (l'.map cBrc)))) := by
 obtain ⟨lb, rfl⟩ : ∃ lb : List BrB, l = lb.map (·.1) := by
  clear hj hn hlen
  induction l with
  | nil => exact ⟨[], rfl⟩
  | cons a l ih =>
   obtain ⟨lb, rfl⟩ := ih fun b hb => hl b (by simp [hb])
   exact ⟨⟨a, hl a (by simp)⟩ :: lb, rfl⟩
 have hS := sort_acall (P := Try.prog) (ρ := sortB_ren) (H := H) sortB (k := 4) (fun w => Try.isAgg71 w) (fun w => Try.sizeOf71 w) ⟨Try.f81, by kernel_rfl, by kernel_rfl, by kernel_rfl⟩ (f := brI) (fun _ => rfl) (g := 82) (cf := fun a b => cmpB a.1 b.1) brSWO
  (fun x y => cmp_ok x.1 y.1 x.2 y.2) (j := j) (e := e) (n := n) (l := lb) (by rw [hj, List.map_map]; rfl) (by simpa using hn) (by simpa using hlen)
 refine ⟨hS.1, fun G w xs hR hv => Calls.mono (hS.2 G w xs hR hv) ?_⟩
 rintro e1 w1 ⟨v, x, G', H', h1, h2, h3, h4, h5, rfl, l', hp, hs, rfl⟩
 refine ⟨_, x, G', _, h1, h2, h3, h4, h5, l'.map (·.1), hp.map _, ?_, by rw [List.map_map]; rfl⟩
 rw [List.pairwise_map]
 refine hs.imp fun {a b} h => ?_
 rw [← cmpB_neg]
 omega
theorem brSort0 (H : Hp) (g : FuncId) : ACall Try.prog 81 [.nils, .fn g []] H (fun v H' => H' = H) := by
 refine ⟨⟨Try.f81, by kernel_rfl, by kernel_rfl, by kernel_rfl⟩, fun G w xs hR hv => ?_⟩
 obtain ⟨hs, hv⟩ := hv
 obtain ⟨x0, x1, rfl⟩ : ∃ x0 x1, xs = #[x0, x1] := by
  obtain ⟨xs⟩ := xs
  match xs, hs with
  | [a, b], _ => exact ⟨a, b, rfl⟩
 have h0 := hv 0 _ rfl
 simp only [show (#[x0, x1] : Array Value).getD 0 undef = x0 from rfl] at h0
 cases h0 with
 | nils a =>
  refine Calls.mono (AnyF.slices_SortFunc_none (P := Try.prog) (ρ := sortB_ren) sortB a 0 x1 w) ?_
  rintro e1 w1 ⟨rfl, rfl⟩
  exact ⟨.tup [], _, G, H, rfl, Tr.refl G H w1, hR, rfl, .tup _ _ rfl (fun i v h => by simp at h), rfl⟩
end Cp
namespace Cp
open Go
theorem sorted_uniq : ∀ (S l : List Brc), l.Perm S → S.Pairwise brLt → l.Pairwise (fun a b => ¬ brLt b a) → l = S
 | [], l, hp, _, _ => hp.eq_nil
 | s :: S, [], hp, _, _ => absurd hp.symm.eq_nil (by simp)
 | s :: S, a :: l, hp, hS, hl => by
  rw [List.pairwise_cons] at hS hl
  have hs : s = a := by
   have h1 := hp.mem_iff.1 (List.mem_cons_self (a := a) (l := l))
   have h2 := hp.mem_iff.2 (List.mem_cons_self (a := s) (l := S))
   rcases List.mem_cons.1 h1 with h1 | h1
   ·exact h1.symm
   ·rcases List.mem_cons.1 h2 with h2 | h2
    ·exact h2
    ·exact absurd (hS.1 a h1) (hl.1 s h2)
  subst hs
  rw [sorted_uniq S l (List.perm_cons s |>.1 hp) hS.2 hl.2]
theorem oneB_mem {m q c n : Int} {b : Brc} (h : b ∈ oneB m q c n) : b = ⟨m, q, c, n⟩ ∧ n ≠ 0 := by
 unfold oneB at h
 split at h
 ·simp at h
 ·rename_i hn; simp at h; exact ⟨h, hn⟩
theorem oneB_pair {m q c n : Int} : (oneB m q c n).Pairwise brLt := by unfold oneB; split <;> simp
theorem singL_mem {r : RunT} {u : RulesT} {m : Int} : ∀ {l : List Nat} {b : Brc}, b ∈ singL r u m l → ∃ i c, i ∈ l ∧ r.cpls[i]? = some c ∧ b = ⟨m, 3, c.id, singS r u c i m⟩ ∧ singS r u c i m ≠ 0
 | [], b, h => by simp [singL] at h
 | i :: l, b, h => by
  simp only [singL, List.mem_append] at h
  rcases h with h | h
  ·unfold singI at h
   split at h
   ·rename_i c hc
    obtain ⟨h1, h2⟩ := oneB_mem h
    exact ⟨i, c, by simp, hc, h1, h2⟩
   ·simp at h
  ·obtain ⟨j, c, h1, h2⟩ := singL_mem h
   exact ⟨j, c, by simp [h1], h2⟩
theorem singL_pair {r : RunT} (hF : RunF r) {u : RulesT} {m : Int} : ∀ {l : List Nat}, l.Pairwise (· < ·) → (singL r u m l).Pairwise brLt
 | [], _ => .nil
 | i :: l, h => by
  rw [List.pairwise_cons] at h
  simp only [singL]
  rw [List.pairwise_append]
  refine ⟨by unfold singI; split; exact oneB_pair; exact .nil, singL_pair hF h.2, fun a ha b hb => ?_⟩
  obtain ⟨j, c, h1, h2, rfl, _⟩ := singL_mem hb
  unfold singI at ha
  split at ha
  ·rename_i c0 hc0
   obtain ⟨rfl, _⟩ := oneB_mem ha
   have := hF.ids i j c0 c (h.1 j h1) hc0 h2
   exact .inr ⟨rfl, .inr ⟨rfl, this⟩⟩
  ·simp at ha
theorem minB_mem {r : RunT} {u : RulesT} {k : Nat} {b : Brc} (h : b ∈ minB r u k) : b.m = k ∧ ((b ∈ blindB r (k : Int) ∧ b.kind = 1) ∨ (b ∈ oneB (k : Int) 2 (-1) (areaS r u k) ∧ b.kind = 2) ∨ (b ∈ singB r u (k : Int) ∧ b.kind = 3) ∨ (b ∈ pressB r u (k : Int) ∧ b.kind = 4)) := by
 simp only [minB, List.mem_append] at h
 rcases h with ((h | h) | h) | h
 ·have h' := h
  unfold blindB at h; split at h
  ·simp at h; subst h; exact ⟨rfl, .inl ⟨h', rfl⟩⟩
  ·simp at h
 ·obtain ⟨rfl, _⟩ := oneB_mem h; exact ⟨rfl, .inr (.inl ⟨h, rfl⟩)⟩
 ·have h' := h
  unfold singB at h; split at h
  ·simp at h
  ·obtain ⟨i, c, _, _, rfl, _⟩ := singL_mem h; exact ⟨rfl, .inr (.inr (.inl ⟨h', rfl⟩))⟩
 ·have h' := h
  unfold pressB at h; split at h
  ·simp at h
  ·obtain ⟨rfl, _⟩ := oneB_mem h; exact ⟨rfl, .inr (.inr (.inr ⟨h', rfl⟩))⟩
theorem blindB_kind {r : RunT} {m : Int} {b : Brc} (h : b ∈ blindB r m) : b.m = m ∧ b.kind = 1 := by
 unfold blindB at h; split at h <;> simp at h; subst h; exact ⟨rfl, rfl⟩
theorem singB_kind {r : RunT} {u : RulesT} {m : Int} {b : Brc} (h : b ∈ singB r u m) : b.m = m ∧ b.kind = 3 := by
 unfold singB at h; split at h
 ·simp at h
 ·obtain ⟨i, c, _, _, rfl, _⟩ := singL_mem h; exact ⟨rfl, rfl⟩
theorem pressB_kind {r : RunT} {u : RulesT} {m : Int} {b : Brc} (h : b ∈ pressB r u m) : b.m = m ∧ b.kind = 4 := by
 unfold pressB at h; split at h
 ·simp at h
 ·obtain ⟨rfl, _⟩ := oneB_mem h; exact ⟨rfl, rfl⟩
theorem minB_pair {r : RunT} (hF : RunF r) {u : RulesT} {k : Nat} : (minB r u k).Pairwise brLt := by
 have h1 : (blindB r (k : Int)).Pairwise brLt := by unfold blindB; split <;> simp
 have h3 : (singB r u (k : Int)).Pairwise brLt := by unfold singB; split; exact .nil; exact singL_pair hF wk_sorted
 have h4 : (pressB r u (k : Int)).Pairwise brLt := by unfold pressB; split; exact .nil; exact oneB_pair
 simp only [minB]
 rw [List.pairwise_append, List.pairwise_append, List.pairwise_append]
 refine ⟨⟨⟨h1, oneB_pair, fun a ha b hb => ?_⟩, h3, fun a ha b hb => ?_⟩, h4, fun a ha b hb => ?_⟩
 ·obtain ⟨q1, q2⟩ := blindB_kind ha; obtain ⟨rfl, _⟩ := oneB_mem hb
  exact .inr ⟨q1, .inl (by rw [q2]; simp)⟩
 ·obtain ⟨q1, q2⟩ := singB_kind hb
  rcases List.mem_append.1 ha with ha | ha
  ·obtain ⟨p1, p2⟩ := blindB_kind ha; exact .inr ⟨by rw [p1, q1], .inl (by omega)⟩
  ·obtain ⟨rfl, _⟩ := oneB_mem ha; exact .inr ⟨by rw [q1], .inl (by simp only; omega)⟩
 ·obtain ⟨q1, q2⟩ := pressB_kind hb
  rcases List.mem_append.1 ha with ha | ha
  ·rcases List.mem_append.1 ha with ha | ha
   ·obtain ⟨p1, p2⟩ := blindB_kind ha; exact .inr ⟨by rw [p1, q1], .inl (by omega)⟩
   ·obtain ⟨rfl, _⟩ := oneB_mem ha; exact .inr ⟨by rw [q1], .inl (by simp only; omega)⟩
  ·obtain ⟨p1, p2⟩ := singB_kind ha; exact .inr ⟨by rw [p1, q1], .inl (by omega)⟩
theorem leftB_mem {r : RunT} {u : RulesT} : ∀ {k : Nat} {b : Brc}, b ∈ leftB r u k → ∃ j, 1 ≤ j ∧ j ≤ k ∧ b ∈ minB r u j
 | 0, b, h => by simp [leftB] at h
 | k + 1, b, h => by
  simp only [leftB, List.mem_append] at h
  rcases h with h | h
  ·obtain ⟨j, h1, h2, h3⟩ := leftB_mem h; exact ⟨j, h1, by omega, h3⟩
  ·exact ⟨k + 1, by omega, Nat.le_refl _, h⟩
theorem leftB_pair {r : RunT} (hF : RunF r) {u : RulesT} : ∀ {k : Nat}, (leftB r u k).Pairwise brLt
 | 0 => .nil
 | k + 1 => by
  simp only [leftB]
  rw [List.pairwise_append]
  refine ⟨leftB_pair hF, minB_pair hF, fun a ha b hb => ?_⟩
  obtain ⟨j, h1, h2, h3⟩ := leftB_mem ha
  obtain ⟨q1, _⟩ := minB_mem h3
  obtain ⟨q2, _⟩ := minB_mem hb
  exact .inl (by omega)
theorem leftS_kind {r : RunT} {u : RulesT} {b : Brc} (h : b ∈ leftS r u) : 0 ≤ b.kind ∧ b.kind ≤ 255 := by
 obtain ⟨j, _, _, h3⟩ := leftB_mem h
 obtain ⟨_, h4⟩ := minB_mem h3
 rcases h4 with h | h | h | h <;> omega
end Cp
namespace Cp
open Go
theorem PureC.weak {P : Program} {fid : FuncId} {args : List Val} {v v' : Val} (h : PureC P fid args v) (hn : noid v' = true) (hw : ∀ G w x, VR G w v x → VR G w v' x) : PureC P fid args v' :=
 ⟨h.1, h.2.1, hn, fun G w xs hR hv => Calls.mono (h.2.2.2 G w xs hR hv) (by rintro e w' ⟨x, I', h1, h2, h3, h4⟩; exact ⟨x, I', h1, h2, h3, hw _ _ _ h4⟩)⟩
theorem VR.tup_nils {G : Gh} {w : World} {n : Nat} {cs : List Val} {x : Value} (h : VR G w (.tup (.nils :: cs)) x) : VR G w (.tup (.lst n [] :: cs)) x := by
 cases h with
 | tup _ xs hs hv =>
  refine .tup _ xs (by simpa using hs) (fun i v hi => ?_)
  cases i with
  | zero => cases hi; exact (hv 0 .nils rfl).nils_lst _
  | succ i => exact hv (i + 1) v hi
def p2 (b : Brc) : Bool := !decide (b.known = 2)
theorem sorted_m {l : List Brc} (hs : l.Pairwise brLt) {i j : Nat} {a b : Brc} (hij : i ≤ j) (ha : l[i]? = some a) (hb : l[j]? = some b) : a.m ≤ b.m := by
 rcases Nat.eq_or_lt_of_le hij with rfl | hlt
 ·rw [ha] at hb; cases hb; exact Int.le_refl _
 ·obtain ⟨h1, rfl⟩ := List.getElem?_eq_some_iff.1 ha
  obtain ⟨h2, rfl⟩ := List.getElem?_eq_some_iff.1 hb
  have := (List.pairwise_iff_getElem.1 hs) i j h1 h2 hlt
  unfold brLt at this
  omega
end Cp
namespace Cp
open Go Go.Proofs
set_option maxRecDepth 10000
set_option maxHeartbeats 4000000
theorem not_same {l : List Brc} (hs : l.Pairwise brLt) {k : Nat} {b : Brc} (hb : l[k]? = some b) : ∀ x ∈ l.take k, ¬ sameL b x := fun x hx h => by
 obtain ⟨j, hj⟩ := List.getElem?_of_mem hx
 obtain ⟨hjl, hje⟩ := List.getElem?_eq_some_iff.1 hj
 simp only [List.length_take] at hjl
 have hx2 : l[j]? = some x := by rw [← hj, List.getElem?_take, if_pos (by omega)]
 obtain ⟨p1, rfl⟩ := List.getElem?_eq_some_iff.1 hx2
 obtain ⟨p2, rfl⟩ := List.getElem?_eq_some_iff.1 hb
 have := (List.pairwise_iff_getElem.1 hs) j k p1 p2 (by omega)
 unfold brLt at this; unfold sameL at h; omega
end Cp
namespace Cp
open Go
def FirstAt (l : List Brc) (t : Int) (j : Nat) (x : Int) : Prop := (x = 0 ∧ ∀ i b, i < j → l[i]? = some b → ¬ b.m ≤ t) ∨ (1 ≤ j ∧ ∃ b, l[0]? = some b ∧ b.m ≤ t ∧ x = b.m ∧ 1 ≤ b.m)
def SureAt (l : List Brc) (t : Int) (j : Nat) (x : Int) : Prop := (x = 0 ∧ ∀ i b, i < j → l[i]? = some b → b.m ≤ t → ¬ b.known = 2) ∨ (∃ i b, i < j ∧ l[i]? = some b ∧ b.m ≤ t ∧ b.known = 2 ∧ x = b.m ∧ 1 ≤ b.m ∧ ∀ k c, k < i → l[k]? = some c → ¬ c.known = 2)
variable {l : List Brc} {t x : Int} {j : Nat} {b : Brc}
theorem FirstAt.over (h : FirstAt l t j x) (hb : l[j]? = some b) (hm : ¬ b.m ≤ t) : FirstAt l t (j + 1) x := by
 rcases h with ⟨rfl, h⟩ | ⟨h1, c, h2⟩
 ·refine .inl ⟨rfl, fun i c hi hc => ?_⟩
  by_cases hij : i = j
  ·subst hij; rw [hb] at hc; cases hc; exact hm
  ·exact h i c (by omega) hc
 ·exact .inr ⟨by omega, c, h2⟩
theorem FirstAt.new (hs : l.Pairwise brLt) (h : FirstAt l t j 0) (hb : l[j]? = some b) (hm : b.m ≤ t) (h1 : 1 ≤ b.m) : FirstAt l t (j + 1) b.m := by
 rcases h with ⟨_, h⟩ | ⟨_, c, _, _, hc, h1⟩
 ·cases j with
  | zero => exact .inr ⟨by omega, b, hb, hm, rfl, h1⟩
  | succ j =>
   exfalso
   obtain ⟨a, ha⟩ : ∃ a, l[0]? = some a := ⟨_, List.getElem?_eq_getElem (by have := (List.getElem?_eq_some_iff.1 hb).1; omega)⟩
   have h0 := h 0 a (by omega) ha
   have := sorted_m hs (Nat.zero_le _) ha hb
   omega
 ·omega
theorem FirstAt.old (h : FirstAt l t j x) (hx : ¬ x = 0) : FirstAt l t (j + 1) x := by
 rcases h with ⟨rfl, _⟩ | ⟨h1, c, h2⟩
 ·exact absurd rfl hx
 ·exact .inr ⟨by omega, c, h2⟩
theorem SureAt.over (h : SureAt l t j x) (hb : l[j]? = some b) (hm : b.m ≤ t → ¬ b.known = 2) : SureAt l t (j + 1) x := by
 rcases h with ⟨rfl, h⟩ | ⟨i, c, h1, h2⟩
 ·refine .inl ⟨rfl, fun i c hi hc => ?_⟩
  by_cases hij : i = j
  ·subst hij; rw [hb] at hc; cases hc; exact hm
  ·exact h i c (by omega) hc
 ·exact .inr ⟨i, c, by omega, h2⟩
theorem SureAt.new (hs : l.Pairwise brLt) (h : SureAt l t j 0) (hb : l[j]? = some b) (hm : b.m ≤ t) (h1 : 1 ≤ b.m) (hk : b.known = 2) : SureAt l t (j + 1) b.m := by
 rcases h with ⟨_, h⟩ | ⟨i, c, _, _, _, _, hc, h1, _⟩
 ·exact .inr ⟨j, b, by omega, hb, hm, hk, rfl, h1, fun k c hkj hc => h k c hkj hc (by have := sorted_m hs (Nat.le_of_lt hkj) hc hb; omega)⟩
 ·omega
theorem SureAt.old (h : SureAt l t j x) (hx : ¬ x = 0) : SureAt l t (j + 1) x := by
 rcases h with ⟨rfl, _⟩ | ⟨i, c, h1, h2⟩
 ·exact absurd rfl hx
 ·exact .inr ⟨i, c, by omega, h2⟩
end Cp
namespace Cp
open Go
section
variable {r : RunT} {u : RulesT} {n : Nat}
end
end Cp
namespace Cp
end Cp
namespace Cp
open Go
structure LooserSt (s s' : StepT) : Prop where
 frm : s'.frm = s.frm
 part : s.part ≤ s'.part ∧ s'.part ≤ 1000
def LooserL : List StepT → List StepT → Prop
 | [], [] => True
 | s :: l, s' :: l' => LooserSt s s' ∧ LooserL l l'
 | _, _ => False
structure Looser (u u' : RulesT) : Prop where
 steps : LooserL u.steps u'.steps
 single : u.single ≤ u'.single ∧ u'.single ≤ 2000
 sfrom : u.sfrom ≤ u'.sfrom ∧ u'.sfrom ≤ 600
 press : -100 ≤ u'.press.lo ∧ u'.press.lo ≤ u.press.lo ∧ u'.press.hi = u.press.hi
 pfrom : u.pfrom ≤ u'.pfrom ∧ u'.pfrom ≤ 600
def Under (l l' : List Brc) : Prop := ∀ b ∈ l', ∃ a ∈ l, sameL b a ∧ b.known ≤ a.known
theorem Under.app {a b a' b' : List Brc} (h1 : Under a a') (h2 : Under b b') : Under (a ++ b) (a' ++ b') := fun x hx => by
 rcases List.mem_append.1 hx with hx | hx
 ·obtain ⟨y, h3, h4⟩ := h1 x hx; exact ⟨y, List.mem_append_left _ h3, h4⟩
 ·obtain ⟨y, h3, h4⟩ := h2 x hx; exact ⟨y, List.mem_append_right _ h3, h4⟩
theorem Under.nil {l : List Brc} : Under l [] := fun b hb => by simp at hb
theorem cumC_pos {r : RunT} (hdeg : ∀ m : Int, 0 ≤ m → m ≤ lastM r.curve → 0 ≤ degAt r.curve m ∧ degAt r.curve m ≤ 2000) : ∀ (k : Nat), (k : Int) ≤ lastM r.curve → 0 ≤ cumC r k
 | 0, _ => by simp [cumC]
 | k + 1, hk => by
  have ih := cumC_pos hdeg k (by omega)
  have := hdeg ((k + 1 : Nat) : Int) (by omega) hk
  simp only [cumC]; split <;> omega
theorem oneB_known {r : RunT} {u : RulesT} {b : Brc} (h : b ∈ leftS r u) : 1 ≤ b.known ∧ b.known ≤ 2 := by
 obtain ⟨k, _, _, h⟩ := leftB_mem h
 have hO : ∀ {n m q c : Int}, 0 ≤ n ∧ n ≤ 2 → b ∈ oneB m q c n → 1 ≤ b.known ∧ b.known ≤ 2 := fun hb h => by
  obtain ⟨rfl, hn⟩ := oneB_mem h
  simp only; omega
 simp only [minB, List.mem_append] at h
 rcases h with ((h | h) | h) | h
 ·unfold blindB at h; split at h <;> simp at h; subst h; simp
 ·unfold areaS at h
  split at h
  ·simp [oneB] at h
  ·exact hO outK_bnd h
 ·unfold singB at h; split at h
  ·simp at h
  ·obtain ⟨i, c, _, _, rfl, hn⟩ := singL_mem h
   have : 0 ≤ singS r u c i (k : Int) ∧ singS r u c i (k : Int) ≤ 2 := outK_bnd
   simp only; omega
 ·unfold pressB at h; split at h
  ·simp at h
  ·exact hO outK_bnd h
end Cp
namespace Cp
end Cp
namespace Cp
open Go
structure WiderC (c c' : Cpl) : Prop where
 id : c'.id = c.id
 brk : c'.brk = c.brk
 err : -50 ≤ c'.err.lo ∧ c'.err.lo ≤ c.err.lo ∧ c.err.hi ≤ c'.err.hi ∧ c'.err.hi ≤ 50
 lag : 0 ≤ c'.lag.lo ∧ c'.lag.lo ≤ c.lag.lo ∧ c.lag.hi ≤ c'.lag.hi ∧ c'.lag.hi ≤ 3
def WiderL : List Cpl → List Cpl → Prop
 | [], [] => True
 | c :: l, c' :: l' => WiderC c c' ∧ WiderL l l'
 | _, _ => False
structure Wider (r r' : RunT) : Prop where
 id : r'.id = r.id
 curve : r'.curve = r.curve
 cpls : WiderL r.cpls r'.cpls
 rows : r'.rows = r.rows
 gauge : r'.gauge.lo = r.gauge.lo ∧ r.gauge.hi ≤ r'.gauge.hi ∧ r'.gauge.hi ≤ 20
section
variable {r r' : RunT} {u : RulesT}
def CovL (l l' : List Brc) : Prop := (∀ a ∈ l, ∃ b ∈ l', sameL a b) ∧ ∀ b ∈ l', b.known = 2 → ∃ a ∈ l, sameL b a ∧ a.known = 2
theorem CovL.nil : CovL [] [] := ⟨fun a h => by simp at h, fun a h => by simp at h⟩
theorem CovL.app {a b a' b' : List Brc} (h1 : CovL a a') (h2 : CovL b b') : CovL (a ++ b) (a' ++ b') := by
 refine ⟨fun x hx => ?_, fun x hx hk => ?_⟩
 ·rcases List.mem_append.1 hx with hx | hx
  ·obtain ⟨y, h3, h4⟩ := h1.1 x hx; exact ⟨y, List.mem_append_left _ h3, h4⟩
  ·obtain ⟨y, h3, h4⟩ := h2.1 x hx; exact ⟨y, List.mem_append_right _ h3, h4⟩
 ·rcases List.mem_append.1 hx with hx | hx
  ·obtain ⟨y, h3, h4⟩ := h1.2 x hx hk; exact ⟨y, List.mem_append_left _ h3, h4⟩
  ·obtain ⟨y, h3, h4⟩ := h2.2 x hx hk; exact ⟨y, List.mem_append_right _ h3, h4⟩
end
end Cp
namespace Cp
open Go
def atP (s : Span) (p : Int) : Int := s.lo * 1000 + (s.hi - s.lo) * p
theorem atP_bnd {s : Span} {p : Int} (hs : s.lo ≤ s.hi) (hp : 0 ≤ p ∧ p ≤ 1000) : s.lo * 1000 ≤ atP s p ∧ atP s p ≤ s.hi * 1000 := by
 have h1 : 0 ≤ (s.hi - s.lo) * p := Int.mul_nonneg (by omega) hp.1
 have h2 : (s.hi - s.lo) * p ≤ (s.hi - s.lo) * 1000 := Int.mul_le_mul_of_nonneg_left hp.2 (by omega)
 unfold atP; omega
theorem atP_0 {s : Span} : atP s 0 = s.lo * 1000 := by simp [atP]
theorem atP_1 {s : Span} : atP s 1000 = s.hi * 1000 := by unfold atP; omega
def brkO (t : Int) (o : Span) : Bool := decide (t < o.lo * 1000 ∨ o.hi * 1000 < t)
theorem brkO_out {s o : Span} {t : Int} (h1 : s.lo * 1000 ≤ t) (h2 : t ≤ s.hi * 1000) : (brkO t o = true → outK s o ≠ 0) ∧ (outK s o = 2 → brkO t o = true) := by
 unfold brkO outK
 refine ⟨fun h => ?_, fun h => ?_⟩
 ·have := of_decide_eq_true h
  split <;> (try split) <;> omega
 ·refine decide_eq_true ?_
  split at h <;> (try split at h) <;> omega
theorem brkO_ends {s o : Span} (hs : s.lo ≤ s.hi) : (outK s o ≠ 0 → brkO (s.lo * 1000) o = true ∨ brkO (s.hi * 1000) o = true) := by
 unfold brkO outK
 intro h
 simp only [decide_eq_true_eq]
 split at h <;> (try split at h) <;> omega
section
variable (r : RunT) (u : RulesT) (p : Int → Int → Int)
def brkS (m : Int) (c : Cpl) (i : Nat) : Bool := brkO (atP (truth r c i m) (p m i)) ⟨degAt r.curve m - u.single, degAt r.curve m + u.single⟩
def brkI (m : Int) (i : Nat) : List Brc := match r.cpls[i]? with | some c => if brkS r u p m c i = true then [⟨m, 3, c.id, 0⟩] else [] | none => []
def brkL (m : Int) : List Nat → List Brc
 | [] => []
 | i :: l => brkI r u p m i ++ brkL m l
def allP (m : Int) : List Nat → Int
 | [] => 0
 | i :: l => (match r.cpls[i]? with | some c => atP (truth r c i m) (p m i) | none => 0) + allP m l
def cumP : Nat → Int
 | 0 => 0
 | k + 1 => cumP k + if wk r ((k + 1 : Nat) : Int) = [] then 0 else allP r p ((k + 1 : Nat) : Int) (wk r ((k + 1 : Nat) : Int)) * (840 / ((wk r ((k + 1 : Nat) : Int)).length : Int))
def offP (k : Nat) : Int := cumP r p k - cumC r k * 840 * 1000
def brkA (k : Nat) : Bool := decide (0 ≤ partS u (k : Int)) && decide (cumC r k * 840 * partS u (k : Int) < offP r p k ∨ offP r p k < -(cumC r k * 840) * partS u (k : Int))
def brkP (m : Int) : Bool := brkO (atP ⟨pressAt r m - r.gauge.hi, pressAt r m - r.gauge.lo⟩ (p m (-1))) u.press
def brkMs (m : Int) : List Brc := if m < u.sfrom then [] else brkL r u p m (wk r m)
def brkMb (m : Int) : List Brc := if wk r m = [] then [⟨m, 1, -1, 0⟩] else []
def brkMa (k : Nat) : List Brc := if brkA r u p k = true then [⟨(k : Int), 2, -1, 0⟩] else []
def brkMp (m : Int) : List Brc := if m < u.pfrom then [] else if brkP r u p m = true then [⟨m, 4, -1, 0⟩] else []
def brkM (k : Nat) : List Brc := brkMs r u p (k : Int) ++ brkMb r (k : Int) ++ brkMa r u p k ++ brkMp r u p (k : Int)
def brkB : Nat → List Brc
 | 0 => []
 | k + 1 => brkB k ++ brkM r u p (k + 1)
end
section
variable {r : RunT} {u : RulesT} {p : Int → Int → Int}
theorem brkL_app {m : Int} : ∀ {a b : List Nat}, brkL r u p m (a ++ b) = brkL r u p m a ++ brkL r u p m b
 | [], b => rfl
 | i :: a, b => by simp only [List.cons_append, brkL, brkL_app (a := a), List.append_assoc]
theorem allP_app {m : Int} : ∀ {a b : List Nat}, allP r p m (a ++ b) = allP r p m a + allP r p m b
 | [], b => by simp [allP]
 | i :: a, b => by simp only [List.cons_append, allP, allP_app (a := a)]; omega
theorem brkL_mem {m : Int} : ∀ {l : List Nat} {b : Brc}, b ∈ brkL r u p m l → ∃ i c, i ∈ l ∧ r.cpls[i]? = some c ∧ brkS r u p m c i = true ∧ b = ⟨m, 3, c.id, 0⟩
 | [], b, h => by simp [brkL] at h
 | i :: l, b, h => by
  simp only [brkL, List.mem_append] at h
  rcases h with h | h
  ·unfold brkI at h
   split at h
   ·rename_i c hc
    split at h
    ·rename_i hb; simp at h; exact ⟨i, c, by simp, hc, hb, h⟩
    ·simp at h
   ·simp at h
  ·obtain ⟨j, c, h1, h2⟩ := brkL_mem h
   exact ⟨j, c, by simp [h1], h2⟩
theorem brkM_mem {k : Nat} {b : Brc} (h : b ∈ brkM r u p k) : b.m = k := by
 simp only [brkM, List.mem_append] at h
 rcases h with ((h | h) | h) | h
 ·unfold brkMs at h; split at h
  ·simp at h
  ·obtain ⟨i, c, _, _, _, rfl⟩ := brkL_mem h; rfl
 ·unfold brkMb at h; split at h <;> simp at h; subst h; rfl
 ·unfold brkMa at h; split at h <;> simp at h; subst h; rfl
 ·unfold brkMp at h; split at h
  ·simp at h
  ·split at h <;> simp at h; subst h; rfl
theorem brkB_le : ∀ {k : Nat} {b : Brc}, b ∈ brkB r u p k → 1 ≤ b.m ∧ b.m ≤ k
 | 0, b, h => by simp [brkB] at h
 | k + 1, b, h => by
  simp only [brkB, List.mem_append] at h
  rcases h with h | h
  ·have := brkB_le h; omega
  ·have := brkM_mem h; omega
theorem allP_bnd (hF : RunF r) (hp : ∀ m i, 0 ≤ p m i ∧ p m i ≤ 1000) {m : Int} (hm : 1 ≤ m) (hm2 : m ≤ r.rows.length) : ∀ (l : List Nat), (∀ i ∈ l, i ∈ wk r m) → sumLo r m l * 1000 ≤ allP r p m l ∧ allP r p m l ≤ sumHi r m l * 1000
 | [], _ => by simp [sumLo, sumHi, allP]
 | i :: l, h => by
  have ih := allP_bnd hF hp hm hm2 l fun j hj => h j (by simp [hj])
  obtain ⟨c, h1, h2⟩ := wk_mem.1 (h i (by simp))
  have htb := truth_bounds hF h1 hm hm2 h2
  have := atP_bnd (s := truth r c i m) (p := p m i) (by omega) (hp m i)
  simp only [sumLo, sumHi, allP, h1]
  omega
theorem cumP_bnd (hF : RunF r) (hp : ∀ m i, 0 ≤ p m i ∧ p m i ≤ 1000) : ∀ (k : Nat), k ≤ r.rows.length → cumLo r k * 1000 ≤ cumP r p k ∧ cumP r p k ≤ cumHi r k * 1000
 | 0, _ => by simp [cumLo, cumHi, cumP]
 | k + 1, hk => by
  have ih := cumP_bnd hF hp k (by omega)
  have hb := allP_bnd hF hp (m := ((k + 1 : Nat) : Int)) (by omega) (by omega) (wk r ((k + 1 : Nat) : Int)) fun _ h => h
  have hl := @wk_len r ((k + 1 : Nat) : Int)
  have hcl := hF.cpls
  simp only [cumLo, cumHi, cumP]
  by_cases hne : wk r ((k + 1 : Nat) : Int) = []
  ·simp only [hne, if_true]; omega
  ·have h0 : 0 < (wk r ((k + 1 : Nat) : Int)).length := List.length_pos_iff.2 hne
   simp only [hne, if_false, meanS]
   obtain hq | hq | hq | hq | hq | hq | hq | hq : (wk r ((k + 1 : Nat) : Int)).length = 1 ∨ (wk r ((k + 1 : Nat) : Int)).length = 2 ∨ (wk r ((k + 1 : Nat) : Int)).length = 3 ∨ (wk r ((k + 1 : Nat) : Int)).length = 4 ∨ (wk r ((k + 1 : Nat) : Int)).length = 5 ∨ (wk r ((k + 1 : Nat) : Int)).length = 6 ∨ (wk r ((k + 1 : Nat) : Int)).length = 7 ∨ (wk r ((k + 1 : Nat) : Int)).length = 8 := by omega
   all_goals rw [hq]; omega
def Tells (l bs : List Brc) : Prop := (∀ b ∈ bs, ∃ a ∈ l, sameL b a) ∧ ∀ a ∈ l, a.known = 2 → ∃ b ∈ bs, sameL a b
theorem Tells.nil : Tells [] [] := ⟨fun a h => by simp at h, fun a h => by simp at h⟩
theorem Tells.app {a b a' b' : List Brc} (h1 : Tells a a') (h2 : Tells b b') : Tells (a ++ b) (a' ++ b') := by
 refine ⟨fun x hx => ?_, fun x hx hk => ?_⟩
 ·rcases List.mem_append.1 hx with hx | hx
  ·obtain ⟨y, h3, h4⟩ := h1.1 x hx; exact ⟨y, List.mem_append_left _ h3, h4⟩
  ·obtain ⟨y, h3, h4⟩ := h2.1 x hx; exact ⟨y, List.mem_append_right _ h3, h4⟩
 ·rcases List.mem_append.1 hx with hx | hx
  ·obtain ⟨y, h3, h4⟩ := h1.2 x hx hk; exact ⟨y, List.mem_append_left _ h3, h4⟩
  ·obtain ⟨y, h3, h4⟩ := h2.2 x hx hk; exact ⟨y, List.mem_append_right _ h3, h4⟩
theorem tells_one {m q c n k : Int} {x : Bool} (h : (x = true → n ≠ 0) ∧ (n = 2 → x = true)) : Tells (oneB m q c n) (if x = true then [⟨m, q, c, k⟩] else []) := by
 refine ⟨fun b hb => ?_, fun a ha hk => ?_⟩
 ·split at hb
  ·rename_i hx
   simp at hb; subst hb
   exact ⟨⟨m, q, c, n⟩, by unfold oneB; rw [if_neg (h.1 hx)]; simp, rfl, rfl, rfl⟩
  ·simp at hb
 ·obtain ⟨rfl, hn⟩ := oneB_mem ha
  rw [if_pos (h.2 hk)]
  exact ⟨⟨m, q, c, k⟩, by simp, rfl, rfl, rfl⟩
theorem tells_singL (hF : RunF r) (hp : ∀ m i, 0 ≤ p m i ∧ p m i ≤ 1000) {m : Int} (hm : 1 ≤ m) (hm2 : m ≤ r.rows.length) : ∀ (l : List Nat), (∀ i ∈ l, i ∈ wk r m) → Tells (singL r u m l) (brkL r u p m l)
 | [], _ => Tells.nil
 | i :: l, h => by
  simp only [singL, brkL]
  refine Tells.app ?_ (tells_singL hF hp hm hm2 l fun j hj => h j (by simp [hj]))
  obtain ⟨c, hc, hw⟩ := wk_mem.1 (h i (by simp))
  have htb := truth_bounds hF hc hm hm2 hw
  have hb := atP_bnd (s := truth r c i m) (p := p m i) (by omega) (hp m i)
  unfold singI brkI
  rw [hc]
  exact tells_one (brkO_out hb.1 hb.2)
theorem tells_min (hF : RunF r) (hp : ∀ m i, 0 ≤ p m i ∧ p m i ≤ 1000) {k : Nat} (hk : 1 ≤ k) (hk2 : k ≤ r.rows.length) : ∀ x, (x ∈ brkM r u p k → ∃ a ∈ minB r u k, sameL x a) ∧ (x ∈ minB r u k → x.known = 2 → ∃ b ∈ brkM r u p k, sameL x b) := by
 have hcb := cumP_bnd hF hp k hk2
 have hg := hF.gauge
 have hA : Tells (oneB (k : Int) 2 (-1) (areaS r u k)) (brkMa r u p k) := by
  refine tells_one ?_
  unfold areaS brkA
  by_cases hn : partS u (k : Int) < 0
  ·rw [if_pos hn, decide_eq_false (by omega : ¬ 0 ≤ partS u (k : Int))]
   exact ⟨fun h => by simp at h, fun h => by omega⟩
  ·rw [if_neg hn, decide_eq_true (by omega : 0 ≤ partS u (k : Int)), Bool.true_and]
   have hneg : -(cumC r k * 840) * partS u (k : Int) = -(cumC r k * 840 * partS u (k : Int)) := Int.neg_mul ..
   rw [hneg]
   unfold offP outK
   refine ⟨fun h => ?_, fun h => decide_eq_true ?_⟩
   ·have := of_decide_eq_true h
    simp only
    split <;> (try split) <;> omega
   ·simp only at h
    split at h <;> (try split at h) <;> omega
 have hS : Tells (singB r u (k : Int)) (brkMs r u p (k : Int)) := by
  unfold singB brkMs
  split
  ·exact Tells.nil
  ·exact tells_singL hF hp (by omega) (by omega) _ fun i h => h
 have hB : Tells (blindB r (k : Int)) (brkMb r (k : Int)) := by
  unfold blindB brkMb
  split
  ·exact ⟨fun b hb => by simp at hb; subst hb; exact ⟨_, List.mem_singleton.2 rfl, rfl, rfl, rfl⟩, fun b hb _ => by simp at hb; subst hb; exact ⟨_, List.mem_singleton.2 rfl, rfl, rfl, rfl⟩⟩
  ·exact Tells.nil
 have hP : Tells (pressB r u (k : Int)) (brkMp r u p (k : Int)) := by
  unfold pressB brkMp
  split
  ·exact Tells.nil
  ·refine tells_one ?_
   have hb := atP_bnd (s := ⟨pressAt r (k : Int) - r.gauge.hi, pressAt r (k : Int) - r.gauge.lo⟩) (p := p (k : Int) (-1)) (by simp only; omega) (hp _ _)
   exact brkO_out hb.1 hb.2
 intro x
 simp only [minB, brkM, List.mem_append]
 refine ⟨fun h => ?_, fun h hk => ?_⟩
 ·rcases h with ((h | h) | h) | h
  ·obtain ⟨a, h1, h2⟩ := hS.1 x h; exact ⟨a, .inl (.inr h1), h2⟩
  ·obtain ⟨a, h1, h2⟩ := hB.1 x h; exact ⟨a, .inl (.inl (.inl h1)), h2⟩
  ·obtain ⟨a, h1, h2⟩ := hA.1 x h; exact ⟨a, .inl (.inl (.inr h1)), h2⟩
  ·obtain ⟨a, h1, h2⟩ := hP.1 x h; exact ⟨a, .inr h1, h2⟩
 ·rcases h with ((h | h) | h) | h
  ·obtain ⟨a, h1, h2⟩ := hB.2 x h hk; exact ⟨a, .inl (.inl (.inr h1)), h2⟩
  ·obtain ⟨a, h1, h2⟩ := hA.2 x h hk; exact ⟨a, .inl (.inr h1), h2⟩
  ·obtain ⟨a, h1, h2⟩ := hS.2 x h hk; exact ⟨a, .inl (.inl (.inl h1)), h2⟩
  ·obtain ⟨a, h1, h2⟩ := hP.2 x h hk; exact ⟨a, .inr h1, h2⟩
theorem tells_left (hF : RunF r) (hp : ∀ m i, 0 ≤ p m i ∧ p m i ≤ 1000) : ∀ (k : Nat), k ≤ r.rows.length → Tells (leftB r u k) (brkB r u p k)
 | 0, _ => Tells.nil
 | k + 1, hk => by
  simp only [leftB, brkB]
  have h := tells_min (u := u) hF hp (k := k + 1) (by omega) hk
  exact Tells.app (tells_left hF hp k (by omega)) ⟨fun b hb => (h b).1 hb, fun a ha hk => (h a).2 ha hk⟩
end
end Cp
namespace Cp
theorem allP_snoc {r : RunT} {p : Int → Int → Int} {m : Int} {l : List Nat} {i : Nat} {c : Cpl} (hc : r.cpls[i]? = some c) : allP r p m (l ++ [i]) = allP r p m l + atP (truth r c i m) (p m i) := by
 rw [allP_app]; simp [allP, hc]
theorem brkL_snoc {r : RunT} {u : RulesT} {p : Int → Int → Int} {m : Int} {l : List Nat} {i : Nat} {c : Cpl} (hc : r.cpls[i]? = some c) : brkL r u p m (l ++ [i]) = brkL r u p m l ++ (if brkS r u p m c i = true then [⟨m, 3, c.id, 0⟩] else []) := by
 rw [brkL_app]; simp [brkL, brkI, hc]
end Cp
namespace Cp
theorem steps_cut {m : Int} : ∀ {l : List StepT} {last : Int} {i : Nat} {s : StepT}, stepsFrom last l = true → l[i]? = some s → (s.frm ≤ m ↔ i < (l.takeWhile fun s => decide (s.frm ≤ m)).length)
 | [], _, i, s, _, h => by simp at h
 | a :: l, last, i, s, hs, h => by
  have hgt := steps_gt (a :: l) last hs
  simp only [stepsFrom, stepOK, Bool.and_eq_true, decide_eq_true_eq] at hs
  rw [List.takeWhile_cons]
  cases i with
  | zero =>
   simp at h; subst h
   by_cases ha : a.frm ≤ m <;> simp [ha]
  | succ i =>
   have h' : l[i]? = some s := by simpa using h
   have h2 := steps_gt l a.frm hs.2 s (List.mem_of_getElem? h')
   have ih := steps_cut (m := m) hs.2 h'
   by_cases ha : a.frm ≤ m
   ·simp only [ha, decide_true, if_true, List.length_cons]; omega
   ·simp only [ha, decide_false, Bool.false_eq_true, if_false, List.length_nil]; omega
end Cp
