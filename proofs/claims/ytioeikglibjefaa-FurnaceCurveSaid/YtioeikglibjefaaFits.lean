/- What is read out of memory is as the encodings say. Conditions: none. -/
import Derived.Test.YtioeikglibjefaaTRows
import Derived.Test.YtioeikglibjefaaS5
import Derived.Test.YtioeikglibjefaaFwC
set_option linter.unusedVariables false
set_option linter.unusedSimpArgs false
/-! What is read out of memory is as these encodings say. -/
namespace Cp
open Go

theorem fit_map {α : Type} {c : α → List Val} : ∀ {xss : List (List Val)}, (∀ es ∈ xss, ∃ x, es = c x) → ∃ l : List α, xss = l.map c
  | [], _ => ⟨[], rfl⟩
  | es :: xss, h => by
    obtain ⟨x, rfl⟩ := h es (by simp)
    obtain ⟨l, rfl⟩ := fit_map fun es he => h es (List.mem_cons_of_mem _ he)
    exact ⟨x :: l, rfl⟩
theorem fit_slice {T : Tab} {n : Nat} {t e sz : Nat} {vs : List Val} {b b2 s1 : Nat} {z z2 : Val} {p p2 : Bool} {k2 : TK} {α : Type} {c : α → List Val} (ht : T t = some { kind := .slice e, sz := s1, bytes := b, zero := z, plain := p })
    (he : T e = some { kind := k2, sz := sz, bytes := b2, zero := z2, plain := p2 }) (h : Fit T (n + 1) t vs) (hc : ∀ es, Fit T n e es → ∃ x, es = c x) : ∃ l : List α, vs = [.lst sz (l.map c)] := by
  simp only [Fit, ht] at h
  obtain ⟨sz', xss, rfl, hs, _, hx⟩ := h
  rw [he] at hs
  cases hs
  obtain ⟨l, rfl⟩ := fit_map (c := c) fun es hes => hc es (hx es hes).2
  exact ⟨l, rfl⟩
theorem fit_struct {T : Tab} {n : Nat} {t sz : Nat} {vs : List Val} {b : Nat} {z : Val} {p : Bool} {fs : List (Nat × Nat)} (ht : T t = some { kind := .struct fs, sz := sz, bytes := b, zero := z, plain := p }) (h : Fit T (n + 1) t vs) :
    vs.length = sz ∧ ∀ q ∈ fs, ∃ fi, T q.2 = some fi ∧ Fit T n q.2 ((vs.drop q.1).take fi.sz) := by
  simp only [Fit, ht] at h
  exact h
theorem fit_int {T : Tab} {n : Nat} {t : Nat} {vs : List Val} {s b : Nat} {z : Val} {p : Bool} {k : IntKind} (ht : T t = some { kind := .int k, sz := s, bytes := b, zero := z, plain := p }) (h : Fit T (n + 1) t vs) : ∃ m, vs = [.int k m] ∧ (Lit.int k m).wf = true := by
  simp only [Fit, ht] at h
  exact h
theorem fit3 {n : Nat} {vs : List Val} (h : Fit tab (n + 1) 3 vs) : ∃ m, vs = [.int .i64 m] := by
  obtain ⟨m, h, _⟩ := fit_int tab_3 h; exact ⟨m, h⟩
theorem fit_ints {n : Nat} {vs : List Val} {t b s1 : Nat} {z : Val} {p : Bool} (ht : tab t = some { kind := .slice 3, sz := s1, bytes := b, zero := z, plain := p }) (h : Fit tab (n + 2) t vs) : ∃ l : List Int, vs = [.lst 1 (ints l)] := by
  obtain ⟨l, rfl⟩ := fit_slice (c := fun m : Int => [Val.int .i64 m]) ht tab_3 h fun es he => fit3 he
  exact ⟨l, rfl⟩
/-- Two numbers. -/
theorem fit_two {n : Nat} {vs : List Val} {t b : Nat} {z : Val} {p : Bool} (ht : tab t = some { kind := .struct [(0, 3), (1, 3)], sz := 2, bytes := b, zero := z, plain := p }) (h : Fit tab (n + 2) t vs) : ∃ x y : Int, vs = [.int .i64 x, .int .i64 y] := by
  obtain ⟨hl, hq⟩ := fit_struct ht h
  match vs, hl with
  | [a, b], _ =>
    obtain ⟨fi, e, h0⟩ := hq (0, 3) (by simp)
    rw [tab_3] at e; cases e
    obtain ⟨fi, e, h1⟩ := hq (1, 3) (by simp)
    rw [tab_3] at e; cases e
    obtain ⟨x, hx⟩ := fit3 h0
    obtain ⟨y, hy⟩ := fit3 h1
    simp at hx hy
    exact ⟨x, y, by rw [hx, hy]⟩
theorem fit_span {n : Nat} {vs : List Val} (h : Fit tab (n + 2) 26 vs) : ∃ s : Span, vs = [.int .i64 s.lo, .int .i64 s.hi] := by
  obtain ⟨x, y, h⟩ := fit_two tab_26 h; exact ⟨⟨x, y⟩, h⟩
theorem fit_pt {n : Nat} {vs : List Val} (h : Fit tab (n + 2) 93 vs) : ∃ x : Pt, vs = cPt x := by
  obtain ⟨x, y, h⟩ := fit_two tab_93 h; exact ⟨⟨x, y⟩, h⟩
theorem fit_step {n : Nat} {vs : List Val} (h : Fit tab (n + 2) 85 vs) : ∃ x : StepT, vs = cStep x := by
  obtain ⟨x, y, h⟩ := fit_two tab_85 h; exact ⟨⟨x, y⟩, h⟩
theorem fit_cpl {n : Nat} {vs : List Val} (h : Fit tab (n + 3) 76 vs) : ∃ x : Cpl, vs = cCpl x := by
  obtain ⟨hl, hq⟩ := fit_struct tab_76 h
  match vs, hl with
  | [a, b, c, d, e, f], _ =>
    obtain ⟨fi, e0, h0⟩ := hq (0, 3) (by simp)
    rw [tab_3] at e0; cases e0
    obtain ⟨fi, e1, h1⟩ := hq (1, 26) (by simp)
    rw [tab_26] at e1; cases e1
    obtain ⟨fi, e2, h2⟩ := hq (3, 26) (by simp)
    rw [tab_26] at e2; cases e2
    obtain ⟨fi, e3, h3⟩ := hq (5, 3) (by simp)
    rw [tab_3] at e3; cases e3
    obtain ⟨x0, h0⟩ := fit3 h0
    obtain ⟨x1, h1⟩ := fit_span h1
    obtain ⟨x2, h2⟩ := fit_span h2
    obtain ⟨x3, h3⟩ := fit3 h3
    simp at h0 h1 h2 h3
    obtain ⟨h1, h1'⟩ := h1
    obtain ⟨h2, h2'⟩ := h2
    exact ⟨⟨x0, x1, x2, x3⟩, by rw [h0, h1, h1', h2, h2', h3]; rfl⟩
theorem fit_row {n : Nat} {vs : List Val} (h : Fit tab (n + 3) 89 vs) : ∃ x : RowT, vs = cRow x := by
  obtain ⟨hl, hq⟩ := fit_struct tab_89 h
  match vs, hl with
  | [a, b], _ =>
    obtain ⟨fi, e0, h0⟩ := hq (0, 87) (by simp)
    rw [tab_87] at e0; cases e0
    obtain ⟨fi, e1, h1⟩ := hq (1, 3) (by simp)
    rw [tab_3] at e1; cases e1
    obtain ⟨x0, h0⟩ := fit_ints tab_87 h0
    obtain ⟨x1, h1⟩ := fit3 h1
    simp at h0 h1
    exact ⟨⟨x0, x1⟩, by rw [h0, h1]; rfl⟩
theorem fit_pts {n : Nat} {vs : List Val} (h : Fit tab (n + 3) 22 vs) : ∃ l : List Pt, vs = [.lst 2 (l.map cPt)] := fit_slice tab_22 tab_93 h fun es he => fit_pt he
theorem fit_run {n : Nat} {vs : List Val} (h : Fit tab (n + 5) 28 vs) : ∃ r : RunT, vs = cRun r := by
  obtain ⟨hl, hq⟩ := fit_struct tab_28 h
  match vs, hl with
  | [a, b, c, d, e, f], _ =>
    obtain ⟨fi, e0, h0⟩ := hq (0, 3) (by simp)
    rw [tab_3] at e0; cases e0
    obtain ⟨fi, e1, h1⟩ := hq (1, 22) (by simp)
    rw [tab_22] at e1; cases e1
    obtain ⟨fi, e2, h2⟩ := hq (2, 23) (by simp)
    rw [tab_23] at e2; cases e2
    obtain ⟨fi, e3, h3⟩ := hq (3, 24) (by simp)
    rw [tab_24] at e3; cases e3
    obtain ⟨fi, e4, h4⟩ := hq (4, 26) (by simp)
    rw [tab_26] at e4; cases e4
    obtain ⟨x0, h0⟩ := fit3 h0
    obtain ⟨x1, h1⟩ := fit_pts h1
    obtain ⟨x2, h2⟩ := fit_slice tab_23 tab_76 h2 fun es he => fit_cpl he
    obtain ⟨x3, h3⟩ := fit_slice tab_24 tab_89 h3 fun es he => fit_row he
    obtain ⟨x4, h4⟩ := fit_span h4
    simp at h0 h1 h2 h3 h4
    obtain ⟨h4, h4'⟩ := h4
    exact ⟨⟨x0, x1, x2, x3, x4⟩, by rw [h0, h1, h2, h3, h4, h4']; rfl⟩
theorem fit_rules {n : Nat} {vs : List Val} (h : Fit tab (n + 5) 31 vs) : ∃ u : RulesT, vs = cRules u := by
  obtain ⟨hl, hq⟩ := fit_struct tab_31 h
  match vs, hl with
  | [a, b, c, d, e, f], _ =>
    obtain ⟨fi, e0, h0⟩ := hq (0, 29) (by simp)
    rw [tab_29] at e0; cases e0
    obtain ⟨fi, e1, h1⟩ := hq (1, 3) (by simp)
    rw [tab_3] at e1; cases e1
    obtain ⟨fi, e2, h2⟩ := hq (2, 3) (by simp)
    rw [tab_3] at e2; cases e2
    obtain ⟨fi, e3, h3⟩ := hq (3, 26) (by simp)
    rw [tab_26] at e3; cases e3
    obtain ⟨fi, e4, h4⟩ := hq (5, 3) (by simp)
    rw [tab_3] at e4; cases e4
    obtain ⟨x0, h0⟩ := fit_slice tab_29 tab_85 h0 fun es he => fit_step he
    obtain ⟨x1, h1⟩ := fit3 h1
    obtain ⟨x2, h2⟩ := fit3 h2
    obtain ⟨x3, h3⟩ := fit_span h3
    obtain ⟨x4, h4⟩ := fit3 h4
    simp at h0 h1 h2 h3 h4
    obtain ⟨h3, h3'⟩ := h3
    exact ⟨⟨x0, x1, x2, x3, x4⟩, by rw [h0, h1, h2, h3, h3', h4]; rfl⟩

theorem arg_int {a : Val} (h : FitV tab 8 3 a) : ∃ m, a = .int .i64 m := by
  obtain ⟨ti, cs, e, h, _, rfl⟩ := h
  obtain ⟨m, rfl⟩ := fit3 h
  rw [tab_3] at e; cases e; exact ⟨m, rfl⟩
theorem arg_byte {a : Val} (h : FitV tab 8 5 a) : ∃ m, a = .int .u8 m ∧ 0 ≤ m ∧ m ≤ 255 := by
  obtain ⟨ti, cs, e, h, _, rfl⟩ := h
  obtain ⟨m, rfl, hw⟩ := fit_int tab_5 h
  rw [tab_5] at e; cases e
  simp [Lit.wf, IntKind.min, IntKind.max, IntKind.signed, IntKind.bits] at hw
  exact ⟨m, rfl, by omega, by omega⟩
theorem arg_u16 {a : Val} (h : FitV tab 8 86 a) : ∃ m, a = .int .u16 m ∧ 0 ≤ m ∧ m ≤ 65535 := by
  obtain ⟨ti, cs, e, h, _, rfl⟩ := h
  obtain ⟨m, rfl, hw⟩ := fit_int tab_86 h
  rw [tab_86] at e; cases e
  simp [Lit.wf, IntKind.min, IntKind.max, IntKind.signed, IntKind.bits] at hw
  exact ⟨m, rfl, by omega, by omega⟩
theorem arg_pts {a : Val} (h : FitV tab 8 22 a) : ∃ l : List Pt, a = .lst 2 (l.map cPt) := by
  obtain ⟨ti, cs, e, h, _, rfl⟩ := h
  obtain ⟨l, rfl⟩ := fit_pts h
  rw [tab_22] at e; cases e; exact ⟨l, rfl⟩
theorem arg_run {a : Val} (h : FitV tab 8 28 a) : ∃ r : RunT, a = encRun r := by
  obtain ⟨ti, cs, e, h, _, rfl⟩ := h
  obtain ⟨l, rfl⟩ := fit_run h
  rw [tab_28] at e; cases e; exact ⟨l, rfl⟩
theorem arg_rules {a : Val} (h : FitV tab 8 31 a) : ∃ r : RulesT, a = encRules r := by
  obtain ⟨ti, cs, e, h, _, rfl⟩ := h
  obtain ⟨l, rfl⟩ := fit_rules h
  rw [tab_31] at e; cases e; exact ⟨l, rfl⟩
end Cp
