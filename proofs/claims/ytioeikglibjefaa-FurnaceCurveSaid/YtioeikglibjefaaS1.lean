/- Plain facts of the furnace (S1). Conditions: none. -/
import Derived.Test.YtioeikglibjefaaW1
set_option linter.unusedVariables false
/-! The furnace, plainly: what runs and rules are, and what is told of them. -/
namespace Cp
open Go

abbrev i64 (n : Int) : Val := .int .i64 n

structure Span where
  lo : Int
  hi : Int
  deriving DecidableEq
structure Pt where
  m : Int
  d : Int
  deriving DecidableEq
structure Cpl where
  id : Int
  err : Span
  lag : Span
  brk : Int
  deriving DecidableEq
structure RowT where
  deg : List Int
  press : Int
  deriving DecidableEq
structure RunT where
  id : Int
  curve : List Pt
  cpls : List Cpl
  rows : List RowT
  gauge : Span
  deriving DecidableEq
structure StepT where
  frm : Int
  part : Int
  deriving DecidableEq
structure RulesT where
  steps : List StepT
  single : Int
  sfrom : Int
  press : Span
  pfrom : Int
  deriving DecidableEq

def encSpan (s : Span) : Val := .agg [.int .i64 s.lo, .int .i64 s.hi]
def cPt (p : Pt) : List Val := [.int .i64 p.m, .int .i64 p.d]
def cCpl (c : Cpl) : List Val := [.int .i64 c.id, .int .i64 c.err.lo, .int .i64 c.err.hi, .int .i64 c.lag.lo, .int .i64 c.lag.hi, .int .i64 c.brk]
def cRow (r : RowT) : List Val := [.lst 1 (ints r.deg), .int .i64 r.press]
def cStep (s : StepT) : List Val := [.int .i64 s.frm, .int .i64 s.part]
def cRun (r : RunT) : List Val := [.int .i64 r.id, .lst 2 (r.curve.map cPt), .lst 6 (r.cpls.map cCpl), .lst 2 (r.rows.map cRow), .int .i64 r.gauge.lo, .int .i64 r.gauge.hi]
def encRun (r : RunT) : Val := .agg (cRun r)
def cRules (u : RulesT) : List Val := [.lst 2 (u.steps.map cStep), .int .i64 u.single, .int .i64 u.sfrom, .int .i64 u.press.lo, .int .i64 u.press.hi, .int .i64 u.pfrom]
def encRules (u : RulesT) : Val := .agg (cRules u)

@[go_sem] theorem cPt_noid {l : List Pt} : noidss (l.map cPt) = true := noidss_map fun _ => rfl
@[go_sem] theorem cCpl_noid {l : List Cpl} : noidss (l.map cCpl) = true := noidss_map fun _ => rfl
@[go_sem] theorem cRow_noid {l : List RowT} : noidss (l.map cRow) = true := noidss_map fun r => by simp only [cRow, noids, noid, ints_noid, Bool.and_self]
@[go_sem] theorem cStep_noid {l : List StepT} : noidss (l.map cStep) = true := noidss_map fun _ => rfl

@[go_sem] theorem fzd_cPt {H : Hp} {n : Nat} {l : List Pt} : ((l.map cPt).map fun es => es.map (fzd H (n + 1))) = l.map cPt := map_id2 (fun _ => rfl) l
@[go_sem] theorem fzd_cCpl {H : Hp} {n : Nat} {l : List Cpl} : ((l.map cCpl).map fun es => es.map (fzd H (n + 1))) = l.map cCpl := map_id2 (fun _ => rfl) l
@[go_sem] theorem fzd_cStep {H : Hp} {n : Nat} {l : List StepT} : ((l.map cStep).map fun es => es.map (fzd H (n + 1))) = l.map cStep := map_id2 (fun _ => rfl) l
@[go_sem] theorem fzd_cRow {H : Hp} {n : Nat} {l : List RowT} : ((l.map cRow).map fun es => es.map (fzd H (n + 2))) = l.map cRow := map_id2 (fun r => by
  simp only [cRow, List.map_cons, List.map_nil, fzd_lst, fzd_ints, fzd_int]) l
theorem span_eq {a b : Span} : a = b ↔ a.lo = b.lo ∧ a.hi = b.hi := by cases a; cases b; simp
theorem pt_eq {a b : Pt} : a = b ↔ a.m = b.m ∧ a.d = b.d := by cases a; cases b; simp
theorem cpl_eq {a b : Cpl} : a = b ↔ a.id = b.id ∧ a.err.lo = b.err.lo ∧ a.err.hi = b.err.hi ∧ a.lag.lo = b.lag.lo ∧ a.lag.hi = b.lag.hi ∧ a.brk = b.brk := by
  obtain ⟨a1, ⟨a2, a3⟩, ⟨a4, a5⟩, a6⟩ := a; obtain ⟨b1, ⟨b2, b3⟩, ⟨b4, b5⟩, b6⟩ := b; simp [and_assoc]
theorem row_eq {a b : RowT} : a = b ↔ a.deg = b.deg ∧ a.press = b.press := by cases a; cases b; simp
theorem step_eq {a b : StepT} : a = b ↔ a.frm = b.frm ∧ a.part = b.part := by cases a; cases b; simp
theorem run_eq {a b : RunT} : a = b ↔ a.id = b.id ∧ a.curve = b.curve ∧ a.cpls = b.cpls ∧ a.rows = b.rows ∧ a.gauge.lo = b.gauge.lo ∧ a.gauge.hi = b.gauge.hi := by
  obtain ⟨a1, a2, a3, a4, ⟨a5, a6⟩⟩ := a; obtain ⟨b1, b2, b3, b4, ⟨b5, b6⟩⟩ := b; simp
theorem rules_eq {a b : RulesT} : a = b ↔ a.steps = b.steps ∧ a.single = b.single ∧ a.sfrom = b.sfrom ∧ a.press.lo = b.press.lo ∧ a.press.hi = b.press.hi ∧ a.pfrom = b.pfrom := by
  obtain ⟨a1, a2, a3, ⟨a4, a5⟩, a6⟩ := a; obtain ⟨b1, b2, b3, ⟨b4, b5⟩, b6⟩ := b; simp [and_assoc]
theorem drop_none {α : Type} {l : List α} {k : Nat} (h : l.length ≤ k) : l.drop k = [] := List.drop_of_length_le h


/-- The rest of a curve, behind a point. -/
def curveFrom (a : Pt) : List Pt → Bool
  | [] => true
  | p :: l => decide (a.m + 1 ≤ p.m ∧ p.m ≤ 600 ∧ a.d ≤ p.d ∧ p.d ≤ 2000) && curveFrom p l
def curveOK (l : List Pt) : Bool := decide (2 ≤ l.length ∧ l.length ≤ 10) && (match l with | [] => false | p :: _ => decide (p.m = 0)) && curveFrom ⟨-1, 0⟩ l

def degFrom (a : Pt) : List Pt → Int → Int
  | [], _ => a.d
  | b :: l, m => if m < b.m then a.d + ((b.d - a.d) * (m - a.m)).tdiv (b.m - a.m) else degFrom b l m
theorem curveOK_iff {l : List Pt} {p : Pt} (h : l[0]? = some p) : curveOK l = (decide (2 ≤ l.length ∧ l.length ≤ 10) && decide (p.m = 0) && curveFrom ⟨-1, 0⟩ l) := by
  cases l with
  | nil => cases h
  | cons q l => cases h; rfl

def degAt (l : List Pt) (m : Int) : Int := match l with | [] => 0 | p :: l => degFrom p l m
def lastM (l : List Pt) : Int := (l.getLast?.map (·.m)).getD 0
end Cp
