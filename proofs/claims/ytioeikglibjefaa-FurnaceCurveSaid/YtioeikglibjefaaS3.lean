/- Plain facts of the furnace (S3). Conditions: none. -/
import Derived.Test.YtioeikglibjefaaS2
set_option linter.unusedVariables false
/-! Runs and rules that are valid. -/
namespace Cp
open Go

def cplOK (last : Int) (c : Cpl) : Bool := decide ((last + 1 ≤ c.id ∧ c.id ≤ 9999) ∧ (-50 ≤ c.err.lo ∧ c.err.lo ≤ c.err.hi ∧ c.err.hi ≤ 50) ∧ (0 ≤ c.lag.lo ∧ c.lag.lo ≤ c.lag.hi ∧ c.lag.hi ≤ 3) ∧ 0 ≤ c.brk ∧ c.brk ≤ 600)
def cplsFrom (last : Int) : List Cpl → Bool
  | [] => true
  | c :: l => cplOK last c && cplsFrom c.id l
def degsOK (l : List Int) : Bool := l.all fun d => decide (0 ≤ d ∧ d ≤ 2000)
def rowOK (n : Nat) (r : RowT) : Bool := decide (r.deg.length = n ∧ -100 ≤ r.press ∧ r.press ≤ 100) && degsOK r.deg
def headOK (r : RunT) : Bool := decide ((0 ≤ r.id ∧ r.id ≤ 9999) ∧ (-20 ≤ r.gauge.lo ∧ r.gauge.lo ≤ r.gauge.hi ∧ r.gauge.hi ≤ 20) ∧ (1 ≤ r.cpls.length ∧ r.cpls.length ≤ 8) ∧ (1 ≤ r.rows.length ∧ r.rows.length ≤ 60 ∧ r.rows.length ≤ lastM r.curve))
def runOK (r : RunT) : Bool := curveOK r.curve && headOK r && cplsFrom (-1) r.cpls && r.rows.all (rowOK r.cpls.length)

theorem runOK_eq {r : RunT} (h1 : curveOK r.curve = true) (h2 : headOK r = true) : runOK r = (cplsFrom (-1) r.cpls && r.rows.all (rowOK r.cpls.length)) := by simp [runOK, h1, h2]
theorem runOK_curve {r : RunT} (h : curveOK r.curve = false) : runOK r = false := by simp [runOK, h]
theorem runOK_head {r : RunT} (h : headOK r = false) : runOK r = false := by simp [runOK, h]

def stepOK (last : Int) (s : StepT) : Bool := decide ((last + 1 ≤ s.frm ∧ s.frm ≤ 600) ∧ 0 ≤ s.part ∧ s.part ≤ 1000)
def stepsFrom (last : Int) : List StepT → Bool
  | [] => true
  | s :: l => stepOK last s && stepsFrom s.frm l
def limsOK (u : RulesT) : Bool := decide (u.steps.length ≤ 5 ∧ (0 ≤ u.single ∧ u.single ≤ 2000) ∧ (1 ≤ u.sfrom ∧ u.sfrom ≤ 600) ∧ (-100 ≤ u.press.lo ∧ u.press.lo ≤ u.press.hi ∧ u.press.hi ≤ 100) ∧ 1 ≤ u.pfrom ∧ u.pfrom ≤ 600)
def rulesOK (u : RulesT) : Bool := limsOK u && stepsFrom 0 u.steps

/-- How large lists are at most. -/
structure RunB (r : RunT) : Prop where
  curve : r.curve.length ≤ 4611686018427387904
  cpls : r.cpls.length ≤ 4611686018427387904
  rows : r.rows.length ≤ 4611686018427387904
  degs : ∀ x ∈ r.rows, x.deg.length ≤ 4611686018427387904
structure RulesB (u : RulesT) : Prop where
  steps : u.steps.length ≤ 4611686018427387904
end Cp
