/- Plain facts of the furnace (S4). Conditions: none. -/
import Derived.Test.YtioeikglibjefaaS3
set_option linter.unusedVariables false
/-! What couples truly show, and means. -/
namespace Cp
open Go

def works (c : Cpl) (m : Int) : Bool := decide (c.brk = 0 ∨ m < c.brk)
/-- The indices of the couples that work. -/
def wkFrom (m : Int) : Nat → List Cpl → List Nat
  | _, [] => []
  | k, c :: l => if works c m = true then k :: wkFrom m (k + 1) l else wkFrom m (k + 1) l
def wk (r : RunT) (m : Int) : List Nat := wkFrom m 0 r.cpls
def natI (l : List Nat) : List Int := l.map fun (k : Nat) => (k : Int)

theorem natI_snoc {l : List Nat} {k : Nat} : natI l ++ [(k : Int)] = natI (l ++ [k]) := by simp [natI]
theorem natI_length {l : List Nat} : (natI l).length = l.length := by simp [natI]
/-- What a couple reads in a row. -/
def readAt (r : RunT) (i : Nat) (row : Int) : Int := ((r.rows[(row - 1).toNat]?).bind fun x => x.deg[i]?).getD 0
def lastRow (r : RunT) (c : Cpl) : Int := if 0 < c.brk then min (r.rows.length : Int) (c.brk - 1) else r.rows.length
def readLag (r : RunT) (c : Cpl) (i : Nat) (m lag : Int) : Int := readAt r i (min (m + lag) (lastRow r c))
/-- The least, and the greatest of some numbers. -/
def extLo (g : Int → Int) (lo : Int) : Nat → Int
  | 0 => g lo
  | n + 1 => min (extLo g lo n) (g (lo + (n + 1 : Nat)))
def extHi (g : Int → Int) (lo : Int) : Nat → Int
  | 0 => g lo
  | n + 1 => max (extHi g lo n) (g (lo + (n + 1 : Nat)))
def truth (r : RunT) (c : Cpl) (i : Nat) (m : Int) : Span :=
  ⟨extLo (readLag r c i m) c.lag.lo (c.lag.hi - c.lag.lo).toNat - c.err.hi, extHi (readLag r c i m) c.lag.lo (c.lag.hi - c.lag.lo).toNat - c.err.lo⟩

/-- What is known of a valid run. -/
structure RunF (r : RunT) : Prop where
  curve : CurveF r.curve
  cpls : 1 ≤ r.cpls.length ∧ r.cpls.length ≤ 8
  rows : 1 ≤ r.rows.length ∧ r.rows.length ≤ 60 ∧ r.rows.length ≤ lastM r.curve
  gauge : -20 ≤ r.gauge.lo ∧ r.gauge.lo ≤ r.gauge.hi ∧ r.gauge.hi ≤ 20
  cpl : ∀ (i : Nat) (c : Cpl), r.cpls[i]? = some c → (0 ≤ c.id ∧ c.id ≤ 9999) ∧ (-50 ≤ c.err.lo ∧ c.err.lo ≤ c.err.hi ∧ c.err.hi ≤ 50) ∧ (0 ≤ c.lag.lo ∧ c.lag.lo ≤ c.lag.hi ∧ c.lag.hi ≤ 3) ∧ 0 ≤ c.brk ∧ c.brk ≤ 600
  ids : ∀ (i j : Nat) (a b : Cpl), i < j → r.cpls[i]? = some a → r.cpls[j]? = some b → a.id < b.id
  row : ∀ (i : Nat) (x : RowT), r.rows[i]? = some x → x.deg.length = r.cpls.length ∧ -100 ≤ x.press ∧ x.press ≤ 100 ∧ ∀ (j : Nat) (d : Int), x.deg[j]? = some d → 0 ≤ d ∧ d ≤ 2000

theorem cplsFrom_facts : ∀ (l : List Cpl) (last : Int), -1 ≤ last → cplsFrom last l = true →
    (∀ (i : Nat) (c : Cpl), l[i]? = some c → last < c.id ∧ (0 ≤ c.id ∧ c.id ≤ 9999) ∧ (-50 ≤ c.err.lo ∧ c.err.lo ≤ c.err.hi ∧ c.err.hi ≤ 50) ∧ (0 ≤ c.lag.lo ∧ c.lag.lo ≤ c.lag.hi ∧ c.lag.hi ≤ 3) ∧ 0 ≤ c.brk ∧ c.brk ≤ 600) ∧
    (∀ (i j : Nat) (a b : Cpl), i < j → l[i]? = some a → l[j]? = some b → a.id < b.id)
  | [], last, _, _ => ⟨fun i p h => by simp at h, fun i j p q _ h => by simp at h⟩
  | b :: l, last, h1, h => by
    simp only [cplsFrom, Bool.and_eq_true] at h
    obtain ⟨hb, hl⟩ := h
    simp only [cplOK, decide_eq_true_eq] at hb
    obtain ⟨f1, f2⟩ := cplsFrom_facts l b.id (by omega) hl
    refine ⟨fun i p hi => ?_, fun i j p q hij hi hj => ?_⟩
    · cases i with
      | zero => simp at hi; subst hi; omega
      | succ i => have := f1 i p (by simpa using hi); omega
    · cases j with
      | zero => omega
      | succ j =>
        cases i with
        | zero => simp at hi; subst hi; have := f1 j q (by simpa using hj); omega
        | succ i => exact f2 i j p q (by omega) (by simpa using hi) (by simpa using hj)

theorem run_facts {r : RunT} (h : runOK r = true) : RunF r := by
  simp only [runOK, Bool.and_eq_true, headOK, decide_eq_true_eq, List.all_eq_true] at h
  obtain ⟨⟨⟨h1, h2⟩, h3⟩, h4⟩ := h
  obtain ⟨f1, f2⟩ := cplsFrom_facts r.cpls (-1) (by omega) h3
  refine ⟨curve_facts h1, h2.2.2.1, h2.2.2.2, h2.2.1, fun i c hi => (f1 i c hi).2, f2, fun i x hx => ?_⟩
  have := h4 x (List.mem_of_getElem? hx)
  simp only [rowOK, degsOK, Bool.and_eq_true, decide_eq_true_eq, List.all_eq_true] at this
  exact ⟨this.1.1, this.1.2.1, this.1.2.2, fun j d hj => this.2 d (List.mem_of_getElem? hj)⟩

theorem works_iff {c : Cpl} {m : Int} : works c m = true ↔ c.brk = 0 ∨ m < c.brk := by simp [works]

theorem wkFrom_mem : ∀ (l : List Cpl) (k : Nat) (m : Int) (i : Nat), i ∈ wkFrom m k l ↔ ∃ j c, i = k + j ∧ l[j]? = some c ∧ works c m = true
  | [], k, m, i => by simp [wkFrom]
  | c :: l, k, m, i => by
    have ih := wkFrom_mem l (k + 1) m i
    have step : (∃ j c', i = k + j ∧ (c :: l)[j]? = some c' ∧ works c' m = true) ↔ (i = k ∧ works c m = true) ∨ ∃ j c', i = k + 1 + j ∧ l[j]? = some c' ∧ works c' m = true := by
      constructor
      · rintro ⟨j, c', h1, h2, h3⟩
        cases j with
        | zero => simp at h2; subst h2; exact .inl ⟨by omega, h3⟩
        | succ j => exact .inr ⟨j, c', by omega, by simpa using h2, h3⟩
      · rintro (⟨h1, h2⟩ | ⟨j, c', h1, h2, h3⟩)
        · exact ⟨0, c, by omega, rfl, h2⟩
        · exact ⟨j + 1, c', by omega, by simpa using h2, h3⟩
    rw [step]
    simp only [wkFrom]
    split
    · rename_i hw; rw [List.mem_cons, ih]; simp [hw]
    · rename_i hw; rw [ih]; simp [hw]

theorem wk_mem {r : RunT} {m : Int} {i : Nat} : i ∈ wk r m ↔ ∃ c, r.cpls[i]? = some c ∧ works c m = true := by
  unfold wk
  rw [wkFrom_mem]
  constructor
  · rintro ⟨j, c, h1, h2, h3⟩; exact ⟨c, by rw [h1, Nat.zero_add]; exact h2, h3⟩
  · rintro ⟨c, h2, h3⟩; exact ⟨i, c, by omega, h2, h3⟩

/-- The last row of a couple that works. -/
theorem lastRow_pos {r : RunT} (hF : RunF r) {i : Nat} {c : Cpl} (hc : r.cpls[i]? = some c) {m : Int} (hm : 1 ≤ m) (hw : works c m = true) : 1 ≤ lastRow r c ∧ lastRow r c ≤ r.rows.length := by
  have h1 := hF.rows
  rw [works_iff] at hw
  unfold lastRow
  split <;> omega

theorem readAt_some {r : RunT} {i : Nat} {row : Int} {x : RowT} {d : Int} (h1 : r.rows[(row - 1).toNat]? = some x) (h2 : x.deg[i]? = some d) : readAt r i row = d := by unfold readAt; rw [h1]; simp only [Option.bind_some, h2, Option.getD_some]

theorem readAt_ok {r : RunT} (hF : RunF r) {i : Nat} (hi : i < r.cpls.length) {row : Int} (h1 : 1 ≤ row) (h2 : row ≤ r.rows.length) :
    ∃ x d, r.rows[(row - 1).toNat]? = some x ∧ x.deg[i]? = some d ∧ readAt r i row = d ∧ 0 ≤ d ∧ d ≤ 2000 := by
  obtain ⟨x, hx⟩ : ∃ x, r.rows[(row - 1).toNat]? = some x := ⟨_, List.getElem?_eq_getElem (by omega)⟩
  obtain ⟨q1, q2, q3, q4⟩ := hF.row _ x hx
  obtain ⟨d, hd⟩ : ∃ d, x.deg[i]? = some d := ⟨_, List.getElem?_eq_getElem (by omega)⟩
  exact ⟨x, d, hx, hd, readAt_some hx hd, q4 i d hd⟩

theorem ext_bounds {g : Int → Int} {lo a b : Int} : ∀ (n : Nat), (∀ k : Nat, k ≤ n → a ≤ g (lo + k) ∧ g (lo + k) ≤ b) → a ≤ extLo g lo n ∧ extLo g lo n ≤ extHi g lo n ∧ extHi g lo n ≤ b
  | 0, h => by have := h 0 (by omega); simp [extLo, extHi] at this ⊢; exact this
  | n + 1, h => by
    have ih := ext_bounds n fun k hk => h k (by omega)
    have := h (n + 1) (by omega)
    simp only [extLo, extHi]
    omega

theorem take_snoc {α : Type} {l : List α} {k : Nat} {x : α} (h : l[k]? = some x) : l.take (k + 1) = l.take k ++ [x] := by
  rw [List.take_add_one, h]; rfl
@[go_sem] theorem natI_get {l : List Nat} {k : Nat} : (natI l)[k]? = (l[k]?).map fun (n : Nat) => (n : Int) := by simp [natI]
@[go_sem] theorem natI_len {l : List Nat} : (natI l).length = l.length := natI_length
theorem mul_bnd {a q A B C : Int} (h1 : -A ≤ a) (h2 : a ≤ B) (hA : 0 ≤ A) (hB : 0 ≤ B) (h3 : 0 ≤ q) (h4 : q ≤ C) : -(A * C) ≤ a * q ∧ a * q ≤ B * C := by
  have e1 : a * q ≤ B * q := Int.mul_le_mul_of_nonneg_right h2 h3
  have e2 : B * q ≤ B * C := Int.mul_le_mul_of_nonneg_left h4 hB
  have e3 : -A * q ≤ a * q := Int.mul_le_mul_of_nonneg_right h1 h3
  have e4 : A * q ≤ A * C := Int.mul_le_mul_of_nonneg_left h4 hA
  rw [Int.neg_mul] at e3
  omega
/-- Sums over couples that work. -/
def sumLo (r : RunT) (m : Int) : List Nat → Int
  | [] => 0
  | i :: l => (match r.cpls[i]? with | some c => (truth r c i m).lo | none => 0) + sumLo r m l
def sumHi (r : RunT) (m : Int) : List Nat → Int
  | [] => 0
  | i :: l => (match r.cpls[i]? with | some c => (truth r c i m).hi | none => 0) + sumHi r m l
theorem sumLo_append {r : RunT} {m : Int} : ∀ {a b : List Nat}, sumLo r m (a ++ b) = sumLo r m a + sumLo r m b
  | [], b => by simp [sumLo]
  | i :: a, b => by simp only [List.cons_append, sumLo, sumLo_append (a := a)]; omega
theorem sumHi_append {r : RunT} {m : Int} : ∀ {a b : List Nat}, sumHi r m (a ++ b) = sumHi r m a + sumHi r m b
  | [], b => by simp [sumHi]
  | i :: a, b => by simp only [List.cons_append, sumHi, sumHi_append (a := a)]; omega
/-- 840 times the mean. -/
def meanS (r : RunT) (m : Int) : Span := ⟨sumLo r m (wk r m) * (840 / (wk r m).length), sumHi r m (wk r m) * (840 / (wk r m).length)⟩

theorem truth_bounds {r : RunT} (hF : RunF r) {i : Nat} {c : Cpl} (hc : r.cpls[i]? = some c) {m : Int} (hm : 1 ≤ m) (hm2 : m ≤ r.rows.length) (hw : works c m = true) :
    -50 ≤ (truth r c i m).lo ∧ (truth r c i m).lo ≤ (truth r c i m).hi ∧ (truth r c i m).hi ≤ 2050 := by
  have hi : i < r.cpls.length := (List.getElem?_eq_some_iff.1 hc).1
  have hcf := hF.cpl i c hc
  obtain ⟨l1, l2⟩ := lastRow_pos hF hc hm hw
  have hrows := hF.rows
  have := ext_bounds (g := readLag r c i m) (lo := c.lag.lo) (a := 0) (b := 2000) (c.lag.hi - c.lag.lo).toNat (fun k hk => by
    obtain ⟨x, d, _, _, h1, h2, h3⟩ := readAt_ok hF hi (row := min (m + (c.lag.lo + k)) (lastRow r c)) (by omega) (by omega)
    unfold readLag
    rw [h1]; exact ⟨h2, h3⟩)
  simp only [truth]
  omega

theorem sum_bounds {r : RunT} (hF : RunF r) {m : Int} (hm : 1 ≤ m) (hm2 : m ≤ r.rows.length) : ∀ (l : List Nat), (∀ i ∈ l, i ∈ wk r m) → -50 * l.length ≤ sumLo r m l ∧ sumLo r m l ≤ sumHi r m l ∧ sumHi r m l ≤ 2050 * l.length
  | [], _ => by simp [sumLo, sumHi]
  | i :: l, h => by
    have ih := sum_bounds hF hm hm2 l fun j hj => h j (by simp [hj])
    obtain ⟨c, h1, h2⟩ := wk_mem.1 (h i (by simp))
    have := truth_bounds hF h1 hm hm2 h2
    simp only [sumLo, sumHi, h1, List.length_cons]
    omega

theorem wkFrom_len (m : Int) : ∀ (l : List Cpl) (k : Nat), (wkFrom m k l).length ≤ l.length
  | [], k => by simp [wkFrom]
  | c :: l, k => by
    have := wkFrom_len m l (k + 1)
    simp only [wkFrom]
    split <;> simp <;> omega
theorem wk_len {r : RunT} {m : Int} : (wk r m).length ≤ r.cpls.length := wkFrom_len m _ _
end Cp
