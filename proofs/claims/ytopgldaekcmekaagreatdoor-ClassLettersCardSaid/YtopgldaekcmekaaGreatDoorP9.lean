/- Rules,facts and contracts that the statement's proof leans on. Conditions: none. -/
import Derived.Test.YtopgldaekcmekaaGreatDoorP8
set_option linter.unusedVariables false
set_option linter.unusedSimpArgs false
set_option linter.unusedSectionVars false
namespace Cp
open Go
def BO (c : Cpl) (m : Int) : Bool := decide (c.brk = 0 ∨ m < c.brk)
def AX (m : Int) : Nat → List Cpl → List Nat
 | _,[] => []
 | k,c :: l => if BO c m = true then k :: AX m (k + 1) l else AX m (k + 1) l
def wk (r : RunT) (m : Int) : List Nat := AX m 0 r.cpls
def Rp (l : List Nat) : List Int := l.map fun (k : Nat) => (k : Int)
theorem Nh {l : List Nat} : (Rp l).length = l.length := by simp [Rp]
def KE (r : RunT) (i : Nat) (row : Int) : Int := ((r.rows[(row - 1).toNat]?).bind fun x => x.deg[i]?).getD 0
def AG (r : RunT) (c : Cpl) : Int := if 0 < c.brk then min (r.rows.length : Int) (c.brk - 1) else r.rows.length
def AH (r : RunT) (c : Cpl) (i : Nat) (m lag : Int) : Int := KE r i (min (m + lag) (AG r c))
def F8 (g : Int → Int) (lo : Int) : Nat → Int
 | 0 => g lo
 | n + 1 => min (F8 g lo n) (g (lo + (n + 1 : Nat)))
def Fa (g : Int → Int) (lo : Int) : Nat → Int
 | 0 => g lo
 | n + 1 => max (Fa g lo n) (g (lo + (n + 1 : Nat)))
def Df (r : RunT) (c : Cpl) (i : Nat) (m : Int) : Span :=
 ⟨F8 (AH r c i m) c.lag.lo (c.lag.hi - c.lag.lo).toNat - c.err.hi,Fa (AH r c i m) c.lag.lo (c.lag.hi - c.lag.lo).toNat - c.err.lo⟩
structure RunF (r : RunT) : Prop where
 curve : CurveF r.curve
 cpls : 1 ≤ r.cpls.length ∧ r.cpls.length ≤ 8
 rows : 1 ≤ r.rows.length ∧ r.rows.length ≤ 60 ∧ r.rows.length ≤ Gq r.curve
 gauge : -20 ≤ r.gauge.lo ∧ r.gauge.lo ≤ r.gauge.hi ∧ r.gauge.hi ≤ 20
 cpl : ∀ (i : Nat) (c : Cpl),r.cpls[i]? = some c → (0 ≤ c.id ∧ c.id ≤ 9999) ∧ (-50 ≤ c.err.lo ∧ c.err.lo ≤ c.err.hi ∧ c.err.hi ≤ 50) ∧ (0 ≤ c.lag.lo ∧ c.lag.lo ≤ c.lag.hi ∧ c.lag.hi ≤ 3) ∧ 0 ≤ c.brk ∧ c.brk ≤ 600
 ids : ∀ (i j : Nat) (a b : Cpl),i < j → r.cpls[i]? = some a → r.cpls[j]? = some b → a.id < b.id
 row : ∀ (i : Nat) (x : RowT),r.rows[i]? = some x → x.deg.length = r.cpls.length ∧ -100 ≤ x.press ∧ x.press ≤ 100 ∧ ∀ (j : Nat) (d : Int),x.deg[j]? = some d → 0 ≤ d ∧ d ≤ 2000
theorem cplsFrom_facts : ∀ (l : List Cpl) (last : Int),-1 ≤ last → Bi last l = true →
  (∀ (i : Nat) (c : Cpl),l[i]? = some c → last < c.id ∧ (0 ≤ c.id ∧ c.id ≤ 9999) ∧ (-50 ≤ c.err.lo ∧ c.err.lo ≤ c.err.hi ∧ c.err.hi ≤ 50) ∧ (0 ≤ c.lag.lo ∧ c.lag.lo ≤ c.lag.hi ∧ c.lag.hi ≤ 3) ∧ 0 ≤ c.brk ∧ c.brk ≤ 600) ∧
  (∀ (i j : Nat) (a b : Cpl),i < j → l[i]? = some a → l[j]? = some b → a.id < b.id)
 | [],last,_,_ => ⟨fun i p h => by simp at h,fun i j p q _ h => by simp at h⟩
 | b :: l,last,h1,h => by
  simp only [Bi,Bool.and_eq_true] at h
  obtain ⟨hb,hl⟩ := h
  simp only [Gu,decide_eq_true_eq] at hb
  obtain ⟨f1,f2⟩ := cplsFrom_facts l b.id (by omega) hl
  refine ⟨fun i p hi => ?_,fun i j p q hij hi hj => ?_⟩
  ·cases i with
   | zero => simp at hi; subst hi; omega
   | succ i => have := f1 i p (by simpa using hi); omega
  ·cases j with
   | zero => omega
   | succ j =>
    cases i with
    | zero => simp at hi; subst hi; have := f1 j q (by simpa using hj); omega
    | succ i => exact f2 i j p q (by omega) (by simpa using hi) (by simpa using hj)
theorem Ew {r : RunT} (h : CK r = true) : RunF r := by
 simp only [CK,Bool.and_eq_true,Ei,decide_eq_true_eq,List.all_eq_true] at h
 obtain ⟨⟨⟨h1,h2⟩,h3⟩,h4⟩ := h
 obtain ⟨f1,f2⟩ := cplsFrom_facts r.cpls (-1) (by omega) h3
 refine ⟨FG h1,h2.2.2.1,h2.2.2.2,h2.2.1,fun i c hi => (f1 i c hi).2,f2,fun i x hx => ?_⟩
 have := h4 x (List.mem_of_getElem? hx)
 simp only [C8,EL,Bool.and_eq_true,decide_eq_true_eq,List.all_eq_true] at this
 exact ⟨this.1.1,this.1.2.1,this.1.2.2,fun j d hj => this.2 d (List.mem_of_getElem? hj)⟩
theorem Qf {c : Cpl} {m : Int} : BO c m = true ↔ c.brk = 0 ∨ m < c.brk := by simp [BO]
theorem wkFrom_mem : ∀ (l : List Cpl) (k : Nat) (m : Int) (i : Nat),i ∈ AX m k l ↔ ∃ j c,i = k + j ∧ l[j]? = some c ∧ BO c m = true
 | [],k,m,i => by simp [AX]
 | c :: l,k,m,i => by
  have ih := wkFrom_mem l (k + 1) m i
  have step : (∃ j c',i = k + j ∧ (c :: l)[j]? = some c' ∧ BO c' m = true) ↔ (i = k ∧ BO c m = true) ∨ ∃ j c',i = k + 1 + j ∧ l[j]? = some c' ∧ BO c' m = true := by
   constructor
   ·rintro ⟨j,c',h1,h2,h3⟩
    cases j with
    | zero => simp at h2; subst h2; exact .inl ⟨by omega,h3⟩
    | succ j => exact .inr ⟨j,c',by omega,by simpa using h2,h3⟩
   ·rintro (⟨h1,h2⟩ | ⟨j,c',h1,h2,h3⟩)
    ·exact ⟨0,c,by omega,rfl,h2⟩
    ·exact ⟨j + 1,c',by omega,by simpa using h2,h3⟩
  rw [step]
  simp only [AX]
  split
  ·rename_i hw; rw [List.mem_cons,ih]; simp [hw]
  ·rename_i hw; rw [ih]; simp [hw]
theorem J4 {r : RunT} {m : Int} {i : Nat} : i ∈ wk r m ↔ ∃ c,r.cpls[i]? = some c ∧ BO c m = true := by
 unfold wk
 rw [wkFrom_mem]
 constructor
 ·rintro ⟨j,c,h1,h2,h3⟩; exact ⟨c,by rw [h1,Nat.zero_add]; exact h2,h3⟩
 ·rintro ⟨c,h2,h3⟩; exact ⟨i,c,by omega,h2,h3⟩
theorem Jf {r : RunT} (hF : RunF r) {i : Nat} {c : Cpl} (hc : r.cpls[i]? = some c) {m : Int} (hm : 1 ≤ m) (hw : BO c m = true) : 1 ≤ AG r c ∧ AG r c ≤ r.rows.length := by
 have h1 := hF.rows
 rw [Qf] at hw
 unfold AG
 split <;> omega
theorem Nt {r : RunT} {i : Nat} {row : Int} {x : RowT} {d : Int} (h1 : r.rows[(row - 1).toNat]? = some x) (h2 : x.deg[i]? = some d) : KE r i row = d := by unfold KE; rw [h1]; simp only [Option.bind_some,h2,Option.getD_some]
theorem FU {r : RunT} (hF : RunF r) {i : Nat} (hi : i < r.cpls.length) {row : Int} (h1 : 1 ≤ row) (h2 : row ≤ r.rows.length) :
  ∃ x d,r.rows[(row - 1).toNat]? = some x ∧ x.deg[i]? = some d ∧ KE r i row = d ∧ 0 ≤ d ∧ d ≤ 2000 := by
 obtain ⟨x,hx⟩ : ∃ x,r.rows[(row - 1).toNat]? = some x := ⟨_,List.getElem?_eq_getElem (by omega)⟩
 obtain ⟨q1,q2,q3,q4⟩ := hF.row _ x hx
 obtain ⟨d,hd⟩ : ∃ d,x.deg[i]? = some d := ⟨_,List.getElem?_eq_getElem (by omega)⟩
 exact ⟨x,d,hx,hd,Nt hx hd,q4 i d hd⟩
theorem EO {g : Int → Int} {lo a b : Int} : ∀ (n : Nat),(∀ k : Nat,k ≤ n → a ≤ g (lo + k) ∧ g (lo + k) ≤ b) → a ≤ F8 g lo n ∧ F8 g lo n ≤ Fa g lo n ∧ Fa g lo n ≤ b
 | 0,h => by have := h 0 (by omega); simp [F8,Fa] at this ⊢; exact this
 | n + 1,h => by
  have ih := EO n fun k hk => h k (by omega)
  have := h (n + 1) (by omega)
  simp only [F8,Fa]
  omega
@[go_sem] theorem aY {l : List Nat} {k : Nat} : (Rp l)[k]? = (l[k]?).map fun (n : Nat) => (n : Int) := by simp [Rp]
@[go_sem] theorem Zn {l : List Nat} : (Rp l).length = l.length := Nh
theorem M4 {a q A B C : Int} (h1 : -A ≤ a) (h2 : a ≤ B) (hA : 0 ≤ A) (hB : 0 ≤ B) (h3 : 0 ≤ q) (h4 : q ≤ C) : -(A * C) ≤ a * q ∧ a * q ≤ B * C := by
 have e1 : a * q ≤ B * q := Int.mul_le_mul_of_nonneg_right h2 h3
 have e2 : B * q ≤ B * C := Int.mul_le_mul_of_nonneg_left h4 hB
 have e3 : -A * q ≤ a * q := Int.mul_le_mul_of_nonneg_right h1 h3
 have e4 : A * q ≤ A * C := Int.mul_le_mul_of_nonneg_left h4 hA
 rw [Int.neg_mul] at e3
 omega
def D4 (r : RunT) (m : Int) : List Nat → Int
 | [] => 0
 | i :: l => (match r.cpls[i]? with | some c => (Df r c i m).lo | none => 0) + D4 r m l
def D5 (r : RunT) (m : Int) : List Nat → Int
 | [] => 0
 | i :: l => (match r.cpls[i]? with | some c => (Df r c i m).hi | none => 0) + D5 r m l
def C4 (r : RunT) (m : Int) : Span := ⟨D4 r m (wk r m) * (840 / (wk r m).length),D5 r m (wk r m) * (840 / (wk r m).length)⟩
theorem EQ {r : RunT} (hF : RunF r) {i : Nat} {c : Cpl} (hc : r.cpls[i]? = some c) {m : Int} (hm : 1 ≤ m) (hm2 : m ≤ r.rows.length) (hw : BO c m = true) :
  -50 ≤ (Df r c i m).lo ∧ (Df r c i m).lo ≤ (Df r c i m).hi ∧ (Df r c i m).hi ≤ 2050 := by
 have hi : i < r.cpls.length := (List.getElem?_eq_some_iff.1 hc).1
 have hcf := hF.cpl i c hc
 obtain ⟨l1,l2⟩ := Jf hF hc hm hw
 have hrows := hF.rows
 have := EO (g := AH r c i m) (lo := c.lag.lo) (a := 0) (b := 2000) (c.lag.hi - c.lag.lo).toNat (fun k hk => by
  obtain ⟨x,d,_,_,h1,h2,h3⟩ := FU hF hi (row := min (m + (c.lag.lo + k)) (AG r c)) (by omega) (by omega)
  unfold AH
  rw [h1]; exact ⟨h2,h3⟩)
 simp only [Df]
 omega
theorem EX {r : RunT} (hF : RunF r) {m : Int} (hm : 1 ≤ m) (hm2 : m ≤ r.rows.length) : ∀ (l : List Nat),(∀ i ∈ l,i ∈ wk r m) → -50 * l.length ≤ D4 r m l ∧ D4 r m l ≤ D5 r m l ∧ D5 r m l ≤ 2050 * l.length
 | [],_ => by simp [D4,D5]
 | i :: l,h => by
  have ih := EX hF hm hm2 l fun j hj => h j (by simp [hj])
  obtain ⟨c,h1,h2⟩ := J4.1 (h i (by simp))
  have := EQ hF h1 hm hm2 h2
  simp only [D4,D5,h1,List.length_cons]
  omega
theorem Kw (m : Int) : ∀ (l : List Cpl) (k : Nat),(AX m k l).length ≤ l.length
 | [],k => by simp [AX]
 | c :: l,k => by
  have := Kw m l (k + 1)
  simp only [AX]
  split <;> simp <;> omega
theorem JY {r : RunT} {m : Int} : (wk r m).length ≤ r.cpls.length := Kw m _ _
end Cp
namespace Cp
open Go
structure Brc where
 m : Int
 kind : Int
 cpl : Int
 known : Int
 deriving DecidableEq
def cBrc (b : Brc) : List Val := [.int .i64 b.m,.int .u8 b.kind,.int .i64 b.cpl,.int .u8 b.known]
@[go_sem] theorem ZC {H : Hp} {n : Nat} {l : List Brc} : ((l.map cBrc).map fun es => es.map (fzd H (n + 1))) = l.map cBrc := CF (fun _ => rfl) l
@[go_sem] theorem Lr {l : List Brc} : noidss (l.map cBrc) = true := Bl fun _ => rfl
def EY (r : RunT) (u : RulesT) : Bool := decide (15 < r.curve.length ∨ 12 < r.cpls.length ∨ 80 < r.rows.length ∨ 10 < u.steps.length) || r.rows.any fun x => decide (15 < x.deg.length)
structure RunSm (r : RunT) : Prop where
 curve : r.curve.length ≤ 15
 cpls : r.cpls.length ≤ 12
 rows : r.rows.length ≤ 80
 degs : ∀ x ∈ r.rows,x.deg.length ≤ 15
theorem Sz {r : RunT} {u : RulesT} (h : EY r u = false) : RunSm r ∧ u.steps.length ≤ 10 := by
 simp only [EY,Bool.or_eq_false_iff,decide_eq_false_iff_not,List.any_eq_false,decide_eq_true_eq] at h
 exact ⟨⟨by omega,by omega,by omega,fun x hx => by have := h.2 x hx; omega⟩,by omega⟩
theorem RunSm.b {r : RunT} (h : RunSm r) : RunB r := ⟨by have := h.curve; omega,by have := h.cpls; omega,by have := h.rows; omega,fun x hx => by have := h.degs x hx; omega⟩
end Cp
namespace Cp
open Go
section
variable {P : Program} {T : Tab} {md : Me} {os : List Oper} {K : Fr → Hp → Prop} {f : Fr} {H : Hp} {d : Option Tmp} {ty : TypeId} {pos : String} {af : Array Edge} {g : Option (Nat × Bool)} {ss lk : List Nat}
 {s b : Nat} {z : Val} {p : Bool}
@[go_sem] theorem WV {n : Nat} {fs : List (Nat × Nat)} {cs : List Val} : xck T (n + 1) ⟨.struct fs,s,b,z,p⟩ (.agg cs) = KZ T (xck T n) cs fs := rfl
def Rl (T : Tab) (g : TI → Val → Bool) (cs : List Val) (fs : List (Nat × Nat)) (off : Nat) : Option TI → Bool
 | none => false
 | some fi => match rdC fi (cs.drop off) with | none => false | some a => g fi a && KZ T g cs fs
@[go_sem] theorem aK {g : TI → Val → Bool} {cs : List Val} : KZ T g cs [] = true := rfl
@[go_sem] theorem Z0 {g : TI → Val → Bool} {cs : List Val} {off ft : Nat} {fs : List (Nat × Nat)} : KZ T g cs ((off,ft) :: fs) = Rl T g cs fs off (T ft) := by
 simp only [KZ,Rl]
 cases T ft <;> rfl
def Vu (T : Tab) (g : TI → Val → Bool) (cs : List Val) (fs : List (Nat × Nat)) (fi : TI) : Option Val → Bool
 | none => false
 | some a => g fi a && KZ T g cs fs
@[go_sem] theorem VL {g : TI → Val → Bool} {cs : List Val} {off : Nat} {fs : List (Nat × Nat)} {fi : TI} : Rl T g cs fs off (some fi) = Vu T g cs fs fi (rdC fi (cs.drop off)) := rfl
@[go_sem] theorem VU {g : TI → Val → Bool} {cs : List Val} {fs : List (Nat × Nat)} {fi : TI} {a : Val} : Vu T g cs fs fi (some a) = (g fi a && KZ T g cs fs) := rfl
def lkF (z : Val) : Option (Option (Nat × Val)) → Option Val
 | none => none
 | some none => some z
 | some (some (_,v)) => some v
@[go_sem] theorem lkF_no : lkF z (some none) = some z := rfl
@[go_sem] theorem dK {i : Nat} {v : Val} : lkF z (some (some (i,v))) = some v := rfl
def lkH (T : Tab) (kt : TypeId) (key : Val) (z : Val) (e : Nat) (ck : Bool) : Option (Nat × AObj) → Option Val
 | some (e',.map _ es) => if e = e' ∧ ck = true then lkF z (B3 T kt key es 0) else none
 | some (e',.frm _ es) => if e = e' ∧ ck = true then lkF z (B3 T kt key es 0) else none
 | _ => none
@[go_sem] theorem c4 {kt : TypeId} {key : Val} {e e' ver : Nat} {ck : Bool} {es : List (Val × Val)} : lkH T kt key z e ck (some (e',.map ver es)) = if e = e' ∧ ck = true then lkF z (B3 T kt key es 0) else none := rfl
@[go_sem] theorem dj {kt : TypeId} {key : Val} {e e' ver : Nat} {ck : Bool} {es : List (Val × Val)} : lkH T kt key z e ck (some (e',.frm ver es)) = if e = e' ∧ ck = true then lkF z (B3 T kt key es 0) else none := rfl
def Tx (T : Tab) (H : Hp) (kt : TypeId) (key : Val) (k e : Nat) : Option TI → Option TI → Option Val
 | some ki,some vi => lkH T kt key vi.zero e (xck T 8 ki key) (H k)
 | _,_ => none
@[go_sem] theorem Y5 {kt : TypeId} {key : Val} {k e : Nat} {ki vi : TI} : Tx T H kt key k e (some ki) (some vi) = lkH T kt key vi.zero e (xck T 8 ki key) (H k) := rfl
def lkT (T : Tab) (H : Hp) (key : Val) (k e : Nat) : Option TI → Option Val
 | some { kind := .map kt vt,.. } => Tx T H kt key k e (T kt) (T vt)
 | _ => none
@[go_sem] theorem cm {key : Val} {k e kt vt : Nat} : lkT T H key k e (some ⟨.map kt vt,s,b,z,p⟩) = Tx T H kt key k e (T kt) (T vt) := rfl
@[go_sem] theorem X7 {t : TypeId} {k e : Nat} {key : Val} : BI T H t (.map k e) key false = lkT T H key k e (T t) := by
 unfold BI lkT
 cases T t with
 | none => rfl
 | some ti =>
  obtain ⟨kind,_,_,_,_⟩ := ti
  cases kind <;> try rfl
  rename_i kt vt
  simp only [Tx]
  cases T kt with
  | none => rfl
  | some ki =>
   cases T vt with
   | none => rfl
   | some vi =>
    simp only
    have hF : ∀ es : List (Val × Val),(match B3 T kt key es 0 with | none => none | some none => some (if false = true then Val.tup [vi.zero,.bool false] else vi.zero) | some (some (_,v)) => some (if false = true then Val.tup [v,.bool true] else v)) = lkF vi.zero (B3 T kt key es 0) := fun es => by
     cases B3 T kt key es 0 with
     | none => rfl
     | some q => cases q <;> rfl
    cases hc : xck T 8 ki key with
    | false =>
     cases H k with
     | none => rfl
     | some q => obtain ⟨e',o⟩ := q; cases o <;> simp [lkH]
    | true =>
     cases H k with
     | none => rfl
     | some q =>
      obtain ⟨e',o⟩ := q
      cases o <;> try rfl
      all_goals
       by_cases he : e = e'
       ·subst he; simp only [if_true,lkH,and_self]; exact hF _
       ·simp [lkH,he]
@[go_sem] theorem Xl {t : TypeId} {m key : Operand} {o : Bool} : xgo P T md { dst := d,op := .lookup t m key o,type := ty,pos := pos,after := af,guard := g } K f H = one K d f H (BI T H t (ev f m) (ev f key) o) := by
 simp only [xgo,xop]
 generalize BI T H t (ev f m) (ev f key) o = X
 cases X <;> exact kk _
end
attribute [go_sem] Bool.true_and
end Cp
namespace Cp
open Go
section
variable {P : Program} {T : Tab} {md : Me} {os : List Oper} {K : Fr → Hp → Prop} {f : Fr} {H H' : Hp} {d : Option Tmp} {ty : TypeId} {pos : String} {af : Array Edge} {g : Option (Nat × Bool)} {ss lk : List Nat}
theorem AA {o : Oper} (h : ∀ a,o.op ≠ .call a) : B7 P T md os ss lk o K f H = B9 P T md os ss lk o K f H := by
 unfold B7
 split
 ·rename_i h1 _; exact absurd h1 (h _)
 ·rfl
@[go_sem] theorem Wx {m : String} {args : List Val} {t : TypeId} {v : Val} : MG P md d K f H m args (.iface t v) = ∃ fid,O2 P t m fid ∧ if RT md d then Qe P d K f H fid (v :: args) else K3 P d K f H fid (v :: args) := rfl
@[go_sem] theorem Vv {r : Operand} {m : String} {xs : Array Operand} {ts : Array TypeId} : B7 P T md os ss lk { dst := d,op := .call { callee := .invoke r m,args := xs,argTypes := ts },type := ty,pos := pos,after := af,guard := none } K f H = MG P md d K f H m (xs.toList.map (ev f)) (ev f r) := rfl
@[go_sem] theorem Y4 {h : Operand} {xs : Array Operand} {ts : Array TypeId} : B7 P T md os ss lk { dst := d,op := .call { callee := .value h,args := xs,argTypes := ts },type := ty,pos := pos,after := af,guard := g } K f H = B9 P T md os ss lk { dst := d,op := .call { callee := .value h,args := xs,argTypes := ts },type := ty,pos := pos,after := af,guard := g } K f H := by cases g <;> rfl
@[go_sem] theorem Ti {b : Builtin} {xs : Array Operand} {ts : Array TypeId} : B7 P T md os ss lk { dst := d,op := .call { callee := .builtin b,args := xs,argTypes := ts },type := ty,pos := pos,after := af,guard := g } K f H = B9 P T md os ss lk { dst := d,op := .call { callee := .builtin b,args := xs,argTypes := ts },type := ty,pos := pos,after := af,guard := g } K f H := by cases g <;> rfl
@[go_sem] theorem Yo {x : Operand} : B7 P T md os ss lk { dst := d,op := .move x,type := ty,pos := pos,after := af,guard := g } K f H = B9 P T md os ss lk { dst := d,op := .move x,type := ty,pos := pos,after := af,guard := g } K f H := AA (by simp)
@[go_sem] theorem VB {x : Operand} : B7 P T md os ss lk { dst := d,op := .assign x,type := ty,pos := pos,after := af,guard := g } K f H = B9 P T md os ss lk { dst := d,op := .assign x,type := ty,pos := pos,after := af,guard := g } K f H := AA (by simp)
@[go_sem] theorem XM {t : TypeId} {x : Operand} : B7 P T md os ss lk { dst := d,op := .load t x,type := ty,pos := pos,after := af,guard := g } K f H = B9 P T md os ss lk { dst := d,op := .load t x,type := ty,pos := pos,after := af,guard := g } K f H := AA (by simp)
@[go_sem] theorem VV {t : TypeId} {x y : Operand} : B7 P T md os ss lk { dst := d,op := .store t x y,type := ty,pos := pos,after := af,guard := g } K f H = B9 P T md os ss lk { dst := d,op := .store t x y,type := ty,pos := pos,after := af,guard := g } K f H := AA (by simp)
@[go_sem] theorem WT {t : TypeId} {x y : Operand} : B9 P T md os ss lk { dst := d,op := .store t x y,type := ty,pos := pos,after := af,guard := g } K f H = Ak P T md os ss lk { dst := d,op := .store t x y,type := ty,pos := pos,after := af,guard := g } K f H := Ax (by simp)
@[go_sem] theorem Ye {p : UnOp} {t : TypeId} {x : Operand} : B7 P T md os ss lk { dst := d,op := .unOp p t x,type := ty,pos := pos,after := af,guard := g } K f H = B9 P T md os ss lk { dst := d,op := .unOp p t x,type := ty,pos := pos,after := af,guard := g } K f H := AA (by simp)
@[go_sem] theorem QT {t : TypeId} {x : Operand} {n : Nat} : B7 P T md os ss lk { dst := d,op := .fieldAddr t x n,type := ty,pos := pos,after := af,guard := g } K f H = B9 P T md os ss lk { dst := d,op := .fieldAddr t x n,type := ty,pos := pos,after := af,guard := g } K f H := AA (by simp)
@[go_sem] theorem XD {p : BinOp} {t u : TypeId} {x y : Operand} : B7 P T md os ss lk { dst := d,op := .binOp p t x y u,type := ty,pos := pos,after := af,guard := g } K f H = B9 P T md os ss lk { dst := d,op := .binOp p t x y u,type := ty,pos := pos,after := af,guard := g } K f H := AA (by simp)
@[go_sem] theorem RU {t : TypeId} {x y : Operand} : B7 P T md os ss lk { dst := d,op := .indexAddr t x y,type := ty,pos := pos,after := af,guard := g } K f H = B9 P T md os ss lk { dst := d,op := .indexAddr t x y,type := ty,pos := pos,after := af,guard := g } K f H := AA (by simp)
@[go_sem] theorem UO {x : Operand} {n : Nat} : B7 P T md os ss lk { dst := d,op := .extract x n,type := ty,pos := pos,after := af,guard := g } K f H = B9 P T md os ss lk { dst := d,op := .extract x n,type := ty,pos := pos,after := af,guard := g } K f H := AA (by simp)
@[go_sem] theorem U4 {x : Operand} {n : Nat} : B9 P T md os ss lk { dst := d,op := .extract x n,type := ty,pos := pos,after := af,guard := g } K f H = Ak P T md os ss lk { dst := d,op := .extract x n,type := ty,pos := pos,after := af,guard := g } K f H := Ax (by simp)
@[go_sem] theorem Xy {t : TypeId} {ps : Array (Nat × Operand)} : B7 P T md os ss lk { dst := d,op := .build t ps,type := ty,pos := pos,after := af,guard := g } K f H = B9 P T md os ss lk { dst := d,op := .build t ps,type := ty,pos := pos,after := af,guard := g } K f H := AA (by simp)
@[go_sem] theorem Xc {t : TypeId} {ps : Array (Nat × Operand)} : B9 P T md os ss lk { dst := d,op := .build t ps,type := ty,pos := pos,after := af,guard := g } K f H = Ak P T md os ss lk { dst := d,op := .build t ps,type := ty,pos := pos,after := af,guard := g } K f H := Ax (by simp)
@[go_sem] theorem YJ {x y z : Operand} : B7 P T md os ss lk { dst := d,op := .pick x y z,type := ty,pos := pos,after := af,guard := g } K f H = B9 P T md os ss lk { dst := d,op := .pick x y z,type := ty,pos := pos,after := af,guard := g } K f H := AA (by simp)
@[go_sem] theorem YO {x y z : Operand} : B9 P T md os ss lk { dst := d,op := .pick x y z,type := ty,pos := pos,after := af,guard := g } K f H = Ak P T md os ss lk { dst := d,op := .pick x y z,type := ty,pos := pos,after := af,guard := g } K f H := Ax (by simp)
@[go_sem] theorem VP {t : TypeId} : B7 P T md os ss lk { dst := d,op := .alloc t,type := ty,pos := pos,after := af,guard := g } K f H = B9 P T md os ss lk { dst := d,op := .alloc t,type := ty,pos := pos,after := af,guard := g } K f H := AA (by simp)
@[go_sem] theorem Xo {t : TypeId} : B9 P T md os ss lk { dst := d,op := .alloc t,type := ty,pos := pos,after := af,guard := g } K f H = Ak P T md os ss lk { dst := d,op := .alloc t,type := ty,pos := pos,after := af,guard := g } K f H := Ax (by simp)
@[go_sem] theorem ZW {t : TypeId} {x : Operand} : B7 P T md os ss lk { dst := d,op := .box t x,type := ty,pos := pos,after := af,guard := g } K f H = B9 P T md os ss lk { dst := d,op := .box t x,type := ty,pos := pos,after := af,guard := g } K f H := AA (by simp)
@[go_sem] theorem Zr {t : TypeId} {x : Operand} : B9 P T md os ss lk { dst := d,op := .box t x,type := ty,pos := pos,after := af,guard := g } K f H = Ak P T md os ss lk { dst := d,op := .box t x,type := ty,pos := pos,after := af,guard := g } K f H := Ax (by simp)
@[go_sem] theorem Ud {t u : TypeId} {x : Operand} : B7 P T md os ss lk { dst := d,op := .convert t u x,type := ty,pos := pos,after := af,guard := g } K f H = B9 P T md os ss lk { dst := d,op := .convert t u x,type := ty,pos := pos,after := af,guard := g } K f H := AA (by simp)
@[go_sem] theorem UM {t u : TypeId} {x : Operand} : B9 P T md os ss lk { dst := d,op := .convert t u x,type := ty,pos := pos,after := af,guard := g } K f H = Ak P T md os ss lk { dst := d,op := .convert t u x,type := ty,pos := pos,after := af,guard := g } K f H := Ax (by simp)
@[go_sem] theorem QM {t u : TypeId} {x : Operand} {c : Bool} : B7 P T md os ss lk { dst := d,op := .typeAssert x t u c,type := ty,pos := pos,after := af,guard := g } K f H = B9 P T md os ss lk { dst := d,op := .typeAssert x t u c,type := ty,pos := pos,after := af,guard := g } K f H := AA (by simp)
@[go_sem] theorem QP {t u : TypeId} {x : Operand} {c : Bool} : B9 P T md os ss lk { dst := d,op := .typeAssert x t u c,type := ty,pos := pos,after := af,guard := g } K f H = Ak P T md os ss lk { dst := d,op := .typeAssert x t u c,type := ty,pos := pos,after := af,guard := g } K f H := Ax (by simp)
@[go_sem] theorem O6 {t : TypeId} {x : Operand} : B7 P T md os ss lk { dst := d,op := .makeInterface t x,type := ty,pos := pos,after := af,guard := g } K f H = B9 P T md os ss lk { dst := d,op := .makeInterface t x,type := ty,pos := pos,after := af,guard := g } K f H := AA (by simp)
@[go_sem] theorem OQ {t : TypeId} {x : Operand} : B9 P T md os ss lk { dst := d,op := .makeInterface t x,type := ty,pos := pos,after := af,guard := g } K f H = Ak P T md os ss lk { dst := d,op := .makeInterface t x,type := ty,pos := pos,after := af,guard := g } K f H := Ax (by simp)
@[go_sem] theorem Wb {t : TypeId} {x : Operand} {n : Nat} : B7 P T md os ss lk { dst := d,op := .field t x n,type := ty,pos := pos,after := af,guard := g } K f H = B9 P T md os ss lk { dst := d,op := .field t x n,type := ty,pos := pos,after := af,guard := g } K f H := AA (by simp)
@[go_sem] theorem Xd {t : TypeId} {x : Operand} {n : Nat} : B9 P T md os ss lk { dst := d,op := .field t x n,type := ty,pos := pos,after := af,guard := g } K f H = Ak P T md os ss lk { dst := d,op := .field t x n,type := ty,pos := pos,after := af,guard := g } K f H := Ax (by simp)
@[go_sem] theorem Vs {t : TypeId} {x y : Operand} {c : Bool} : B7 P T md os ss lk { dst := d,op := .lookup t x y c,type := ty,pos := pos,after := af,guard := g } K f H = B9 P T md os ss lk { dst := d,op := .lookup t x y c,type := ty,pos := pos,after := af,guard := g } K f H := AA (by simp)
@[go_sem] theorem V8 {t : TypeId} {x y : Operand} {c : Bool} : B9 P T md os ss lk { dst := d,op := .lookup t x y c,type := ty,pos := pos,after := af,guard := g } K f H = Ak P T md os ss lk { dst := d,op := .lookup t x y c,type := ty,pos := pos,after := af,guard := g } K f H := Ax (by simp)
@[go_sem] theorem T1 {x : Operand} : B7 P T md os ss lk { dst := d,op := .nilCheck x,type := ty,pos := pos,after := af,guard := g } K f H = B9 P T md os ss lk { dst := d,op := .nilCheck x,type := ty,pos := pos,after := af,guard := g } K f H := AA (by simp)
@[go_sem] theorem T5 {x : Operand} : B9 P T md os ss lk { dst := d,op := .nilCheck x,type := ty,pos := pos,after := af,guard := g } K f H = Ak P T md os ss lk { dst := d,op := .nilCheck x,type := ty,pos := pos,after := af,guard := g } K f H := Ax (by simp)
end
end Cp
namespace Cp
open Go
section
variable {P : Program} {T : Tab} {md : Me} {os : List Oper} {K : Fr → Hp → Prop} {f : Fr} {H H' : Hp} {d : Option Tmp} {ty : TypeId} {pos : String} {af : Array Edge} {g : Option (Nat × Bool)} {ss lk : List Nat}
theorem AC {o : Oper} (h : ∀ a,o.op ≠ .call a) : Cu P T md os ss lk o K f H = B7 P T md os ss lk o K f H := by
 unfold Cu
 split
 ·rename_i h1 _; exact absurd h1 (h _)
 ·rename_i h1 _; exact absurd h1 (h _)
 ·rfl
@[go_sem] theorem YS {x : Operand} : Cu P T md os ss lk { dst := d,op := .move x,type := ty,pos := pos,after := af,guard := g } K f H = B7 P T md os ss lk { dst := d,op := .move x,type := ty,pos := pos,after := af,guard := g } K f H := AC (by simp)
@[go_sem] theorem VH {x : Operand} : Cu P T md os ss lk { dst := d,op := .assign x,type := ty,pos := pos,after := af,guard := g } K f H = B7 P T md os ss lk { dst := d,op := .assign x,type := ty,pos := pos,after := af,guard := g } K f H := AC (by simp)
@[go_sem] theorem YY {t : TypeId} {x : Operand} : Cu P T md os ss lk { dst := d,op := .load t x,type := ty,pos := pos,after := af,guard := g } K f H = B7 P T md os ss lk { dst := d,op := .load t x,type := ty,pos := pos,after := af,guard := g } K f H := AC (by simp)
@[go_sem] theorem Xm {t : TypeId} {x y : Operand} : Cu P T md os ss lk { dst := d,op := .store t x y,type := ty,pos := pos,after := af,guard := g } K f H = B7 P T md os ss lk { dst := d,op := .store t x y,type := ty,pos := pos,after := af,guard := g } K f H := AC (by simp)
@[go_sem] theorem Ys {p : UnOp} {t : TypeId} {x : Operand} : Cu P T md os ss lk { dst := d,op := .unOp p t x,type := ty,pos := pos,after := af,guard := g } K f H = B7 P T md os ss lk { dst := d,op := .unOp p t x,type := ty,pos := pos,after := af,guard := g } K f H := AC (by simp)
@[go_sem] theorem SS {t : TypeId} {x : Operand} {n : Nat} : Cu P T md os ss lk { dst := d,op := .fieldAddr t x n,type := ty,pos := pos,after := af,guard := g } K f H = B7 P T md os ss lk { dst := d,op := .fieldAddr t x n,type := ty,pos := pos,after := af,guard := g } K f H := AC (by simp)
@[go_sem] theorem Wy {p : BinOp} {t u : TypeId} {x y : Operand} : Cu P T md os ss lk { dst := d,op := .binOp p t x y u,type := ty,pos := pos,after := af,guard := g } K f H = B7 P T md os ss lk { dst := d,op := .binOp p t x y u,type := ty,pos := pos,after := af,guard := g } K f H := AC (by simp)
@[go_sem] theorem Rf {t : TypeId} {x y : Operand} : Cu P T md os ss lk { dst := d,op := .indexAddr t x y,type := ty,pos := pos,after := af,guard := g } K f H = B7 P T md os ss lk { dst := d,op := .indexAddr t x y,type := ty,pos := pos,after := af,guard := g } K f H := AC (by simp)
@[go_sem] theorem V0 {x : Operand} {n : Nat} : Cu P T md os ss lk { dst := d,op := .extract x n,type := ty,pos := pos,after := af,guard := g } K f H = B7 P T md os ss lk { dst := d,op := .extract x n,type := ty,pos := pos,after := af,guard := g } K f H := AC (by simp)
@[go_sem] theorem WS {t : TypeId} {ps : Array (Nat × Operand)} : Cu P T md os ss lk { dst := d,op := .build t ps,type := ty,pos := pos,after := af,guard := g } K f H = B7 P T md os ss lk { dst := d,op := .build t ps,type := ty,pos := pos,after := af,guard := g } K f H := AC (by simp)
@[go_sem] theorem Z3 {x y z : Operand} : Cu P T md os ss lk { dst := d,op := .pick x y z,type := ty,pos := pos,after := af,guard := g } K f H = B7 P T md os ss lk { dst := d,op := .pick x y z,type := ty,pos := pos,after := af,guard := g } K f H := AC (by simp)
@[go_sem] theorem Wm {t : TypeId} : Cu P T md os ss lk { dst := d,op := .alloc t,type := ty,pos := pos,after := af,guard := g } K f H = B7 P T md os ss lk { dst := d,op := .alloc t,type := ty,pos := pos,after := af,guard := g } K f H := AC (by simp)
@[go_sem] theorem aM {t : TypeId} {x : Operand} : Cu P T md os ss lk { dst := d,op := .box t x,type := ty,pos := pos,after := af,guard := g } K f H = B7 P T md os ss lk { dst := d,op := .box t x,type := ty,pos := pos,after := af,guard := g } K f H := AC (by simp)
@[go_sem] theorem U2 {t u : TypeId} {x : Operand} : Cu P T md os ss lk { dst := d,op := .convert t u x,type := ty,pos := pos,after := af,guard := g } K f H = B7 P T md os ss lk { dst := d,op := .convert t u x,type := ty,pos := pos,after := af,guard := g } K f H := AC (by simp)
@[go_sem] theorem QQ {t u : TypeId} {x : Operand} {c : Bool} : Cu P T md os ss lk { dst := d,op := .typeAssert x t u c,type := ty,pos := pos,after := af,guard := g } K f H = B7 P T md os ss lk { dst := d,op := .typeAssert x t u c,type := ty,pos := pos,after := af,guard := g } K f H := AC (by simp)
@[go_sem] theorem Oo {t : TypeId} {x : Operand} : Cu P T md os ss lk { dst := d,op := .makeInterface t x,type := ty,pos := pos,after := af,guard := g } K f H = B7 P T md os ss lk { dst := d,op := .makeInterface t x,type := ty,pos := pos,after := af,guard := g } K f H := AC (by simp)
@[go_sem] theorem WR {t : TypeId} {x : Operand} {n : Nat} : Cu P T md os ss lk { dst := d,op := .field t x n,type := ty,pos := pos,after := af,guard := g } K f H = B7 P T md os ss lk { dst := d,op := .field t x n,type := ty,pos := pos,after := af,guard := g } K f H := AC (by simp)
@[go_sem] theorem Va {t : TypeId} {x y : Operand} {c : Bool} : Cu P T md os ss lk { dst := d,op := .lookup t x y c,type := ty,pos := pos,after := af,guard := g } K f H = B7 P T md os ss lk { dst := d,op := .lookup t x y c,type := ty,pos := pos,after := af,guard := g } K f H := AC (by simp)
@[go_sem] theorem Td {x : Operand} : Cu P T md os ss lk { dst := d,op := .nilCheck x,type := ty,pos := pos,after := af,guard := g } K f H = B7 P T md os ss lk { dst := d,op := .nilCheck x,type := ty,pos := pos,after := af,guard := g } K f H := AC (by simp)
@[go_sem] theorem Xj {h : Operand} {xs : Array Operand} {ts : Array TypeId} : Cu P T md os ss lk { dst := d,op := .call { callee := .value h,args := xs,argTypes := ts },type := ty,pos := pos,after := af,guard := none } K f H = B7 P T md os ss lk { dst := d,op := .call { callee := .value h,args := xs,argTypes := ts },type := ty,pos := pos,after := af,guard := none } K f H := rfl
@[go_sem] theorem W5 {h : Operand} {xs : Array Operand} {ts : Array TypeId} {j : Nat} {b : Bool} : Cu P T md os ss lk { dst := d,op := .call { callee := .value h,args := xs,argTypes := ts },type := ty,pos := pos,after := af,guard := some (j,b) } K f H = yvG P d K f H (xs.toList.map (ev f)) b ((opd os j).map f) (B7 P T md os ss lk { dst := d,op := .call { callee := .value h,args := xs,argTypes := ts },type := ty,pos := pos,after := af,guard := some (j,b) } K f H) (ev f h) := rfl
@[go_sem] theorem YK {r : Operand} {m : String} {xs : Array Operand} {ts : Array TypeId} : Cu P T md os ss lk { dst := d,op := .call { callee := .invoke r m,args := xs,argTypes := ts },type := ty,pos := pos,after := af,guard := none } K f H = B7 P T md os ss lk { dst := d,op := .call { callee := .invoke r m,args := xs,argTypes := ts },type := ty,pos := pos,after := af,guard := none } K f H := rfl
@[go_sem] theorem Yy {r : Operand} {m : String} {xs : Array Operand} {ts : Array TypeId} {j : Nat} {b : Bool} : Cu P T md os ss lk { dst := d,op := .call { callee := .invoke r m,args := xs,argTypes := ts },type := ty,pos := pos,after := af,guard := some (j,b) } K f H = gdK b (MG P md d K f H m (xs.toList.map (ev f)) (ev f r)) (K (put f d (.tup [])) H) ((opd os j).map f) := rfl
@[go_sem] theorem Ug {b : Builtin} {xs : Array Operand} {ts : Array TypeId} : Cu P T md os ss lk { dst := d,op := .call { callee := .builtin b,args := xs,argTypes := ts },type := ty,pos := pos,after := af,guard := g } K f H = B7 P T md os ss lk { dst := d,op := .call { callee := .builtin b,args := xs,argTypes := ts },type := ty,pos := pos,after := af,guard := g } K f H := by cases g <;> rfl
@[go_sem] theorem WX {h : Operand} {xs : Array Operand} {ts : Array TypeId} {j : Nat} {b : Bool} : B9 P T md os ss lk { dst := d,op := .call { callee := .value h,args := xs,argTypes := ts },type := ty,pos := pos,after := af,guard := some (j,b) } K f H = Ak P T md os ss lk { dst := d,op := .call { callee := .value h,args := xs,argTypes := ts },type := ty,pos := pos,after := af,guard := some (j,b) } K f H := rfl
@[go_sem] theorem dE {xs : List Val} {b : Bool} {gv : Option Val} {r : Prop} {k e : Nat} : yvG P d K f H xs b gv r (.yld k e) = gdK b (Rr P d K f H k e xs) (K (put f d (.tup [])) H) gv := rfl
@[go_sem] theorem gS {xs : List Val} {b : Bool} {gv : Option Val} {r : Prop} {i : FuncId} {cs : List Val} : yvG P d K f H xs b gv r (.fn i cs) = r := rfl
@[go_sem] theorem dh {xs : List Val} {b : Bool} {gv : Option Val} {r : Prop} {vs : List Val} : yvG P d K f H xs b gv r (.tup vs) = r := rfl
@[go_sem] theorem ab {b c : Bool} {A B : Prop} : gdK b A B (some (.bool c)) = if c = b then A else B := rfl
@[go_sem] theorem Zh {b : Bool} {A B : Prop} : gdK b A B (some (.tup [])) = B := rfl
end
theorem LN {P : Program} {ro : Option Nat} {X : Cx} {c : Code} {Q : Exit → Fr → Hp → Prop} {f : Fr} {H : Hp} (n : Nat) (h : ∀ H' : Hp,(∀ j,j < n → H' j = H j) → (∀ j,n ≤ j → H' j = none) → AW P ro X c Q f H') : AW P ro X c Q f H :=
 Jw (fun j => if j < n then H j else none) (fun j => by
  by_cases hj : j < n
  ·exact .inr (if_pos hj)
  ·exact .inl (if_neg hj)) (h _ (fun j hj => if_pos hj) fun j hj => if_neg (by omega))
@[go_sem] theorem YQ {H : Hp} {n : Nat} : fzd H n .nilp = .nilp := by cases n <;> rfl
def VM (n : Nat) (cs : List Val) : Option TI → Option Val
 | some ei => if ei.sz = 1 ∧ n ≤ cs.length then some (.lst 1 ((cs.take n).map fun c => [c])) else none
 | none => none
@[go_sem] theorem YM {n s b : Nat} {cs : List Val} {k : TK} {z : Val} {p : Bool} : VM n cs (some ⟨k,s,b,z,p⟩) = if s = 1 ∧ n ≤ cs.length then some (.lst 1 ((cs.take n).map fun c => [c])) else none := rfl
@[go_sem] theorem Vb {T : Tab} {H : Hp} {n et : Nat} {cs : List Val} : Dp T H (.pim cs) none none none (.array n et) = VM n cs (T et) := by
 simp only [Dp,VM]
 cases T et <;> rfl
attribute [go_sem] List.take_succ_cons List.take_zero List.map_cons List.map_nil
end Cp
namespace Cp
open Go
section
variable {P : Program} {T : Tab} {md : Me} {os : List Oper} {K : Fr → Hp → Prop} {f : Fr} {H : Hp} {d : Option Tmp} {ty : TypeId} {pos : String} {af : Array Edge} {g : Option (Nat × Bool)} {ss lk : List Nat}
 {s b : Nat} {z : Val} {p : Bool}
def MA (z : Val) : Option (Option (Nat × Val)) → Option Val
 | none => none
 | some none => some (.tup [z,.bool false])
 | some (some (_,v)) => some (.tup [v,.bool true])
@[go_sem] theorem lkF2_no : MA z (some none) = some (.tup [z,.bool false]) := rfl
@[go_sem] theorem al {i : Nat} {v : Val} : MA z (some (some (i,v))) = some (.tup [v,.bool true]) := rfl
def O9 (T : Tab) (kt : TypeId) (key : Val) (z : Val) (e : Nat) (ck : Bool) : Option (Nat × AObj) → Option Val
 | some (e',.map _ es) => if e = e' ∧ ck = true then MA z (B3 T kt key es 0) else none
 | some (e',.frm _ es) => if e = e' ∧ ck = true then MA z (B3 T kt key es 0) else none
 | _ => none
@[go_sem] theorem aj {kt : TypeId} {key : Val} {e e' ver : Nat} {ck : Bool} {es : List (Val × Val)} : O9 T kt key z e ck (some (e',.map ver es)) = if e = e' ∧ ck = true then MA z (B3 T kt key es 0) else none := rfl
@[go_sem] theorem Z6 {kt : TypeId} {key : Val} {e e' ver : Nat} {ck : Bool} {es : List (Val × Val)} : O9 T kt key z e ck (some (e',.frm ver es)) = if e = e' ∧ ck = true then MA z (B3 T kt key es 0) else none := rfl
def Tn (T : Tab) (H : Hp) (kt : TypeId) (key : Val) (k e : Nat) : Option TI → Option TI → Option Val
 | some ki,some vi => O9 T kt key vi.zero e (xck T 8 ki key) (H k)
 | _,_ => none
@[go_sem] theorem YA {kt : TypeId} {key : Val} {k e : Nat} {ki vi : TI} : Tn T H kt key k e (some ki) (some vi) = O9 T kt key vi.zero e (xck T 8 ki key) (H k) := rfl
def lkU (T : Tab) (H : Hp) (key : Val) (k e : Nat) : Option TI → Option Val
 | some { kind := .map kt vt,.. } => Tn T H kt key k e (T kt) (T vt)
 | _ => none
@[go_sem] theorem cq {key : Val} {k e kt vt : Nat} : lkU T H key k e (some ⟨.map kt vt,s,b,z,p⟩) = Tn T H kt key k e (T kt) (T vt) := rfl
@[go_sem] theorem Vl {t : TypeId} {k e : Nat} {key : Val} : BI T H t (.map k e) key true = lkU T H key k e (T t) := by
 unfold BI lkU
 cases T t with
 | none => rfl
 | some ti =>
  obtain ⟨kind,_,_,_,_⟩ := ti
  cases kind <;> try rfl
  rename_i kt vt
  simp only [Tn]
  cases T kt with
  | none => rfl
  | some ki =>
   cases T vt with
   | none => rfl
   | some vi =>
    simp only
    have hF : ∀ es : List (Val × Val),(match B3 T kt key es 0 with | none => none | some none => some (if true = true then Val.tup [vi.zero,.bool false] else vi.zero) | some (some (_,v)) => some (if true = true then Val.tup [v,.bool true] else v)) = MA vi.zero (B3 T kt key es 0) := fun es => by
     cases B3 T kt key es 0 with
     | none => rfl
     | some q => cases q <;> rfl
    cases hc : xck T 8 ki key with
    | false =>
     cases H k with
     | none => rfl
     | some q => obtain ⟨e',o⟩ := q; cases o <;> simp [O9]
    | true =>
     cases H k with
     | none => rfl
     | some q =>
      obtain ⟨e',o⟩ := q
      cases o <;> try rfl
      all_goals
       by_cases he : e = e'
       ·subst he; simp only [if_true,O9,and_self]; exact hF _
       ·simp [O9,he]
def miT (t : TypeId) (x : Val) : Option TI → Option Val
 | some ti => match ti.kind with | .iface => none | _ => some (.iface t x)
 | none => none
@[go_sem] theorem Pi {t : TypeId} {x : Val} : B6 T t x = miT t x (T t) := by
 unfold B6 miT
 cases T t <;> rfl
@[go_sem] theorem WW {t : TypeId} {x : Val} {fs : List (Nat × Nat)} : miT t x (some ⟨.struct fs,s,b,z,p⟩) = some (.iface t x) := rfl
def taT (x : Val) (t : TypeId) (ok : Bool) : Option TI → Option Val
 | some ti => match x with
  | .iface u v => match ti.kind with
   | .iface => none
   | _ => if u = t then some (if ok then .tup [v,.bool true] else v) else if ok then some (.tup [ti.zero,.bool false]) else none
  | _ => none
 | none => none
@[go_sem] theorem Ss {x : Val} {t : TypeId} {ok : Bool} : BG T x t ok = taT x t ok (T t) := by
 unfold BG taT
 cases T t with
 | none => rfl
 | some ti => cases x <;> rfl
@[go_sem] theorem WF {u t : TypeId} {v : Val} {fs : List (Nat × Nat)} : taT (.iface u v) t true (some ⟨.struct fs,s,b,z,p⟩) = if u = t then some (.tup [v,.bool true]) else some (.tup [z,.bool false]) := by
 simp [taT]
end
@[go_sem] theorem ac {f : Fr} : ev f (.global 0) = .pim [.fn 160 [],.fn 161 []] := rfl
end Cp
namespace Cp
open Go Go.Proofs
set_option maxRecDepth 10000
theorem WM (lo hi n : Int) : PureC Tryz.prog 79 [.int .i64 n,.pim [.int .i64 lo],.pim [.int .i64 hi]] (.bool (!decide (lo ≤ n ∧ n ≤ hi))) := by
 refine A8 (fn := Tryz.f79) tabOK (by kernel_rfl) rfl (by kernel_rfl) (by simp [Tryz.f79]) (by simp [noids,noid,noidss,go_sem]) (by first | rfl | simp [noids,noid,noidss,go_sem]) ?_
 intro X hX0 hXs
 repeat' (first | with_reducible (first | (refine sk ?_; intro K hK) | apply_assumption -exfalso -symm only [*]) | ((with_reducible first | refine rg (h := ?_) | refine nx ?_); try simp (disch := omega) only [go_sem,simprocAttr]) | ((with_reducible refine Ab ?_ ?_) <;> intro hg <;> (try simp (disch := omega) only [hg,go_sem,simprocAttr]) <;> (try simp only [go_sem,simprocAttr] at hg) <;> (try (exfalso; omega))) | ((with_reducible refine fe ?_); refine ⟨_,(by simp only [Tryz.f79,go_sem,simprocAttr]; rfl),?_⟩; (try simp only [go_sem,simprocAttr,seval])) | fail)
 ·simp; omega
 ·rw [Bool.eq_iff_iff]; simp; omega
theorem J8 (xs : List Int) (hx : xs.length ≤ 4611686018427387904) (g : FuncId) (caps : List Val) (hc : noids caps = true) (p : Int → Bool) (hp : ∀ x ∈ xs,PureC Tryz.prog g (.int .i64 x :: caps) (.bool (p x))) :
  PureC Tryz.prog 48 [.lst 1 (Cv xs),.fn g caps] (.int .i64 (Ay p xs 0)) := by
 refine A8 (fn := Tryz.f48) tabOK (by kernel_rfl) rfl (by kernel_rfl) (by simp [Tryz.f48]) (by simp [noids,noid,noidss,go_sem,hc]) (by first | rfl | simp [noids,noid,noidss,go_sem,hc]) ?_
 intro X hX0 hXs
 repeat' (first | with_reducible (first | (refine sk ?_; intro K hK) | apply_assumption -exfalso -symm only [*]) | ((with_reducible refine rg (h := ?_)); try simp (disch := omega) only [go_sem,simprocAttr]) | fail)
 refine Av tabOK xs.length (fun k f H => f 0 = .lst 1 (Cv xs) ∧ f 1 = .fn g caps ∧ H = none0 ∧ Ay p xs 0 = Ay p (xs.drop k) k) hx (by rw [hXs]; decide) (by decide) (by simp only [go_sem,simprocAttr]) (by simp only [go_sem,simprocAttr]) ⟨by simp only [go_sem,simprocAttr],by simp only [go_sem,simprocAttr],rfl,by simp⟩ ?_ ?_
 ·rintro k f H hk h8 h7 ⟨h0,h1,rfl,hr⟩
  obtain ⟨x,hx⟩ : ∃ x,xs[k]? = some x := ⟨_,List.getElem?_eq_getElem hk⟩
  repeat' (first | with_reducible (first | (refine sk ?_; intro K hK) | apply_assumption -exfalso -symm only [*]) | ((first | (with_reducible first | refine rg (h := ?_) | refine nx ?_) | refine pK (hp x (List.mem_of_getElem? hx)) ?_); try simp (disch := omega) only [h0,h1,h8,h7,hx,go_sem,simprocAttr]) | ((with_reducible refine' cE ?hv ?_ ?_); (case hv => rfl); all_goals (intro hc)) | ((with_reducible refine fe ?_); refine ⟨_,(by simp only [Tryz.f48,h0,h1,h8,h7,hx,go_sem,simprocAttr]; rfl),?_⟩; (try simp only [h0,h1,h8,h7,hx,go_sem,simprocAttr,seval])) | fail)
  ·rw [hr,Am hx]; simp [Ay,hc]
  ·rw [hr,Am hx]; simp [Ay,hc]
 ·rintro f H h8 h7 ⟨h0,h1,rfl,hr⟩
  repeat' (first | with_reducible (first | (refine sk ?_; intro K hK) | apply_assumption -exfalso -symm only [*]) | ((with_reducible first | refine rg (h := ?_) | refine nx ?_); try simp (disch := omega) only [go_sem,simprocAttr]) | ((with_reducible refine fe ?_); refine ⟨_,(by simp only [Tryz.f48,go_sem,simprocAttr]; rfl),?_⟩; (try simp only [go_sem,simprocAttr,seval])) | fail)
  rw [hr]; simp [Ay]
theorem FH (xs : List Int) (hx : xs.length ≤ 4611686018427387904) (g : FuncId) (caps : List Val) (hc : noids caps = true) (p : Int → Bool) (hp : ∀ x ∈ xs,PureC Tryz.prog g (.int .i64 x :: caps) (.bool (p x))) :
  PureC Tryz.prog 78 [.lst 1 (Cv xs),.fn g caps] (.bool (xs.any p)) := by
 refine A8 (fn := Tryz.f78) tabOK (by kernel_rfl) rfl (by kernel_rfl) (by simp [Tryz.f78]) (by simp [noids,noid,noidss,go_sem,hc]) (by first | rfl | simp [noids,noid,noidss,go_sem,hc]) ?_
 intro X hX0 hXs
 repeat' (first | with_reducible (first | (refine sk ?_; intro K hK) | apply_assumption -exfalso -symm only [*]) | ((first | (with_reducible first | refine rg (h := ?_) | refine nx ?_) | refine pK (J8 xs hx g caps hc p hp) ?_); try simp (disch := omega) only [go_sem,simprocAttr]) | ((with_reducible refine fe ?_); refine ⟨_,(by simp only [Tryz.f78,go_sem,simprocAttr]; rfl),?_⟩; (try simp only [go_sem,simprocAttr,seval])) | fail)
 exact Jo (Int.le_refl 0)
theorem Sw (xs : List Int) (hx : xs.length ≤ 4611686018427387904) (lo hi : Int) : PureC Tryz.prog 59 [.int .i64 lo,.int .i64 hi,.lst 1 (Cv xs)] (.bool (xs.all fun n => decide (lo ≤ n ∧ n ≤ hi))) := by
 refine A8 (fn := Tryz.f59) tabOK (by kernel_rfl) rfl (by kernel_rfl) (by simp [Tryz.f59]) (by simp [noids,noid,noidss,go_sem]) (by first | rfl | simp [noids,noid,noidss,go_sem]) ?_
 intro X hX0 hXs
 repeat' (first | with_reducible (first | (refine sk ?_; intro K hK) | apply_assumption -exfalso -symm only [*]) | ((first | (with_reducible first | refine rg (h := ?_) | refine nx ?_) | refine pK (FH xs hx _ _ (by rfl) (fun n => !decide (lo ≤ n ∧ n ≤ hi)) (fun n _ => WM lo hi n)) ?_); try simp (disch := omega) only [go_sem,simprocAttr]) | ((with_reducible refine fe ?_); refine ⟨_,(by simp only [Tryz.f59,go_sem,simprocAttr]; rfl),?_⟩; (try simp only [go_sem,simprocAttr,seval])) | fail)
 simp [List.all_eq_not_any_not]
theorem Ge (lo hi a : Int) : PureC Tryz.prog 59 [.int .i64 lo,.int .i64 hi,.lst 1 [[.int .i64 a]]] (.bool (decide (lo ≤ a ∧ a ≤ hi))) := by
 have := Sw [a] (by simp) lo hi
 simpa [Cv] using this
theorem Z5 (lo hi a b : Int) : PureC Tryz.prog 59 [.int .i64 lo,.int .i64 hi,.lst 1 [[.int .i64 a],[.int .i64 b]]] (.bool (decide ((lo ≤ a ∧ a ≤ hi) ∧ lo ≤ b ∧ b ≤ hi))) := by
 have := Sw [a,b] (by simp) lo hi
 simpa [Cv] using this
theorem ES (s : Span) (lo hi : Int) : PureC Tryz.prog 77 [.int .i64 lo,.int .i64 hi,A6 s] (.bool (decide (lo ≤ s.lo ∧ s.lo ≤ s.hi ∧ s.hi ≤ hi))) := by
 refine A8 (fn := Tryz.f77) tabOK (by kernel_rfl) rfl (by kernel_rfl) (by simp [Tryz.f77]) (by simp [noids,noid,noidss,go_sem,A6]) (by first | rfl | simp [noids,noid,noidss,go_sem,A6]) ?_
 intro X hX0 hXs
 repeat' (first | with_reducible (first | (refine sk ?_; intro K hK) | apply_assumption -exfalso -symm only [*]) | ((first | (with_reducible first | refine rg (h := ?_) | refine nx ?_) | refine pK (Z5 _ _ _ _) ?_); try simp (disch := omega) only [A6,go_sem,simprocAttr]) | ((with_reducible refine Ab ?_ ?_) <;> intro hg <;> (try simp (disch := omega) only [hg,A6,go_sem,simprocAttr]) <;> (try simp only [go_sem,simprocAttr] at hg) <;> (try (exfalso; omega))) | ((with_reducible refine fe ?_); refine ⟨_,(by simp only [Tryz.f77,A6,go_sem,simprocAttr]; rfl),?_⟩; (try simp only [A6,go_sem,simprocAttr,seval])) | fail)
 all_goals (rw [Bool.eq_iff_iff]; simp; omega)
theorem RV (a : Int) : PureC Tryz.prog 134 [.int .i64 a] (.bool false) := by
 refine A8 (fn := Tryz.f134) tabOK (by kernel_rfl) rfl (by kernel_rfl) (by simp [Tryz.f134]) (by simp [noids,noid,noidss,go_sem]) (by first | rfl | simp [noids,noid,noidss,go_sem]) ?_
 intro X hX0 hXs
 repeat' (first | with_reducible (first | (refine sk ?_; intro K hK) | apply_assumption -exfalso -symm only [*]) | ((with_reducible first | refine rg (h := ?_) | refine nx ?_); try simp (disch := omega) only [go_sem,simprocAttr]) | ((with_reducible refine fe ?_); refine ⟨_,(by simp only [Tryz.f134,go_sem,simprocAttr]; rfl),?_⟩; rfl) | fail)
 try simp
def Fe (a b : Int) : Int := if a < b then -1 else if b < a then 1 else 0
theorem EI (a b : Int) : PureC Tryz.prog 116 [.int .i64 a,.int .i64 b] (.int .i64 (Fe a b)) := by
 refine A8 (fn := Tryz.f116) tabOK (by kernel_rfl) rfl (by kernel_rfl) (by simp [Tryz.f116]) (by simp [noids,noid,noidss,go_sem]) (by first | rfl | simp [noids,noid,noidss,go_sem]) ?_
 intro X hX0 hXs
 repeat' (first | with_reducible (first | (refine sk ?_; intro K hK) | apply_assumption -exfalso -symm only [*]) | ((first | (with_reducible first | refine rg (h := ?_) | refine nx ?_) | refine pK (RV _) ?_); try simp (disch := omega) only [go_sem,simprocAttr]) | ((with_reducible refine' cE ?hv ?_ ?_); (case hv => rfl); all_goals (intro hc; (try simp only [go_sem,simprocAttr] at hc))) | ((with_reducible refine fe ?_); refine ⟨_,(by simp only [Tryz.f116,go_sem,simprocAttr]; rfl),?_⟩; (try simp only [go_sem,simprocAttr,seval])) | fail)
 all_goals (simp only [Fe]; grind)
end Cp
namespace Cp
open Go Go.Proofs
set_option maxRecDepth 10000
theorem B0 (n lo hi : Int) : PureC Tryz.prog 71 [.int .i64 n,.int .i64 lo,.int .i64 hi] (.bool (decide (lo ≤ n ∧ n ≤ hi))) := by
 refine A8 (fn := Tryz.f71) tabOK (by kernel_rfl) rfl (by kernel_rfl) (by simp [Tryz.f71]) (by simp [noids,noid,noidss,go_sem]) (by first | rfl | simp [noids,noid,noidss,go_sem]) ?_
 intro X hX0 hXs
 repeat' (first | with_reducible (first | (refine sk ?_; intro K hK) | apply_assumption -exfalso -symm only [*]) | ((with_reducible first | refine rg (h := ?_) | refine nx ?_); try simp (disch := omega) only [go_sem,simprocAttr]) | ((with_reducible refine Ab ?_ ?_) <;> intro hg <;> (try simp (disch := omega) only [hg,go_sem,simprocAttr]) <;> (try simp only [go_sem,simprocAttr] at hg) <;> (try (exfalso; omega))) | ((with_reducible refine fe ?_); refine ⟨_,(by simp only [Tryz.f71,go_sem,simprocAttr]; rfl),?_⟩; (try simp only [go_sem,simprocAttr,seval])) | fail)
 all_goals (rw [Bool.eq_iff_iff]; simp; omega)
theorem Cr (s : Span) (lo hi : Int) : PureC Tryz.prog 119 [A6 s,.int .i64 lo,.int .i64 hi] (.bool (decide (lo ≤ s.lo ∧ s.lo ≤ s.hi ∧ s.hi ≤ hi))) := by
 refine A8 (fn := Tryz.f119) tabOK (by kernel_rfl) rfl (by kernel_rfl) (by simp [Tryz.f119]) (by simp [noids,noid,noidss,go_sem,A6]) (by first | rfl | simp [noids,noid,noidss,go_sem,A6]) ?_
 intro X hX0 hXs
 repeat' (first | with_reducible (first | (refine sk ?_; intro K hK) | apply_assumption -exfalso -symm only [*]) | ((with_reducible first | refine rg (h := ?_) | refine nx ?_); try simp (disch := omega) only [A6,go_sem,simprocAttr]) | ((with_reducible refine Ab ?_ ?_) <;> intro hg <;> (try simp (disch := omega) only [hg,A6,go_sem,simprocAttr]) <;> (try simp only [go_sem,simprocAttr] at hg) <;> (try (exfalso; omega))) | ((with_reducible refine fe ?_); refine ⟨_,(by simp only [Tryz.f119,A6,go_sem,simprocAttr]; rfl),?_⟩; (try simp only [A6,go_sem,simprocAttr,seval])) | fail)
 all_goals (rw [Bool.eq_iff_iff]; simp; omega)
theorem L5 (l : List Pt) (hl : l.length ≤ 4611686018427387904) : PureC Tryz.prog 118 [.lst 2 (l.map cPt)] (.bool (BX l)) := by
 refine A8 (fn := Tryz.f118) tabOK (by kernel_rfl) rfl (by kernel_rfl) (by simp [Tryz.f118]) (by simp [noids,noid,noidss,go_sem]) (by first | rfl | simp [noids,noid,noidss,go_sem]) ?_
 intro X hX0 hXs
 by_cases hne : l = []
 ·subst hne
  repeat' (first | with_reducible (first | (refine sk ?_; intro K hK) | apply_assumption -exfalso -symm only [*]) | ((first | (with_reducible first | refine rg (h := ?_) | refine nx ?_) | refine pK (B0 _ _ _) ?_); try simp (disch := omega) only [go_sem,simprocAttr]) | ((with_reducible refine' cE ?hv ?_ ?_); (case hv => rfl); all_goals (intro hc; (try simp only [go_sem,simprocAttr] at hc))) | ((with_reducible refine fe ?_); refine ⟨_,(by simp only [Tryz.f118,go_sem,simprocAttr]; rfl),?_⟩; rfl) | fail)
  try rfl
 ·obtain ⟨p0,hp0⟩ : ∃ x,l[0]? = some x := ⟨_,List.getElem?_eq_getElem (List.length_pos_iff.2 hne)⟩
  repeat' (first | with_reducible (first | (refine sk ?_; intro K hK) | apply_assumption -exfalso -symm only [*]) | ((first | (with_reducible first | refine rg (h := ?_) | refine nx ?_) | refine pK (B0 _ _ _) ?_); try simp (disch := omega) only [hp0,cPt,go_sem,simprocAttr]) | ((with_reducible refine' cE ?hv ?_ ?_); (case hv => rfl); all_goals (intro hc; (try simp only [go_sem,simprocAttr] at hc))) | ((with_reducible refine Ab ?_ ?_) <;> intro hg <;> (try simp (disch := omega) only [hg,hp0,cPt,go_sem,simprocAttr]) <;> (try simp only [go_sem,simprocAttr] at hg) <;> (try (exfalso; omega))) | ((with_reducible refine fe ?_); refine ⟨_,(by simp only [Tryz.f118,hp0,cPt,go_sem,simprocAttr]; rfl),?_⟩; (try simp only [hp0,cPt,go_sem,simprocAttr,seval])) | fail)
  all_goals first | grind [E3 hp0] | skip
  ·have e0 : BX l = AY ⟨-1,0⟩ l := by rw [E3 hp0]; simp [hc]; omega
   refine An (AK (fun n f H => ∃ k : Nat,n = l.length - k ∧ k ≤ l.length ∧ (f 0 = .lst 2 (l.map cPt) ∧ f 3 = .int .i64 k ∧ H = none0) ∧ ∃ a : Pt,(k = 0 → a = ⟨-1,0⟩) ∧ (∀ j,k = j + 1 → l[j]? = some a) ∧ -1 ≤ a.m ∧ 0 ≤ a.d ∧ a.m ≤ 600 ∧ BX l = AY a (l.drop k)) l.length
    ⟨0,by simp,Nat.zero_le _,by (and_intros <;> first | rfl | (simp only [go_sem,simprocAttr]; done) | (simp only [go_sem,simprocAttr]; rfl)),⟨-1,0⟩,by simp,by simp,by simp,by simp,by simp,e0⟩ ?_)
   rintro n f H ⟨k,rfl,hk,⟨h0,h3,rfl⟩,a,ha0,ha1,ha2,ha3,ha4,hr⟩
   by_cases hlt : k < l.length
   ·obtain ⟨x,hx⟩ : ∃ x,l[k]? = some x := ⟨_,List.getElem?_eq_getElem hlt⟩
    rw [Am hx] at hr
    simp only [AY] at hr
    rcases k with _ | j
    ·obtain rfl := ha0 rfl
     repeat' (first | with_reducible (first | (refine sk ?_; intro K hK) | refine bk ?_ | apply_assumption -exfalso -symm only [*]) | ((first | (with_reducible first | refine rg (h := ?_) | refine nx ?_) | refine pK (B0 _ _ _) ?_); try simp (disch := omega) only [h0,h3,hx,cPt,go_sem,simprocAttr]) | ((with_reducible refine' cE ?hv ?_ ?_); (case hv => rfl); all_goals (intro hc; (try simp only [go_sem,simprocAttr] at hc); try (exfalso; omega))) | ((with_reducible refine Ab ?_ ?_) <;> intro hg <;> (try simp (disch := omega) only [hg,h0,h3,hx,cPt,go_sem,simprocAttr]) <;> (try simp only [go_sem,simprocAttr] at hg) <;> (try (exfalso; omega))) | ((with_reducible refine fe ?_); refine ⟨_,(by simp only [Tryz.f118,h0,h3,hx,cPt,go_sem,simprocAttr]; rfl),?_⟩; (try simp only [h0,h3,hx,cPt,go_sem,simprocAttr,seval])) | fail)
     ·grind
     ·grind
     ·refine ⟨_,?_,0 + 1,rfl,by omega,by (and_intros <;> first | rfl | (simp only [h0,h3,go_sem,simprocAttr]; done) | (simp only [h0,h3,go_sem,simprocAttr]; rfl)),x,?_⟩
      ·omega
      ·grind
    ·have haj := ha1 j rfl
     repeat' (first | with_reducible (first | (refine sk ?_; intro K hK) | refine bk ?_ | apply_assumption -exfalso -symm only [*]) | ((first | (with_reducible first | refine rg (h := ?_) | refine nx ?_) | refine pK (B0 _ _ _) ?_); try simp (disch := omega) only [h0,h3,hx,haj,cPt,go_sem,simprocAttr]) | ((with_reducible refine' cE ?hv ?_ ?_); (case hv => rfl); all_goals (intro hc; (try simp only [go_sem,simprocAttr] at hc); try (exfalso; omega))) | ((with_reducible refine Ab ?_ ?_) <;> intro hg <;> (try simp (disch := omega) only [hg,h0,h3,hx,haj,cPt,go_sem,simprocAttr]) <;> (try simp only [go_sem,simprocAttr] at hg) <;> (try (exfalso; omega))) | ((with_reducible refine fe ?_); refine ⟨_,(by simp only [Tryz.f118,h0,h3,hx,haj,cPt,go_sem,simprocAttr]; rfl),?_⟩; (try simp only [h0,h3,hx,haj,cPt,go_sem,simprocAttr,seval])) | fail)
     all_goals first | grind | skip
     refine ⟨_,?_,j + 1 + 1,rfl,by omega,by (and_intros <;> first | rfl | (simp only [h0,h3,go_sem,simprocAttr]; done) | (simp only [h0,h3,go_sem,simprocAttr]; rfl)),x,?_⟩
     ·omega
     ·grind
   ·repeat' (first | with_reducible (first | (refine sk ?_; intro K hK) | apply_assumption -exfalso -symm only [*]) | ((with_reducible first | refine rg (h := ?_) | refine nx ?_); try simp (disch := omega) only [h0,h3,go_sem,simprocAttr]) | ((with_reducible refine' cE ?hv ?_ ?_); (case hv => rfl); all_goals (intro hc; (try simp only [go_sem,simprocAttr] at hc); try (exfalso; omega))) | ((with_reducible refine fe ?_); refine ⟨_,(by simp only [Tryz.f118,h0,h3,go_sem,simprocAttr]; rfl),?_⟩; (try simp only [h0,h3,go_sem,simprocAttr,seval])) | fail)
    rw [hr,Bg (show l.length ≤ k by omega)]; rfl
end Cp
namespace Cp
open Go Go.Proofs
set_option maxRecDepth 10000
theorem Lg (l : List Pt) (hl : l.length ≤ 4611686018427387904) : PureC Tryz.prog 100 [.lst 2 (l.map cPt)] (.bool (BX l)) := by
 refine A8 (fn := Tryz.f100) tabOK (by kernel_rfl) rfl (by kernel_rfl) (by simp [Tryz.f100]) (by simp [noids,noid,noidss,go_sem]) (by first | rfl | simp [noids,noid,noidss,go_sem]) ?_
 intro X hX0 hXs
 repeat' (first | with_reducible (first | (refine sk ?_; intro K hK) | intro (ep : Nat → Nat) | apply_assumption -exfalso -symm only [*]) | ((with_reducible refine rg (h := ?_)); try simp (disch := omega) only [go_sem,simprocAttr]) | fail)
 refine Av tabOK l.length (fun k f H => f 0 = .lst 2 (l.map cPt) ∧ f 7 = .lst 2 (l.map cPt) ∧ ∃ e a,f 3 = .ptr 3 e 2 0 0 ∧ H 3 = some (e,.arr 2 [cPt a]) ∧ -1 ≤ a.m ∧ 0 ≤ a.d ∧ a.m ≤ 600 ∧ AY ⟨-1,0⟩ l = AY a (l.drop k)) hl (by rw [hXs]; decide) (by decide) (by simp only [go_sem,simprocAttr]) (by simp only [go_sem,simprocAttr]) ⟨by simp only [go_sem,simprocAttr],by simp only [go_sem,simprocAttr],_,⟨-1,0⟩,by simp only [go_sem,simprocAttr]; rfl,by simp only [go_sem,simprocAttr]; rfl,by simp,by simp,by simp,by simp⟩ ?_ ?_
 ·rintro k f H hk h9 h8 ⟨h0,h7,e,a,h3,hH,ha1,ha2,ha3,hr⟩
  obtain ⟨x,hx⟩ : ∃ x,l[k]? = some x := ⟨_,List.getElem?_eq_getElem hk⟩
  refine Bn [3] ?_
  repeat' (first | with_reducible (first | (refine sk ?_; intro K hK) | intro (ep : Nat → Nat) | apply_assumption -exfalso -symm only [*]) | ((first | (with_reducible first | refine rg (h := ?_) | refine nx ?_) | refine pK (Ge _ _ _) ?_); try simp (disch := omega) only [h0,h3,h7,h8,h9,hx,hH,cPt,go_sem,simprocAttr]) | ((with_reducible refine' cE ?hv ?_ ?_); (case hv => rfl); all_goals (intro hc; (try simp only [go_sem,simprocAttr] at hc))) | ((with_reducible refine Ab ?_ ?_) <;> intro hg <;> (try simp (disch := omega) only [hg,h0,h3,h7,h8,h9,hx,hH,cPt,go_sem,simprocAttr]) <;> (try simp only [go_sem,simprocAttr] at hg) <;> (try (exfalso; omega))) | ((with_reducible refine fe ?_); refine ⟨_,(by simp only [Tryz.f100,h0,h3,h7,h8,h9,hx,hH,cPt,go_sem,simprocAttr]; rfl),?_⟩; (try simp only [h0,h3,h7,h8,h9,hx,hH,cPt,go_sem,simprocAttr,seval])) | fail)
  ·refine Gg ?_
   rw [hr,Am hx,AY]; simp; omega
  ·refine Gg ?_
   rw [hr,Am hx,AY]; simp; omega
  ·refine ⟨e,x,rfl,rfl,by omega,by omega,by omega,?_⟩
   rw [hr,Am hx,AY]; simp; omega
 ·rintro f H h9 h8 ⟨h0,h7,e,a,h3,hH,ha1,ha2,ha3,hr⟩
  have hr' : AY ⟨-1,0⟩ l = true := by rw [hr,Bg (Nat.le_refl _)]; rfl
  cases l with
  | nil =>
   repeat' (first | with_reducible (first | (refine sk ?_; intro K hK) | apply_assumption -exfalso -symm only [*]) | ((first | (with_reducible first | refine rg (h := ?_) | refine nx ?_) | refine pK (Ge _ _ _) ?_); try simp (disch := omega) only [h0,go_sem,simprocAttr]) | ((with_reducible refine fe ?_); refine ⟨_,(by simp only [Tryz.f100,h0,go_sem,simprocAttr]; rfl),?_⟩; rfl) | fail)
   try rfl
  | cons p l =>
   repeat' (first | with_reducible (first | (refine sk ?_; intro K hK) | apply_assumption -exfalso -symm only [*]) | ((first | (with_reducible first | refine rg (h := ?_) | refine nx ?_) | refine pK (Ge _ _ _) ?_); try simp (disch := omega) only [h0,cPt,go_sem,simprocAttr]) | ((with_reducible refine Ab ?_ ?_) <;> intro hg <;> (try simp (disch := omega) only [hg,h0,cPt,go_sem,simprocAttr]) <;> (try simp only [go_sem,simprocAttr] at hg) <;> (try (exfalso; omega))) | ((with_reducible refine fe ?_); refine ⟨_,(by simp only [Tryz.f100,h0,cPt,go_sem,simprocAttr]; rfl),?_⟩; (try simp only [h0,cPt,go_sem,simprocAttr,seval])) | fail)
   all_goals (rw [E3 (p := p) rfl,hr']; grind)
theorem JW (p : Pt) (m : Int) : PureC Tryz.prog 123 [.agg (cPt p),.int .i64 m] (.int .i64 (Fe p.m m)) := by
 refine A8 (fn := Tryz.f123) tabOK (by kernel_rfl) rfl (by kernel_rfl) (by simp [Tryz.f123]) (by simp [noids,noid,noidss,go_sem,cPt]) (by first | rfl | simp [noids,noid,noidss,go_sem,cPt]) ?_
 intro X hX0 hXs
 repeat' (first | with_reducible (first | (refine sk ?_; intro K hK) | apply_assumption -exfalso -symm only [*]) | ((first | (with_reducible first | refine rg (h := ?_) | refine nx ?_) | refine pK (EI _ _) ?_); try simp (disch := omega) only [cPt,go_sem,simprocAttr]) | ((with_reducible refine fe ?_); refine ⟨_,(by simp only [Tryz.f123,cPt,go_sem,simprocAttr]; rfl),?_⟩; rfl) | fail)
theorem TB {n : Int} (h : 0 ≤ n ∧ n ≤ 9223372036854775807) : IntKind.u64.wrap n = n := by
 rw [IntKind.wrap_u64]; omega
theorem im {n : Int} (h : 0 ≤ n) : n.fdiv (2 ^ min (Int.toNat 1) (IntKind.bits .u64)) = n / 2 := by
 have : (2 : Int) ^ min (Int.toNat 1) (IntKind.bits .u64) = 2 := by decide
 rw [this,Int.fdiv_eq_ediv_of_nonneg _ (by omega)]
theorem bd {n : Int} (h : 0 ≤ n) : n.fdiv (2 ^ min 1 64) = n / 2 := by
 have : (2 : Int) ^ min 1 64 = 2 := by decide
 rw [this,Int.fdiv_eq_ediv_of_nonneg _ (by omega)]
theorem OM (l : List Pt) (hl : l.length ≤ 1000000) (m : Int) (hs : ∀ (i j : Nat) (p q : Pt),i < j → l[i]? = some p → l[j]? = some q → p.m < q.m) :
  ∃ i : Nat,i ≤ l.length ∧ (∀ j p,j < i → l[j]? = some p → p.m < m) ∧ (∀ j p,i ≤ j → l[j]? = some p → m ≤ p.m) ∧
  PureC Tryz.prog 122 [.lst 2 (l.map cPt),.int .i64 m,.fn 123 []] (.tup [.int .i64 i,.bool (l[i]?.any fun p => decide (p.m = m))]) := by
 obtain ⟨i,hi,h1,h2⟩ : ∃ i : Nat,i ≤ l.length ∧ (∀ j p,j < i → l[j]? = some p → p.m < m) ∧ (∀ j p,i ≤ j → l[j]? = some p → m ≤ p.m) := by
  clear hl
  induction l with
  | nil => exact ⟨0,by simp,by simp,by simp⟩
  | cons a l ih =>
   obtain ⟨i,q1,q2,q3⟩ := ih fun i j p q hij hi hj => hs (i + 1) (j + 1) p q (by omega) (by simpa using hi) (by simpa using hj)
   by_cases ha : a.m < m
   ·refine ⟨i + 1,by simpa using q1,fun j p hj hp => ?_,fun j p hj hp => ?_⟩
    ·cases j with
     | zero => simp at hp; subst hp; exact ha
     | succ j => exact q2 j p (by omega) (by simpa using hp)
    ·cases j with
     | zero => omega
     | succ j => exact q3 j p (by omega) (by simpa using hp)
   ·refine ⟨0,by simp,fun j p hj => by omega,fun j p hj hp => ?_⟩
    cases j with
    | zero => simp at hp; subst hp; omega
    | succ j => have := hs 0 (j + 1) a p (by omega) rfl hp; omega
 refine ⟨i,hi,h1,h2,?_⟩
 refine A8 (fn := Tryz.f122) tabOK (by kernel_rfl) rfl (by kernel_rfl) (by simp [Tryz.f122]) (by simp [noids,noid,noidss,go_sem]) (by first | rfl | simp [noids,noid,noidss,go_sem]) ?_
 intro X hX0 hXs
 repeat' (first | with_reducible (first | (refine sk ?_; intro K hK) | apply_assumption -exfalso -symm only [*]) | ((with_reducible refine rg (h := ?_)); try simp (disch := omega) only [go_sem,simprocAttr]) | fail)
 refine An (AK (fun n f H => ∃ a b : Nat,n = b - a ∧ a ≤ i ∧ i ≤ b ∧ b ≤ l.length ∧ (f 0 = .lst 2 (l.map cPt) ∧ f 1 = .int .i64 m ∧ f 2 = .fn 123 [] ∧ f 8 = .int .i64 l.length ∧ f 9 = .int .i64 a ∧ f 10 = .int .i64 b ∧ H = none0)) l.length
  ⟨0,l.length,by simp,by omega,by omega,by omega,by (and_intros <;> first | rfl | (simp only [go_sem,simprocAttr]; done) | (simp only [go_sem,simprocAttr]; rfl))⟩ ?_)
 rintro n f H ⟨a,b,rfl,ha,hb,hbl,⟨h0,hf1,hf2,h8,h9,h10,rfl⟩⟩
 by_cases hlt : a < b
 ·obtain ⟨x,hx⟩ : ∃ x,l[(a + b) / 2]? = some x := ⟨_,List.getElem?_eq_getElem (by omega)⟩
  have e1 : IntKind.i64.wrap ((a : Int) + b) = ((a + b : Nat) : Int) := by rw [KB (by omega)]; omega
  have e2 : IntKind.u64.wrap ((a + b : Nat) : Int) = ((a + b : Nat) : Int) := TB (by omega)
  have e3 : (((a + b : Nat) : Int)).fdiv (2 ^ min 1 64) = (((a + b) / 2 : Nat) : Int) := by rw [bd (by omega)]; omega
  have e4 : IntKind.i64.wrap (((a + b) / 2 : Nat) : Int) = (((a + b) / 2 : Nat) : Int) := KB (by omega)
  have e5 : IntKind.i64.wrap ((((a + b) / 2 + 1 : Nat)) : Int) = (((a + b) / 2 + 1 : Nat) : Int) := KB (by omega)
  repeat' (first | with_reducible (first | (refine sk ?_; intro K hK) | refine bk ?_ | apply_assumption -exfalso -symm only [*]) | ((first | (with_reducible first | refine rg (h := ?_) | refine nx ?_) | refine pK (JW _ _) ?_); try simp (disch := omega) only [h0,hf1,hf2,h8,h9,h10,hx,e1,e2,e3,e4,e5,cPt,go_sem,simprocAttr]) | ((with_reducible refine' cE ?hv ?_ ?_); (case hv => rfl); all_goals (intro hc; (try simp only [go_sem,simprocAttr] at hc); try (exfalso; omega))) | fail)
  ·have hlt' : x.m < m := by grind [Fe]
   have : (a + b) / 2 < i := by
    rcases Nat.lt_or_ge ((a + b) / 2) i with h | h
    ·exact h
    ·have := h2 _ _ h hx; omega
   exact ⟨b - ((a + b) / 2 + 1),by omega,_,_,rfl,by omega,by omega,by omega,rfl,rfl⟩
  ·have hlt' : ¬ x.m < m := by grind [Fe]
   have : i ≤ (a + b) / 2 := by
    rcases Nat.lt_or_ge ((a + b) / 2) i with h | h
    ·have := h1 _ _ h hx; omega
    ·exact h
   exact ⟨(a + b) / 2 - a,by omega,_,_,rfl,by omega,by omega,by omega,rfl,rfl⟩
 ·obtain rfl : a = i := by omega
  obtain rfl : b = a := by omega
  by_cases hbl : b < l.length
  ·obtain ⟨x,hx⟩ : ∃ x,l[b]? = some x := ⟨_,List.getElem?_eq_getElem hbl⟩
   repeat' (first | with_reducible (first | (refine sk ?_; intro K hK) | apply_assumption -exfalso -symm only [*]) | ((first | (with_reducible first | refine rg (h := ?_) | refine nx ?_) | refine pK (JW _ _) ?_); try simp (disch := omega) only [h0,hf1,hf2,h8,h9,h10,hx,cPt,go_sem,simprocAttr]) | ((with_reducible refine' cE ?hv ?_ ?_); (case hv => rfl); all_goals (intro hc; (try simp only [go_sem,simprocAttr] at hc); try (exfalso; omega))) | ((with_reducible refine Ab ?_ ?_) <;> intro hg <;> (try simp (disch := omega) only [hg,h0,hf1,hf2,h8,h9,h10,hx,cPt,go_sem,simprocAttr]) <;> (try simp only [go_sem,simprocAttr] at hg) <;> (try (exfalso; omega))) | ((with_reducible refine fe ?_); refine ⟨_,(by simp only [Tryz.f122,h0,hf1,hf2,h8,h9,h10,hx,cPt,go_sem,simprocAttr]; rfl),?_⟩; (try simp only [h0,hf1,hf2,h8,h9,h10,hx,cPt,go_sem,simprocAttr,seval])) | fail)
   simp only [Option.any_some]; rw [Bool.eq_iff_iff]; grind [Fe]
  ·repeat' (first | with_reducible (first | (refine sk ?_; intro K hK) | apply_assumption -exfalso -symm only [*]) | ((with_reducible first | refine rg (h := ?_) | refine nx ?_); try simp (disch := omega) only [h0,hf1,hf2,h8,h9,h10,go_sem,simprocAttr]) | ((with_reducible refine' cE ?hv ?_ ?_); (case hv => rfl); all_goals (intro hc; (try simp only [go_sem,simprocAttr] at hc); try (exfalso; omega))) | ((with_reducible refine Ab ?_ ?_) <;> intro hg <;> (try simp (disch := omega) only [hg,h0,hf1,hf2,h8,h9,h10,go_sem,simprocAttr]) <;> (try simp only [go_sem,simprocAttr] at hg) <;> (try (exfalso; omega))) | ((with_reducible refine fe ?_); refine ⟨_,(by simp only [Tryz.f122,h0,hf1,hf2,h8,h9,h10,go_sem,simprocAttr]; rfl),?_⟩; (try simp only [h0,hf1,hf2,h8,h9,h10,go_sem,simprocAttr,seval])) | fail)
   rw [List.getElem?_eq_none (by omega)]; rfl
end Cp
namespace Cp
open Go Go.Proofs
set_option maxRecDepth 10000
theorem Lf (l : List Pt) (hc : CurveF l) (m : Int) (hm : 0 ≤ m) (hm2 : m ≤ Gq l) : PureC Tryz.prog 106 [.lst 2 (l.map cPt),.int .i64 m] (.int .i64 (Bv l m)) := by
 obtain ⟨i,hi,q1,q2,hB⟩ := OM l (by have := hc.len; omega) m (fun i j p q h1 h2 h3 => (hc.inc i j p q h1 h2 h3).1)
 have hlen := hc.len
 have hil : i < l.length := by
  rcases Nat.lt_or_ge i l.length with h | h
  ·exact h
  ·obtain ⟨z,hz⟩ : ∃ z,l[l.length - 1]? = some z := ⟨_,List.getElem?_eq_getElem (by omega)⟩
   have h1 := q1 _ _ (show l.length - 1 < i by omega) hz
   rw [Et hz] at hm2
   omega
 obtain ⟨b,hb⟩ : ∃ b,l[i]? = some b := ⟨_,List.getElem?_eq_getElem hil⟩
 obtain ⟨d1,d2⟩ := I5 hc q1 hb
 rw [hb] at hB
 simp only [Option.any_some] at hB
 have hbm := q2 i b (Nat.le_refl _) hb
 have hbb := hc.all _ _ hb
 refine A8 (fn := Tryz.f106) tabOK (by kernel_rfl) rfl (by kernel_rfl) (by simp [Tryz.f106]) (by simp [noids,noid,noidss,go_sem]) (by first | rfl | simp [noids,noid,noidss,go_sem]) ?_
 intro X hX0 hXs
 by_cases he : b.m = m
 ·repeat' (first | with_reducible (first | (refine sk ?_; intro K hK) | apply_assumption -exfalso -symm only [*]) | ((first | (with_reducible first | refine rg (h := ?_) | refine nx ?_) | refine pK (hB) ?_); try simp (disch := omega) only [hb,cPt,go_sem,simprocAttr]) | ((with_reducible refine' cE ?hv ?_ ?_); (case hv => rfl); all_goals (intro hc; (try simp only [go_sem,simprocAttr] at hc); try (exfalso; omega))) | ((with_reducible refine fe ?_); refine ⟨_,(by simp only [Tryz.f106,hb,cPt,go_sem,simprocAttr]; rfl),?_⟩; (try simp only [hb,cPt,go_sem,simprocAttr,seval])) | fail)
  exact (d1 he).symm
 ·obtain ⟨p0,hp0,hp1⟩ := hc.zero
  obtain ⟨k,rfl⟩ : ∃ k,i = k + 1 := by
   cases i with
   | zero => rw [hp0] at hb; cases hb; omega
   | succ k => exact ⟨k,rfl⟩
  obtain ⟨a,ha⟩ : ∃ a,l[k]? = some a := ⟨_,List.getElem?_eq_getElem (by omega)⟩
  have hab := hc.inc k (k + 1) a b (by omega) ha hb
  have haa := hc.all _ _ ha
  have ham := q1 k a (by omega) ha
  have hdeg := d2 k a rfl ha (by omega)
  have hne : ¬ b.m - a.m = 0 := by omega
  obtain ⟨b1,b2⟩ := Ej haa hbb hab.2 (by omega) (show m < b.m by omega)
  repeat' (first | with_reducible (first | (refine sk ?_; intro K hK) | intro (ep : Nat → Nat) | apply_assumption -exfalso -symm only [*]) | ((first | (with_reducible first | refine rg (h := ?_) | refine rgS [7,8] (h := ?_) | refine nx ?_) | refine pK (hB) ?_); try simp (disch := omega) only [hb,ha,cPt,hne,go_sem,simprocAttr]) | ((with_reducible refine' cE ?hv ?_ ?_); (case hv => rfl); all_goals (intro hc; (try simp only [go_sem,simprocAttr] at hc); try (exfalso; omega))) | ((with_reducible refine fe ?_); refine ⟨_,(by simp only [Tryz.f106,hb,ha,cPt,hne,go_sem,simprocAttr]; rfl),?_⟩; (try simp only [hb,ha,cPt,hne,go_sem,simprocAttr,seval])) | fail)
  rw [hdeg]; rfl
end Cp
namespace Cp
open Go Go.Proofs
set_option maxRecDepth 10000
theorem Xs (r : RunT) (hb : RunB r) : PureC Tryz.prog 76 [A9 r] (.bool (CK r)) := by
  refine A8 (fn := Tryz.f76) tabOK (by kernel_rfl) rfl (by kernel_rfl) (by simp [Tryz.f76]) (by simp [noids,noid,noidss,go_sem,A9,A7]) (by first | rfl | simp [noids,noid,noidss,go_sem,A9,A7]) ?_
  intro X hX0 hXs
  by_cases hcv : BX r.curve = true
  · have hF := FG hcv
    have hlen := hF.len
    obtain ⟨z,hz⟩ : ∃ z,r.curve[r.curve.length - 1]? = some z := ⟨_,List.getElem?_eq_getElem (by have := hF.len; omega)⟩
    have hzm := Et hz
    have e1 : ((r.curve.length : Int) - 1) = ((r.curve.length - 1 : Nat) : Int) := by have := hF.len; omega
    repeat' (first | with_reducible (first | (refine sk ?_; intro K hK) | refine bk ?_ | apply_assumption -exfalso -symm only [*]) | ((first | (with_reducible first | refine rg (h := ?_) | refine nx ?_) | refine pK (Ge _ _ _) ?_ | refine pK (Lg r.curve hb.curve) ?_ | refine pK (ES r.gauge _ _) ?_); try simp (disch := omega) only [hcv,hz,e1,A9,A7,cPt,go_sem,simprocAttr]) | ((with_reducible refine' cE ?hv ?_ ?_); (case hv => rfl); all_goals (intro hc; (try simp only [go_sem,simprocAttr] at hc))) | ((with_reducible refine Ab ?_ ?_) <;> intro hg <;> (try simp (disch := omega) only [hg,hcv,hz,e1,A9,A7,cPt,go_sem,simprocAttr]) <;> (try simp only [go_sem,simprocAttr] at hg) <;> (try (exfalso; omega))) | ((with_reducible refine fe ?_); refine ⟨_,(by simp only [Tryz.f76,hcv,hz,e1,A9,A7,cPt,go_sem,simprocAttr]; rfl),?_⟩; (try simp only [hcv,hz,e1,A9,A7,cPt,go_sem,simprocAttr,seval])) | fail)
    iterate 4 (rw [JP]; simp only [Ei,decide_eq_false_iff_not]; omega)
    have hh : Ei r = true := by simp only [Ei,decide_eq_true_eq]; omega
    have hR := ND hcv hh
    refine Av tabOK r.cpls.length (fun k f H => f 1 = .pim (A7 r) ∧ f 53 = .lst 6 (r.cpls.map cCpl) ∧ ∃ last,f 3 = .int .i64 last ∧ -1 ≤ last ∧ last ≤ 9999 ∧ Bi (-1) r.cpls = Bi last (r.cpls.drop k)) hb.cpls (by rw [hXs]; decide) (by decide) (by simp only [go_sem,simprocAttr]) (by simp only [go_sem,simprocAttr])
      ⟨by simp only [go_sem,simprocAttr,A7],by simp only [go_sem,simprocAttr],-1,by simp only [go_sem,simprocAttr],by omega,by omega,by simp⟩ ?_ ?_
    · rintro k f H hk h55 h54 ⟨h1,h53,last,h3,hl1,hl2,hr⟩
      obtain ⟨x,hx⟩ : ∃ x,r.cpls[k]? = some x := ⟨_,List.getElem?_eq_getElem hk⟩
      rw [Am hx] at hr
      simp only [Bi] at hr
      refine Bn [] ?_
      repeat' (first | with_reducible (first | (refine sk ?_; intro K hK) | intro (ep : Nat → Nat) | apply_assumption -exfalso -symm only [*]) | ((first | (with_reducible first | refine rg (h := ?_) | refine nx ?_) | refine pK (Ge _ _ _) ?_ | refine pK (ES x.err _ _) ?_ | refine pK (ES x.lag _ _) ?_); try simp (disch := omega) only [h1,h3,h53,h54,h55,hx,A7,cCpl,go_sem,simprocAttr]) | ((with_reducible refine' cE ?hv ?_ ?_); (case hv => rfl); all_goals (intro hc; (try simp only [go_sem,simprocAttr] at hc))) | ((with_reducible refine Ab ?_ ?_) <;> intro hg <;> (try simp (disch := omega) only [hg,h1,h3,h53,h54,h55,hx,A7,cCpl,go_sem,simprocAttr]) <;> (try simp only [go_sem,simprocAttr] at hg) <;> (try (exfalso; omega))) | ((with_reducible refine fe ?_); refine ⟨_,(by simp only [Tryz.f76,h1,h3,h53,h54,h55,hx,A7,cCpl,go_sem,simprocAttr]; rfl),?_⟩; (try simp only [h1,h3,h53,h54,h55,hx,A7,cCpl,go_sem,simprocAttr,seval])) | fail)
      iterate 4 (have : Gu last x = false := by (simp only [Gu,decide_eq_false_iff_not]; omega)
                 rw [hR,hr,this]; simp)
      have : Gu last x = true := by simp only [Gu,decide_eq_true_eq]; omega
      refine ⟨x.id,rfl,by omega,by omega,?_⟩
      rw [hr,this]; simp
    · rintro f H h55 h54 ⟨h1,h53,last,h3,hl1,hl2,hr⟩
      have hcp : Bi (-1) r.cpls = true := by rw [hr,Bg (Nat.le_refl _)]; rfl
      simp only [hcp,Bool.true_and] at hR
      repeat' (first | with_reducible (first | (refine sk ?_; intro K hK) | apply_assumption -exfalso -symm only [*]) | ((with_reducible first | refine rg (h := ?_) | refine nx ?_); try simp (disch := omega) only [h1,A7,go_sem,simprocAttr]) | fail)
      refine Av tabOK r.rows.length (fun k f H => f 1 = .pim (A7 r) ∧ f 89 = .lst 2 (r.rows.map cRow) ∧ f 6 = .bool true ∧ r.rows.all (C8 r.cpls.length) = (r.rows.drop k).all (C8 r.cpls.length)) hb.rows (by rw [hXs]; decide) (by decide) (by simp only [go_sem,simprocAttr]) (by simp only [go_sem,simprocAttr])
        ⟨by simp only [go_sem,simprocAttr,h1],by simp only [go_sem,simprocAttr],by simp only [go_sem,simprocAttr],by simp⟩ ?_ ?_
      · rintro k f H hk h91 h90 ⟨h1,h89,h6,hr⟩
        obtain ⟨x,hx⟩ : ∃ x,r.rows[k]? = some x := ⟨_,List.getElem?_eq_getElem hk⟩
        rw [Am hx] at hr
        simp only [List.all_cons] at hr
        refine Bn [] ?_
        repeat' (first | with_reducible (first | (refine sk ?_; intro K hK) | intro (ep : Nat → Nat) | apply_assumption -exfalso -symm only [*]) | ((first | (with_reducible first | refine rg (h := ?_) | refine nx ?_) | refine pK (Ge _ _ _) ?_ | refine pK (Sw x.deg (hb.degs x (List.mem_of_getElem? hx)) _ _) ?_); try simp (disch := omega) only [h1,h89,h6,h90,h91,hx,A7,cRow,go_sem,simprocAttr]) | ((with_reducible refine' cE ?hv ?_ ?_); (case hv => rfl); all_goals (intro hc; (try simp only [go_sem,simprocAttr] at hc))) | ((with_reducible refine Ab ?_ ?_) <;> intro hg <;> (try simp (disch := omega) only [hg,h1,h89,h6,h90,h91,hx,A7,cRow,go_sem,simprocAttr]) <;> (try simp only [go_sem,simprocAttr] at hg) <;> (try (exfalso; omega))) | ((with_reducible refine fe ?_); refine ⟨_,(by simp only [Tryz.f76,h1,h89,h6,h90,h91,hx,A7,cRow,go_sem,simprocAttr]; rfl),?_⟩; (try simp only [h1,h89,h6,h90,h91,hx,A7,cRow,go_sem,simprocAttr,seval])) | fail)
        · have : C8 r.cpls.length x = false := by simp [C8]; intro h; omega
          rw [hR,hr,this]; simp
        · have : C8 r.cpls.length x = false := by simp [C8]; intro h; omega
          rw [hR,hr,this]; simp
        · have : C8 r.cpls.length x = false := by simp only [C8,EL,hc,Bool.and_false]
          rw [hR,hr,this]; simp
        · have : C8 r.cpls.length x = true := by simp only [C8,EL,hc,Bool.and_true,decide_eq_true_eq]; omega
          rw [hr,this]; simp
      · rintro f H h91 h90 ⟨h1,h89,h6,hr⟩
        repeat' (first | with_reducible (first | (refine sk ?_; intro K hK) | apply_assumption -exfalso -symm only [*]) | ((with_reducible first | refine rg (h := ?_) | refine nx ?_); try simp (disch := omega) only [h6,go_sem,simprocAttr]) | ((with_reducible refine fe ?_); refine ⟨_,(by simp only [Tryz.f76,h6,go_sem,simprocAttr]; rfl),?_⟩; (try simp only [h6,go_sem,simprocAttr,seval])) | fail)
        rw [hR,hr,Bg (Nat.le_refl _)]; rfl
  · simp only [Bool.not_eq_true] at hcv
    repeat' (first | with_reducible (first | (refine sk ?_; intro K hK) | refine bk ?_ | apply_assumption -exfalso -symm only [*]) | ((first | (with_reducible first | refine rg (h := ?_) | refine nx ?_) | refine pK (Ge _ _ _) ?_ | refine pK (Lg r.curve hb.curve) ?_); try simp (disch := omega) only [hcv,A9,A7,go_sem,simprocAttr]) | ((with_reducible refine' cE ?hv ?_ ?_); (case hv => rfl); all_goals (intro hc; (try simp only [go_sem,simprocAttr] at hc))) | ((with_reducible refine Ab ?_ ?_) <;> intro hg <;> (try simp (disch := omega) only [hg,hcv,A9,A7,go_sem,simprocAttr]) <;> (try simp only [go_sem,simprocAttr] at hg) <;> (try (exfalso; omega))) | ((with_reducible refine fe ?_); refine ⟨_,(by simp only [Tryz.f76,hcv,A9,A7,go_sem,simprocAttr]; rfl),?_⟩; (try simp only [hcv,A9,A7,go_sem,simprocAttr,seval])) | fail)
    all_goals rw [J5 hcv]
end Cp
namespace Cp
open Go Go.Proofs
set_option maxRecDepth 10000
theorem TD (r : RunT) (hb : RunB r) : PureC Tryz.prog 92 [A9 r] (.bool (CK r)) := by
 have hb1 := hb.cpls
 have hb2 := hb.rows
 refine A8 (fn := Tryz.f92) tabOK (by kernel_rfl) rfl (by kernel_rfl) (by simp [Tryz.f92]) (by simp [noids,noid,noidss,go_sem,A9,A7]) (by first | rfl | simp [noids,noid,noidss,go_sem,A9,A7]) ?_
 intro X hX0 hXs
 by_cases hcv : BX r.curve = true
 ·have hF := FG hcv
  have hlen := hF.len
  obtain ⟨z,hz⟩ : ∃ z,r.curve[r.curve.length - 1]? = some z := ⟨_,List.getElem?_eq_getElem (by omega)⟩
  have hzm := Et hz
  have e1 : ((r.curve.length : Int) - 1) = ((r.curve.length - 1 : Nat) : Int) := by omega
  repeat' (first | with_reducible (first | (refine sk ?_; intro K hK) | apply_assumption -exfalso -symm only [*]) | ((first | (with_reducible first | refine rg (h := ?_) | refine nx ?_) | refine pK (B0 _ _ _) ?_ | refine pK (L5 r.curve hb.curve) ?_ | refine pK (Cr r.gauge _ _) ?_); try simp (disch := omega) only [hcv,hz,e1,A9,A7,cPt,go_sem,simprocAttr]) | ((with_reducible refine' cE ?hv ?_ ?_); (case hv => rfl); all_goals (intro hc; (try simp only [go_sem,simprocAttr] at hc))) | ((with_reducible refine Ab ?_ ?_) <;> intro hg <;> (try simp (disch := omega) only [hg,hcv,hz,e1,A9,A7,cPt,go_sem,simprocAttr]) <;> (try simp only [go_sem,simprocAttr] at hg) <;> (try (exfalso; omega))) | ((with_reducible refine fe ?_); refine ⟨_,(by simp only [Tryz.f92,hcv,hz,e1,A9,A7,cPt,go_sem,simprocAttr]; rfl),?_⟩; (try simp only [hcv,hz,e1,A9,A7,cPt,go_sem,simprocAttr,seval])) | fail)
  iterate 5 (rw [JP]; simp only [Ei,decide_eq_false_iff_not]; omega)
  have hh : Ei r = true := by simp only [Ei,decide_eq_true_eq]; omega
  have hR := ND hcv hh
  refine An (AK (fun n f H => ∃ k : Nat,n = r.cpls.length - k ∧ k ≤ r.cpls.length ∧ (f 1 = .pim (A7 r) ∧ f 3 = .int .i64 k) ∧ ∃ last,(k = 0 → last = -1) ∧ (∀ j,k = j + 1 → ∃ a,r.cpls[j]? = some a ∧ a.id = last) ∧ -1 ≤ last ∧ last ≤ 9999 ∧ Bi (-1) r.cpls = Bi last (r.cpls.drop k)) r.cpls.length
   ⟨0,by simp,Nat.zero_le _,by (and_intros <;> first | rfl | (simp only [A7,go_sem,simprocAttr]; done) | (simp only [A7,go_sem,simprocAttr]; rfl)),-1,by simp,by simp,by simp,by simp,by simp⟩ ?_)
  rintro n f H ⟨k,rfl,hk,⟨h1,h3⟩,last,hl0,hl1,hl2,hl3,hr⟩
  by_cases hlt : k < r.cpls.length
  ·obtain ⟨x,hx⟩ : ∃ x,r.cpls[k]? = some x := ⟨_,List.getElem?_eq_getElem hlt⟩
   rw [Am hx] at hr
   simp only [Bi] at hr
   refine Bn [] ?_
   have bad : Gu last x = false → false = CK r := fun h => by rw [hR,hr,h]; simp
   have good : Gu last x = true → ∃ m,m < r.cpls.length - k ∧ ∃ k',m = r.cpls.length - k' ∧ k' ≤ r.cpls.length ∧ Val.int .i64 ((k + 1 : Nat) : Int) = .int .i64 (k' : Int) ∧ ∃ last,(k' = 0 → last = -1) ∧ (∀ j,k' = j + 1 → ∃ a,r.cpls[j]? = some a ∧ a.id = last) ∧ -1 ≤ last ∧ last ≤ 9999 ∧ Bi (-1) r.cpls = Bi last (r.cpls.drop k') := fun h => by
    refine ⟨r.cpls.length - (k + 1),by omega,k + 1,rfl,by omega,rfl,x.id,by omega,(fun j hj => ⟨x,(by rw [show j = k by omega]; exact hx),rfl⟩),?_⟩
    have h' := h
    simp only [Gu,decide_eq_true_eq] at h
    refine ⟨by omega,by omega,?_⟩
    rw [hr,h']; simp
   simp only [Gu,decide_eq_false_iff_not,decide_eq_true_eq] at bad good
   rcases k with _ | j
   ·obtain rfl := hl0 rfl
    repeat' (first | with_reducible (first | (refine sk ?_; intro K hK) | refine bk ?_ | intro (ep : Nat → Nat) | apply_assumption -exfalso -symm only [*]) | ((first | (with_reducible first | refine rg (h := ?_) | refine nx ?_) | refine pK (B0 _ _ _) ?_ | refine pK (Cr x.err _ _) ?_ | refine pK (Cr x.lag _ _) ?_); try simp (disch := omega) only [h1,h3,hx,A7,cCpl,go_sem,simprocAttr]) | ((with_reducible refine' cE ?hv ?_ ?_); (case hv => rfl); all_goals (intro hc; (try simp only [go_sem,simprocAttr] at hc); try (exfalso; omega))) | ((with_reducible refine Ab ?_ ?_) <;> intro hg <;> (try simp (disch := omega) only [hg,h1,h3,hx,A7,cCpl,go_sem,simprocAttr]) <;> (try simp only [go_sem,simprocAttr] at hg) <;> (try (exfalso; omega))) | ((with_reducible refine fe ?_); refine ⟨_,(by simp only [Tryz.f92,h1,h3,hx,A7,cCpl,go_sem,simprocAttr]; rfl),?_⟩; (try simp only [h1,h3,hx,A7,cCpl,go_sem,simprocAttr,seval])) | fail)
    all_goals omega
   ·obtain ⟨a,haj,hal⟩ := hl1 j rfl
    repeat' (first | with_reducible (first | (refine sk ?_; intro K hK) | refine bk ?_ | intro (ep : Nat → Nat) | apply_assumption -exfalso -symm only [*]) | ((first | (with_reducible first | refine rg (h := ?_) | refine nx ?_) | refine pK (B0 _ _ _) ?_ | refine pK (Cr x.err _ _) ?_ | refine pK (Cr x.lag _ _) ?_); try simp (disch := omega) only [h1,h3,hx,haj,A7,cCpl,go_sem,simprocAttr]) | ((with_reducible refine' cE ?hv ?_ ?_); (case hv => rfl); all_goals (intro hc; (try simp only [go_sem,simprocAttr] at hc); try (exfalso; omega))) | ((with_reducible refine Ab ?_ ?_) <;> intro hg <;> (try simp (disch := omega) only [hg,h1,h3,hx,haj,A7,cCpl,go_sem,simprocAttr]) <;> (try simp only [go_sem,simprocAttr] at hg) <;> (try (exfalso; omega))) | ((with_reducible refine fe ?_); refine ⟨_,(by simp only [Tryz.f92,h1,h3,hx,haj,A7,cCpl,go_sem,simprocAttr]; rfl),?_⟩; (try simp only [h1,h3,hx,haj,A7,cCpl,go_sem,simprocAttr,seval])) | fail)
    all_goals omega
  ·have hcp : Bi (-1) r.cpls = true := by rw [hr,Bg (by omega)]; rfl
   simp only [hcp,Bool.true_and] at hR
   repeat' (first | with_reducible (first | (refine sk ?_; intro K hK) | apply_assumption -exfalso -symm only [*]) | ((with_reducible first | refine rg (h := ?_) | refine nx ?_); try simp (disch := omega) only [h1,h3,A7,go_sem,simprocAttr]) | ((with_reducible refine' cE ?hv ?_ ?_); (case hv => rfl); all_goals (intro hc; (try simp only [go_sem,simprocAttr] at hc); try (exfalso; omega))) | fail)
   refine An (AK (fun n f H => ∃ k : Nat,n = r.rows.length - k ∧ k ≤ r.rows.length ∧ (f 1 = .pim (A7 r) ∧ f 5 = .int .i64 k) ∧ r.rows.all (C8 r.cpls.length) = (r.rows.drop k).all (C8 r.cpls.length)) r.rows.length
    ⟨0,by simp,Nat.zero_le _,by (and_intros <;> first | rfl | (simp only [A7,h1,go_sem,simprocAttr]; done) | (simp only [A7,h1,go_sem,simprocAttr]; rfl)),by simp⟩ ?_)
   rintro n f H ⟨k,rfl,hk,⟨h1,h5⟩,hr⟩
   by_cases hlt : k < r.rows.length
   ·obtain ⟨x,hx⟩ : ∃ x,r.rows[k]? = some x := ⟨_,List.getElem?_eq_getElem hlt⟩
    rw [Am hx] at hr
    simp only [List.all_cons] at hr
    have hxd := hb.degs x (List.mem_of_getElem? hx)
    repeat' (first | with_reducible (first | (refine sk ?_; intro K hK) | refine bk ?_ | apply_assumption -exfalso -symm only [*]) | ((first | (with_reducible first | refine rg (h := ?_) | refine nx ?_) | refine pK (B0 _ _ _) ?_); try simp (disch := omega) only [h1,h5,hx,A7,cRow,go_sem,simprocAttr]) | ((with_reducible refine' cE ?hv ?_ ?_); (case hv => rfl); all_goals (intro hc; (try simp only [go_sem,simprocAttr] at hc); try (exfalso; omega))) | ((with_reducible refine Ab ?_ ?_) <;> intro hg <;> (try simp (disch := omega) only [hg,h1,h5,hx,A7,cRow,go_sem,simprocAttr]) <;> (try simp only [go_sem,simprocAttr] at hg) <;> (try (exfalso; omega))) | ((with_reducible refine fe ?_); refine ⟨_,(by simp only [Tryz.f92,h1,h5,hx,A7,cRow,go_sem,simprocAttr]; rfl),?_⟩; (try simp only [h1,h5,hx,A7,cRow,go_sem,simprocAttr,seval])) | fail)
    ·have : C8 r.cpls.length x = false := by simp [C8]; intro h; omega
     rw [hR,hr,this]; simp
    ·have : C8 r.cpls.length x = false := by simp [C8]; intro h; omega
     rw [hR,hr,this]; simp
    have hdl : x.deg.length = r.cpls.length := by omega
    refine An (AK (fun n f H => ∃ i : Nat,n = x.deg.length - i ∧ i ≤ x.deg.length ∧ (f 1 = .pim (A7 r) ∧ f 5 = .int .i64 k ∧ f 6 = .int .i64 i) ∧ EL x.deg = EL (x.deg.drop i)) x.deg.length
     ⟨0,by simp,Nat.zero_le _,by (and_intros <;> first | rfl | (simp only [A7,h1,h5,go_sem,simprocAttr]; done) | (simp only [A7,h1,h5,go_sem,simprocAttr]; rfl)),by simp⟩ ?_)
    rintro n f H ⟨i,rfl,hi,⟨h1,h5,h6⟩,hd⟩
    by_cases hlt2 : i < x.deg.length
    ·obtain ⟨y,hy⟩ : ∃ y,x.deg[i]? = some y := ⟨_,List.getElem?_eq_getElem hlt2⟩
     rw [Am hy] at hd
     have hd' : EL x.deg = (decide (0 ≤ y ∧ y ≤ 2000) && EL (x.deg.drop (i + 1))) := hd
     repeat' (first | with_reducible (first | (refine sk ?_; intro K hK) | refine bk ?_ | apply_assumption -exfalso -symm only [*]) | ((first | (with_reducible first | refine rg (h := ?_) | refine nx ?_) | refine pK (B0 _ _ _) ?_); try simp (disch := omega) only [h1,h5,h6,hx,hy,A7,cRow,go_sem,simprocAttr]) | ((with_reducible refine' cE ?hv ?_ ?_); (case hv => rfl); all_goals (intro hc; (try simp only [go_sem,simprocAttr] at hc); try (exfalso; omega))) | ((with_reducible refine fe ?_); refine ⟨_,(by simp only [Tryz.f92,h1,h5,h6,hx,hy,A7,cRow,go_sem,simprocAttr]; rfl),?_⟩; (try simp only [h1,h5,h6,hx,hy,A7,cRow,go_sem,simprocAttr,seval])) | fail)
     ·have : C8 r.cpls.length x = false := by rw [C8,hd',show decide (0 ≤ y ∧ y ≤ 2000) = false from decide_eq_false (by omega)]; simp
      rw [hR,hr,this]; simp
     ·refine ⟨x.deg.length - (i + 1),by omega,i + 1,rfl,by omega,rfl,?_⟩
      rw [hd',show decide (0 ≤ y ∧ y ≤ 2000) = true from decide_eq_true (by omega)]; simp
    ·have hdo : EL x.deg = true := by rw [hd,Bg (by omega)]; rfl
     have hro : C8 r.cpls.length x = true := by rw [C8,hdo,decide_eq_true (by omega)]; rfl
     repeat' (first | with_reducible (first | (refine sk ?_; intro K hK) | apply_assumption -exfalso -symm only [*]) | ((with_reducible first | refine rg (h := ?_) | refine nx ?_); try simp (disch := omega) only [h1,h5,h6,hx,A7,cRow,go_sem,simprocAttr]) | ((with_reducible refine' cE ?hv ?_ ?_); (case hv => rfl); all_goals (intro hc; (try simp only [go_sem,simprocAttr] at hc); try (exfalso; omega))) | fail)
     refine ⟨r.rows.length - (k + 1),by omega,k + 1,rfl,by omega,rfl,?_⟩
     rw [hr,hro]; simp
   ·repeat' (first | with_reducible (first | (refine sk ?_; intro K hK) | apply_assumption -exfalso -symm only [*]) | ((with_reducible first | refine rg (h := ?_) | refine nx ?_); try simp (disch := omega) only [h1,h5,A7,go_sem,simprocAttr]) | ((with_reducible refine' cE ?hv ?_ ?_); (case hv => rfl); all_goals (intro hc; (try simp only [go_sem,simprocAttr] at hc); try (exfalso; omega))) | ((with_reducible refine fe ?_); refine ⟨_,(by simp only [Tryz.f92,h1,h5,A7,go_sem,simprocAttr]; rfl),?_⟩; (try simp only [h1,h5,A7,go_sem,simprocAttr,seval])) | fail)
    rw [hR,hr,Bg (by omega)]; rfl
 ·simp only [Bool.not_eq_true] at hcv
  repeat' (first | with_reducible (first | (refine sk ?_; intro K hK) | apply_assumption -exfalso -symm only [*]) | ((first | (with_reducible first | refine rg (h := ?_) | refine nx ?_) | refine pK (B0 _ _ _) ?_ | refine pK (L5 r.curve hb.curve) ?_); try simp (disch := omega) only [hcv,A9,A7,go_sem,simprocAttr]) | ((with_reducible refine' cE ?hv ?_ ?_); (case hv => rfl); all_goals (intro hc; (try simp only [go_sem,simprocAttr] at hc))) | ((with_reducible refine Ab ?_ ?_) <;> intro hg <;> (try simp (disch := omega) only [hg,hcv,A9,A7,go_sem,simprocAttr]) <;> (try simp only [go_sem,simprocAttr] at hg) <;> (try (exfalso; omega))) | ((with_reducible refine fe ?_); refine ⟨_,(by simp only [Tryz.f92,hcv,A9,A7,go_sem,simprocAttr]; rfl),?_⟩; (try simp only [hcv,A9,A7,go_sem,simprocAttr,seval])) | fail)
  all_goals rw [J5 hcv]
end Cp
namespace Cp
open Go Go.Proofs
set_option maxRecDepth 10000
theorem PV (u : RulesT) (hb : RulesB u) : PureC Tryz.prog 93 [A1 u] (.bool (Bz u)) := by
  have hb1 := hb.steps
  refine A8 (fn := Tryz.f93) tabOK (by kernel_rfl) rfl (by kernel_rfl) (by simp [Tryz.f93]) (by simp [noids,noid,noidss,go_sem,A1,A5]) (by first | rfl | simp [noids,noid,noidss,go_sem,A1,A5]) ?_
  intro X hX0 hXs
  repeat' (first | with_reducible (first | (refine sk ?_; intro K hK) | apply_assumption -exfalso -symm only [*]) | ((first | (with_reducible first | refine rg (h := ?_) | refine nx ?_) | refine pK (B0 _ _ _) ?_ | refine pK (Cr u.press _ _) ?_); try simp (disch := omega) only [A1,A5,go_sem,simprocAttr]) | ((with_reducible refine' cE ?hv ?_ ?_); (case hv => rfl); all_goals (intro hc; (try simp only [go_sem,simprocAttr] at hc))) | ((with_reducible refine Ab ?_ ?_) <;> intro hg <;> (try simp (disch := omega) only [hg,A1,A5,go_sem,simprocAttr]) <;> (try simp only [go_sem,simprocAttr] at hg) <;> (try (exfalso; omega))) | ((with_reducible refine fe ?_); refine ⟨_,(by simp only [Tryz.f93,A1,A5,go_sem,simprocAttr]; rfl),?_⟩; (try simp only [A1,A5,go_sem,simprocAttr,seval])) | fail)
  iterate 5 (have : DJ u = false := by (simp only [DJ,decide_eq_false_iff_not]; omega)
             rw [Bz,this]; rfl)
  have hh : DJ u = true := by simp only [DJ,decide_eq_true_eq]; omega
  have hR : Bz u = Az 0 u.steps := by rw [Bz,hh]; rfl
  refine An (AK (fun n f H => ∃ k : Nat,n = u.steps.length - k ∧ k ≤ u.steps.length ∧ (f 1 = .pim (A5 u) ∧ f 3 = .int .i64 k) ∧ ∃ last,(k = 0 → last = 0) ∧ (∀ j,k = j + 1 → ∃ a,u.steps[j]? = some a ∧ a.frm = last) ∧ 0 ≤ last ∧ last ≤ 600 ∧ Az 0 u.steps = Az last (u.steps.drop k)) u.steps.length
    ⟨0,by simp,Nat.zero_le _,by (and_intros <;> first | rfl | (simp only [A5,go_sem,simprocAttr]; done) | (simp only [A5,go_sem,simprocAttr]; rfl)),0,by simp,by simp,by simp,by simp,by simp⟩ ?_)
  rintro n f H ⟨k,rfl,hk,⟨h1,h3⟩,last,hl0,hl1,hl2,hl3,hr⟩
  by_cases hlt : k < u.steps.length
  · obtain ⟨x,hx⟩ : ∃ x,u.steps[k]? = some x := ⟨_,List.getElem?_eq_getElem hlt⟩
    rw [Am hx] at hr
    simp only [Az] at hr
    have bad : De last x = false → false = Bz u := fun h => by rw [hR,hr,h]; simp
    have good : De last x = true → ∃ m,m < u.steps.length - k ∧ ∃ k',m = u.steps.length - k' ∧ k' ≤ u.steps.length ∧ Val.int .i64 ((k + 1 : Nat) : Int) = .int .i64 (k' : Int) ∧ ∃ last,(k' = 0 → last = 0) ∧ (∀ j,k' = j + 1 → ∃ a,u.steps[j]? = some a ∧ a.frm = last) ∧ 0 ≤ last ∧ last ≤ 600 ∧ Az 0 u.steps = Az last (u.steps.drop k') := fun h => by
      refine ⟨u.steps.length - (k + 1),by omega,k + 1,rfl,by omega,rfl,x.frm,by omega,(fun j hj => ⟨x,(by rw [show j = k by omega]; exact hx),rfl⟩),?_⟩
      have h' := h
      simp only [De,decide_eq_true_eq] at h
      refine ⟨by omega,by omega,?_⟩
      rw [hr,h']; simp
    simp only [De,decide_eq_false_iff_not,decide_eq_true_eq] at bad good
    rcases k with _ | j
    · obtain rfl := hl0 rfl
      repeat' (first | with_reducible (first | (refine sk ?_; intro K hK) | refine bk ?_ | apply_assumption -exfalso -symm only [*]) | ((first | (with_reducible first | refine rg (h := ?_) | refine nx ?_) | refine pK (B0 _ _ _) ?_); try simp (disch := omega) only [h1,h3,hx,A5,cStep,go_sem,simprocAttr]) | ((with_reducible refine' cE ?hv ?_ ?_); (case hv => rfl); all_goals (intro hc; (try simp only [go_sem,simprocAttr] at hc); try (exfalso; omega))) | ((with_reducible refine Ab ?_ ?_) <;> intro hg <;> (try simp (disch := omega) only [hg,h1,h3,hx,A5,cStep,go_sem,simprocAttr]) <;> (try simp only [go_sem,simprocAttr] at hg) <;> (try (exfalso; omega))) | ((with_reducible refine fe ?_); refine ⟨_,(by simp only [Tryz.f93,h1,h3,hx,A5,cStep,go_sem,simprocAttr]; rfl),?_⟩; (try simp only [h1,h3,hx,A5,cStep,go_sem,simprocAttr,seval])) | fail)
      all_goals omega
    · obtain ⟨a,haj,hal⟩ := hl1 j rfl
      repeat' (first | with_reducible (first | (refine sk ?_; intro K hK) | refine bk ?_ | apply_assumption -exfalso -symm only [*]) | ((first | (with_reducible first | refine rg (h := ?_) | refine nx ?_) | refine pK (B0 _ _ _) ?_); try simp (disch := omega) only [h1,h3,hx,haj,A5,cStep,go_sem,simprocAttr]) | ((with_reducible refine' cE ?hv ?_ ?_); (case hv => rfl); all_goals (intro hc; (try simp only [go_sem,simprocAttr] at hc); try (exfalso; omega))) | ((with_reducible refine Ab ?_ ?_) <;> intro hg <;> (try simp (disch := omega) only [hg,h1,h3,hx,haj,A5,cStep,go_sem,simprocAttr]) <;> (try simp only [go_sem,simprocAttr] at hg) <;> (try (exfalso; omega))) | ((with_reducible refine fe ?_); refine ⟨_,(by simp only [Tryz.f93,h1,h3,hx,haj,A5,cStep,go_sem,simprocAttr]; rfl),?_⟩; (try simp only [h1,h3,hx,haj,A5,cStep,go_sem,simprocAttr,seval])) | fail)
      all_goals omega
  · repeat' (first | with_reducible (first | (refine sk ?_; intro K hK) | apply_assumption -exfalso -symm only [*]) | ((with_reducible first | refine rg (h := ?_) | refine nx ?_); try simp (disch := omega) only [h1,h3,A5,go_sem,simprocAttr]) | ((with_reducible refine' cE ?hv ?_ ?_); (case hv => rfl); all_goals (intro hc; (try simp only [go_sem,simprocAttr] at hc); try (exfalso; omega))) | ((with_reducible refine fe ?_); refine ⟨_,(by simp only [Tryz.f93,h1,h3,A5,go_sem,simprocAttr]; rfl),?_⟩; (try simp only [h1,h3,A5,go_sem,simprocAttr,seval])) | fail)
    rw [hR,hr,Bg (by omega)]; rfl
def AV (r : RunT) (u : RulesT) : Int := if CK r = true then (if Bz u = true then 0 else 12) else 11
theorem PQ (r : RunT) (u : RulesT) (hb : RunB r) (hu : RulesB u) : PureC Tryz.prog 68 [A9 r,A1 u] (.int .i64 (AV r u)) := by
 refine A8 (fn := Tryz.f68) tabOK (by kernel_rfl) rfl (by kernel_rfl) (by simp [Tryz.f68]) (by simp [noids,noid,noidss,go_sem,A9,A7,A1,A5]) (by first | rfl | simp [noids,noid,noidss,go_sem,A9,A7,A1,A5]) ?_
 intro X hX0 hXs
 repeat' (first | with_reducible (first | (refine sk ?_; intro K hK) | apply_assumption -exfalso -symm only [*]) | ((first | (with_reducible first | refine rg (h := ?_) | refine nx ?_) | refine pK (TD r hb) ?_ | refine pK (PV u hu) ?_); try simp (disch := omega) only [A9,A7,A1,A5,go_sem,simprocAttr]) | ((with_reducible refine' cE ?hv ?_ ?_); (case hv => rfl); all_goals (intro hc; (try simp only [go_sem,simprocAttr] at hc))) | ((with_reducible refine fe ?_); refine ⟨_,(by simp only [Tryz.f68,A9,A7,A1,A5,go_sem,simprocAttr]; rfl),?_⟩; (try simp only [A9,A7,A1,A5,go_sem,simprocAttr,seval])) | fail)
 all_goals simp_all [AV]
theorem CI (r : RunT) (u : RulesT) (hb : RunB r) (hu : RulesB u) : PureC Tryz.prog 58 [A9 r,A1 u] (.int .i64 (AV r u)) := by
 have hb1 := hu.steps
 refine A8 (fn := Tryz.f58) tabOK (by kernel_rfl) rfl (by kernel_rfl) (by simp [Tryz.f58]) (by simp [noids,noid,noidss,go_sem,A9,A7,A1,A5]) (by first | rfl | simp [noids,noid,noidss,go_sem,A9,A7,A1,A5]) ?_
 intro X hX0 hXs
 repeat' (first | with_reducible (first | (refine sk ?_; intro K hK) | apply_assumption -exfalso -symm only [*]) | ((first | (with_reducible first | refine rg (h := ?_) | refine nx ?_) | refine pK (Xs r hb) ?_); try simp (disch := omega) only [A9,A7,A1,A5,go_sem,simprocAttr]) | ((with_reducible refine' cE ?hv ?_ ?_); (case hv => rfl); all_goals (intro hc; (try simp only [go_sem,simprocAttr] at hc))) | ((with_reducible refine fe ?_); refine ⟨_,(by simp only [Tryz.f58,A9,A7,A1,A5,go_sem,simprocAttr]; rfl),?_⟩; (try simp only [A9,A7,A1,A5,go_sem,simprocAttr,seval])) | fail)
 ·simp_all [AV]
 ·have hC : AV r u = if Bz u = true then 0 else 12 := by simp_all [AV]
  refine Av tabOK u.steps.length (fun k f H => f 3 = .pim (A5 u) ∧ f 12 = .lst 2 (u.steps.map cStep) ∧ ∃ last,f 5 = .int .i64 last ∧ 0 ≤ last ∧ last ≤ 600 ∧ Az 0 u.steps = Az last (u.steps.drop k)) hu.steps (by rw [hXs]; decide) (by decide) (by simp only [go_sem,simprocAttr]) (by simp only [go_sem,simprocAttr])
   ⟨by simp only [go_sem,simprocAttr,A5],by simp only [go_sem,simprocAttr],0,by simp only [go_sem,simprocAttr],by omega,by omega,by simp⟩ ?_ ?_
  ·rintro k f H hk h14 h13 ⟨h3,h12,last,h5,hl1,hl2,hr⟩
   obtain ⟨x,hx⟩ : ∃ x,u.steps[k]? = some x := ⟨_,List.getElem?_eq_getElem hk⟩
   rw [Am hx] at hr
   simp only [Az] at hr
   have bad : De last x = false → 12 = AV r u := fun h => by
    have : Bz u = false := by rw [Bz,hr,h]; simp
    rw [hC,this]; rfl
   simp only [De,decide_eq_false_iff_not] at bad
   refine Bn [] ?_
   repeat' (first | with_reducible (first | (refine sk ?_; intro K hK) | intro (ep : Nat → Nat) | apply_assumption -exfalso -symm only [*]) | ((first | (with_reducible first | refine rg (h := ?_) | refine nx ?_) | refine pK (Ge _ _ _) ?_); try simp (disch := omega) only [h3,h5,h12,h13,h14,hx,A5,cStep,go_sem,simprocAttr]) | ((with_reducible refine' cE ?hv ?_ ?_); (case hv => rfl); all_goals (intro hc; (try simp only [go_sem,simprocAttr] at hc))) | ((with_reducible refine Ab ?_ ?_) <;> intro hg <;> (try simp (disch := omega) only [hg,h3,h5,h12,h13,h14,hx,A5,cStep,go_sem,simprocAttr]) <;> (try simp only [go_sem,simprocAttr] at hg) <;> (try (exfalso; omega))) | ((with_reducible refine fe ?_); refine ⟨_,(by simp only [Tryz.f58,h3,h5,h12,h13,h14,hx,A5,cStep,go_sem,simprocAttr]; rfl),?_⟩; (try simp only [h3,h5,h12,h13,h14,hx,A5,cStep,go_sem,simprocAttr,seval])) | fail)
   iterate 2 (first | exact bad (by omega) | omega)
   have h' : De last x = true := by simp only [De,decide_eq_true_eq]; omega
   refine ⟨x.frm,rfl,by omega,by omega,?_⟩
   rw [hr,h']; simp
  ·rintro f H h14 h13 ⟨h3,h12,last,h5,hl1,hl2,hr⟩
   have hs : Az 0 u.steps = true := by rw [hr,Bg (Nat.le_refl _)]; rfl
   have hR : Bz u = DJ u := by rw [Bz,hs,Bool.and_true]
   have bad : DJ u = false → 12 = AV r u := fun h => by rw [hC,hR,h]; rfl
   simp only [DJ,decide_eq_false_iff_not] at bad
   repeat' (first | with_reducible (first | (refine sk ?_; intro K hK) | apply_assumption -exfalso -symm only [*]) | ((first | (with_reducible first | refine rg (h := ?_) | refine nx ?_) | refine pK (Ge _ _ _) ?_ | refine pK (Z5 _ _ _ _) ?_ | refine pK (ES u.press _ _) ?_); try simp (disch := omega) only [h3,A5,go_sem,simprocAttr]) | ((with_reducible refine' cE ?hv ?_ ?_); (case hv => rfl); all_goals (intro hc; (try simp only [go_sem,simprocAttr] at hc))) | ((with_reducible refine Ab ?_ ?_) <;> intro hg <;> (try simp (disch := omega) only [hg,h3,A5,go_sem,simprocAttr]) <;> (try simp only [go_sem,simprocAttr] at hg) <;> (try (exfalso; omega))) | ((with_reducible refine fe ?_); refine ⟨_,(by simp only [Tryz.f58,h3,A5,go_sem,simprocAttr]; rfl),?_⟩; (try simp only [h3,A5,go_sem,simprocAttr,seval])) | fail)
   iterate 4 (first | exact bad (by omega) | omega)
   have h' : DJ u = true := by simp only [DJ,decide_eq_true_eq]; omega
   rw [hC,hR,h']; rfl
end Cp
namespace Cp
open Go Go.Proofs
set_option maxRecDepth 10000
end Cp
namespace Cp
open Go Go.Proofs
set_option maxRecDepth 10000
theorem WL {n : Nat} (h1 : 1 ≤ n) (h2 : n ≤ 8) : IntKind.i64.wrap ((840 : Int).tdiv (n : Int)) = 840 / (n : Int) ∧ 105 ≤ 840 / (n : Int) ∧ 840 / (n : Int) ≤ 840 := by
 have e : (840 : Int).tdiv (n : Int) = 840 / (n : Int) := Int.tdiv_eq_ediv_of_nonneg (by omega)
 obtain rfl | rfl | rfl | rfl | rfl | rfl | rfl | rfl : n = 1 ∨ n = 2 ∨ n = 3 ∨ n = 4 ∨ n = 5 ∨ n = 6 ∨ n = 7 ∨ n = 8 := by omega
 all_goals decide
end Cp
namespace Cp
open Go Go.Proofs
set_option maxRecDepth 10000
theorem Rq (r : RunT) (u : RulesT) : PureC Tryz.prog 35 [A9 r,A1 u] (.bool (EY r u)) := by
  refine A8 (fn := Tryz.f35) tabOK (by kernel_rfl) rfl (by kernel_rfl) (by simp [Tryz.f35]) (by simp [noids,noid,noidss,go_sem,A9,A7,A1,A5]) (by first | rfl | simp [noids,noid,noidss,go_sem,A9,A7,A1,A5]) ?_
  intro X hX0 hXs
  repeat' (first | with_reducible (first | (refine sk ?_; intro K hK) | apply_assumption -exfalso -symm only [*]) | ((with_reducible first | refine rg (h := ?_) | refine nx ?_); try simp (disch := omega) only [A9,A7,A1,A5,go_sem,simprocAttr]) | ((with_reducible refine' cE ?hv ?_ ?_); (case hv => rfl); all_goals (intro hc; (try simp only [go_sem,simprocAttr] at hc))) | ((with_reducible refine Ab ?_ ?_) <;> intro hg <;> (try simp (disch := omega) only [hg,A9,A7,A1,A5,go_sem,simprocAttr]) <;> (try simp only [go_sem,simprocAttr] at hg) <;> (try (exfalso; omega))) | ((with_reducible refine fe ?_); refine ⟨_,(by simp only [Tryz.f35,A9,A7,A1,A5,go_sem,simprocAttr]; rfl),?_⟩; (try simp only [A9,A7,A1,A5,go_sem,simprocAttr,seval])) | fail)
  iterate 4 (have : 15 < r.curve.length ∨ 12 < r.cpls.length ∨ 80 < r.rows.length ∨ 10 < u.steps.length := by omega
             rw [EY,decide_eq_true this]; rfl)
  have hg : EY r u = r.rows.any fun x => decide (15 < x.deg.length) := by rw [EY,decide_eq_false (by omega)]; rfl
  refine An (AK (fun n f H => ∃ k : Nat,n = r.rows.length - k ∧ k ≤ r.rows.length ∧ (f 2 = .pim (A7 r) ∧ f 5 = .int .i64 k) ∧ EY r u = (r.rows.drop k).any fun x => decide (15 < x.deg.length)) r.rows.length
    ⟨0,by simp,Nat.zero_le _,by (and_intros <;> first | rfl | (simp only [A7,go_sem,simprocAttr]; done) | (simp only [A7,go_sem,simprocAttr]; rfl)),by simpa using hg⟩ ?_)
  rintro n f H ⟨k,rfl,hk,⟨h2,h5⟩,hr⟩
  by_cases hlt : k < r.rows.length
  · obtain ⟨x,hx⟩ : ∃ x,r.rows[k]? = some x := ⟨_,List.getElem?_eq_getElem hlt⟩
    rw [Am hx,List.any_cons] at hr
    repeat' (first | with_reducible (first | (refine sk ?_; intro K hK) | refine bk ?_ | apply_assumption -exfalso -symm only [*]) | ((with_reducible first | refine rg (h := ?_) | refine nx ?_); try simp (disch := omega) only [h2,h5,hx,A7,cRow,go_sem,simprocAttr]) | ((with_reducible refine' cE ?hv ?_ ?_); (case hv => rfl); all_goals (intro hc; (try simp only [go_sem,simprocAttr] at hc); try (exfalso; omega))) | ((with_reducible refine fe ?_); refine ⟨_,(by simp only [Tryz.f35,h2,h5,hx,A7,cRow,go_sem,simprocAttr]; rfl),?_⟩; (try simp only [h2,h5,hx,A7,cRow,go_sem,simprocAttr,seval])) | fail)
    · rw [hr,decide_eq_true (by omega)]; rfl
    · refine ⟨r.rows.length - (k + 1),by omega,k + 1,rfl,by omega,rfl,?_⟩
      rw [hr,decide_eq_false (by omega)]; rfl
  · repeat' (first | with_reducible (first | (refine sk ?_; intro K hK) | apply_assumption -exfalso -symm only [*]) | ((with_reducible first | refine rg (h := ?_) | refine nx ?_); try simp (disch := omega) only [h2,h5,A7,go_sem,simprocAttr]) | ((with_reducible refine' cE ?hv ?_ ?_); (case hv => rfl); all_goals (intro hc; (try simp only [go_sem,simprocAttr] at hc); try (exfalso; omega))) | ((with_reducible refine fe ?_); refine ⟨_,(by simp only [Tryz.f35,h2,h5,A7,go_sem,simprocAttr]; rfl),?_⟩; (try simp only [h2,h5,A7,go_sem,simprocAttr,seval])) | fail)
    rw [hr,Bg (by omega)]; rfl
end Cp
namespace Cp
open Go Go.Proofs
set_option maxRecDepth 10000
end Cp
namespace Cp
open Go
structure NoteT where
 sec : Int
 kind : Int
 val : Int
 off : Span
 deriving DecidableEq
structure TestT where
 id : Int
 run : RunT
 rules : RulesT
 clock : Span
 fin : Int
 l0 : Int
 l1 : Int
 l2 : Int
 l3 : Int
 l4 : Int
 l5 : Int
 notes : List NoteT
 deriving DecidableEq
structure FailT where
 held : Int
 at1 : Span
 deriving DecidableEq
def cNote (n : NoteT) : List Val := [.int .i64 n.sec,.int .u8 n.kind,.int .i64 n.val,.int .i64 n.off.lo,.int .i64 n.off.hi]
def A2 (t : TestT) : List Val := [.int .i64 t.id,.int .i64 t.run.id,.lst 2 (t.run.curve.map cPt),.lst 6 (t.run.cpls.map cCpl),.lst 2 (t.run.rows.map cRow),.int .i64 t.run.gauge.lo,.int .i64 t.run.gauge.hi,
 .lst 2 (t.rules.steps.map cStep),.int .i64 t.rules.single,.int .i64 t.rules.sfrom,.int .i64 t.rules.press.lo,.int .i64 t.rules.press.hi,.int .i64 t.rules.pfrom,.int .i64 t.clock.lo,.int .i64 t.clock.hi,.int .i64 t.fin,
 .int .i64 t.l0,.int .i64 t.l1,.int .i64 t.l2,.int .i64 t.l3,.int .i64 t.l4,.int .i64 t.l5,.lst 5 (t.notes.map cNote)]
def A3 (t : TestT) : Val := .agg (A2 t)
def AE (n : NoteT) : Val := .agg (cNote n)
def Ag (f : FailT) : List Val := [.int .u8 f.held,.int .i64 f.at1.lo,.int .i64 f.at1.hi]
def Ac (f : FailT) : Val := .agg (Ag f)
@[go_sem] theorem Wq {l : List NoteT} : noidss (l.map cNote) = true := Bl fun _ => rfl
@[go_sem] theorem YZ {H : Hp} {n : Nat} {l : List NoteT} : ((l.map cNote).map fun es => es.map (fzd H (n + 1))) = l.map cNote := CF (fun _ => rfl) l
def DZ (t : TestT) : Nat → Int
 | 0 => t.l0
 | 1 => t.l1
 | 2 => t.l2
 | 3 => t.l3
 | 4 => t.l4
 | 5 => t.l5
 | _ => 0
def Jh (s : Span) : Bool := decide (-200 ≤ s.lo ∧ s.lo ≤ s.hi ∧ s.hi ≤ 200)
def Cw (last fin : Int) (n : NoteT) : Bool := decide ((last ≤ n.sec ∧ n.sec ≤ fin) ∧ (1 ≤ n.kind ∧ n.kind ≤ 6) ∧ 0 ≤ n.val ∧ n.val ≤ 10000) && Jh n.off
def Ae (fin : Int) : Int → List NoteT → Bool
 | _,[] => true
 | last,n :: l => Cw last fin n && Ae fin n.sec l
def Em (t : TestT) : Bool := decide ((0 ≤ t.id ∧ t.id ≤ 9999) ∧ (-120 ≤ t.clock.lo ∧ t.clock.lo ≤ t.clock.hi ∧ t.clock.hi ≤ 120) ∧ (1 ≤ t.fin ∧ t.fin ≤ 60 * (t.run.rows.length : Int)) ∧
 ((0 ≤ t.l0 ∧ t.l0 ≤ 10000) ∧ (0 ≤ t.l1 ∧ t.l1 ≤ 10000) ∧ (0 ≤ t.l2 ∧ t.l2 ≤ 10000) ∧ (0 ≤ t.l3 ∧ t.l3 ≤ 10000) ∧ (0 ≤ t.l4 ∧ t.l4 ≤ 10000) ∧ (0 ≤ t.l5 ∧ t.l5 ≤ 10000)) ∧ t.notes.length ≤ 60)
def AZ (t : TestT) : Bool := Em t && Ae t.fin 0 t.notes
def GJ (t : TestT) (c : Nat) (n : NoteT) : Bool := decide (n.kind = ((c + 1 : Nat) : Int)) && decide (n.val - n.off.lo ≤ DZ t c)
def DL (t : TestT) (c : Nat) (n : NoteT) : Bool := decide (n.kind = ((c + 1 : Nat) : Int)) && decide (DZ t c < n.val - n.off.hi)
def F9 (t : TestT) (c : Nat) : List NoteT → Option Int → Option Int
 | [],a => a
 | n :: l,a => F9 t c l (if GJ t c n = true then some n.sec else a)
def Gc (t : TestT) (c : Nat) (l : List NoteT) : Option Int := (l.find? (DL t c)).map (·.sec)
def I7 (t : TestT) (c : Nat) : Option Int := F9 t c t.notes none
def BV (t : TestT) (c : Nat) : Option Int := Gc t c t.notes
def CO (t : TestT) (c : Nat) : Bool := match I7 t c,BV t c with | some g,some b => decide (b ≤ g) | _,_ => false
def frC (t : TestT) (c : Nat) : Int := match I7 t c with | some g => g + 1 | none => 0
def toC (t : TestT) (c : Nat) : Int := match BV t c with | some b => b | none => t.fin
def Ah (t : TestT) (c : Nat) : FailT := if toC t c < frC t c then ⟨2,⟨0,0⟩⟩ else ⟨if (BV t c).isSome = true then 0 else 1,⟨frC t c - t.clock.hi,toC t c - t.clock.lo⟩⟩
end Cp
namespace Cp
open Go
def Cj (t : TestT) (c : Nat) (s : Int × Int × Bool) (n : NoteT) : Int × Int × Bool :=
 (if GJ t c n = true then max s.1 (n.sec + 1) else s.1,if DL t c n = true then min s.2.1 n.sec else s.2.1,s.2.2 || DL t c n)
def frO (a : Option Int) : Int := match a with | some g => g + 1 | none => 0
theorem DW {last fin : Int} {n : NoteT} (h : Cw last fin n = true) : last ≤ n.sec ∧ n.sec ≤ fin := by
 simp only [Cw,Bool.and_eq_true,decide_eq_true_eq] at h
 exact h.1.1
theorem NA {t : TestT} {c : Nat} {fin : Int} : ∀ {l : List NoteT} {last : Int} {a : Option Int} {s : Int × Int × Bool},Ae fin last l = true → (∀ g,a = some g → g ≤ last) → 0 ≤ last → s.1 = frO a → (l.foldl (Cj t c) s).1 = frO (F9 t c l a)
 | [],_,_,_,_,_,_,h => h
 | n :: l,last,a,s,hn,ha,h0,h => by
  simp only [Ae,Bool.and_eq_true] at hn
  have hs := (DW hn.1).1
  rw [List.foldl_cons]
  simp only [F9]
  refine NA hn.2 (fun g hg => ?_) (by omega) ?_
  ·split at hg
   ·cases hg; exact Int.le_refl _
   ·have := ha g hg; omega
  ·simp only [Cj]
   split
   ·rw [h]
    cases a with
    | none => simp only [frO]; omega
    | some g => have := ha g rfl; simp only [frO]; omega
   ·exact h
theorem Li {t : TestT} {c : Nat} {fin : Int} : ∀ {l : List NoteT} {last b : Int} {s : Int × Int × Bool},Ae fin last l = true → s.2 = (b,true) → b ≤ last → (l.foldl (Cj t c) s).2 = (b,true)
 | [],_,_,_,_,h,_ => h
 | n :: l,last,b,s,hn,h,hb => by
  simp only [Ae,Bool.and_eq_true] at hn
  have hs := (DW hn.1).1
  rw [List.foldl_cons]
  refine Li hn.2 ?_ (show b ≤ n.sec by omega)
  simp only [Cj,h,Bool.true_or,Prod.mk.injEq,and_true]
  split
  ·omega
  ·rfl
theorem N6 {t : TestT} {c : Nat} {fin : Int} : ∀ {l : List NoteT} {last : Int} {s : Int × Int × Bool},Ae fin last l = true → s.2 = (fin,false) → (l.foldl (Cj t c) s).2 = (match Gc t c l with | some b => (b,true) | none => (fin,false))
 | [],_,_,_,h => h
 | n :: l,last,s,hn,h => by
  simp only [Ae,Bool.and_eq_true] at hn
  have hs := DW hn.1
  rw [List.foldl_cons]
  unfold Gc
  rw [List.find?_cons]
  cases hf : DL t c n with
  | true =>
   simp only [Option.map_some]
   refine Li (b := n.sec) hn.2 ?_ (Int.le_refl _)
   simp only [Cj,h,hf,if_true,Bool.or_true,Prod.mk.injEq,and_true]
   omega
  | false =>
   refine N6 hn.2 ?_
   simp only [Cj,h,hf,Bool.false_eq_true,if_false,Bool.or_false]
theorem RP {t : TestT} (c : Nat) (h : Ae t.fin 0 t.notes = true) : t.notes.foldl (Cj t c) (0,t.fin,false) = (frC t c,toC t c,(BV t c).isSome) := by
 have h1 := NA (t := t) (c := c) (a := none) (s := (0,t.fin,false)) h (fun g hg => by cases hg) (Int.le_refl _) rfl
 have h2 := N6 (t := t) (c := c) (s := (0,t.fin,false)) h rfl
 have e1 : frO (F9 t c t.notes none) = frC t c := rfl
 rw [e1] at h1
 have e2 : Gc t c t.notes = BV t c := rfl
 rw [e2] at h2
 refine Prod.ext h1 ?_
 rw [h2]
 unfold toC
 cases BV t c <;> rfl
theorem Mt {t : TestT} (c : Nat) (h : Ae t.fin 0 t.notes = true) : CO t c = ((BV t c).isSome && decide (toC t c < frC t c)) := by
 have hb : ∀ b,BV t c = some b → 0 ≤ b := fun b hb => by
  have gen : ∀ {l : List NoteT} {last : Int},Ae t.fin last l = true → 0 ≤ last → ∀ b,Gc t c l = some b → 0 ≤ b := by
   intro l
   induction l with
   | nil => intro last _ _ b hb; simp [Gc] at hb
   | cons n l ih =>
    intro last hn h0 b hb
    simp only [Ae,Bool.and_eq_true] at hn
    have hs := (DW hn.1).1
    unfold Gc at hb
    rw [List.find?_cons] at hb
    split at hb
    ·simp at hb; omega
    ·exact ih hn.2 (by omega) b hb
  exact gen h (Int.le_refl _) b hb
 unfold CO toC frC
 cases hg : I7 t c with
 | none =>
  cases hc : BV t c with
  | none => rfl
  | some b => have := hb b hc; simp; omega
 | some g =>
  cases hc : BV t c with
  | none => rfl
  | some b =>
   simp only [Option.isSome_some,Bool.true_and]
   have : (b ≤ g) ↔ b < g + 1 := by omega
   simp only [this]
end Cp
namespace Cp
open Go Go.Proofs
set_option maxRecDepth 10000
set_option maxHeartbeats 1000000
theorem U7 (lo hi n : Int) : PureC Tryz.prog 91 [.int .i64 n,.pim [.int .i64 lo],.pim [.int .i64 hi]] (.bool (!decide (lo ≤ n ∧ n ≤ hi))) := by
 refine A8 (fn := Tryz.f91) tabOK (by kernel_rfl) rfl (by kernel_rfl) (by simp [Tryz.f91]) (by simp [noids,noid,noidss,go_sem]) (by first | rfl | simp [noids,noid,noidss,go_sem]) ?_
 intro X hX0 hXs
 repeat' (first | with_reducible (first | (refine sk ?_; intro K hK) | apply_assumption -exfalso -symm only [*]) | ((with_reducible first | refine rg (h := ?_) | refine nx ?_); try simp (disch := omega) only [go_sem,simprocAttr]) | ((with_reducible refine Ab ?_ ?_) <;> intro hg <;> (try simp (disch := omega) only [hg,go_sem,simprocAttr]) <;> (try simp only [go_sem,simprocAttr] at hg) <;> (try (exfalso; omega))) | ((with_reducible refine fe ?_); refine ⟨_,(by simp only [Tryz.f91,go_sem,simprocAttr]; rfl),?_⟩; (try simp only [go_sem,simprocAttr,seval])) | fail)
 ·simp; omega
 ·rw [Bool.eq_iff_iff]; simp; omega
theorem O3 (xs : List Int) (hx : xs.length ≤ 4611686018427387904) (lo hi : Int) : PureC Tryz.prog 65 [.int .i64 lo,.int .i64 hi,.lst 1 (Cv xs)] (.bool (xs.all fun n => decide (lo ≤ n ∧ n ≤ hi))) := by
 refine A8 (fn := Tryz.f65) tabOK (by kernel_rfl) rfl (by kernel_rfl) (by simp [Tryz.f65]) (by simp [noids,noid,noidss,go_sem]) (by first | rfl | simp [noids,noid,noidss,go_sem]) ?_
 intro X hX0 hXs
 repeat' (first | with_reducible (first | (refine sk ?_; intro K hK) | apply_assumption -exfalso -symm only [*]) | ((first | (with_reducible first | refine rg (h := ?_) | refine nx ?_) | refine pK (FH xs hx _ _ (by rfl) (fun n => !decide (lo ≤ n ∧ n ≤ hi)) (fun n _ => U7 lo hi n)) ?_); try simp (disch := omega) only [go_sem,simprocAttr]) | ((with_reducible refine fe ?_); refine ⟨_,(by simp only [Tryz.f65,go_sem,simprocAttr]; rfl),?_⟩; (try simp only [go_sem,simprocAttr,seval])) | fail)
 simp [List.all_eq_not_any_not]
theorem KA (lo hi a : Int) : PureC Tryz.prog 65 [.int .i64 lo,.int .i64 hi,.lst 1 [[.int .i64 a]]] (.bool (decide (lo ≤ a ∧ a ≤ hi))) := by
 have := O3 [a] (by simp) lo hi
 simpa [Cv] using this
theorem aQ (lo hi a b : Int) : PureC Tryz.prog 65 [.int .i64 lo,.int .i64 hi,.lst 1 [[.int .i64 a],[.int .i64 b]]] (.bool (decide ((lo ≤ a ∧ a ≤ hi) ∧ lo ≤ b ∧ b ≤ hi))) := by
 have := O3 [a,b] (by simp) lo hi
 simpa [Cv] using this
theorem Zb (lo hi a b c d e g : Int) : PureC Tryz.prog 65 [.int .i64 lo,.int .i64 hi,.lst 1 [[.int .i64 a],[.int .i64 b],[.int .i64 c],[.int .i64 d],[.int .i64 e],[.int .i64 g]]] (.bool (decide ((lo ≤ a ∧ a ≤ hi) ∧ (lo ≤ b ∧ b ≤ hi) ∧ (lo ≤ c ∧ c ≤ hi) ∧ (lo ≤ d ∧ d ≤ hi) ∧ (lo ≤ e ∧ e ≤ hi) ∧ lo ≤ g ∧ g ≤ hi))) := by
 have := O3 [a,b,c,d,e,g] (by simp) lo hi
 simpa [Cv] using this
theorem J6 (s : Span) (lo hi : Int) : PureC Tryz.prog 89 [.int .i64 lo,.int .i64 hi,A6 s] (.bool (decide (lo ≤ s.lo ∧ s.lo ≤ s.hi ∧ s.hi ≤ hi))) := by
 refine A8 (fn := Tryz.f89) tabOK (by kernel_rfl) rfl (by kernel_rfl) (by simp [Tryz.f89]) (by simp [noids,noid,noidss,go_sem,A6]) (by first | rfl | simp [noids,noid,noidss,go_sem,A6]) ?_
 intro X hX0 hXs
 repeat' (first | with_reducible (first | (refine sk ?_; intro K hK) | apply_assumption -exfalso -symm only [*]) | ((first | (with_reducible first | refine rg (h := ?_) | refine nx ?_) | refine pK (aQ _ _ _ _) ?_); try simp (disch := omega) only [A6,go_sem,simprocAttr]) | ((with_reducible refine Ab ?_ ?_) <;> intro hg <;> (try simp (disch := omega) only [hg,A6,go_sem,simprocAttr]) <;> (try simp only [go_sem,simprocAttr] at hg) <;> (try (exfalso; omega))) | ((with_reducible refine fe ?_); refine ⟨_,(by simp only [Tryz.f89,A6,go_sem,simprocAttr]; rfl),?_⟩; (try simp only [A6,go_sem,simprocAttr,seval])) | fail)
 all_goals (rw [Bool.eq_iff_iff]; simp; omega)
theorem Qa (n : NoteT) (lim : Int) (h : (0 ≤ n.val ∧ n.val ≤ 10000) ∧ -200 ≤ n.off.lo ∧ n.off.lo ≤ n.off.hi ∧ n.off.hi ≤ 200) : PureC Tryz.prog 160 [AE n,.int .i64 lim] (.bool (decide (n.val - n.off.lo ≤ lim))) := by
 refine A8 (fn := Tryz.f160) tabOK (by kernel_rfl) rfl (by kernel_rfl) (by simp [Tryz.f160]) (by simp [noids,noid,noidss,go_sem,AE,cNote]) (by first | rfl | simp [noids,noid,noidss,go_sem,AE,cNote]) ?_
 intro X hX0 hXs
 repeat' (first | with_reducible (first | (refine sk ?_; intro K hK) | apply_assumption -exfalso -symm only [*]) | ((with_reducible first | refine rg (h := ?_) | refine nx ?_); try simp (disch := omega) only [AE,cNote,go_sem,simprocAttr]) | ((with_reducible refine fe ?_); refine ⟨_,(by simp only [Tryz.f160,AE,cNote,go_sem,simprocAttr]; rfl),?_⟩; rfl) | fail)
theorem QB (n : NoteT) (lim : Int) (h : (0 ≤ n.val ∧ n.val ≤ 10000) ∧ -200 ≤ n.off.lo ∧ n.off.lo ≤ n.off.hi ∧ n.off.hi ≤ 200) : PureC Tryz.prog 161 [AE n,.int .i64 lim] (.bool (decide (lim < n.val - n.off.hi))) := by
 refine A8 (fn := Tryz.f161) tabOK (by kernel_rfl) rfl (by kernel_rfl) (by simp [Tryz.f161]) (by simp [noids,noid,noidss,go_sem,AE,cNote]) (by first | rfl | simp [noids,noid,noidss,go_sem,AE,cNote]) ?_
 intro X hX0 hXs
 repeat' (first | with_reducible (first | (refine sk ?_; intro K hK) | apply_assumption -exfalso -symm only [*]) | ((with_reducible first | refine rg (h := ?_) | refine nx ?_); try simp (disch := omega) only [AE,cNote,go_sem,simprocAttr]) | ((with_reducible refine fe ?_); refine ⟨_,(by simp only [Tryz.f161,AE,cNote,go_sem,simprocAttr]; rfl),?_⟩; rfl) | fail)
theorem Ih {l : List NoteT} {k : Nat} {x : NoteT} (h : l[k]? = some x) : (l.map cNote)[k]? = some (cNote x) := by rw [List.getElem?_map,h]; rfl
theorem bB (kb eb sz : Nat) (c : Int) (H0 : Hp) : BD Tryz.prog 90 [.ptr kb eb sz 0 0,.int .u8 c] H0 fun v H' => v = .fn 117 [.pim [.ptr kb eb sz 0 0],.pim [.int .u8 c]] ∧ H' = H0 := by
 refine BN (fn := Tryz.f90) tabOK (by kernel_rfl) rfl (by kernel_rfl) (by simp [Tryz.f90]) ?_
 intro X hX0 hXs
 repeat' (first | with_reducible (first | (refine sk ?_; intro K hK) | apply_assumption -exfalso -symm only [*]) | ((with_reducible first | refine rg (h := ?_) | refine nx ?_); try simp (disch := omega) only [go_sem,simprocAttr]) | fail)
 refine AM (Or.inl rfl) (.refl _) (by simp only [Tryz.f90,go_sem,simprocAttr]; rfl) ?_
 exact ⟨rfl,rfl⟩
theorem X0 (t : TestT) (mv : Val) (hl : t.notes.length ≤ 100000) (c : Int) (kb eb : Nat) (H0 : Hp) (ky ey : Nat) (J : Nat → Hp → Prop) (hJ0 : J 0 H0) (hJb : ∀ k H,J k H → H kb = some (eb,.arr 24 [A2 t ++ [mv]]))
  (hloc : ∀ k H H',J k H → (∀ j,¬ j = 2405 → H' j = H j) → J k H')
  (hN : ∀ k n H,t.notes[k]? = some n → ¬ n.kind = c → J k H → J (k + 1) H)
  (hY : ∀ k n H,t.notes[k]? = some n → n.kind = c → J k H → JV Tryz.prog ky ey [AE n] H (fun v H' => v = .bool true ∧ J (k + 1) H')) :
  BD Tryz.prog 117 [.yld ky ey,.pim [.ptr kb eb 24 0 0],.pim [.int .u8 c]] H0 (fun v H' => J t.notes.length H') := by
 refine BN (fn := Tryz.f117) tabOK (by kernel_rfl) rfl (by kernel_rfl) (by simp [Tryz.f117]) ?_
 intro X hX0 hXs
 have hb0 := hJb _ _ hJ0
 repeat' (first | with_reducible (first | (refine sk ?_; intro K hK) | apply_assumption -exfalso -symm only [*]) | ((with_reducible refine rg (md := { base := 2400,own := [] }) (h := ?_)); try simp (disch := omega) only [hb0,A2,go_sem,simprocAttr]) | fail)
 refine Av tabOK t.notes.length (fun k f H => (f 0 = .yld ky ey ∧ f 2 = .pim [.int .u8 c] ∧ f 10 = .lst 5 (t.notes.map cNote)) ∧ J k H) (by omega) (by rw [hXs]; decide) (by decide) (by (first | rfl | (simp only [go_sem,simprocAttr]; done) | (simp only [go_sem,simprocAttr]; rfl))) (by (first | rfl | (simp only [go_sem,simprocAttr]; done) | (simp only [go_sem,simprocAttr]; rfl)))
   ⟨by (and_intros <;> first | rfl | (simp only [go_sem,simprocAttr]; done) | (simp only [go_sem,simprocAttr]; rfl)),hJ0⟩ ?_ ?_
 ·clear hJ0 hb0
  rintro k f H hk h12 h11 ⟨⟨h0,h2,h10⟩,hJ⟩
  obtain ⟨n,hn⟩ : ∃ x,t.notes[k]? = some x := ⟨_,List.getElem?_eq_getElem hk⟩
  have hna := Ih hn
  refine Aw 2405 fun H1 g5 hs1 => ?_
  have hJ1 : J k H1 := hloc _ _ _ hJ hs1
  simp only [cNote] at hna
  clear hJ hs1
  by_cases hc' : n.kind = c
  ·have hY' := fun H => hY k n H hn hc'
   simp only [AE,cNote,hc'] at hY'
   repeat' (first | with_reducible (first | (refine sk ?_; intro K hK) | intro (ep : Nat → Nat) | apply_assumption -exfalso -symm only [*]) | ((with_reducible first | refine F3 (id := 3) tabOK { base := 2400,own := [] } [] [] (by rw [hXs]; decide +kernel) ?_ | refine rg (md := { base := 2400,own := [] }) (h := ?_)); try simp (disch := omega) only [h0,h2,h10,h11,h12,hna,hc',g5,go_sem,simprocAttr]) | fail)
   refine GL (hY' _ (hloc _ _ _ hJ1 fun j hj => by repeat rw [A0 _ _ hj])) ?_
   rintro v H3 ⟨rfl,hJ3⟩
   clear hN hloc hY hJb hY' hJ1
   simp only [go_sem,simprocAttr]
   repeat' (first | with_reducible apply_assumption -exfalso -symm only [*] | ((with_reducible refine nx ?_); try simp (disch := omega) only [h0,h2,h10,h11,h12,hJ3,go_sem,simprocAttr]) | ((with_reducible refine' cE ?hv ?_ ?_); (case hv => rfl); all_goals (intro hc; (try simp only [go_sem,simprocAttr] at hc))) | fail)
  ·have hJ' : ∀ H',(∀ j,¬ j = 2405 → H' j = H1 j) → J (k + 1) H' := fun H' h => hloc _ _ _ (hN k n H1 hn hc' hJ1) h
   clear hN hloc hY hJb hJ1
   repeat' (first | with_reducible (first | (refine sk ?_; intro K hK) | intro (ep : Nat → Nat) | apply_assumption -exfalso -symm only [*]) | ((with_reducible first | refine F3 (id := 3) tabOK { base := 2400,own := [] } [] [] (by rw [hXs]; decide +kernel) ?_ | refine rg (md := { base := 2400,own := [] }) (h := ?_) | refine nx ?_); try simp (disch := omega) only [h0,h2,h10,h11,h12,hna,hc',g5,go_sem,simprocAttr]) | ((with_reducible refine' cE ?hv ?_ ?_); (case hv => rfl); all_goals (intro hc; (try simp only [go_sem,simprocAttr] at hc))) | fail)
   exact fun j hj => by repeat rw [A0 _ _ hj]
 ·rintro f H h12 h11 ⟨⟨h0,h2,h10⟩,hJ⟩
  exact AM (Or.inr rfl) (.refl _) (by simp only [Tryz.f117,go_sem,simprocAttr]; rfl) hJ
end Cp
namespace Cp
open Go
structure SeenT where
 c : Int
 s : Int
 v : Int
 deriving DecidableEq
def D3 (c s : Int) : Val := .agg [.int .u8 c,.int .i64 s]
def KT (l : List SeenT) : List (Val × Val) := l.map fun x => (D3 x.c x.s,.int .i64 x.v)
def CE (c s : Int) : List SeenT → Nat → Option (Nat × Int)
 | [],_ => none
 | x :: l,i => if c = x.c ∧ s = x.s then some (i,x.v) else CE c s l (i + 1)
def BW (l : List SeenT) (c s : Int) : Option Int := (CE c s l 0).map (·.2)
def KX (l : List SeenT) (c s v : Int) : List SeenT := match CE c s l 0 with | none => l ++ [⟨c,s,v⟩] | some (i,_) => l.set i ⟨c,s,v⟩
theorem QC {a b c d : Int} : xeq tab 131 (D3 a b) (D3 c d) = some (decide (a = c ∧ b = d)) := by
 have e : xeq tab 131 (D3 a b) (D3 c d) = some (decide (a = c) && (decide (b = d) && true)) := rfl
 rw [e,Bool.and_true]; congr 1; rw [Bool.eq_iff_iff,decide_eq_true_iff]; simp
theorem Qh {a b c d : Int} (h : a = c ∧ b = d) : keq (D3 a b) (D3 c d) = true := by
 obtain ⟨rfl,rfl⟩ := h
 simp [D3,keq,keqs]
theorem F7 {c s : Int} : ∀ (l : List SeenT) (i : Nat),B3 tab 131 (D3 c s) (KT l) i = some ((CE c s l i).map fun p => (p.1,.int .i64 p.2))
 | [],i => rfl
 | x :: l,i => by
  have ih := F7 (c := c) (s := s) l (i + 1)
  show B3 tab 131 (D3 c s) ((D3 x.c x.s,.int .i64 x.v) :: KT l) i = _
  simp only [B3,QC,CE]
  by_cases h : c = x.c ∧ s = x.s
  ·simp [h,Qh]
  ·simp only [decide_eq_false h,if_neg h]; exact ih
theorem Ft {c s : Int} : ∀ {l : List SeenT} {i : Nat},CE c s l (i + 1) = (CE c s l i).map fun p => (p.1 + 1,p.2)
 | [],i => rfl
 | x :: l,i => by
  simp only [CE]
  split
  ·rfl
  ·exact Ft
theorem Ob {c s : Int} {l : List SeenT} {i : Nat} {v : Int} (h : CE c s l 0 = some (i,v)) : ∃ x,l[i]? = some x ∧ x.c = c ∧ x.s = s ∧ x.v = v ∧ (∀ j y,j < i → l[j]? = some y → ¬ (c = y.c ∧ s = y.s)) := by
 induction l generalizing i with
 | nil => simp [CE] at h
 | cons x l ih =>
  simp only [CE] at h
  split at h
  ·rename_i hx
   cases h
   exact ⟨x,rfl,hx.1.symm,hx.2.symm,rfl,fun j y hj => by omega⟩
  ·rename_i hx
   rw [Ft] at h
   cases hf : CE c s l 0 with
   | none => rw [hf] at h; cases h
   | some p =>
    rw [hf] at h
    simp only [Option.map_some,Option.some.injEq,Prod.mk.injEq] at h
    obtain ⟨rfl,rfl⟩ := h
    obtain ⟨y,h1,h2,h3,h4,h5⟩ := ih hf
    refine ⟨y,by simpa using h1,h2,h3,h4,fun j z hj hz => ?_⟩
    cases j with
    | zero => simp at hz; subst hz; exact hx
    | succ j => exact h5 j z (by omega) (by simpa using hz)
theorem Sb {c s : Int} : BW [] c s = none := rfl
theorem BU {c s : Int} {x : SeenT} {l : List SeenT} : BW (x :: l) c s = if c = x.c ∧ s = x.s then some x.v else BW l c s := by
 unfold BW
 simp only [CE]
 split
 ·rfl
 ·rw [Ft]; cases CE c s l 0 <;> rfl
theorem J7 {c s : Int} : ∀ {l : List SeenT} {x : SeenT},BW l c s = none → BW (l ++ [x]) c s = if c = x.c ∧ s = x.s then some x.v else none
 | [],x,_ => by rw [List.nil_append,BU,Sb]
 | y :: l,x,h => by
  rw [BU] at h
  rw [List.cons_append,BU]
  split at h
  ·cases h
  ·rename_i hy; rw [if_neg hy]; exact J7 h
theorem FD {c s : Int} : ∀ {l : List SeenT} {x : SeenT},¬ (c = x.c ∧ s = x.s) → BW (l ++ [x]) c s = BW l c s
 | [],x,h => by rw [List.nil_append,BU,if_neg h]
 | y :: l,x,h => by rw [List.cons_append,BU,BU,FD h]
theorem MV {c s v : Int} : ∀ {l : List SeenT} {i : Nat} {x : SeenT},l[i]? = some x → x.c = c → x.s = s → (∀ j y,j < i → l[j]? = some y → ¬ (c = y.c ∧ s = y.s)) → ∀ c' s',BW (l.set i ⟨c,s,v⟩) c' s' = if c' = c ∧ s' = s then some v else BW l c' s'
 | [],i,x,h,_,_,_,_,_ => by simp at h
 | y :: l,0,x,h,h1,h2,_,c',s' => by
  simp at h; subst h
  rw [List.set_cons_zero,BU,BU]
  simp only [h1,h2]
  by_cases hc : c' = c ∧ s' = s
  ·rw [if_pos hc,if_pos hc]
  ·rw [if_neg hc,if_neg hc,if_neg hc]
 | y :: l,i + 1,x,h,h1,h2,h3,c',s' => by
  rw [List.set_cons_succ,BU,BU]
  have hy := h3 0 y (by omega) rfl
  rw [MV (by simpa using h) h1 h2 (fun j z hj hz => h3 (j + 1) z (by omega) (by simpa using hz))]
  by_cases hc : c' = y.c ∧ s' = y.s
  ·rw [if_pos hc,if_neg (by rintro ⟨rfl,rfl⟩; exact hy hc),if_pos hc]
  ·rw [if_neg hc,if_neg hc]
theorem IY {l : List SeenT} {c s v : Int} (c' s' : Int) : BW (KX l c s v) c' s' = if c' = c ∧ s' = s then some v else BW l c' s' := by
 unfold KX
 cases hf : CE c s l 0 with
 | none =>
  simp only
  by_cases hc : c' = c ∧ s' = s
  ·obtain ⟨rfl,rfl⟩ := hc
   rw [J7 (by unfold BW; rw [hf]; rfl)]; simp
  ·rw [FD hc,if_neg hc]
 | some p =>
  obtain ⟨i,w⟩ := p
  obtain ⟨x,h1,h2,h3,h4,h5⟩ := Ob hf
  exact MV h1 h2 h3 h5 c' s'
theorem TP {ep : Nat → Nat} {k em : Nat} {c s v : Int} {l : List SeenT} : muF ep k em (D3 c s) (.int .i64 v) (KT l) (some ((CE c s l 0).map fun p => (p.1,.int .i64 p.2))) = some (some (k,some (em,.map (ep k) (KT (KX l c s v))))) := by
 unfold KX
 cases CE c s l 0 with
 | none => simp [muF,KT,D3]
 | some p => simp [muF,KT,D3,List.map_set]
theorem Mn {c s : Int} {l : List SeenT} : MA (.int .i64 0) (some ((CE c s l 0).map fun p => (p.1,.int .i64 p.2))) = some (.tup [.int .i64 ((BW l c s).getD 0),.bool (BW l c s).isSome]) := by
 unfold BW
 cases CE c s l 0 <;> rfl
def SeenM (t : TestT) (k : Nat) (m : List SeenT) : Prop := (∀ c,c < k → BW m ((c + 1 : Nat) : Int) 0 = I7 t c ∧ BW m ((c + 1 : Nat) : Int) 1 = BV t c) ∧ ∀ c : Nat,k ≤ c → BW m ((c + 1 : Nat) : Int) 0 = none ∧ BW m ((c + 1 : Nat) : Int) 1 = none
def SeenN (t : TestT) (k : Nat) (l : List NoteT) (m : List SeenT) : Prop := (∀ c,c < k → BW m ((c + 1 : Nat) : Int) 0 = I7 t c ∧ BW m ((c + 1 : Nat) : Int) 1 = BV t c) ∧ (BW m ((k + 1 : Nat) : Int) 0 = F9 t k l none ∧ BW m ((k + 1 : Nat) : Int) 1 = Gc t k l) ∧
 ∀ c : Nat,k < c → BW m ((c + 1 : Nat) : Int) 0 = none ∧ BW m ((c + 1 : Nat) : Int) 1 = none
theorem SeenM.start {t : TestT} {k : Nat} {m : List SeenT} (h : SeenM t k m) : SeenN t k [] m := ⟨h.1,h.2 k (Nat.le_refl k),fun c hc => h.2 c (by omega)⟩
theorem SeenN.done {t : TestT} {k : Nat} {m : List SeenT} (h : SeenN t k t.notes m) : SeenM t (k + 1) m := by
 refine ⟨fun c hc => ?_,fun c hc => h.2.2 c (by omega)⟩
 by_cases hck : c = k
 ·subst hck; exact h.2.1
 ·exact h.1 c (by omega)
theorem IX {t : TestT} {c : Nat} {n : NoteT} : ∀ {l : List NoteT} {a : Option Int},F9 t c (l ++ [n]) a = if GJ t c n = true then some n.sec else F9 t c l a
 | [],a => by simp [F9]
 | x :: l,a => by simp only [List.cons_append,F9]; exact IX
theorem NJ {t : TestT} {c : Nat} {n : NoteT} {l : List NoteT} : Gc t c (l ++ [n]) = match Gc t c l with | some b => some b | none => if DL t c n = true then some n.sec else none := by
 unfold Gc
 rw [List.find?_append]
 cases l.find? (DL t c) with
 | some b => rfl
 | none =>
  simp only [Option.none_or,Option.map_none,List.find?_cons,List.find?_nil]
  cases DL t c n <;> rfl
theorem SeenN.other {t : TestT} {k : Nat} {l : List NoteT} {m : List SeenT} {n : NoteT} (h : SeenN t k l m) (hn : ¬ n.kind = ((k + 1 : Nat) : Int)) : SeenN t k (l ++ [n]) m := by
 refine ⟨h.1,?_,h.2.2⟩
 rw [IX,NJ,h.2.1.1,h.2.1.2]
 simp only [GJ,DL,decide_eq_false hn,Bool.false_and,Bool.false_eq_true,if_false]
 cases Gc t k l <;> simp
def Dh (m : List SeenT) (t : TestT) (k : Nat) (n : NoteT) : List SeenT := if n.val - n.off.lo ≤ DZ t k then KX m ((k + 1 : Nat) : Int) 0 n.sec else m
def EA (m : List SeenT) (t : TestT) (k : Nat) (n : NoteT) : List SeenT := if BW m ((k + 1 : Nat) : Int) 1 = none ∧ DZ t k < n.val - n.off.hi then KX m ((k + 1 : Nat) : Int) 1 n.sec else m
theorem SeenN.step {t : TestT} {k : Nat} {l : List NoteT} {m : List SeenT} {n : NoteT} (h : SeenN t k l m) (hn : n.kind = ((k + 1 : Nat) : Int)) : SeenN t k (l ++ [n]) (EA (Dh m t k n) t k n) := by
 have g1 : ∀ c' s' : Int,BW (Dh m t k n) c' s' = if (c' = ((k + 1 : Nat) : Int) ∧ s' = 0) ∧ n.val - n.off.lo ≤ DZ t k then some n.sec else BW m c' s' := fun c' s' => by
  unfold Dh
  split
  ·rw [IY]; simp only [*,and_true]
  ·rw [if_neg (by omega)]
 have g2 : ∀ c' s' : Int,BW (EA (Dh m t k n) t k n) c' s' = if (c' = ((k + 1 : Nat) : Int) ∧ s' = 1) ∧ Gc t k l = none ∧ DZ t k < n.val - n.off.hi then some n.sec else BW (Dh m t k n) c' s' := fun c' s' => by
  have e : BW (Dh m t k n) ((k + 1 : Nat) : Int) 1 = Gc t k l := by rw [g1,if_neg (by omega),h.2.1.2]
  unfold EA
  rw [e]
  split
  ·rename_i hx; rw [IY]; simp only [hx,and_true]
  ·rename_i hx; rw [if_neg (fun h => hx h.2)]
 refine ⟨fun c hc => ?_,?_,fun c hc => ?_⟩
 ·rw [g2,g2,if_neg (by omega),if_neg (by omega),g1,g1,if_neg (by omega),if_neg (by omega)]; exact h.1 c hc
 ·rw [g2,g2,if_neg (by omega),g1,g1,IX,NJ,h.2.1.1,h.2.1.2]
  simp only [GJ,DL,hn,decide_true,Bool.true_and,decide_eq_true_eq,true_and]
  cases Gc t k l with
  | none => simp
  | some b => simp
 ·rw [g2,g2,if_neg (by omega),if_neg (by omega),g1,g1,if_neg (by omega),if_neg (by omega)]; exact h.2.2 c hc
end Cp
