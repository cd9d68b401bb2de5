/- Rules,facts and contracts that the statement's proof leans on. Conditions: none. -/
import Derived.Attr
import Derived.Test.YtopgldaekcmekaaGreatDoorP5
set_option linter.unusedVariables false
set_option linter.unusedSimpArgs false
set_option linter.unusedSectionVars false
namespace Cp
open Go
section
variable {P : Program} {T : Tab} {md : Me} {os : List Oper} {K : Fr → Hp → Prop} {f : Fr} {H : Hp} {d : Option Tmp} {ty : TypeId} {pos : String} {af : Array Edge} {g : Option (Nat × Bool)}
def one (K : Fr → Hp → Prop) (d : Option Tmp) (f : Fr) (H : Hp) : Option Val → Prop
 | some v => K (put f d v) H
 | none => False
def two (K : Fr → Hp → Prop) (d : Option Tmp) (f : Fr) (H : Hp) : Option (Val × Up) → Prop
 | some (v,u) => K (put f d v) (app H u)
 | none => False
theorem kk (A : Prop) : (∀ _ : Nat → Nat,A) = A := propext ⟨fun h => h (fun _ => 0),fun h _ => h⟩
@[go_sem] theorem Nb {v : Val} : one K d f H (some v) = K (put f d v) H := rfl
@[go_sem] theorem bj {v : Val} {u : Up} : two K d f H (some (v,u)) = K (put f d v) (app H u) := rfl
@[go_sem] theorem app_none : app H none = H := rfl
@[go_sem] theorem au {k : Nat} {e : Option (Nat × AObj)} : app H (some (k,e)) = upd H k e := rfl
@[go_sem] theorem Nm {t : Nat} {v : Val} : put f (some t) v = upd f t v := rfl
@[go_sem] theorem bh {v : Val} : put f none v = f := rfl
@[go_sem] theorem bU {α : Type} {f : Nat → α} {k t : Nat} {v : α} : upd f k v t = if t = k then v else f t := rfl
@[go_sem] theorem M1 {t : Nat} : ev f (.tmp t) = f t := rfl
@[go_sem] theorem df {g : FuncId} : ev f (.func g) = .fn g [] := rfl
@[go_sem] theorem W2 {k : IntKind} {n : Int} : ev f (.const (.int k n)) = .int k n := rfl
@[go_sem] theorem bT {b : Bool} : ev f (.const (.bool b)) = .bool b := rfl
@[go_sem] theorem gM {s : ByteArray} : ev f (.const (.string s)) = .str s := rfl
@[go_sem] theorem ev_nilp : ev f (.const (.pointer none)) = .nilp := rfl
@[go_sem] theorem ev_nils : ev f (.const (.slice none 0 0)) = .nils := rfl
@[go_sem] theorem ev_nilm : ev f (.const (.map none)) = .nilm := rfl
@[go_sem] theorem ev_nilf : ev f (.const .nilFunc) = .nilf := rfl
@[go_sem] theorem ev_nili : ev f (.const .nilIface) = .nili := rfl
@[go_sem] theorem gf {cs : Array Value} : ev f (.const (.agg cs)) = absV (.agg cs) := rfl
@[go_sem] theorem xseq_nil : K7 P T md os K [] f H = K f H := rfl
@[go_sem] theorem L8 {o : Oper} {l : List Oper} : K7 P T md os K (o :: l) f H = Bo P T md os o (K7 P T md os K l) f H := rfl
@[go_sem] theorem Jr {op : Op} : Bo P T md os { dst := d,op := op,type := ty,pos := pos,after := af,guard := none } K f H = xgo P T md { dst := d,op := op,type := ty,pos := pos,after := af,guard := none } K f H := rfl
def KM (P : Program) (T : Tab) (md : Me) (b : Bool) (o : Oper) (K : Fr → Hp → Prop) (f : Fr) (H : Hp) : Option Val → Prop
 | some (.bool c) => if c = b then xgo P T md o K f H else K (put f o.dst (.tup [])) H
 | some (.tup []) => K (put f o.dst (.tup [])) H
 | _ => False
@[go_sem] theorem V7 {op : Op} {j : Nat} {b : Bool} : Bo P T md os { dst := d,op := op,type := ty,pos := pos,after := af,guard := some (j,b) } K f H =
  KM P T md b { dst := d,op := op,type := ty,pos := pos,after := af,guard := some (j,b) } K f H ((opd os j).map f) := by
 simp only [Bo,KM]
 cases (opd os j).map f with
 | none => rfl
 | some v =>
  cases v <;> try rfl
  case tup vs => cases vs <;> rfl
  rename_i c
  by_cases h : c = b
  ·subst h; simp
  ·have : c = !b := by cases c <;> cases b <;> simp_all
   subst this
   simp
@[go_sem] theorem bQ {o : Oper} : KM P T md true o K f H (some (.bool true)) = xgo P T md o K f H := rfl
@[go_sem] theorem cu {o : Oper} : KM P T md false o K f H (some (.bool false)) = xgo P T md o K f H := rfl
@[go_sem] theorem c6 {op : Op} : KM P T md true { dst := d,op := op,type := ty,pos := pos,after := af,guard := g } K f H (some (.bool false)) = K (put f d (.tup [])) H := rfl
@[go_sem] theorem c7 {op : Op} : KM P T md false { dst := d,op := op,type := ty,pos := pos,after := af,guard := g } K f H (some (.bool true)) = K (put f d (.tup [])) H := rfl
@[go_sem] theorem Yb {b : Bool} {op : Op} : KM P T md b { dst := d,op := op,type := ty,pos := pos,after := af,guard := g } K f H (some (.tup [])) = K (put f d (.tup [])) H := rfl
theorem Ab {o : Oper} {b c : Bool} (h1 : c = true → KM P T md b o K f H (some (.bool true))) (h2 : c = false → KM P T md b o K f H (some (.bool false))) : KM P T md b o K f H (some (.bool c)) := by
 cases c
 ·exact h2 rfl
 ·exact h1 rfl
@[go_sem] theorem ST {x : Operand} : xgo P T md { dst := d,op := .move x,type := ty,pos := pos,after := af,guard := g } K f H = K (put f d (ev f x)) H := by
 simp only [xgo,xop,app]
 exact kk _
@[go_sem] theorem bl {c a b : Operand} : xgo P T md { dst := d,op := .pick c a b,type := ty,pos := pos,after := af,guard := g } K f H = one K d f H (Gt (ev f c) (ev f a) (ev f b)) := by
 simp only [xgo,xop]
 generalize Gt (ev f c) (ev f a) (ev f b) = X
 cases X <;> exact kk _
@[go_sem] theorem Yr {t : TypeId} {ps : Array (Nat × Operand)} : xgo P T md { dst := d,op := .build t ps,type := ty,pos := pos,after := af,guard := g } K f H = one K d f H (Fk T t (ps.toList.map fun p => (p.1,ev f p.2))) := by
 simp only [xgo,xop]
 generalize Fk T t (ps.toList.map fun p => (p.1,ev f p.2)) = X
 cases X <;> exact kk _
@[go_sem] theorem ZJ {t : TypeId} {a : Operand} : xgo P T md { dst := d,op := .load t a,type := ty,pos := pos,after := af,guard := g } K f H = one K d f H (Cg T H t (ev f a)) := by
 simp only [xgo,xop]
 generalize Cg T H t (ev f a) = X
 cases X <;> exact kk _
@[go_sem] theorem TV {x : Operand} : xgo P T md { dst := d,op := .nilCheck x,type := ty,pos := pos,after := af,guard := g } K f H = one K d f H (xnilCheck (ev f x)) := by
 simp only [xgo,xop]
 generalize xnilCheck (ev f x) = X
 cases X <;> exact kk _
@[go_sem] theorem Ln {op : BinOp} {t yt : TypeId} {x y : Operand} : xgo P T md { dst := d,op := .binOp op t x y yt,type := ty,pos := pos,after := af,guard := g } K f H = one K d f H (B1 T op t x y (ev f x) (ev f y)) := by
 simp only [xgo,xop]
 generalize B1 T op t x y (ev f x) (ev f y) = X
 cases X <;> exact kk _
@[go_sem] theorem aP {op : UnOp} {t : TypeId} {x : Operand} : xgo P T md { dst := d,op := .unOp op t x,type := ty,pos := pos,after := af,guard := g } K f H = one K d f H (Ji op (ev f x)) := by
 simp only [xgo,xop]
 generalize Ji op (ev f x) = X
 cases X <;> exact kk _
@[go_sem] theorem Vk {s t : TypeId} {x : Operand} : xgo P T md { dst := d,op := .convert s t x,type := ty,pos := pos,after := af,guard := g } K f H = one K d f H (D1 T s t (ev f x)) := by
 simp only [xgo,xop]
 generalize D1 T s t (ev f x) = X
 cases X <;> exact kk _
@[go_sem] theorem PF {t : TypeId} {x : Operand} : xgo P T md { dst := d,op := .makeInterface t x,type := ty,pos := pos,after := af,guard := g } K f H = one K d f H (B6 T t (ev f x)) := by
 simp only [xgo,xop]
 generalize B6 T t (ev f x) = X
 cases X <;> exact kk _
@[go_sem] theorem Uy {fn : Fn} {first caps : Array Operand} : xgo P T md { dst := d,op := .makeFunc fn first caps,type := ty,pos := pos,after := af,guard := g } K f H = one K d f H (CL fn (first.toList.map (ev f)) (caps.toList.map (ev f))) := by
 simp only [xgo,xop]
 generalize CL fn (first.toList.map (ev f)) (caps.toList.map (ev f)) = X
 cases X <;> exact kk _
@[go_sem] theorem XQ {t : TypeId} {x : Operand} {lo hi mx : Option Operand} : xgo P T md { dst := d,op := .slice t x lo hi mx,type := ty,pos := pos,after := af,guard := g } K f H = one K d f H (DT T H t (ev f x) (lo.map (ev f)) (hi.map (ev f)) (mx.map (ev f))) := by
 simp only [xgo,xop]
 generalize DT T H t (ev f x) (lo.map (ev f)) (hi.map (ev f)) (mx.map (ev f)) = X
 cases X <;> exact kk _
@[go_sem] theorem T2 {s : TypeId} {x : Operand} {i : Nat} : xgo P T md { dst := d,op := .fieldAddr s x i,type := ty,pos := pos,after := af,guard := g } K f H = one K d f H (C6 T s (ev f x) i) := by
 simp only [xgo,xop]
 generalize C6 T s (ev f x) i = X
 cases X <;> exact kk _
@[go_sem] theorem Yk {t : TypeId} {x : Operand} {i : Nat} : xgo P T md { dst := d,op := .field t x i,type := ty,pos := pos,after := af,guard := g } K f H = one K d f H (IZ T t (ev f x) i) := by
 simp only [xgo,xop]
 generalize IZ T t (ev f x) i = X
 cases X <;> exact kk _
@[go_sem] theorem Ta {t : TypeId} {x i : Operand} : xgo P T md { dst := d,op := .indexAddr t x i,type := ty,pos := pos,after := af,guard := g } K f H = one K d f H (AL T H t (ev f x) (ev f i)) := by
 simp only [xgo,xop]
 generalize AL T H t (ev f x) (ev f i) = X
 cases X <;> exact kk _
@[go_sem] theorem YN {t : TypeId} {x i : Operand} : xgo P T md { dst := d,op := .index t x i,type := ty,pos := pos,after := af,guard := g } K f H = one K d f H (IP T t (ev f x) (ev f i)) := by
 simp only [xgo,xop]
 generalize IP T t (ev f x) (ev f i) = X
 cases X <;> exact kk _
@[go_sem] theorem Rv {t u : TypeId} {x : Operand} {ok : Bool} : xgo P T md { dst := d,op := .typeAssert x t u ok,type := ty,pos := pos,after := af,guard := g } K f H = one K d f H (BG T (ev f x) u ok) := by
 simp only [xgo,xop]
 generalize BG T (ev f x) u ok = X
 cases X <;> exact kk _
@[go_sem] theorem VI {x : Operand} {i : Nat} : xgo P T md { dst := d,op := .extract x i,type := ty,pos := pos,after := af,guard := g } K f H = one K d f H (DB (ev f x) i) := by
 simp only [xgo,xop]
 generalize DB (ev f x) i = X
 cases X <;> exact kk _
def J1 (md : Me) (d : Option Tmp) : Bool := md.own.contains (d.getD 0)
def k1 (md : Me) (d : Option Tmp) : Nat := md.base + d.getD 0
@[go_sem] theorem Yw {t : TypeId} : xgo P T md { dst := d,op := .alloc t,type := ty,pos := pos,after := af,guard := g } K f H = ∀ ep : Nat → Nat,two K d f H (Bw H (k1 md d) (Fy T (k1 md d) (ep (k1 md d)) t)) := by
 simp only [xgo,xop]
 rfl
@[go_sem] theorem SY {t : TypeId} {l c : Operand} : xgo P T md { dst := d,op := .makeSlice t l c,type := ty,pos := pos,after := af,guard := g } K f H = ∀ ep : Nat → Nat,two K d f H (Bw H (k1 md d) (CT T (k1 md d) (ep (k1 md d)) t (ev f l) (ev f c))) := by
 simp only [xgo,xop]
 rfl
@[go_sem] theorem bM {t : TypeId} {x : Operand} : xgo P T md { dst := d,op := .box t x,type := ty,pos := pos,after := af,guard := g } K f H =
  if J1 md d = true then ∀ ep : Nat → Nat,two K d f H (Bw H (k1 md d) (Fp true (k1 md d) (ep (k1 md d)) (ev f x))) else two K d f H (Fp false 0 0 (ev f x)) := by
 simp only [xgo,xop]
 by_cases h : md.own.contains (d.getD 0) = true
 ·simp only [h,J1,if_true]; rfl
 ·have : ∀ k e,Fp false k e (ev f x) = Fp false 0 0 (ev f x) := fun k e => by unfold Fp; rfl
  simp only [h,J1,this,Bool.false_eq_true,if_false]
  exact kk _
@[go_sem] theorem gL {t : TypeId} {n : Nat} {ps : Array (Nat × Operand)} : xgo P T md { dst := d,op := .buildSlice t n ps,type := ty,pos := pos,after := af,guard := g } K f H =
  if J1 md d = true then ∀ ep : Nat → Nat,two K d f H (Bw H (k1 md d) (Al T true (k1 md d) (ep (k1 md d)) t n (ps.toList.map fun p => (p.1,ev f p.2)))) else two K d f H (Al T false 0 0 t n (ps.toList.map fun p => (p.1,ev f p.2))) := by
 simp only [xgo,xop]
 by_cases h : md.own.contains (d.getD 0) = true
 ·simp only [h,J1,if_true]; rfl
 ·have : ∀ k e,Al T false k e t n (ps.toList.map fun p => (p.1,ev f p.2)) = Al T false 0 0 t n (ps.toList.map fun p => (p.1,ev f p.2)) := fun k e => by
   unfold Al; simp only [Bool.false_eq_true,if_false]
  simp only [h,J1,this,Bool.false_eq_true,if_false]
  exact kk _
def asg (T : Tab) (H : Hp) (k e : Nat) (x : Operand) (v : Val) : Option TI → Option (Val × Up)
 | some { kind := .slice et,.. } => match v with | .nils => (match T et with | some ei => if isC x then Bw H k (some (.gr k e 0,some (k,some (e,.arr ei.sz [])))) else none | none => none) | _ => none
 | _ => none
@[go_sem] theorem VK {x : Operand} : xgo P T md { dst := d,op := .assign x,type := ty,pos := pos,after := af,guard := g } K f H =
  if J1 md d = true then ∀ ep : Nat → Nat,two K d f H (asg T H (k1 md d) (ep (k1 md d)) x (ev f x) (T ty)) else K (put f d (ev f x)) H := by
 simp only [xgo,xop]
 by_cases h : md.own.contains (d.getD 0) = true
 ·simp only [h,J1,if_true]
  refine forall_congr fun ep => ?_
  cases hT : T ty with
  | none => cases ev f x <;> rfl
  | some ti =>
   obtain ⟨kind,sz,bytes,zero,plain⟩ := ti
   cases kind <;> cases hx : ev f x <;> rfl
 ·simp only [h,J1,Bool.false_eq_true,if_false]
  exact kk _
@[go_sem] theorem Yh {t : TypeId} {a x : Operand} : xgo P T md { dst := d,op := .store t a x,type := ty,pos := pos,after := af,guard := g } K f H = two K d f H ((Dd T H t (ev f a) (ev f x)).map (.any,·)) := by
 simp only [xgo,xop]
 generalize Dd T H t (ev f a) (ev f x) = X
 cases X <;> exact kk _
@[go_sem] theorem dS {u : Up} : (some u).map (fun u => ((.any,u) : Val × Up)) = some (.any,u) := rfl
@[go_sem] theorem co {x : Operand} {t : TypeId} : xgo P T md { dst := d,op := .call { callee := .builtin .len,args := #[x],argTypes := #[t] },type := ty,pos := pos,after := af,guard := g } K f H = one K d f H (Gp T H t (ev f x)) := by
 simp only [xgo,xop,KR,Ba,List.map_cons,List.map_nil]
 cases Gp T H t (ev f x) with
 | none => exact kk _
 | some v => exact kk _
@[go_sem] theorem bZ {xs : Array Operand} {ts : Array TypeId} : xgo P T md { dst := d,op := .call { callee := .builtin .max,args := xs,argTypes := ts },type := ty,pos := pos,after := af,guard := g } K f H = one K d f H (xminmax true (xs.toList.map (ev f))) := by
 simp only [xgo,xop,KR,Ba]
 cases xminmax true (xs.toList.map (ev f)) with
 | none => exact kk _
 | some v => exact kk _
@[go_sem] theorem cj {xs : Array Operand} {ts : Array TypeId} : xgo P T md { dst := d,op := .call { callee := .builtin .min,args := xs,argTypes := ts },type := ty,pos := pos,after := af,guard := g } K f H = one K d f H (xminmax false (xs.toList.map (ev f))) := by
 simp only [xgo,xop,KR,Ba]
 cases xminmax false (xs.toList.map (ev f)) with
 | none => exact kk _
 | some v => exact kk _
def noUp : Option (Val × Up) → Option Val
 | some (v,none) => some v
 | _ => none
@[go_sem] theorem Y8 {v : Val} : noUp (some (v,none)) = some v := rfl
def Q9 (T : Tab) (H : Hp) (t u : TypeId) (s x : Val) : Option Val :=
 match s with
 | .gr .. => none
 | s => noUp (AF T H false 0 (fun _ => 0) t u s x)
@[go_sem] theorem XB {x y : Operand} {t u : TypeId} : xgo P T md { dst := d,op := .call { callee := .builtin .append,args := #[x,y],argTypes := #[t,u] },type := ty,pos := pos,after := af,guard := g } K f H =
  if J1 md d = true then ∀ ep : Nat → Nat,two K d f H (AF T H true (k1 md d) ep t u (ev f x) (ev f y)) else one K d f H (Q9 T H t u (ev f x) (ev f y)) := by
 simp only [xgo,xop,KR,Ba,List.map_cons,List.map_nil]
 by_cases h : md.own.contains (d.getD 0) = true
 ·simp only [h,J1,if_true]
  refine forall_congr fun ep => ?_
  simp only [k1]
  cases AF T H true (md.base + d.getD 0) ep t u (ev f x) (ev f y) with
  | none => rfl
  | some p => obtain ⟨v,u⟩ := p; cases u <;> rfl
 ·have h0 : md.own.contains (d.getD 0) = false := by simpa using h
  simp only [h0,J1,Bool.false_eq_true,if_false]
  by_cases hs : ∃ k e n,ev f x = .gr k e n
  ·obtain ⟨k,e,n,hs⟩ := hs
   rw [hs]
   have hgr : ∀ k0 ep v w,AF T H false k0 ep t u (.gr k e n) (ev f y) = some (v,w) → ∃ p,w = some p := by
    intro k0 ep v w hh
    unfold AF at hh
    split at hh <;> try (cases hh; done)
    split at hh <;> try (cases hh; done)
    split at hh <;> try (cases hh; done)
    split at hh <;> try (cases hh; done)
    simp only at hh
    split at hh <;> try (cases hh; done)
    split at hh <;> try (cases hh; done)
    cases hh
    exact ⟨_,rfl⟩
   have : ∀ ep,(match (match AF T H false (md.base + d.getD 0) ep t u (.gr k e n) (ev f y) with | some (v,none) => some (v,none) | some (v,some u) => none | none => none : Option (Val × Up)) with | some (v,u) => K (put f d v) (app H u) | none => False) = False := by
    intro ep
    cases hq : AF T H false (md.base + d.getD 0) ep t u (.gr k e n) (ev f y) with
    | none => rfl
    | some p =>
     obtain ⟨v,w⟩ := p
     obtain ⟨p,rfl⟩ := hgr _ _ _ _ hq
     rfl
   exact (forall_congr this).trans (kk _)
  ·have e : ∀ k ep,AF T H false k ep t u (ev f x) (ev f y) = AF T H false 0 (fun _ => 0) t u (ev f x) (ev f y) := by
    intro k ep
    unfold AF
    cases hx : ev f x <;> first | rfl | exact absurd ⟨_,_,_,hx⟩ hs
   have e2 : Q9 T H t u (ev f x) (ev f y) = noUp (AF T H false 0 (fun _ => 0) t u (ev f x) (ev f y)) := by
    unfold Q9
    cases hx : ev f x <;> first | rfl | exact absurd ⟨_,_,_,hx⟩ hs
   rw [e2]
   simp only [e]
   cases AF T H false 0 (fun _ => 0) t u (ev f x) (ev f y) with
   | none => exact kk _
   | some p => obtain ⟨v,u⟩ := p; cases u <;> exact kk _
def RT (md : Me) (d : Option Tmp) : Bool := md.imp.contains (d.getD 0)
def fz1 (md : Me) (d : Option Tmp) : Bool := md.fz.contains (d.getD 0)
def K3 (P : Program) (d : Option Tmp) (K : Fr → Hp → Prop) (f : Fr) (H : Hp) (fid : FuncId) (args : List Val) : Prop := ∃ v,PureC P fid args v ∧ K (put f d v) H
theorem N5 {fid : FuncId} {args : List Val} {v : Val} (h : PureC P fid args v) (hk : K (put f d v) H) : K3 P d K f H fid args := ⟨v,h,hk⟩
def Qe (P : Program) (d : Option Tmp) (K : Fr → Hp → Prop) (f : Fr) (H : Hp) (fid : FuncId) (args : List Val) : Prop := ∃ R,BD P fid args H R ∧ ∀ v H',R v H' → K (put f d v) H'
theorem KI {fid : FuncId} {args : List Val} {R : Val → Hp → Prop} (h : BD P fid args H R) (hk : ∀ v H',R v H' → K (put f d v) H') : Qe P d K f H fid args := ⟨R,h,hk⟩
def UW (P : Program) (md : Me) (d : Option Tmp) (K : Fr → Hp → Prop) (f : Fr) (H : Hp) (args : List Val) : Val → Prop
 | .fn fid caps => if RT md d then Qe P d K f H fid (args ++ caps)
   else K3 P d K f H fid ((args ++ caps).map (if fz1 md d then fzv H else id))
 | _ => False
@[go_sem] theorem ZP {h : Operand} {xs : Array Operand} {ts : Array TypeId} : xgo P T md { dst := d,op := .call { callee := .value h,args := xs,argTypes := ts },type := ty,pos := pos,after := af,guard := g } K f H = UW P md d K f H (xs.toList.map (ev f)) (ev f h) := by
 simp only [xgo,UW]
 cases ev f h <;> rfl
@[go_sem] theorem dt {args caps : List Val} {fid : FuncId} : UW P md d K f H args (.fn fid caps) = if RT md d = true then Qe P d K f H fid (args ++ caps)
      else if fz1 md d = true then K3 P d K f H fid ((args ++ caps).map (fzv H)) else K3 P d K f H fid (args ++ caps) := by
  simp only [UW]
  split
  · rfl
  · split
    · rfl
    · simp only [List.map_id_fun,id]
end
end Cp
namespace Cp
open Go
section
variable {P : Program} {T : Tab} {md : Me} {K : Fr → Hp → Prop} {Q : Exit → Fr → Hp → Prop} {f : Fr} {H : Hp} {d : Option Tmp} {t s b i : Nat} {z : Val} {p : Bool} {cs : List Val} {v : Val}
@[go_sem] theorem thenE_n : Fz K Q .normal = K := rfl
@[go_sem] theorem thenE_ret : Fz K Q .ret = Q .ret := rfl
@[go_sem] theorem WQ {i : Nat} : Fz K Q (.exit i) = Q (.exit i) := rfl
@[go_sem] theorem cB {i : Nat} : E5 i Q .normal = Q .normal := rfl
@[go_sem] theorem YR {i : Nat} : E5 i Q .ret = Q .ret := rfl
@[go_sem] theorem VQ {i j : Nat} : E5 i Q (.exit j) = if j = i then Q .normal else Q (.exit j) := by
 funext f H
 simp only [E5]
 split <;> rfl
@[go_sem] theorem aL {b : Nat} {o i z : List Nat} : J1 { base := b,own := o,imp := i,fz := z } d = o.contains (d.getD 0) := by cases d <;> rfl
@[go_sem] theorem Zs {b : Nat} {o i z : List Nat} : RT { base := b,own := o,imp := i,fz := z } d = i.contains (d.getD 0) := by cases d <;> rfl
@[go_sem] theorem cD {b : Nat} {o i z : List Nat} : fz1 { base := b,own := o,imp := i,fz := z } d = z.contains (d.getD 0) := by cases d <;> rfl
@[go_sem] theorem gR {b : Nat} {o i z : List Nat} {d : Nat} : k1 { base := b,own := o,imp := i,fz := z } (some d) = b + d := rfl
attribute [go_sem] List.contains_nil List.contains_cons Option.getD_some Option.getD_none Bool.or_false Bool.false_or Bool.or_true Bool.true_or Option.map_some Option.map_none List.map_cons List.map_nil
 List.append_nil List.nil_append List.cons_append List.getElem?_cons_zero List.getElem?_cons_succ List.getElem?_nil List.length_cons List.length_nil
 List.take_succ_cons List.take_zero List.drop_succ_cons List.drop_zero List.take_nil List.drop_nil
 and_self and_true true_and and_false false_and if_true if_false Bool.false_eq_true Bool.true_eq_false eq_self_iff_true ne_eq not_true_eq_false not_false_eq_true forall_const Bool.not_true Bool.not_false true_or or_true
@[go_sem] theorem gN {a : Val} {l : List Val} : Co (a :: l) 0 = a := rfl
@[go_sem] theorem gn {a : Val} {l : List Val} {n : Nat} : Co (a :: l) (n + 1) = Co l n := rfl
@[go_sem] theorem il {o : Oper} {os : List Oper} : opd (o :: os) 0 = o.dst := rfl
@[go_sem] theorem ia {o : Oper} {os : List Oper} {n : Nat} : opd (o :: os) (n + 1) = opd os n := rfl
@[go_sem] theorem du {k : IntKind} {c : Val} : rdC ⟨.int k,s,b,z,p⟩ (c :: cs) = some c := rfl
@[go_sem] theorem bt {c : Val} : rdC ⟨.bool,s,b,z,p⟩ (c :: cs) = some c := rfl
@[go_sem] theorem d6 {c : Val} : rdC ⟨.str,s,b,z,p⟩ (c :: cs) = some c := rfl
@[go_sem] theorem dH {c : Val} : rdC ⟨.ptr,s,b,z,p⟩ (c :: cs) = some c := rfl
@[go_sem] theorem YU {c : Val} : rdC ⟨.slice t,s,b,z,p⟩ (c :: cs) = some c := rfl
@[go_sem] theorem cU {u : TypeId} {c : Val} : rdC ⟨.map t u,s,b,z,p⟩ (c :: cs) = some c := rfl
@[go_sem] theorem bC {c : Val} : rdC ⟨.func,s,b,z,p⟩ (c :: cs) = some c := rfl
@[go_sem] theorem XN {c : Val} : rdC ⟨.iface,s,b,z,p⟩ (c :: cs) = some c := rfl
@[go_sem] theorem VY {fs : List (Nat × Nat)} : rdC ⟨.struct fs,s,b,z,p⟩ cs = if s ≤ cs.length then some (.agg (cs.take s)) else none := rfl
@[go_sem] theorem YW {n : Nat} : rdC ⟨.array n t,s,b,z,p⟩ cs = if s ≤ cs.length then some (.agg (cs.take s)) else none := rfl
def ldP (cs : List Val) : Option TI → Option Val | some ti => rdC ti cs | none => none
@[go_sem] theorem bq {ti : TI} : ldP cs (some ti) = rdC ti cs := rfl
@[go_sem] theorem xload_pim : Cg T H t (.pim cs) = ldP cs (T t) := by
 unfold Cg ldP
 cases T t <;> rfl
def Ru (ti : TI) (j : Nat) : Option (List Val) → Option Val
 | some es => rdC ti (es.drop j)
 | none => none
@[go_sem] theorem Y0 {ti : TI} {j : Nat} {es : List Val} : Ru ti j (some es) = rdC ti (es.drop j) := rfl
def ldQ (e sz i j : Nat) : Option TI → Option (Nat × AObj) → Option Val
 | some ti,some (e',.arr sz' xss) => if e = e' ∧ sz = sz' then Ru ti j xss[i]? else none
 | some ti,some (e',.fro sz' xss) => if e = e' ∧ sz = sz' then Ru ti j xss[i]? else none
 | _,_ => none
@[go_sem] theorem dg {ti : TI} {e e' sz sz' i j : Nat} {xss : List (List Val)} : ldQ e sz i j (some ti) (some (e',.arr sz' xss)) = if e = e' ∧ sz = sz' then Ru ti j xss[i]? else none := rfl
@[go_sem] theorem cP {ti : TI} {e e' sz sz' i j : Nat} {xss : List (List Val)} : ldQ e sz i j (some ti) (some (e',.fro sz' xss)) = if e = e' ∧ sz = sz' then Ru ti j xss[i]? else none := rfl
@[go_sem] theorem Yl {k e sz i j : Nat} : Cg T H t (.ptr k e sz i j) = ldQ e sz i j (T t) (H k) := by
 unfold Cg
 cases T t with
 | none => cases H k <;> rfl
 | some ti =>
  simp only
  cases H k with
  | none => rfl
  | some p =>
   obtain ⟨e',o⟩ := p
   cases o <;> rfl
def fa3 (a : Val) (off : Nat) : Option TI → Option Val
 | some fi => if fi.sz = 0 then none else (match a with | .pim cs => some (.pim (cs.drop off)) | .ptr k e sz i j => some (.ptr k e sz i (j + off)) | _ => none)
 | none => none
@[go_sem] theorem dw {off : Nat} {fi : TI} : fa3 (.pim cs) off (some fi) = if fi.sz = 0 then none else some (.pim (cs.drop off)) := rfl
@[go_sem] theorem cV {off k e sz i j : Nat} {fi : TI} : fa3 (.ptr k e sz i j) off (some fi) = if fi.sz = 0 then none else some (.ptr k e sz i (j + off)) := rfl
def fa2 (T : Tab) (a : Val) : Option (Nat × Nat) → Option Val
 | some (off,ft) => fa3 a off (T ft)
 | none => none
@[go_sem] theorem ai {a : Val} {off ft : Nat} : fa2 T a (some (off,ft)) = fa3 a off (T ft) := rfl
def fa1 (T : Tab) (a : Val) (i : Nat) : Option TI → Option Val
 | some { kind := .struct fs,.. } => fa2 T a fs[i]?
 | _ => none
@[go_sem] theorem aO {a : Val} {fs : List (Nat × Nat)} : fa1 T a i (some ⟨.struct fs,s,b,z,p⟩) = fa2 T a fs[i]? := rfl
@[go_sem] theorem T4 {a : Val} : C6 T s a i = fa1 T a i (T s) := by
 unfold C6
 cases T s with
 | none => rfl
 | some ti =>
  obtain ⟨kind,sz,bytes,zero,plain⟩ := ti
  cases kind <;> rfl
def ix3 : Option (List Val) → Option Val | some es => some (.pim es) | none => none
@[go_sem] theorem b9 {es : List Val} : ix3 (some es) = some (.pim es) := rfl
def ix4 (k e m n sz : Nat) : Option (Nat × AObj) → Option Val
 | some (e',.arr s xss) => if e = e' ∧ s = sz ∧ m = xss.length ∧ n < m then some (.ptr k e s n 0) else none
 | some (e',.fro s xss) => if e = e' ∧ s = sz ∧ m = xss.length ∧ n < m then some (.ptr k e s n 0) else none
 | _ => none
@[go_sem] theorem da {k e e' m n sz : Nat} {xss : List (List Val)} : ix4 k e m n sz (some (e',.arr s xss)) = if e = e' ∧ s = sz ∧ m = xss.length ∧ n < m then some (.ptr k e s n 0) else none := rfl
@[go_sem] theorem dM {k e e' m n sz : Nat} {xss : List (List Val)} : ix4 k e m n sz (some (e',.fro s xss)) = if e = e' ∧ s = sz ∧ m = xss.length ∧ n < m then some (.ptr k e s n 0) else none := rfl
def ix2 (H : Hp) (x : Val) (n : Nat) : Option TI → Option Val
 | some ei => (match x with | .lst sz xss => if sz = ei.sz then ix3 xss[n]? else none | .exl sz xss => if sz = ei.sz then ix3 xss[n]? else none | .gr k e m => ix4 k e m n ei.sz (H k) | _ => none)
 | none => none
@[go_sem] theorem bW {n sz : Nat} {xss : List (List Val)} {ei : TI} : ix2 H (.lst sz xss) n (some ei) = if sz = ei.sz then ix3 xss[n]? else none := rfl
@[go_sem] theorem cd {n sz : Nat} {xss : List (List Val)} {ei : TI} : ix2 H (.exl sz xss) n (some ei) = if sz = ei.sz then ix3 xss[n]? else none := rfl
@[go_sem] theorem gE {n k e m : Nat} {ei : TI} : ix2 H (.gr k e m) n (some ei) = ix4 k e m n ei.sz (H k) := rfl
def ix5 (x : Val) (n len : Nat) : Option TI → Option Val
 | some ei => if n < len then (match x with | .pim cs => some (.pim (cs.drop (n * ei.sz))) | .ptr k e sz i' j => some (.ptr k e sz i' (j + n * ei.sz)) | _ => none) else none
 | none => none
@[go_sem] theorem dN {n len : Nat} {ei : TI} : ix5 (.pim cs) n len (some ei) = if n < len then some (.pim (cs.drop (n * ei.sz))) else none := rfl
@[go_sem] theorem cF {n len k e sz i' j : Nat} {ei : TI} : ix5 (.ptr k e sz i' j) n len (some ei) = if n < len then some (.ptr k e sz i' (j + n * ei.sz)) else none := rfl
def ix1 (T : Tab) (H : Hp) (x : Val) (n : Nat) : Option TI → Option Val
 | some { kind := .slice et,.. } => ix2 H x n (T et)
 | some { kind := .array len et,.. } => ix5 x n len (T et)
 | _ => none
@[go_sem] theorem YI {x : Val} {n : Nat} : ix1 T H x n (some ⟨.slice t,s,b,z,p⟩) = ix2 H x n (T t) := rfl
@[go_sem] theorem Y3 {x : Val} {n len : Nat} : ix1 T H x n (some ⟨.array len t,s,b,z,p⟩) = ix5 x n len (T t) := rfl
@[go_sem] theorem T8 {x : Val} {k : IntKind} {n : Int} : AL T H t x (.int k n) = if 0 ≤ n then ix1 T H x n.toNat (T t) else none := by
 unfold AL
 simp only
 split
 ·cases T t with
  | none => rfl
  | some ti =>
   obtain ⟨kind,sz,bytes,zero,plain⟩ := ti
   cases kind <;> rfl
 ·rfl
@[go_sem] theorem X2 {t : TypeId} {x y : Operand} {k k' : IntKind} {a c : Int} : B1 T .add t x y (.int k a) (.int k' c) = if k = k' then some (.int k (k.wrap (a + c))) else none := rfl
@[go_sem] theorem gg {t : TypeId} {x y : Operand} {k k' : IntKind} {a c : Int} : B1 T .sub t x y (.int k a) (.int k' c) = if k = k' then some (.int k (k.wrap (a - c))) else none := rfl
@[go_sem] theorem i6 {t : TypeId} {x y : Operand} {k k' : IntKind} {a c : Int} : B1 T .mul t x y (.int k a) (.int k' c) = if k = k' then some (.int k (k.wrap (a * c))) else none := rfl
@[go_sem] theorem dY {t : TypeId} {x y : Operand} {k k' : IntKind} {a c : Int} : B1 T .quo t x y (.int k a) (.int k' c) = if k = k' then (if c = 0 then none else some (.int k (k.wrap (a.tdiv c)))) else none := rfl
@[go_sem] theorem ga {t : TypeId} {x y : Operand} {k k' : IntKind} {a c : Int} : B1 T .rem t x y (.int k a) (.int k' c) = if k = k' then (if c = 0 then none else some (.int k (a.tmod c))) else none := rfl
@[go_sem] theorem gA {t : TypeId} {x y : Operand} {k k' : IntKind} {a c : Int} : B1 T .eql t x y (.int k a) (.int k' c) = if k = k' then some (.bool (decide (a = c))) else none := rfl
@[go_sem] theorem dW {t : TypeId} {x y : Operand} {k k' : IntKind} {a c : Int} : B1 T .neq t x y (.int k a) (.int k' c) = if k = k' then some (.bool (!decide (a = c))) else none := rfl
@[go_sem] theorem XE {t : TypeId} {x y : Operand} {k k' : IntKind} {a c : Int} : B1 T .lss t x y (.int k a) (.int k' c) = if k = k' then some (.bool (decide (a < c))) else none := rfl
@[go_sem] theorem gd {t : TypeId} {x y : Operand} {k k' : IntKind} {a c : Int} : B1 T .leq t x y (.int k a) (.int k' c) = if k = k' then some (.bool (decide (a ≤ c))) else none := rfl
@[go_sem] theorem gu {t : TypeId} {x y : Operand} {k k' : IntKind} {a c : Int} : B1 T .gtr t x y (.int k a) (.int k' c) = if k = k' then some (.bool (decide (c < a))) else none := rfl
@[go_sem] theorem gJ {t : TypeId} {x y : Operand} {k k' : IntKind} {a c : Int} : B1 T .geq t x y (.int k a) (.int k' c) = if k = k' then some (.bool (decide (c ≤ a))) else none := rfl
@[go_sem] theorem gV {t : TypeId} {x y : Operand} {k k' : IntKind} {a c : Int} : B1 T .shl t x y (.int k a) (.int k' c) = if c < 0 then none else some (.int k (k.wrap (a * 2 ^ min c.toNat k.bits))) := rfl
@[go_sem] theorem gZ {t : TypeId} {x y : Operand} {k k' : IntKind} {a c : Int} : B1 T .shr t x y (.int k a) (.int k' c) = if c < 0 then none else some (.int k (a.fdiv (2 ^ min c.toNat k.bits))) := rfl
@[go_sem] theorem cC {t : TypeId} {x y : Operand} {a c : ByteArray} : B1 T .eql t x y (.str a) (.str c) = some (.bool (decide (a = c))) := rfl
@[go_sem] theorem bL {t : TypeId} {x y : Operand} {a c : ByteArray} : B1 T .neq t x y (.str a) (.str c) = some (.bool (!decide (a = c))) := rfl
def eqT : Option Bool → Option Val | some r => some (.bool r) | none => none
def eqF : Option Bool → Option Val | some r => some (.bool (!r)) | none => none
@[go_sem] theorem ZH {r : Bool} : eqT (some r) = some (.bool r) := rfl
@[go_sem] theorem az {r : Bool} : eqF (some r) = some (.bool (!r)) := rfl
@[go_sem] theorem Zf {x y : Operand} {a c : Bool} : B1 T .eql t x y (.bool a) (.bool c) = eqT (xeq T t (.bool a) (.bool c)) := by unfold B1 eqT; simp only; cases xeq T t (.bool a) (.bool c) <;> rfl
@[go_sem] theorem Zq {x y : Operand} {a c : Bool} : B1 T .neq t x y (.bool a) (.bool c) = eqF (xeq T t (.bool a) (.bool c)) := by unfold B1 eqF; simp only; cases xeq T t (.bool a) (.bool c) <;> rfl
@[go_sem] theorem dC {x y : Operand} {a c : List Val} : B1 T .eql t x y (.agg a) (.agg c) = eqT (xeq T t (.agg a) (.agg c)) := by unfold B1 eqT; simp only; cases xeq T t (.agg a) (.agg c) <;> rfl
@[go_sem] theorem dB {x y : Operand} {a c : List Val} : B1 T .neq t x y (.agg a) (.agg c) = eqF (xeq T t (.agg a) (.agg c)) := by unfold B1 eqF; simp only; cases xeq T t (.agg a) (.agg c) <;> rfl
def xqT (T : Tab) (x y : Val) : Option TI → Option Bool | some ti => CZ T 8 ti x y | none => none
@[go_sem] theorem an {x y : Val} {ti : TI} : xqT T x y (some ti) = CZ T 8 ti x y := rfl
@[go_sem] theorem dT {x y : Val} : xeq T t x y = xqT T x y (T t) := by unfold xeq xqT; cases T t <;> rfl
@[go_sem] theorem bu {n : Nat} {k k1 k2 : IntKind} {a c : Int} : CZ T (n + 1) ⟨.int k,s,b,z,p⟩ (.int k1 a) (.int k2 c) = if k1 = k2 then some (decide (a = c)) else none := rfl
@[go_sem] theorem Ym {n : Nat} {a c : Bool} : CZ T (n + 1) ⟨.bool,s,b,z,p⟩ (.bool a) (.bool c) = some (a == c) := rfl
@[go_sem] theorem ZT {n : Nat} {a c : ByteArray} : CZ T (n + 1) ⟨.str,s,b,z,p⟩ (.str a) (.str c) = some (decide (a = c)) := rfl
@[go_sem] theorem VD {n : Nat} {fs : List (Nat × Nat)} {xs ys : List Val} : CZ T (n + 1) ⟨.struct fs,s,b,z,true⟩ (.agg xs) (.agg ys) = DH T (CZ T n) xs ys fs := rfl
def xqA (T : Tab) (n m : Nat) (xs ys : List Val) (et : TypeId) : Option TI → Option Bool | some ei => DH T (CZ T n) xs ys ((List.range m).map fun i => (i * ei.sz,et)) | none => none
@[go_sem] theorem WO {n m : Nat} {et : TypeId} {xs ys : List Val} : CZ T (n + 1) ⟨.array m et,s,b,z,true⟩ (.agg xs) (.agg ys) = xqA T n m xs ys et (T et) := by
 simp only [CZ,xqA,if_true]
 cases T et <;> rfl
@[go_sem] theorem Zp {n m : Nat} {et : TypeId} {xs ys : List Val} {ei : TI} : xqA T n m xs ys et (some ei) = DH T (CZ T n) xs ys ((List.range m).map fun i => (i * ei.sz,et)) := rfl
@[go_sem] theorem Yq {g : TI → Val → Val → Option Bool} {xs ys : List Val} : DH T g xs ys [] = some true := rfl
def fsC : Option Bool → Option Bool → Option Bool | some r,some q => some (r && q) | _,_ => none
def fsB (g : TI → Val → Val → Option Bool) (fi : TI) (rest : Option Bool) : Option Val → Option Val → Option Bool | some a,some c => fsC (g fi a c) rest | _,_ => none
def fsA (g : TI → Val → Val → Option Bool) (xs ys : List Val) (off : Nat) (rest : Option Bool) : Option TI → Option Bool | some fi => fsB g fi rest (rdC fi (xs.drop off)) (rdC fi (ys.drop off)) | none => none
@[go_sem] theorem ax {r q : Bool} : fsC (some r) (some q) = some (r && q) := rfl
@[go_sem] theorem aW {g : TI → Val → Val → Option Bool} {fi : TI} {rest : Option Bool} {a c : Val} : fsB g fi rest (some a) (some c) = fsC (g fi a c) rest := rfl
@[go_sem] theorem aI {g : TI → Val → Val → Option Bool} {xs ys : List Val} {off : Nat} {rest : Option Bool} {fi : TI} : fsA g xs ys off rest (some fi) = fsB g fi rest (rdC fi (xs.drop off)) (rdC fi (ys.drop off)) := rfl
@[go_sem] theorem WD {g : TI → Val → Val → Option Bool} {xs ys : List Val} {off ft : Nat} {fs : List (Nat × Nat)} : DH T g xs ys ((off,ft) :: fs) = fsA g xs ys off (DH T g xs ys fs) (T ft) := by
 simp only [DH]
 cases T ft with
 | none => rfl
 | some fi =>
  simp only [fsA]
  cases rdC fi (xs.drop off) with
  | none => rfl
  | some a =>
   cases rdC fi (ys.drop off) with
   | none => rfl
   | some c =>
    simp only [fsB]
    cases g fi a c with
    | none => rfl
    | some r => cases DH T g xs ys fs <;> rfl
@[go_sem] theorem Yt {c : Bool} : Ji .not (.bool c) = some (.bool (!c)) := rfl
@[go_sem] theorem YH {k : IntKind} {n : Int} : Ji .neg (.int k n) = some (.int k (k.wrap (0 - n))) := rfl
@[go_sem] theorem W9 {c x y : Bool} : Gt (.bool c) (.bool x) (.bool y) = some (.bool (if c then x else y)) := rfl
@[go_sem] theorem ZY {x y : Val} : Gt (.bool true) x y = some x := by cases x <;> cases y <;> rfl
@[go_sem] theorem bG {x y : Val} : Gt (.bool false) x y = some y := by cases x <;> cases y <;> rfl
@[go_sem] theorem Y6 {c : Bool} {k k' : IntKind} {x y : Int} : Gt (.bool c) (.int k x) (.int k' y) = some (if c then (.int k x) else (.int k' y)) := rfl
def cvT (T : Tab) (x : Val) : Option TI → Option TI → Option Val
 | some _,some { kind := .int k,.. } => (match x with | .int _ n => some (.int k (k.wrap n)) | _ => none)
 | some { kind := .slice e,.. },some { kind := .str,.. } => cvB x (T e)
 | _,_ => none
@[go_sem] theorem cH {x : TI} {k k' : IntKind} {n : Int} : cvT T (.int k' n) (some x) (some ⟨.int k,s,b,z,p⟩) = some (.int k (k.wrap n)) := rfl
@[go_sem] theorem cg {x : Val} {e s1 b1 : Nat} {z1 : Val} {p1 : Bool} : cvT T x (some ⟨.slice e,s1,b1,z1,p1⟩) (some ⟨.str,s,b,z,p⟩) = cvB x (T e) := rfl
def cvL : Option (List Int) → Option Val | some ns => some (.str (Gr ns)) | none => none
@[go_sem] theorem ZR {ns : List Int} : cvL (some ns) = some (.str (Gr ns)) := rfl
@[go_sem] theorem cN {xss : List (List Val)} : cvB (.lst 1 xss) (some ⟨.int .u8,s,b,z,p⟩) = cvL (byteL xss) := by
 simp only [cvB,cvL]
 cases byteL xss <;> rfl
@[go_sem] theorem cvB_nils : cvB .nils (some ⟨.int .u8,s,b,z,p⟩) = some (.str (Gr [])) := rfl
@[go_sem] theorem Vt {u : TypeId} {x : Val} : D1 T t u x = cvT T x (T t) (T u) := by
 unfold D1 cvT
 cases T t with
 | none => rfl
 | some a =>
  cases T u with
  | none => rfl
  | some c => rfl
@[go_sem] theorem TT {vs : List Val} : DB (.tup vs) i = vs[i]? := rfl
@[go_sem] theorem xnil_pim : xnilCheck (.pim cs) = some (.pim cs) := rfl
@[go_sem] theorem ay {k e sz i j : Nat} : xnilCheck (.ptr k e sz i j) = some (.ptr k e sz i j) := rfl
@[go_sem] theorem dI {g : FuncId} : xnilCheck (.fn g cs) = some (.fn g cs) := rfl
@[go_sem] theorem TS {g : FuncId} {caps : List Val} : CL (.func g) [] caps = some (.fn g caps) := rfl
def lnT (H : Hp) (v : Val) : Option TI → Option Val
 | some { kind := .slice _,.. } => (match v with | .lst _ xss => some (.int .i64 xss.length) | .exl _ xss => some (.int .i64 xss.length) | .nils => some (.int .i64 0) | .gr _ _ n => some (.int .i64 n) | _ => none)
 | some { kind := .str,.. } => (match v with | .str s => some (.int .i64 s.size) | _ => none)
 | some { kind := .map _ _,.. } => (match v with | .nilm => some (.int .i64 0) | .map k e => (match H k with | some (e',.map _ es) => if e = e' then some (.int .i64 es.length) else none | some (e',.frm _ es) => if e = e' then some (.int .i64 es.length) else none | _ => none) | _ => none)
 | some { kind := .array n _,.. } => some (.int .i64 n)
 | _ => none
@[go_sem] theorem cO {n : Nat} {xss : List (List Val)} : lnT H (.lst n xss) (some ⟨.slice t,s,b,z,p⟩) = some (.int .i64 xss.length) := rfl
@[go_sem] theorem cZ {n : Nat} {xss : List (List Val)} : lnT H (.exl n xss) (some ⟨.slice t,s,b,z,p⟩) = some (.int .i64 xss.length) := rfl
@[go_sem] theorem lnT_nils : lnT H .nils (some ⟨.slice t,s,b,z,p⟩) = some (.int .i64 0) := rfl
@[go_sem] theorem gH {k e n : Nat} : lnT H (.gr k e n) (some ⟨.slice t,s,b,z,p⟩) = some (.int .i64 n) := rfl
@[go_sem] theorem cY {x : ByteArray} : lnT H (.str x) (some ⟨.str,s,b,z,p⟩) = some (.int .i64 x.size) := rfl
@[go_sem] theorem dy {n : Nat} : lnT H v (some ⟨.array n t,s,b,z,p⟩) = some (.int .i64 n) := by cases v <;> rfl
@[go_sem] theorem xlenT_eq : Gp T H t v = lnT H v (T t) := by
 unfold Gp lnT
 cases T t with
 | none => rfl
 | some a => obtain ⟨kind,sz,bytes,zero,plain⟩ := a; cases kind <;> cases v <;> rfl
end
end Cp
namespace Cp
open Go
section
variable {P : Program} {T : Tab} {md : Me} {K : Fr → Hp → Prop} {Q : Exit → Fr → Hp → Prop} {f : Fr} {H : Hp} {d : Option Tmp} {t u s b i : Nat} {z : Val} {p : Bool} {cs : List Val} {v x : Val} {ti : TI}
@[go_sem] theorem vc_agg : vcells (.agg cs) = some cs := rfl
@[go_sem] theorem i7 {k : IntKind} {n : Int} : vcells (.int k n) = some [.int k n] := rfl
@[go_sem] theorem cG {c : Bool} : vcells (.bool c) = some [.bool c] := rfl
@[go_sem] theorem gm {c : ByteArray} : vcells (.str c) = some [.str c] := rfl
@[go_sem] theorem vc_nilp : vcells .nilp = some [.nilp] := rfl
@[go_sem] theorem vc_nils : vcells .nils = some [.nils] := rfl
@[go_sem] theorem vc_nilm : vcells .nilm = some [.nilm] := rfl
@[go_sem] theorem vc_nilf : vcells .nilf = some [.nilf] := rfl
@[go_sem] theorem vc_nili : vcells .nili = some [.nili] := rfl
@[go_sem] theorem gG {k e sz i j : Nat} : vcells (.ptr k e sz i j) = some [.ptr k e sz i j] := rfl
@[go_sem] theorem vc_pim : vcells (.pim cs) = some [.pim cs] := rfl
@[go_sem] theorem gh {n : Nat} {xss : List (List Val)} : vcells (.lst n xss) = some [.lst n xss] := rfl
@[go_sem] theorem gp {n : Nat} {xss : List (List Val)} : vcells (.exl n xss) = some [.exl n xss] := rfl
@[go_sem] theorem ig {k e n : Nat} : vcells (.gr k e n) = some [.gr k e n] := rfl
@[go_sem] theorem gj {k e : Nat} : vcells (.map k e) = some [.map k e] := rfl
@[go_sem] theorem i9 {g : FuncId} : vcells (.fn g cs) = some [.fn g cs] := rfl
@[go_sem] theorem bF {t : TypeId} : vcells (.iface t v) = some [.iface t v] := rfl
@[go_sem] theorem XU {k : Nat} : none0 k = none := rfl
def frK (r : Option (Val × Up)) : Option (Nat × AObj) → Option (Val × Up) | none => r | some _ => none
@[go_sem] theorem ZL {r : Option (Val × Up)} : frK r none = r := rfl
@[go_sem] theorem aU {k : Nat} {r : Option (Val × Up)} : Bw H k r = frK r (H k) := by unfold Bw frK; cases H k <;> rfl
def alV (k e : Nat) : Option (List Val) → Option (Val × Up) | some zs => some (.ptr k e zs.length 0 0,some (k,some (e,.arr zs.length [zs]))) | none => none
@[go_sem] theorem ag {k e : Nat} {zs : List Val} : alV k e (some zs) = some (.ptr k e zs.length 0 0,some (k,some (e,.arr zs.length [zs]))) := rfl
def alT (k e : Nat) : Option TI → Option (Val × Up) | some ti => alV k e (vcells ti.zero) | none => none
@[go_sem] theorem aF {k e : Nat} : alT k e (some ti) = alV k e (vcells ti.zero) := rfl
@[go_sem] theorem YE {k e : Nat} : Fy T k e t = alT k e (T t) := by unfold Fy alT; cases T t with | none => rfl | some ti => simp only [alV]; cases vcells ti.zero <;> rfl
def bxV (own : Bool) (k e : Nat) : Option (List Val) → Option (Val × Up) | some cs => if own = true then some (.ptr k e cs.length 0 0,some (k,some (e,.arr cs.length [cs]))) else some (.pim cs,none) | none => none
@[go_sem] theorem bJ {own : Bool} {k e : Nat} : bxV own k e (some cs) = if own = true then some (.ptr k e cs.length 0 0,some (k,some (e,.arr cs.length [cs]))) else some (.pim cs,none) := rfl
@[go_sem] theorem bR {own : Bool} {k e : Nat} : Fp own k e v = bxV own k e (vcells v) := by unfold Fp bxV; cases vcells v <;> rfl
def stC (k e sz i j : Nat) (vs : List Val) (xss : List (List Val)) : Option (List Val) → Option Up
 | some es => if j + vs.length ≤ es.length then some (some (k,some (e,.arr sz (xss.set i (Aq es j vs))))) else none
 | none => none
@[go_sem] theorem Zu {k e sz i j : Nat} {vs es : List Val} {xss : List (List Val)} : stC k e sz i j vs xss (some es) = if j + vs.length ≤ es.length then some (some (k,some (e,.arr sz (xss.set i (Aq es j vs))))) else none := rfl
def VT (k e sz i j : Nat) (vs : List Val) : Option (Nat × AObj) → Option Up
 | some (e',.arr sz' xss) => if e = e' ∧ sz = sz' then stC k e sz i j vs xss xss[i]? else none
 | _ => none
@[go_sem] theorem YT {k e e' sz sz' i j : Nat} {vs : List Val} {xss : List (List Val)} : VT k e sz i j vs (some (e',.arr sz' xss)) = if e = e' ∧ sz = sz' then stC k e sz i j vs xss xss[i]? else none := rfl
def stT (H : Hp) (a : Val) : Option TI → Option (List Val) → Option Up
 | some ti,some vs => if vs.length = ti.sz then (match a with | .ptr k e sz i j => VT k e sz i j vs (H k) | _ => none) else none
 | _,_ => none
@[go_sem] theorem ZA {k e sz i j : Nat} {vs : List Val} : stT H (.ptr k e sz i j) (some ti) (some vs) = if vs.length = ti.sz then VT k e sz i j vs (H k) else none := rfl
@[go_sem] theorem Yv {a : Val} : Dd T H t a v = stT H a (T t) (vcells v) := by
 unfold Dd stT
 cases T t with
 | none => rfl
 | some ti =>
  cases vcells v with
  | none => rfl
  | some vs =>
   simp only
   split
   ·cases a <;> rfl
   ·rfl
@[go_sem] theorem VA {es vs : List Val} : Aq es 0 vs = vs ++ es.drop vs.length := by simp [Aq]
@[go_sem] theorem Vo {e : Val} {es vs : List Val} {j : Nat} : Aq (e :: es) (j + 1) vs = e :: Aq es j vs := by
 simp only [Aq,List.take_succ_cons,List.cons_append]
 rw [show j + 1 + vs.length = (j + vs.length) + 1 by omega,List.drop_succ_cons]
attribute [go_sem] List.set_cons_zero List.set_cons_succ List.set_nil
def plB (off : Nat) : Option TI → Option (Nat × Nat) | some fi => some (off,fi.sz) | none => none
@[go_sem] theorem ZE {off : Nat} : plB off (some ti) = some (off,ti.sz) := rfl
def plA (T : Tab) : Option (Nat × Nat) → Option (Nat × Nat) | some (off,ft) => plB off (T ft) | none => none
@[go_sem] theorem ZB {off ft : Nat} : plA T (some (off,ft)) = plB off (T ft) := rfl
@[go_sem] theorem Yp {fs : List (Nat × Nat)} : Fv T fs i = plA T fs[i]? := by
 unfold Fv plA
 cases fs[i]? with
 | none => rfl
 | some q => obtain ⟨off,ft⟩ := q; simp only [plB]; cases T ft <;> rfl
def xf1 (pl : Nat → Option (Nat × Nat)) (cells : List Val) (rest : List (Nat × Val)) : Option (Nat × Nat) → Option (List Val) → Option (List Val)
 | some (off,sz),some vs => if vs.length = sz ∧ off + sz ≤ cells.length then Ce pl (cells.take off ++ vs ++ cells.drop (off + sz)) rest else none
 | _,_ => none
@[go_sem] theorem bi {pl : Nat → Option (Nat × Nat)} {cells : List Val} {rest : List (Nat × Val)} {off sz : Nat} {vs : List Val} : xf1 pl cells rest (some (off,sz)) (some vs) = if vs.length = sz ∧ off + sz ≤ cells.length then Ce pl (cells.take off ++ vs ++ cells.drop (off + sz)) rest else none := rfl
@[go_sem] theorem XW {pl : Nat → Option (Nat × Nat)} {cells : List Val} : Ce pl cells [] = some cells := rfl
@[go_sem] theorem VX {pl : Nat → Option (Nat × Nat)} {cells : List Val} {rest : List (Nat × Val)} : Ce pl cells ((i,v) :: rest) = xf1 pl cells rest (pl i) (vcells v) := by
 simp only [Ce,xf1]
 cases pl i with
 | none => rfl
 | some q => obtain ⟨off,sz⟩ := q; cases vcells v <;> rfl
def bdR : Option (List Val) → Option Val | some cs => some (.agg cs) | none => none
@[go_sem] theorem bdR_some : bdR (some cs) = some (.agg cs) := rfl
def bdE (zs : List Val) (ps : List (Nat × Val)) : Option TI → Option Val | some ei => bdR (Ce (fun i => some (i * ei.sz,ei.sz)) zs ps) | none => none
@[go_sem] theorem Zg {zs : List Val} {ps : List (Nat × Val)} : bdE zs ps (some ti) = bdR (Ce (fun i => some (i * ti.sz,ti.sz)) zs ps) := rfl
def bdT (T : Tab) (ps : List (Nat × Val)) : Option TI → Option Val
 | some { kind := .struct fs,zero := .agg zs,.. } => bdR (Ce (Fv T fs) zs ps)
 | some { kind := .array _ et,zero := .agg zs,.. } => bdE zs ps (T et)
 | _ => none
@[go_sem] theorem Wt {ps : List (Nat × Val)} {fs : List (Nat × Nat)} {zs : List Val} : bdT T ps (some ⟨.struct fs,s,b,.agg zs,p⟩) = bdR (Ce (Fv T fs) zs ps) := rfl
@[go_sem] theorem XT {ps : List (Nat × Val)} {n : Nat} {zs : List Val} : bdT T ps (some ⟨.array n t,s,b,.agg zs,p⟩) = bdE zs ps (T t) := rfl
@[go_sem] theorem Yn {ps : List (Nat × Val)} : Fk T t ps = bdT T ps (T t) := by
 unfold Fk bdT
 cases T t with
 | none => rfl
 | some ti =>
  obtain ⟨kind,sz,bytes,zero,plain⟩ := ti
  cases kind <;> cases zero <;> rfl
@[go_sem] theorem Yi {zs : List Val} : Bm zs 0 = [] := rfl
@[go_sem] theorem Yc {zs : List Val} {n : Nat} : Bm zs (n + 1) = zs ++ Bm zs n := by simp [Bm,List.replicate_succ]
@[go_sem] theorem aX {l : List Val} {n : Nat} : chunks n 0 l = [] := rfl
@[go_sem] theorem Z9 {l : List Val} {n m : Nat} : chunks n (m + 1) l = l.take n :: chunks n m (l.drop n) := rfl
def bs4 (own : Bool) (k e n sz : Nat) : Option (List Val) → Option (Val × Up)
 | some cs => if own = true then some (.gr k e n,some (k,some (e,.arr sz (chunks sz n cs)))) else if n = 0 then some (.nils,none) else some (.lst sz (chunks sz n cs),none)
 | none => none
@[go_sem] theorem ae {own : Bool} {k e n sz : Nat} : bs4 own k e n sz (some cs) = if own = true then some (.gr k e n,some (k,some (e,.arr sz (chunks sz n cs)))) else if n = 0 then some (.nils,none) else some (.lst sz (chunks sz n cs),none) := rfl
def bs3 (own : Bool) (k e n : Nat) (ps : List (Nat × Val)) (ei : TI) : Option (List Val) → Option (Val × Up)
 | some zs => if zs.length = ei.sz ∧ 0 < ei.sz ∧ n * ei.sz ≤ 16777216 then bs4 own k e n ei.sz (Ce (fun i => some (i * ei.sz,ei.sz)) (Bm zs n) ps) else none
 | none => none
@[go_sem] theorem aV {own : Bool} {k e n : Nat} {ps : List (Nat × Val)} {zs : List Val} : bs3 own k e n ps ti (some zs) = if zs.length = ti.sz ∧ 0 < ti.sz ∧ n * ti.sz ≤ 16777216 then bs4 own k e n ti.sz (Ce (fun i => some (i * ti.sz,ti.sz)) (Bm zs n) ps) else none := rfl
def bs2 (own : Bool) (k e n : Nat) (ps : List (Nat × Val)) : Option TI → Option (Val × Up) | some ei => bs3 own k e n ps ei (vcells ei.zero) | none => none
@[go_sem] theorem aq {own : Bool} {k e n : Nat} {ps : List (Nat × Val)} : bs2 own k e n ps (some ti) = bs3 own k e n ps ti (vcells ti.zero) := rfl
def bs1 (T : Tab) (own : Bool) (k e n : Nat) (ps : List (Nat × Val)) : Option TI → Option (Val × Up) | some { kind := .slice et,.. } => bs2 own k e n ps (T et) | _ => none
@[go_sem] theorem ak {own : Bool} {k e n : Nat} {ps : List (Nat × Val)} : bs1 T own k e n ps (some ⟨.slice t,s,b,z,p⟩) = bs2 own k e n ps (T t) := rfl
@[go_sem] theorem S5 {own : Bool} {k e n : Nat} {ps : List (Nat × Val)} : Al T own k e t n ps = bs1 T own k e n ps (T t) := by
 unfold Al bs1
 cases T t with
 | none => rfl
 | some ti =>
  obtain ⟨kind,sz,bytes,zero,plain⟩ := ti
  cases kind <;> rfl
@[go_sem] theorem d7 {n m : Nat} {xss : List (List Val)} : Cq H n (.lst m xss) = if m = n then some xss else none := rfl
@[go_sem] theorem db {n m : Nat} {xss : List (List Val)} : Cq H n (.exl m xss) = if m = n then some xss else none := rfl
@[go_sem] theorem bf {n : Nat} : Cq H n .nils = some [] := rfl
def Ur (e n m : Nat) : Option (Nat × AObj) → Option (List (List Val))
 | some (e',.arr s xss) => if e = e' ∧ s = m ∧ n = xss.length then some xss else none
 | some (e',.fro s xss) => if e = e' ∧ s = m ∧ n = xss.length then some xss else none
 | _ => none
@[go_sem] theorem Zm {e e' n m : Nat} {xss : List (List Val)} : Ur e n m (some (e',.arr s xss)) = if e = e' ∧ s = m ∧ n = xss.length then some xss else none := rfl
@[go_sem] theorem bo {e e' n m : Nat} {xss : List (List Val)} : Ur e n m (some (e',.fro s xss)) = if e = e' ∧ s = m ∧ n = xss.length then some xss else none := rfl
@[go_sem] theorem gF {k e n m : Nat} : Cq H m (.gr k e n) = Ur e n m (H k) := by
 unfold Cq Ur
 simp only
 cases H k with
 | none => rfl
 | some q => obtain ⟨e',o⟩ := q; cases o <;> rfl
def apE (k e n : Nat) (ep : Nat → Nat) (ei : TI) (yss : List (List Val)) : Option (Nat × AObj) → Option (Val × Up)
 | some (e',.arr sz xss) => if e = e' ∧ sz = ei.sz ∧ n = xss.length ∧ n + yss.length ≤ 1073741824 then some (.gr k (ep k) (n + yss.length),some (k,some (ep k,.arr sz (xss ++ yss)))) else none
 | _ => none
@[go_sem] theorem bX {k e e' n sz : Nat} {ep : Nat → Nat} {xss yss : List (List Val)} : apE k e n ep ti yss (some (e',.arr sz xss)) = if e = e' ∧ sz = ti.sz ∧ n = xss.length ∧ n + yss.length ≤ 1073741824 then some (.gr k (ep k) (n + yss.length),some (k,some (ep k,.arr sz (xss ++ yss)))) else none := rfl
def apD (H : Hp) (own : Bool) (k0 : Nat) (ep : Nat → Nat) (ei : TI) (yss : List (List Val)) : Val → Option (Val × Up)
 | .gr k e n => apE k e n ep ei yss (H k)
 | .nils => if yss.length ≤ 1073741824 then (if own = true then (if yss.length = 0 then none else some (.gr k0 (ep k0) yss.length,some (k0,some (ep k0,.arr ei.sz yss)))) else some (.lst ei.sz yss,none)) else none
 | .exl sz xss => if sz = ei.sz ∧ xss.length + yss.length ≤ 1073741824 ∧ own = false then some (.lst sz (xss ++ yss),none) else none
 | _ => none
@[go_sem] theorem dV {own : Bool} {k0 k e n : Nat} {ep : Nat → Nat} {yss : List (List Val)} : apD H own k0 ep ti yss (.gr k e n) = apE k e n ep ti yss (H k) := rfl
@[go_sem] theorem Zo {own : Bool} {k0 : Nat} {ep : Nat → Nat} {yss : List (List Val)} : apD H own k0 ep ti yss .nils = if yss.length ≤ 1073741824 then (if own = true then (if yss.length = 0 then none else some (.gr k0 (ep k0) yss.length,some (k0,some (ep k0,.arr ti.sz yss)))) else some (.lst ti.sz yss,none)) else none := rfl
@[go_sem] theorem dD {own : Bool} {k0 sz : Nat} {ep : Nat → Nat} {xss yss : List (List Val)} : apD H own k0 ep ti yss (.exl sz xss) = if sz = ti.sz ∧ xss.length + yss.length ≤ 1073741824 ∧ own = false then some (.lst sz (xss ++ yss),none) else none := rfl
def apC (H : Hp) (own : Bool) (k0 : Nat) (ep : Nat → Nat) (t tx : TypeId) (x : Val) (ei : TI) : Option (List Val) → Option (List (List Val)) → Option (Val × Up)
 | some zs,some yss => if zs.length = ei.sz ∧ 0 < ei.sz ∧ ei.bytes ≤ 4096 ∧ tx = t then apD H own k0 ep ei yss x else none
 | _,_ => none
@[go_sem] theorem Z7 {own : Bool} {k0 : Nat} {ep : Nat → Nat} {t tx : TypeId} {zs : List Val} {yss : List (List Val)} : apC H own k0 ep t tx x ti (some zs) (some yss) = if zs.length = ti.sz ∧ 0 < ti.sz ∧ ti.bytes ≤ 4096 ∧ tx = t then apD H own k0 ep ti yss x else none := rfl
def apB (H : Hp) (own : Bool) (k0 : Nat) (ep : Nat → Nat) (t tx : TypeId) (x y : Val) : Option TI → Option (Val × Up) | some ei => apC H own k0 ep t tx x ei (vcells ei.zero) (Cq H ei.sz y) | none => none
@[go_sem] theorem a7 {own : Bool} {k0 : Nat} {ep : Nat → Nat} {t tx : TypeId} {y : Val} : apB H own k0 ep t tx x y (some ti) = apC H own k0 ep t tx x ti (vcells ti.zero) (Cq H ti.sz y) := rfl
def apA (T : Tab) (H : Hp) (own : Bool) (k0 : Nat) (ep : Nat → Nat) (t tx : TypeId) (x y : Val) : Option TI → Option (Val × Up) | some { kind := .slice et,.. } => apB H own k0 ep t tx x y (T et) | _ => none
@[go_sem] theorem ZK {own : Bool} {k0 : Nat} {ep : Nat → Nat} {t tx et : TypeId} {y : Val} : apA T H own k0 ep t tx x y (some ⟨.slice et,s,b,z,p⟩) = apB H own k0 ep t tx x y (T et) := rfl
@[go_sem] theorem W0 {own : Bool} {k0 : Nat} {ep : Nat → Nat} {tx : TypeId} {y : Val} : AF T H own k0 ep t tx x y = apA T H own k0 ep t tx x y (T t) := by
 unfold AF apA
 cases T t with
 | none => rfl
 | some ti =>
  obtain ⟨kind,sz,bytes,zero,plain⟩ := ti
  cases kind <;> rfl
@[go_sem] theorem YP {tx : TypeId} : Q9 T H t tx .nils x = noUp (AF T H false 0 (fun _ => 0) t tx .nils x) := rfl
@[go_sem] theorem ZG {tx : TypeId} {n : Nat} {xss : List (List Val)} : Q9 T H t tx (.lst n xss) x = noUp (AF T H false 0 (fun _ => 0) t tx (.lst n xss) x) := rfl
@[go_sem] theorem Zt {tx : TypeId} {n : Nat} {xss : List (List Val)} : Q9 T H t tx (.exl n xss) x = noUp (AF T H false 0 (fun _ => 0) t tx (.exl n xss) x) := rfl
@[go_sem] theorem xint_none : xint none = some none := rfl
@[go_sem] theorem bH {k : IntKind} {n : Int} : xint (some (.int k n)) = some (some n) := rfl
def slT (T : Tab) (H : Hp) (x : Val) : Option (Option Int) → Option (Option Int) → Option (Option Int) → Option TI → Option Val
 | some lo,some hi,some mx,some ti => Dp T H x lo hi mx ti.kind
 | _,_,_,_ => none
@[go_sem] theorem ba {lo hi mx : Option Int} : slT T H x (some lo) (some hi) (some mx) (some ti) = Dp T H x lo hi mx ti.kind := rfl
@[go_sem] theorem YV {lo hi mx : Option Val} : DT T H t x lo hi mx = slT T H x (xint lo) (xint hi) (xint mx) (T t) := by
 unfold DT slT
 cases T t with
 | none => cases xint lo <;> cases xint hi <;> cases xint mx <;> rfl
 | some ti =>
  simp only
  cases xint lo with
  | none => rfl
  | some lo =>
   simp only
   cases xint hi with
   | none => rfl
   | some hi => simp only; cases xint mx <;> rfl
def slF (e n : Nat) (lo hi mx : Option Int) (sz0 : Nat) : Option (Nat × AObj) → Option Val
 | some (e',.fro sz xss) => if e = e' ∧ sz = sz0 ∧ n = xss.length then cut sz xss lo hi mx else none
 | _ => none
@[go_sem] theorem bO {e e' n sz sz0 : Nat} {lo hi mx : Option Int} {xss : List (List Val)} : slF e n lo hi mx sz0 (some (e',.fro sz xss)) = if e = e' ∧ sz = sz0 ∧ n = xss.length then cut sz xss lo hi mx else none := rfl
def slK (H : Hp) (x : Val) (lo hi mx : Option Int) : Option TI → Option Val
 | some ei => (match x with | .lst sz xss => if sz = ei.sz then cut sz xss lo hi mx else none | .exl sz xss => if sz = ei.sz then cut sz xss lo hi mx else none | .gr k e n => slF e n lo hi mx ei.sz (H k) | _ => none)
 | none => none
@[go_sem] theorem dG {lo hi mx : Option Int} {sz : Nat} {xss : List (List Val)} : slK H (.lst sz xss) lo hi mx (some ti) = if sz = ti.sz then cut sz xss lo hi mx else none := rfl
@[go_sem] theorem dF {lo hi mx : Option Int} {sz : Nat} {xss : List (List Val)} : slK H (.exl sz xss) lo hi mx (some ti) = if sz = ti.sz then cut sz xss lo hi mx else none := rfl
@[go_sem] theorem dZ {lo hi mx : Option Int} {k e n : Nat} : slK H (.gr k e n) lo hi mx (some ti) = slF e n lo hi mx ti.sz (H k) := rfl
@[go_sem] theorem T9 {lo hi mx : Option Int} : Dp T H x lo hi mx (.slice t) = slK H x lo hi mx (T t) := by
 simp only [Dp]
 cases T t with
 | none => rfl
 | some ei =>
  cases x <;> rfl
@[go_sem] theorem aB {lo hi : Option Int} {sz : Nat} {xss : List (List Val)} : cut sz xss lo hi none = if 0 ≤ lo.getD 0 ∧ lo.getD 0 ≤ hi.getD xss.length ∧ hi.getD xss.length ≤ xss.length then some (.lst sz ((xss.take (hi.getD xss.length).toNat).drop (lo.getD 0).toNat)) else none := rfl
@[go_sem] theorem a8 {lo : Option Int} {h m : Int} {sz : Nat} {xss : List (List Val)} : cut sz xss lo (some h) (some m) = if 0 ≤ lo.getD 0 ∧ lo.getD 0 ≤ h ∧ h ≤ xss.length ∧ m = h then some (.exl sz ((xss.take h.toNat).drop (lo.getD 0).toNat)) else none := rfl
@[go_sem] theorem cT {m : Bool} {k : IntKind} {n : Int} {rest : List Val} : xminmax m (.int k n :: rest) = xminmax.go m k n rest := rfl
@[go_sem] theorem i8 {m : Bool} {k : IntKind} {n : Int} : xminmax.go m k n [] = some (.int k n) := rfl
@[go_sem] theorem gU {k k' : IntKind} {n c : Int} {rest : List Val} : xminmax.go true k n (.int k' c :: rest) = xminmax.go true k (max n c) rest := rfl
@[go_sem] theorem gt {k k' : IntKind} {n c : Int} {rest : List Val} : xminmax.go false k n (.int k' c :: rest) = xminmax.go false k (min n c) rest := rfl
def xresL : Option (List Val) → Option Val | some [v] => some v | some vs => some (.tup vs) | none => none
@[go_sem] theorem xresL_1 : xresL (some [v]) = some v := rfl
@[go_sem] theorem xresL_0 : xresL (some []) = some (.tup []) := rfl
@[go_sem] theorem cw {w : Val} {vs : List Val} : xresL (some (v :: w :: vs)) = some (.tup (v :: w :: vs)) := rfl
@[go_sem] theorem bN {rs : List ResultVar} : Fx T f H rs = xresL (D2 T f H rs) := by
 unfold Fx
 cases D2 T f H rs with
 | none => rfl
 | some vs =>
  cases vs with
  | nil => rfl
  | cons a l => cases l <;> rfl
@[go_sem] theorem xress_nil : D2 T f H [] = some [] := rfl
def xrc : Option Val → Option (List Val) → Option (List Val) | some v,some vs => some (v :: vs) | _,_ => none
@[go_sem] theorem Zl {vs : List Val} : xrc (some v) (some vs) = some (v :: vs) := rfl
@[go_sem] theorem XS {t : Tmp} {rs : List ResultVar} : D2 T f H (.tmp t :: rs) = xrc (some (f t)) (D2 T f H rs) := by simp only [D2,N7,xrc]; cases D2 T f H rs <;> rfl
@[go_sem] theorem Xa {a : Tmp} {t : TypeId} {rs : List ResultVar} : D2 T f H (.cell a t :: rs) = xrc (Cg T H t (f a)) (D2 T f H rs) := by
 simp only [D2,N7,xrc]
 cases Cg T H t (f a) with
 | none => rfl
 | some v => cases D2 T f H rs <;> rfl
end
end Cp
namespace Cp
open Go
def GZ (cmp : Oper → Oper → Bool) (os : List Oper) (i : Nat) (o : Oper) : Nat → List Oper → Bool
 | _,[] => true
 | x,ox :: l => (if x < i then cmp ox o || BK os x 8 o else true) && GZ cmp os i o (x + 1) l
def Ij (cmp : Oper → Oper → Bool) (os : List Oper) : Nat → List Oper → Bool
 | _,[] => true
 | i,o :: l => GZ cmp os i o 0 os && Ij cmp os (i + 1) l
def IC (cmp : Oper → Oper → Bool) (os : List Oper) : Bool := IE os 0 os && Ij cmp os 0 os
def Bd (stp : Oper → (Fr → Hp → Prop) → Fr → Hp → Prop) (os : List Oper) (K : Fr → Hp → Prop) : List Nat → Fr → Hp → Prop
 | [],f,H => K f H
 | i :: is,f,H => match os[i]? with | none => Bd stp os K is f H | some o => stp o (Bd stp os K is) f H
def CD (stp : Oper → (Fr → Hp → Prop) → Fr → Hp → Prop) (K : Fr → Hp → Prop) : List Oper → Fr → Hp → Prop
 | [],f,H => K f H
 | o :: l,f,H => stp o (CD stp K l) f H
section
variable {P : Program} {T : Tab} {G : Gh} {w : World} {H : Hp} {md : Me} {K : Fr → Hp → Prop} {f : Fr} {os : List Oper} {X : Cx} {ro : Option Nat} {Q : Exit → Fr → Hp → Prop} {stp : Oper → (Fr → Hp → Prop) → Fr → Hp → Prop} {cmp : Oper → Oper → Bool}
theorem L6 (os : List Oper) : ∀ (n i : Nat),i + n = os.length → ∀ f H,Bd stp os K (List.range' i n) f H = CD stp K (os.drop i) f H
 | 0,i,h,f,H => by
  rw [List.drop_eq_nil_of_le (by omega)]; rfl
 | n + 1,i,h,f,H => by
  have hi : i < os.length := by omega
  rw [List.drop_eq_getElem_cons hi]
  simp only [List.range'_succ,Bd,CD,List.getElem?_eq_getElem hi]
  have : Bd stp os K (List.range' (i + 1) n) = CD stp K (os.drop (i + 1)) := by
   funext f H
   exact L6 os n (i + 1) (by omega) f H
  rw [this]
theorem Cs (os : List Oper) (f : Fr) (H : Hp) : Bd stp os K (List.range os.length) f H = CD stp K os f H := by
 rw [List.range_eq_range',L6 os os.length 0 (by omega)]; rfl
theorem Js {i : Nat} {o : Oper} : ∀ (l : List Oper) (x : Nat),GZ cmp os i o x l = true → ∀ (j : Nat) (ox : Oper),l[j]? = some ox → x + j < i →
  cmp ox o = true ∨ BK os (x + j) 8 o = true
 | [],x,h,j,ox,hj => by simp at hj
 | a :: l,x,h,j,ox,hj => by
  simp only [GZ,Bool.and_eq_true] at h
  intro hlt
  cases j with
  | zero =>
   simp only [List.getElem?_cons_zero,Option.some.injEq] at hj
   subst hj
   have h1 := h.1
   rw [if_pos (by omega)] at h1
   simpa [Bool.or_eq_true] using h1
  | succ j =>
   have := Js l (x + 1) h.2 j ox (by simpa using hj) (by omega)
   rwa [show x + 1 + j = x + (j + 1) from by omega] at this
theorem pairsOKG_get : ∀ (l : List Oper) (i : Nat),Ij cmp os i l = true → ∀ (j : Nat) (o : Oper),l[j]? = some o → GZ cmp os (i + j) o 0 os = true
 | [],i,h,j,o,hj => by simp at hj
 | a :: l,i,h,j,o,hj => by
  simp only [Ij,Bool.and_eq_true] at h
  cases j with
  | zero => simp only [List.getElem?_cons_zero,Option.some.injEq] at hj; subst hj; exact h.1
  | succ j =>
   have := pairsOKG_get l (i + 1) h.2 j o (by simpa using hj)
   rwa [show i + 1 + j = i + (j + 1) from by omega] at this
theorem Mm (hmono : ∀ (o : Oper) (K K' : Fr → Hp → Prop) (f : Fr) (H : Hp),(∀ f H,K f H → K' f H) → stp o K f H → stp o K' f H)
  (hswap : ∀ (x i : Oper) (K : Fr → Hp → Prop) (f : Fr) (H : Hp),cmp x i = true → stp x (stp i K) f H → stp i (stp x K) f H)
  {i : Nat} {oi : Oper} (hi : os[i]? = some oi) : ∀ (A B : List Nat),(∀ x ∈ A,∃ ox,os[x]? = some ox ∧ cmp ox oi = true) → ∀ {K : Fr → Hp → Prop} {f : Fr} {H : Hp},Bd stp os K (A ++ i :: B) f H → Bd stp os K (i :: (A ++ B)) f H
 | [],B,hA,K,f,H,h => h
 | x :: A,B,hA,K,f,H,h => by
  obtain ⟨ox,hx,hc⟩ := hA x (by simp)
  simp only [List.cons_append,Bd,hx] at h
  have h1 : stp ox (Bd stp os K (i :: (A ++ B))) f H := hmono _ _ _ _ _ (fun f H h => Mm hmono hswap hi A B (fun y hy => hA y (by simp [hy])) h) h
  have e : Bd stp os K (i :: (A ++ B)) = stp oi (Bd stp os K (A ++ B)) := by funext f H; simp only [Bd,hi]
  rw [e] at h1
  have h2 := hswap _ _ _ _ _ hc h1
  simp only [Bd,hi,hx,List.cons_append]
  exact h2
theorem Pp {ops : Array Oper} (hsz : BF X.sz ops.toList = true) (hok : IC cmp ops.toList = true) (hmono : ∀ (o : Oper) (K K' : Fr → Hp → Prop) (f : Fr) (H : Hp),(∀ f H,K f H → K' f H) → stp o K f H → stp o K' f H)
  (hswap : ∀ (x i : Oper) (K : Fr → Hp → Prop) (f : Fr) (H : Hp),cmp x i = true → stp x (stp i K) f H → stp i (stp x K) f H)
  (hstep : ∀ (G : Gh) (a : Act) (w : World) (f : Fr) (H : Hp) (i : Nat) (o : Oper) (K : Fr → Hp → Prop) (Q : Exit → Act → World → Prop),St X G f H a w → ops[i]? = some o → (∀ t,o.dst = some t → t < X.sz) → stp o K f H → wpOpIn (FW ro) 0 P ops Q i (Kon X K) a w) : ∀ (R : List Nat) (listed : Array Bool) (f : Fr) (H : Hp) (G : Gh) (a : Act) (w : World),listed.size = ops.size →
  R.Pairwise (· < ·) → (∀ j,j ∈ R ↔ listed.getD j true = false) → (∀ j o,ops[j]? = some o → listed.getD j true = true → ∀ e ∈ o.after,Region.binds .any e = true → listed.getD e.on false = true) →
  St X G f H a w → Bd stp ops.toList (Q .normal) R f H → wpAnyIn (FW ro) 0 P .any ops (Post X Q) R.length listed a w := by
 simp only [IC,Bool.and_eq_true] at hok
 obtain ⟨hback,hpairs⟩ := hok
 intro R
 generalize hn : R.length = n
 induction n generalizing R with
 | zero =>
  intro listed f H G a w hls hp hm hcl s h
  have hR : R = [] := List.eq_nil_of_length_eq_zero hn
  subst hR
  refine ⟨?_,G,f,H,s,h⟩
  cases hr : Region.ready .any ops listed with
  | nil => rfl
  | cons x xs =>
   have := (mem_ready.1 (by rw [hr]; simp : x ∈ Region.ready .any ops listed)).1
   exact absurd ((hm x).2 this) (by simp)
 | succ n ih =>
  intro listed f H G a w hls hp hm hcl s h
  have hlt : ∀ j,j ∈ R → j < ops.size := fun j hj => by
   have := (hm j).1 hj
   rcases Nat.lt_or_ge j ops.size with h | h
   ·exact h
   ·rw [Array.getD_eq_getD_getElem?,Array.getElem?_eq_none (by omega)] at this; cases this
  have ht : ∀ j : Nat,j < ops.size → listed.getD j true = listed.getD j false := fun j hj => by
   rw [Array.getD_eq_getD_getElem?,Array.getD_eq_getD_getElem?,Array.getElem?_eq_getElem (by omega)]; rfl
  refine ⟨fun hr => ?_,fun i hi => ?_⟩
  ·exfalso
   cases R with
   | nil => simp at hn
   | cons m R =>
    have hml := hlt m (by simp)
    have hmo : ops[m]? = some ops[m] := Array.getElem?_eq_getElem hml
    have : m ∈ Region.ready .any ops listed := mem_ready.2 ⟨(hm m).1 (by simp),ops[m],hmo,fun e he hb => by
     have hlt' := backOK_get _ 0 hback m ops[m] (by rw [Array.getElem?_toList]; exact hmo) e he hb
     rw [← ht e.on (by omega)]
     cases hq : listed.getD e.on true with
     | true => rfl
     | false =>
      have hin := (hm e.on).2 hq
      rw [List.pairwise_cons] at hp
      rcases List.mem_cons.1 hin with h1 | h1
      ·omega
      ·have := hp.1 _ h1; omega⟩
    rw [hr] at this
    cases this
  ·obtain ⟨hun,oi,hoi,hpre⟩ := mem_ready.1 hi
   have hiR := (hm i).2 hun
   obtain ⟨A,B,rfl,hA⟩ := GR hiR hp
   have hoi' : ops.toList[i]? = some oi := by rw [Array.getElem?_toList]; exact hoi
   have hAun : ∀ x ∈ A,listed.getD x true = false := fun x hx => (hm x).1 (by simp [hx])
   have hcomp : ∀ x ∈ A,∃ ox,ops.toList[x]? = some ox ∧ cmp ox oi = true := by
    intro x hx
    have hxl := hlt x (by simp [hx])
    have hox : ops.toList[x]? = some ops[x] := by rw [Array.getElem?_toList]; exact Array.getElem?_eq_getElem hxl
    refine ⟨ops[x],hox,?_⟩
    have hpi := pairsOKG_get _ 0 hpairs i oi hoi'
    rw [Nat.zero_add] at hpi
    have hnot : ∀ (j : Nat) (o : Oper),ops[j]? = some o → (∀ e ∈ o.after,Region.binds .any e = true → listed.getD e.on false = true) → Ef x o = true → False := fun j o _ hall he => by
     obtain ⟨e,he1,he2,he3⟩ := EK he
     have := hall e he1 he2
     rw [he3,← ht x hxl,hAun x hx] at this
     cases this
    have hno : ∀ (n : Nat) (j : Nat) (o : Oper),ops[j]? = some o → (∀ e ∈ o.after,Region.binds .any e = true → listed.getD e.on false = true) → BK ops.toList x n o = true → False := by
     intro n
     induction n with
     | zero => exact hnot
     | succ n ihn =>
      intro j o hj hall hpt
      simp only [BK,Bool.or_eq_true] at hpt
      rcases hpt with hpt | hpt
      ·exact hnot j o hj hall hpt
      ·obtain ⟨e,he,hq⟩ := List.any_eq_true.1 hpt
       simp only [Bool.and_eq_true] at hq
       have hme := hall e (by simpa using he) hq.1
       cases hm1 : ops.toList[e.on]? with
       | none => rw [hm1] at hq; simp at hq
       | some m =>
        rw [hm1] at hq
        rw [Array.getElem?_toList] at hm1
        have hml : e.on < ops.size := (Array.getElem?_eq_some_iff.1 hm1).1
        exact ihn e.on m hm1 (hcl e.on m hm1 (by rw [ht e.on hml]; exact hme)) hq.2
    rcases Js _ 0 hpi x _ hox (by rw [Nat.zero_add]; exact hA x hx) with q | q
    ·exact q
    ·rw [Nat.zero_add] at q
     exact (hno 8 i oi hoi hpre q).elim
   have hb := Mm hmono hswap hoi' A B hcomp h
   simp only [Bd,hoi'] at hb
   refine wpOpIn_mono ?_ (hstep _ _ _ _ _ _ _ _ _ s hoi (Cc hsz hoi) hb)
   rintro a' w' ⟨G',f',H',s',h'⟩
   have hil := hlt i hiR
   have hset : ∀ j,(listed.setIfInBounds i true).getD j true = if j = i then true else listed.getD j true := fun j => by
    rw [Array.getD_eq_getD_getElem?,Array.getElem?_setIfInBounds,Array.getD_eq_getD_getElem?]
    by_cases hj : i = j
    ·subst hj; simp [show i < listed.size from by omega]
    ·rw [if_neg hj,if_neg fun e => hj e.symm]
   have hset' : ∀ j,listed.getD j false = true → (listed.setIfInBounds i true).getD j false = true := fun j hj => by
    rw [Array.getD_eq_getD_getElem?,Array.getElem?_setIfInBounds]
    by_cases hij : i = j
    ·subst hij; simp [show i < listed.size from by omega]
    ·rw [if_neg hij,← Array.getD_eq_getD_getElem?]; exact hj
   have hp' : (A ++ B).Pairwise (· < ·) := hp.sublist (by simp)
   have hnd : i ∉ A ++ B := by
    have hp2 : (A ++ i :: B).Pairwise (· ≠ ·) := hp.imp fun h => Nat.ne_of_lt h
    rw [List.pairwise_append,List.pairwise_cons] at hp2
    intro hmem
    rcases List.mem_append.1 hmem with h1 | h1
    ·exact hp2.2.2 i h1 i (by simp) rfl
    ·exact hp2.2.1.1 i h1 rfl
   refine ih (A ++ B) (by simp at hn ⊢; omega) (listed.setIfInBounds i true) f' H' G' a' w' (by simpa using hls) hp' (fun j => ?_) (fun j o hj hl e he hb => ?_) s' h'
   ·rw [hset]
    by_cases hji : j = i
    ·subst hji; simp [hnd] at *
    ·rw [if_neg hji,← hm]
     simp [hji]
   ·rw [hset] at hl
    by_cases hji : j = i
    ·subst hji
     rw [hoi] at hj
     cases hj
     exact hset' _ (hpre e he hb)
    ·rw [if_neg hji] at hl
     exact hset' _ (hcl j o hj hl e he hb)
end
def AD (ss : List Nat) (md : Me) (o : Oper) (f : Fr) : Prop :=
 match o.op with
 | .load _ a => ∀ k,dk (ev f a) = some k → ∀ t ∈ ss,¬ k = md.base + t
 | .indexAddr _ a i => ∀ y ∈ [a,i],∀ k,dk (ev f y) = some k → ∀ t ∈ ss,¬ k = md.base + t
 | .store _ (.tmp t) _ => t ∈ ss → ∃ u ∈ ss,dk (f t) = some (md.base + u)
 | .call { callee := .builtin .append,args,.. } => o.dst.getD 0 ∈ ss → ∀ y,args.toList.head? = some y → ∃ u ∈ ss,dk (ev f y) = some (md.base + u)
 | _ => True
def isS (ss : List Nat) (md : Me) (o : Oper) : Bool :=
 match o.op with
 | .store _ (.tmp t) _ => ss.contains t
 | .call { callee := .builtin .append,.. } => ss.contains (o.dst.getD 0) && md.own.contains (o.dst.getD 0)
 | _ => false
def Ip (ss : List Nat) (md : Me) (os : List Oper) (x i : Oper) : Bool := if (G9 x && isS ss md i || isS ss md x && G9 i) = true then Db os x i else CU md os x i
def Bx (P : Program) (T : Tab) (md : Me) (os : List Oper) (ss : List Nat) (o : Oper) (K : Fr → Hp → Prop) (f : Fr) (H : Hp) : Prop := AD ss md o f ∧ Bo P T md os o K f H
section
variable {P : Program} {T : Tab} {G : Gh} {w : World} {H : Hp} {md : Me} {K : Fr → Hp → Prop} {f f' : Fr} {os : List Oper} {X : Cx} {ro : Option Nat} {Q : Exit → Fr → Hp → Prop} {ss : List Nat} {x i o : Oper} {v : Val} {u : Up} {ep : Nat → Nat}
theorem BH (h : ∀ t ∈ rdT os o,f t = f' t) (hs : AD ss md o f) : AD ss md o f' := by
 have he : ∀ y ∈ o.op.operands.toList,ev f y = ev f' y := IG fun t ht => h t (List.mem_append_left _ ht)
 obtain ⟨dst,op,type,pos,after,guard⟩ := o
 unfold AD at *
 cases op <;> try exact trivial
 case load t a => intro k hk; exact hs k (by rw [he a (by simp [Op.operands])]; exact hk)
 case indexAddr t a ix =>
  intro y hy k hk
  exact hs y hy k (by rw [he y (by simpa [Op.operands] using hy)]; exact hk)
 case store t a y =>
  cases a with
  | tmp t' =>
   intro ht
   have := he (.tmp t') (by simp [Op.operands])
   simp only [ev] at this
   rw [← this]; exact hs ht
  | _ => exact trivial
 case call c =>
  obtain ⟨cl,args,ts⟩ := c
  cases cl with
  | builtin b =>
   cases b <;> try exact trivial
   intro ht y hy
   have hm : y ∈ args.toList := List.mem_of_mem_head? hy
   rw [← he y (by simp [Op.operands,Call.operands]; simpa using hm)]
   exact hs ht y hy
  | _ => exact trivial
theorem MY (h : G9 o = true) : cls md o = 1 := (CB h).2 md
theorem J3 (h : isS ss md o = true) : (∃ ty t' y,o.op = .store ty (.tmp t') y ∧ t' ∈ ss) ∨ ∃ args ts,o.op = .call { callee := .builtin .append,args := args,argTypes := ts } ∧ o.dst.getD 0 ∈ ss ∧ md.own.contains (o.dst.getD 0) = true := by
 unfold isS at h
 split at h
 ·rename_i ty t' y e; exact .inl ⟨_,_,_,e,by simpa using h⟩
 ·rename_i args ts e
  rw [Bool.and_eq_true] at h
  exact .inr ⟨_,_,e,by simpa using h.1,h.2⟩
 ·cases h
theorem Ph (h : isS ss md o = true) : cls md o = 3 := by
 rcases J3 h with ⟨ty,t',y,e,_⟩ | ⟨args,ts,e,_,ho⟩
 ·unfold cls; rw [e]
 ·unfold cls; rw [e]; simp only [ho,if_true]
theorem MI {own : Bool} {k0 : Nat} {t tx : TypeId} {s x : Val} {k k' : Nat} {p : Option (Nat × AObj)} (h : AF T H own k0 ep t tx s x = some (v,some (k,p))) (hd : dk s = some k') : k = k' := by
 unfold AF at h
 split at h <;> try (cases h; done)
 split at h <;> try (cases h; done)
 split at h <;> try (cases h; done)
 split at h <;> try (cases h; done)
 split at h
 ·split at h <;> try (cases h; done)
  split at h <;> try (cases h; done)
  simp only [Option.some.injEq,Prod.mk.injEq] at h
  simp only [dk,Option.some.injEq] at hd
  rw [← hd]; exact h.2.1.symm
 ·cases hd
 ·cases hd
 ·cases h
theorem OX (hi : isS ss md o = true) (hs : AD ss md o f) (h : Out P T md os o ep f H v u) : ∀ k p,u = some (k,p) → ∃ t ∈ ss,k = md.base + t := by
 intro k p hu
 subst hu
 have hn : BC o = false := by
  rcases J3 hi with ⟨ty,t',y,e,_⟩ | ⟨args,ts,e,_⟩
  ·unfold BC; rw [e]
  ·unfold BC; rw [e]
 have key : Dq P T md o ep f H v (some (k,p)) → ∃ t ∈ ss,k = md.base + t := by
  intro h
  rw [BZ hn] at h
  rcases J3 hi with ⟨ty,t',y,e,ht⟩ | ⟨args,ts,e,ht,ho⟩
  ·unfold AD at hs
   rw [e] at hs
   obtain ⟨u0,hu0,hd⟩ := hs ht
   obtain ⟨dst,op,type,pos,after,guard⟩ := o
   simp only at e
   subst e
   simp only [xop] at h
   cases hst : Dd T H ty (ev f (.tmp t')) (ev f y) with
   | none => rw [hst] at h; cases h
   | some u' =>
    rw [hst] at h
    simp only [Option.map_some,Option.some.injEq,Prod.mk.injEq] at h
    obtain ⟨_,rfl⟩ := h
    refine ⟨u0,hu0,?_⟩
    simp only [ev] at hst
    unfold Dd at hst
    split at hst <;> try (cases hst; done)
    split at hst <;> try (cases hst; done)
    generalize hq : f t' = q at hst hd
    cases q <;> simp only at hst <;> try (cases hst; done)
    simp only [dk,Option.some.injEq] at hd
    subst hd
    split at hst <;> try (cases hst; done)
    split at hst <;> try (cases hst; done)
    split at hst <;> try (cases hst; done)
    split at hst <;> try (cases hst; done)
    simp only [Option.some.injEq,Prod.mk.injEq] at hst
    exact hst.1.symm
  ·unfold AD at hs
   rw [e] at hs
   obtain ⟨dst,op,type,pos,after,guard⟩ := o
   simp only at e hs ht ho
   subst e
   simp only [xop] at h
   unfold KR at h
   simp only at h
   unfold Ba at h
   simp only at h
   split at h
   ·cases h
   ·rename_i v' u' hx
    rw [if_pos ho] at h
    simp only [Option.some.injEq,Prod.mk.injEq] at h
    obtain ⟨_,rfl⟩ := h
    split at hx
    ·rename_i t tx s x _ harg
     obtain ⟨y,l,hy⟩ : ∃ y l,args.toList = y :: l := by
      cases hl : args.toList with
      | nil => rw [hl] at harg; cases harg
      | cons y l => exact ⟨y,l,rfl⟩
     obtain ⟨u0,hu0,hd⟩ := hs ht y (by rw [hy]; rfl)
     rw [hy] at harg
     simp only [List.map_cons,List.cons.injEq] at harg
     rw [harg.1] at hd
     exact ⟨u0,hu0,MI hx hd⟩
    ·cases hx
   ·cases h
 unfold Out at h
 split at h
 ·exact key h
 ·split at h
  ·split at h
   ·exact key h
   ·exact absurd h.2 (by simp)
  ·exact absurd h.2 (by simp)
  ·exact h.elim
theorem Uz (hd : Db os x i = true) : (∀ v,∀ t ∈ rdT os i,put f x.dst v t = f t) ∧ (∀ v,∀ t ∈ rdT os x,put f i.dst v t = f t) ∧ ∀ v v',put (put f i.dst v') x.dst v = put (put f x.dst v) i.dst v' := Ds hd
theorem Vh (hm : Ip ss md os x i = true) (h : Bx P T md os ss x (Bx P T md os ss i K) f H) : Bx P T md os ss i (Bx P T md os ss x K) f H := by
 unfold Ip at hm
 unfold Bx at h ⊢
 obtain ⟨hsx,h⟩ := h
 split at hm
 ·rename_i hc
  obtain ⟨hdi,hdx,hcomm⟩ := Uz (f := f) hm
  simp only [Bool.or_eq_true,Bool.and_eq_true] at hc
  rcases hc with ⟨hx,hi⟩ | ⟨hx,hi⟩
  ·have cx := MY (md := md) hx
   have ci := Ph (md := md) hi
   rw [Ao (by omega)] at h
   obtain ⟨v1,u1,o1,si,h2⟩ := h fun _ => 0
   have si' := BH (hdi v1) si
   refine ⟨si',?_⟩
   obtain ⟨rfl,_⟩ := DI (by omega) o1
   simp only [app] at h2
   rw [Ao (by omega)] at h2 ⊢
   intro ep
   obtain ⟨v2,u2,o2,k2⟩ := h2 ep
   rw [Ar (hdi v1)] at o2
   refine ⟨v2,u2,o2,BH (fun t ht => (hdx v2 t ht).symm) hsx,?_⟩
   rw [Ao (by omega)]
   intro ep2
   refine ⟨v1,none,?_,by rw [hcomm]; exact k2⟩
   rw [Ar (hdx v2)]
   refine Iq hx (CB hx).1 (fun y hy k hk => ?_) o1
   cases u2 with
   | none => rfl
   | some q =>
    obtain ⟨k',en⟩ := q
    obtain ⟨t,ht,rfl⟩ := OX hi si' o2 k' en rfl
    refine (A0 _ _ fun e => ?_).symm
    obtain ⟨dst,op,type,pos,after,guard⟩ := x
    cases op <;> simp only [G9] at hx <;> try (cases hx; done)
    ·simp only [Op.operands,List.mem_cons,List.not_mem_nil,or_false] at hy
     subst hy
     exact hsx k hk t ht e
    ·exact hsx y (by simpa [Op.operands] using hy) k hk t ht e
  ·have cx := Ph (md := md) hx
   have ci := MY (md := md) hi
   rw [Ao (by omega)] at h
   have away : ∀ (f2 : Fr) (u1 : Up) (v1 : Val) (ep1 : Nat → Nat),Out P T md os x ep1 f H v1 u1 → AD ss md i f → ∀ y ∈ i.op.operands.toList,∀ k,dk (ev f y) = some k → app H u1 k = H k := by
    intro f2 u1 v1 ep1 o1 si y hy k hk
    cases u1 with
    | none => rfl
    | some q =>
     obtain ⟨k',en⟩ := q
     obtain ⟨t,ht,rfl⟩ := OX hx hsx o1 k' en rfl
     refine A0 _ _ fun e => ?_
     obtain ⟨dst,op,type,pos,after,guard⟩ := i
     cases op <;> simp only [G9] at hi <;> try (cases hi; done)
     ·simp only [Op.operands,List.mem_cons,List.not_mem_nil,or_false] at hy
      subst hy
      exact si k hk t ht e
     ·exact si y (by simpa [Op.operands] using hy) k hk t ht e
   obtain ⟨v1,u1,o1,si,h2⟩ := h fun _ => 0
   have si' := BH (hdi v1) si
   rw [Ao (by omega)] at h2
   obtain ⟨v2,u2,o2,_⟩ := h2 fun _ => 0
   rw [Ar (hdi v1)] at o2
   have o2' := Iq (ep' := fun _ => 0) hi (CB hi).1 (fun y hy k hk => away f u1 v1 _ o1 si' y hy k hk) o2
   obtain ⟨rfl,hall⟩ := DI (by omega) o2'
   refine ⟨si',?_⟩
   rw [Ao (by omega)]
   intro ep
   refine ⟨v2,none,hall ep H (.inr fun _ _ h => h),BH (fun t ht => (hdx v2 t ht).symm) hsx,?_⟩
   rw [Ao (by omega)]
   intro ep2
   obtain ⟨v1',u1',o1',si1,h2'⟩ := h ep2
   rw [Ao (by omega)] at h2'
   obtain ⟨v2',u2',o2'',k2⟩ := h2' fun _ => 0
   rw [Ar (hdi v1')] at o2''
   have o3 := Iq (ep' := fun _ => 0) hi (CB hi).1 (fun y hy k hk => away f u1' v1' _ o1' si' y hy k hk) o2''
   obtain ⟨rfl,rfl⟩ := LU (CB hi).1 o2' o3
   refine ⟨v1',u1',?_,by rw [hcomm]; exact k2⟩
   rw [Ar (hdx v2)]
   exact o1'
 ·have hm' := hm
  unfold CU at hm'
  simp only [Bool.and_eq_true] at hm'
  obtain ⟨⟨hm1,hm2⟩,hm3⟩ := hm'
  have hdi : ∀ v,∀ t ∈ rdT os i,put f x.dst v t = f t := fun v t ht => by
   cases hd : x.dst with
   | none => rfl
   | some d =>
    rw [hd] at hm1
    simp only [Bool.and_eq_true,Bool.not_eq_true'] at hm1
    exact A0 _ _ fun e => by subst e; have := hm1.1; simp [ht] at this
  have hdx : ∀ v,∀ t ∈ rdT os x,put f i.dst v t = f t := fun v t ht => by
   cases hd : i.dst with
   | none => rfl
   | some d =>
    rw [hd] at hm2
    simp only [Bool.not_eq_true'] at hm2
    exact A0 _ _ fun e => by subst e; simp [ht] at hm2
  simp only [Bool.or_eq_true,Bool.and_eq_true,decide_eq_true_eq,beq_iff_eq,Bool.not_eq_true'] at hm3
  have hx4 : cls md x ≠ 4 := by omega
  have hi4 : cls md i ≠ 4 := by omega
  have h0 : Bo P T md os x (Bo P T md os i K) f H := ET (fun f H h => h.2) h
  have hs := swap hm h0
  rw [Ao hx4] at h
  obtain ⟨v1,u1,o1,si,_⟩ := h fun _ => 0
  refine ⟨BH (hdi v1) si,?_⟩
  rw [Ao hi4] at hs ⊢
  intro ep
  obtain ⟨v,u,q1,q2⟩ := hs ep
  exact ⟨v,u,q1,BH (fun t ht => (hdx v t ht).symm) hsx,q2⟩
theorem SD (hT : Ad P T) (hmix : P.follows .mixedOrders = true) (md : Me) (ss : List Nat) {id : Nat} {ops : Array Oper} (hsz : BF X.sz ops.toList = true) (hok : IC (Ip ss md ops.toList) ops.toList = true)
  (h : CD (Bx P T md ops.toList ss) (Q .normal) ops.toList f H) : AW P ro X (.region id ops true) Q f H := fun G a w s => by
 refine wpIn_region_any hmix ?_
 have h' : Bd (Bx P T md ops.toList ss) ops.toList (Q .normal) (List.range ops.toList.length) f H := by rw [Cs]; exact h
 have hrep : ∀ j d,(Array.replicate ops.size false).getD j d = if j < ops.size then false else d := fun j d => by
  rw [Array.getD_eq_getD_getElem?,Array.getElem?_replicate]
  split <;> rfl
 have := Pp (ro := ro) (stp := Bx P T md ops.toList ss) hsz hok (fun o K K' f H hk h => ⟨h.1,ET hk h.2⟩) (fun x i K f H hc h => Vh hc h)
  (fun G a w f H i o K Q s hi hd h => GY hT s hi hd h.2) (List.range ops.toList.length) (Array.replicate ops.size false) f H G a _ (by simp) List.pairwise_lt_range (fun j => ?_) (fun j o hj hl e he hb => ?_) (s.drawn (w.drawn + 1) (Nat.le_succ _)) h'
 ·simpa using this
 ·rw [hrep]
  simp only [List.mem_range,Array.length_toList]
  split <;> simp_all
 ·rw [hrep] at hl
  have : j < ops.size := (Array.getElem?_eq_some_iff.1 hj).1
  rw [if_pos this] at hl
  cases hl
end
end Cp
namespace Cp
open Go
def frzH (H : Hp) : Hp := fun k => frz1 (H k)
def LookC (P : Program) (fid : FuncId) (args : List Val) (H : Hp) (v : Val) : Prop :=
 Ent P fid ∧ flat v = true ∧ ∀ G w xs,HRel G w (frzH H) → VRs G w args xs → Calls P fid xs w fun e w' => ∃ x,e = .returned x ∧ w'.os = w.os ∧ (w'.tape = w.tape ∧ w.drawn ≤ w'.drawn) ∧ w'.output = w.output ∧ w.heap.size ≤ w'.heap.size ∧
  (∀ b,b < w.heap.size → w'.heap[b]? = w.heap[b]?) ∧ VR G w' v x
section
variable {P : Program} {T : Tab} {G G' : Gh} {w w' : World} {H H' : Hp} {fid : FuncId} {args : List Val} {v : Val}
theorem I6 {b : Nat} : ¬ Own G (frzH H) b := fun ⟨k,e,o,h1,h2,_⟩ => by
 rw [(CQ h1).1] at h2; cases h2
theorem HRel.frzH (hR : HRel G w H) : ∃ I,(∀ b,G.I b → I b) ∧ HRel { G with I := I } w (Cp.frzH H) ∧ ∀ v x,VR G w v x → VR { G with I := I } w v x := by
 let G1 : Gh := { G with I := fun b => b < w.heap.size ∧ b ∉ G.D }
 have hI0 : ∀ b,G.I b → G1.I b := fun b hb => ⟨(hR.imm b hb).1,fun hd => (hR.dfr b hd).2.2 hb⟩
 have hvr : ∀ v x,VR G w v x → VR G1 w v x := fun v x hx => hx.congr (fun b hb => ⟨hI0 b hb,fun _ => rfl⟩) rfl rfl rfl rfl
 have hI : ∀ k e o b,H k = some (e,o) → G.K k = some b → G1.I b := fun k e o b hk hb => by
  refine ⟨hR.lt hk hb,fun hd => ?_⟩
  cases ho : o.owned with
  | true => exact (hR.dfr b hd).2.1 ⟨k,e,o,hk,ho,hb⟩
  | false =>
   cases o <;> simp [AObj.owned] at ho
   all_goals exact (hR.dfr b hd).2.2 ((hR.obj k e _ hk).2.2.2 b hb)
 refine ⟨G1.I,hI0,?_,hvr⟩
 refine ⟨fun k e o hk => ?_,fun k e km em ver left cur e' es h1 _ _ => ?_,fun k k' e e' o o' b h1 _ w1 _ _ _ => ?_,fun b hb => ⟨hb.1,I6⟩,fun b hb => (I6 hb).elim,fun q hq => ⟨(hR.dfr q hq).1,I6,fun hi => hi.2 hq⟩,fun g cs hg => hvr _ _ (hR.glb g cs hg)⟩
 ·obtain ⟨_,o0,h0⟩ := CQ hk
  obtain ⟨a1,a2,a3⟩ := hR.obj k e o0 h0
  refine ⟨a1,a2,?_⟩
  have hm := ORel.mono' (G' := G1) (w' := w) a3 hvr (fun _ => Nat.le_refl _) hI0 rfl rfl (fun _ _ => rfl)
  have hIk : ∀ b,G1.K k = some b → G1.I b := fun b hb => hI k e o0 b h0 hb
  have hk' : frz1 (H k) = some (e,o) := hk
  rw [h0] at hk'
  cases o0 <;> (simp only [frz1,Option.some.injEq,Prod.mk.injEq] at hk'; obtain ⟨_,rfl⟩ := hk')
  ·exact ⟨hm,hIk⟩
  ·exact hm
  ·exact ⟨hm,hIk⟩
  ·exact ⟨trivial,hIk⟩
  ·exact ⟨trivial,hIk⟩
  ·exact ⟨trivial,hIk⟩
  ·exact hm
  ·exact hm
 ·have := (CQ h1).1; cases this
 ·rw [(CQ h1).1] at w1; cases w1
theorem LookC.acall (h : LookC P fid args H v) : BD P fid args H fun v' H' => v' = v ∧ H' = H := by
 refine ⟨h.1,fun G w xs hR hv => ?_⟩
 obtain ⟨I,hI,hR1,hvr⟩ := hR.frzH
 refine Calls.mono (h.2.2 _ w xs hR1 ⟨hv.1,fun i v hi => hvr _ _ (hv.2 i v hi)⟩) ?_
 rintro e w' ⟨x,rfl,q1,q2,q3,q4,hsame,hx⟩
 have t' : Tr G H w G H w' := ⟨q1,q2,q3,q4,fun b hb _ => hsame b hb,fun b hb => .inl hb,fun _ hb => hb,fun _ hb => .inl hb,fun _ => Nat.le_refl _,fun _ => .inl ⟨rfl,rfl,rfl⟩,[],rfl⟩
 exact ⟨v,x,G,H,rfl,t',hR.still t' rfl (fun _ => ⟨rfl,rfl,rfl⟩) hsame (fun b hb => ⟨Nat.lt_of_lt_of_le (hR.imm b hb).1 t'.size,(hR.imm b hb).2⟩),rfl,hx.flat h.2.1,rfl,rfl⟩
theorem LookC.ext (h : LookC P fid args H v) (hx : Ext H H') : LookC P fid args H' v :=
 ⟨h.1,h.2.1,fun G w xs hR hv => h.2.2 G w xs (hR.drop fun k => by
  cases hk : H k with
  | none => left; show frz1 (H k) = none; rw [hk]; rfl
  | some p => right; show frz1 (H k) = frz1 (H' k); rw [hk,hx k p hk]) hv⟩
theorem Dw {fn : Func} {c : Code} (hT : Ad P T) (hf : P.funcs[fid]? = some fn) (hb : fn.body = some c) (hnm : (fn.name == "runtime.NumGoroutine") = false) (hsz : args.length ≤ fn.ntmps) (hv : flat v = true)
  (h : ∀ X,X.H0 = frzH H → X.sz = fn.ntmps → AW P none X c (FnP T fn v) (Co args) (frzH H)) : LookC P fid args H v := by
 have hA := BN (R := fun v' H' => v' = v) hT hf hb hnm hsz h
 refine ⟨hA.1,hv,fun G w xs hR hvs => Calls.mono (hA.2 G w xs hR hvs) ?_⟩
 rintro e w' ⟨v',x,G',H',rfl,t,r,hD,hvr,rfl⟩
 exact ⟨x,rfl,t.os,t.tape,t.output,t.size,fun b hb => t.same b hb I6,hvr.flat hv⟩
theorem Es {k e sz : Nat} {xss : List (List Val)} (h : H k = some (e,.arr sz xss)) : frzH H k = some (e,.fro sz xss) := by unfold frzH; rw [h]; rfl
end
def N1 (lk : List Nat) (o : Oper) : Bool := BC o && lk.contains (o.dst.getD 0)
def Ps (P : Program) (d : Option Tmp) (K : Fr → Hp → Prop) (f : Fr) (H : Hp) (fid : FuncId) (args : List Val) : Prop := ∃ v,LookC P fid args H v ∧ K (put f d v) H
theorem Mx {P : Program} {d : Option Tmp} {K : Fr → Hp → Prop} {f : Fr} {H : Hp} {fid : FuncId} {args : List Val} {v : Val} (h : LookC P fid args H v) (hk : K (put f d v) H) : Ps P d K f H fid args := ⟨v,h,hk⟩
def Qm (P : Program) (d : Option Tmp) (K : Fr → Hp → Prop) (f : Fr) (H : Hp) (args : List Val) : Val → Prop
 | .fn fid caps => Ps P d K f H fid (args ++ caps)
 | _ => False
def LG (P : Program) (o : Oper) (K : Fr → Hp → Prop) (f : Fr) (H : Hp) : Prop :=
 match o.op with
 | .call { callee := .value g,args,.. } => Qm P o.dst K f H (args.toList.map (ev f)) (ev f g)
 | _ => False
def DU (P : Program) (os : List Oper) (o : Oper) (K : Fr → Hp → Prop) (f : Fr) (H : Hp) : Prop :=
 match o.guard with
 | none => LG P o K f H
 | some (j,b) =>
  match (opd os j).map f with
  | some (.bool c) => if c = b then LG P o K f H else K (put f o.dst (.tup [])) H
  | some (.tup []) => K (put f o.dst (.tup [])) H
  | _ => False
def Ak (P : Program) (T : Tab) (md : Me) (os : List Oper) (ss lk : List Nat) (o : Oper) (K : Fr → Hp → Prop) (f : Fr) (H : Hp) : Prop :=
 if N1 lk o = true then DU P os o K f H else Bx P T md os ss o K f H
def Iz (ss lk : List Nat) (md : Me) (os : List Oper) (x i : Oper) : Bool :=
 if N1 lk x = true then (if N1 lk i = true then Db os x i else Db os x i && decide (cls md i ≤ 2))
 else if N1 lk i = true then Db os x i && decide (cls md x ≤ 1)
 else Ip ss md os x i
section
variable {P : Program} {T : Tab} {G : Gh} {w : World} {H : Hp} {md : Me} {K : Fr → Hp → Prop} {f f' : Fr} {os : List Oper} {X : Cx} {ro : Option Nat} {Q : Exit → Fr → Hp → Prop} {ss lk : List Nat} {x i o : Oper} {v : Val} {u : Up} {ep : Nat → Nat}
def J9 (P : Program) (os : List Oper) (o : Oper) (f : Fr) (H : Hp) (v : Val) : Prop :=
 match o.guard with
 | none => ∃ g args ts fid caps,o.op = .call { callee := .value g,args := args,argTypes := ts } ∧ ev f g = .fn fid caps ∧ LookC P fid (args.toList.map (ev f) ++ caps) H v
 | some (j,b) =>
  match (opd os j).map f with
  | some (.bool c) => if c = b then ∃ g args ts fid caps,o.op = .call { callee := .value g,args := args,argTypes := ts } ∧ ev f g = .fn fid caps ∧ LookC P fid (args.toList.map (ev f) ++ caps) H v else v = .tup []
  | some (.tup []) => v = .tup []
  | _ => False
theorem lkGo_iff : LG P o K f H ↔ ∃ v,(∃ g args ts fid caps,o.op = .call { callee := .value g,args := args,argTypes := ts } ∧ ev f g = .fn fid caps ∧ LookC P fid (args.toList.map (ev f) ++ caps) H v) ∧ K (put f o.dst v) H := by
 unfold LG
 constructor
 ·intro h
  split at h
  ·rename_i g args ts ho
   unfold Qm at h
   split at h
   ·rename_i fid caps hg
    obtain ⟨v,h1,h2⟩ := h
    exact ⟨v,⟨g,args,ts,fid,caps,ho,hg,h1⟩,h2⟩
   ·exact h.elim
  ·exact h.elim
 ·rintro ⟨v,⟨g,args,ts,fid,caps,ho,hg,h1⟩,h2⟩
  rw [ho]
  simp only [hg,Qm]
  exact ⟨v,h1,h2⟩
theorem lkStep_iff : DU P os o K f H ↔ ∃ v,J9 P os o f H v ∧ K (put f o.dst v) H := by
 unfold DU J9
 cases o.guard with
 | none => exact lkGo_iff
 | some p =>
  obtain ⟨j,b⟩ := p
  simp only
  split
  ·split
   ·exact lkGo_iff
   ·exact ⟨fun h => ⟨_,rfl,h⟩,fun ⟨v,h1,h2⟩ => h1 ▸ h2⟩
  ·exact ⟨fun h => ⟨_,rfl,h⟩,fun ⟨v,h1,h2⟩ => h1 ▸ h2⟩
  ·exact ⟨fun h => h.elim,fun ⟨v,h1,h2⟩ => h1.elim⟩
theorem Eb (h : ∀ t ∈ rdT os o,f t = f' t) (hl : J9 P os o f H v) : J9 P os o f' H v := by
 have he : ∀ y ∈ o.op.operands.toList,ev f y = ev f' y := IG fun t ht => h t (List.mem_append_left _ ht)
 have key : (∃ g args ts fid caps,o.op = .call { callee := .value g,args := args,argTypes := ts } ∧ ev f g = .fn fid caps ∧ LookC P fid (args.toList.map (ev f) ++ caps) H v) →
   ∃ g args ts fid caps,o.op = .call { callee := .value g,args := args,argTypes := ts } ∧ ev f' g = .fn fid caps ∧ LookC P fid (args.toList.map (ev f') ++ caps) H v := by
  rintro ⟨g,args,ts,fid,caps,ho,hg,h1⟩
  rw [ho] at he
  have e1 : ev f g = ev f' g := he g (by simp [Op.operands,Call.operands])
  have e2 : args.toList.map (ev f) = args.toList.map (ev f') := List.map_congr_left fun y hy => he y (by simp [Op.operands,Call.operands]; exact .inr (by simpa using hy))
  exact ⟨g,args,ts,fid,caps,ho,by rw [← e1]; exact hg,by rw [← e2]; exact h1⟩
 unfold J9 at *
 cases hg : o.guard with
 | none => rw [hg] at hl; exact key hl
 | some p =>
  obtain ⟨j,b⟩ := p
  have h2 : (opd os j).map f = (opd os j).map f' := by
   cases hq : opd os j with
   | none => rfl
   | some t => simp only [Option.map_some]; rw [h t (by unfold rdT; rw [hg]; simp only [hq]; simp)]
  rw [hg] at hl
  simp only at hl ⊢
  rw [← h2]
  split at hl
  ·split at hl
   ·rename_i hcb; rw [if_pos hcb]; exact key hl
   ·rename_i hcb; rw [if_neg hcb]; exact hl
  ·exact hl
  ·exact hl.elim
theorem Qb {H' : Hp} (hx : Ext H H') (hl : J9 P os o f H v) : J9 P os o f H' v := by
 have key : (∃ g args ts fid caps,o.op = .call { callee := .value g,args := args,argTypes := ts } ∧ ev f g = .fn fid caps ∧ LookC P fid (args.toList.map (ev f) ++ caps) H v) →
   ∃ g args ts fid caps,o.op = .call { callee := .value g,args := args,argTypes := ts } ∧ ev f g = .fn fid caps ∧ LookC P fid (args.toList.map (ev f) ++ caps) H' v := by
  rintro ⟨g,args,ts,fid,caps,ho,hg,h1⟩
  exact ⟨g,args,ts,fid,caps,ho,hg,h1.ext hx⟩
 unfold J9 at *
 split at hl
 ·exact key hl
 ·split at hl
  ·split at hl
   ·rename_i hcb; rw [if_pos hcb]; exact key hl
   ·rename_i hcb; rw [if_neg hcb]; exact hl
  ·exact hl
  ·exact hl.elim
theorem Vj (hm : Iz ss lk md os x i = true) (h : Ak P T md os ss lk x (Ak P T md os ss lk i K) f H) : Ak P T md os ss lk i (Ak P T md os ss lk x K) f H := by
 unfold Iz at hm
 by_cases hx : N1 lk x = true
 ·rw [if_pos hx] at hm
  by_cases hi : N1 lk i = true
  ·rw [if_pos hi] at hm
   obtain ⟨hdi,hdx,hcomm⟩ := Uz (f := f) hm
   have ex : ∀ K,Ak P T md os ss lk x K = DU P os x K := fun K => by funext f H; unfold Ak; rw [if_pos hx]
   have ei : ∀ K,Ak P T md os ss lk i K = DU P os i K := fun K => by funext f H; unfold Ak; rw [if_pos hi]
   simp only [ex,ei] at h ⊢
   rw [lkStep_iff] at h ⊢
   obtain ⟨v1,o1,h2⟩ := h
   rw [lkStep_iff] at h2
   obtain ⟨v2,o2,k2⟩ := h2
   refine ⟨v2,Eb (hdi v1) o2,?_⟩
   rw [lkStep_iff]
   exact ⟨v1,Eb (fun t ht => (hdx v2 t ht).symm) o1,by rw [hcomm]; exact k2⟩
  ·rw [if_neg hi] at hm
   simp only [Bool.and_eq_true,decide_eq_true_eq] at hm
   obtain ⟨hd,hc⟩ := hm
   obtain ⟨hdi,hdx,hcomm⟩ := Uz (f := f) hd
   have ex : ∀ K,Ak P T md os ss lk x K = DU P os x K := fun K => by funext f H; unfold Ak; rw [if_pos hx]
   have ei : ∀ K,Ak P T md os ss lk i K = Bx P T md os ss i K := fun K => by funext f H; unfold Ak; rw [if_neg hi]
   simp only [ex,ei] at h ⊢
   rw [lkStep_iff] at h
   obtain ⟨v1,o1,si,h2⟩ := h
   refine ⟨BH (hdi v1) si,?_⟩
   rw [Ao (by omega)] at h2 ⊢
   intro ep
   obtain ⟨v2,u2,o2,k2⟩ := h2 ep
   rw [Ar (hdi v1)] at o2
   refine ⟨v2,u2,o2,?_⟩
   rw [lkStep_iff]
   refine ⟨v1,Qb ?_ (Eb (fun t ht => (hdx v2 t ht).symm) o1),by rw [hcomm]; exact k2⟩
   intro k p hk
   by_cases hc1 : cls md i ≤ 1
   ·obtain ⟨rfl,_⟩ := DI hc1 o2
    exact hk
   ·obtain ⟨d,_,hq⟩ := Ey (show cls md i = 2 by omega) o2
    rcases hq with ⟨rfl,_⟩ | ⟨q1,⟨p',rfl⟩,_⟩
    ·exact hk
    ·show upd H _ _ k = some p
     rw [A0 _ _ (fun e => by subst e; rw [q1] at hk; cases hk)]
     exact hk
 ·rw [if_neg hx] at hm
  have ex : ∀ K,Ak P T md os ss lk x K = Bx P T md os ss x K := fun K => by funext f H; unfold Ak; rw [if_neg hx]
  by_cases hi : N1 lk i = true
  ·rw [if_pos hi] at hm
   simp only [Bool.and_eq_true,decide_eq_true_eq] at hm
   obtain ⟨hd,hc⟩ := hm
   obtain ⟨hdi,hdx,hcomm⟩ := Uz (f := f) hd
   have ei : ∀ K,Ak P T md os ss lk i K = DU P os i K := fun K => by funext f H; unfold Ak; rw [if_pos hi]
   simp only [ex,ei] at h ⊢
   obtain ⟨sx,h⟩ := h
   rw [Ao (by omega)] at h
   obtain ⟨v1,u1,o1,h2⟩ := h fun _ => 0
   obtain ⟨rfl,hall⟩ := DI hc o1
   rw [lkStep_iff] at h2 ⊢
   obtain ⟨v2,o2,k2⟩ := h2
   refine ⟨v2,Eb (hdi v1) o2,BH (fun t ht => (hdx v2 t ht).symm) sx,?_⟩
   rw [Ao (by omega)]
   intro ep
   refine ⟨v1,none,?_,by rw [hcomm]; exact k2⟩
   rw [Ar (hdx v2)]
   exact hall ep H (.inr fun _ _ h => h)
  ·rw [if_neg hi] at hm
   have ei : ∀ K,Ak P T md os ss lk i K = Bx P T md os ss i K := fun K => by funext f H; unfold Ak; rw [if_neg hi]
   simp only [ex,ei] at h ⊢
   exact Vh hm h
theorem L3 {K' : Fr → Hp → Prop} (hk : ∀ f H,K f H → K' f H) (h : Ak P T md os ss lk o K f H) : Ak P T md os ss lk o K' f H := by
 unfold Ak at *
 split at h
 ·rename_i hl
  rw [if_pos hl]
  rw [lkStep_iff] at h ⊢
  obtain ⟨v,h1,h2⟩ := h
  exact ⟨v,h1,hk _ _ h2⟩
 ·rename_i hl
  rw [if_neg hl]
  exact ⟨h.1,ET hk h.2⟩
theorem Ep (hT : Ad P T) {a : Act} (s : St X G f H a w) {ops : Array Oper} {i : Nat} {o : Oper} (hi : ops[i]? = some o) (hd : ∀ t,o.dst = some t → t < X.sz) {Q : Exit → Act → World → Prop}
  (h : Ak P T md ops.toList ss lk o K f H) : wpOpIn (FW ro) 0 P ops Q i (Kon X K) a w := by
 unfold Ak at h
 split at h
 ·rename_i hl
  let md' : Me := { base := 0,own := [],imp := [o.dst.getD 0] }
  refine GY (md := md') hT s hi hd ?_
  have hgo : LG P o K f H → xgo P T md' o K f H := fun h => by
   rw [lkGo_iff] at h
   obtain ⟨v,⟨g,args,ts,fid,caps,ho,hg,h1⟩,h2⟩ := h
   unfold xgo
   rw [ho]
   simp only [hg]
   rw [if_pos (by simp [md'])]
   exact ⟨_,h1.acall,fun v' H' ⟨e1,e2⟩ => by rw [e1,e2]; exact h2⟩
  unfold DU at h
  unfold Bo
  cases hgd : o.guard with
  | none => rw [hgd] at h; exact hgo h
  | some p =>
   obtain ⟨j,b⟩ := p
   rw [hgd] at h
   simp only at h ⊢
   cases hq : (opd ops.toList j).map f with
   | none => rw [hq] at h; exact h.elim
   | some q =>
    rw [hq] at h
    cases q with
    | bool c =>
     simp only at h ⊢
     by_cases hcb : c = b
     ·rw [if_pos hcb] at h
      exact ⟨fun _ => hgo h,fun e => by subst hcb; cases c <;> cases e⟩
     ·rw [if_neg hcb] at h
      exact ⟨fun e => (hcb e).elim,fun _ => h⟩
    | tup l => cases l with
     | nil => exact h
     | cons y l => exact False.elim h
    | _ => exact False.elim h
 ·exact GY hT s hi hd h.2
theorem Sd (hT : Ad P T) (hmix : P.follows .mixedOrders = true) (md : Me) (ss lk : List Nat) {id : Nat} {ops : Array Oper} (hsz : BF X.sz ops.toList = true) (hok : IC (Iz ss lk md ops.toList) ops.toList = true)
  (h : CD (Ak P T md ops.toList ss lk) (Q .normal) ops.toList f H) : AW P ro X (.region id ops true) Q f H := fun G a w s => by
 refine wpIn_region_any hmix ?_
 have h' : Bd (Ak P T md ops.toList ss lk) ops.toList (Q .normal) (List.range ops.toList.length) f H := by rw [Cs]; exact h
 have hrep : ∀ j d,(Array.replicate ops.size false).getD j d = if j < ops.size then false else d := fun j d => by
  rw [Array.getD_eq_getD_getElem?,Array.getElem?_replicate]
  split <;> rfl
 have := Pp (ro := ro) (stp := Ak P T md ops.toList ss lk) hsz hok (fun o K K' f H hk h => L3 hk h) (fun x i K f H hc h => Vj hc h)
  (fun G a w f H i o K Q s hi hd h => Ep hT s hi hd h) (List.range ops.toList.length) (Array.replicate ops.size false) f H G a _ (by simp) List.pairwise_lt_range (fun j => ?_) (fun j o hj hl e he hb => ?_) (s.drawn (w.drawn + 1) (Nat.le_succ _)) h'
 ·simpa using this
 ·rw [hrep]
  simp only [List.mem_range,Array.length_toList]
  split <;> simp_all
 ·rw [hrep] at hl
  have : j < ops.size := (Array.getElem?_eq_some_iff.1 hj).1
  rw [if_pos this] at hl
  cases hl
theorem Mh (hT : Ad P T) {ops : Array Oper} (hsz : BF X.sz ops.toList = true) {Q : Exit → Fr → Hp → Prop} : ∀ (is : List Nat) (f : Fr) (H : Hp) (G : Gh) (a : Act) (w : World),St X G f H a w → Bd (Ak P T md ops.toList ss lk) ops.toList (Q .normal) is f H →
  wpOpsIn (FW ro) 0 P ops (Post X Q) is a w
 | [],f,H,G,a,w,s,h => ⟨G,f,H,s,h⟩
 | i :: is,f,H,G,a,w,s,h => by
  rw [wpOpsIn_cons]
  simp only [Bd] at h
  rw [Array.getElem?_toList] at h
  cases hi : ops[i]? with
  | none =>
   rw [hi] at h
   unfold wpOpIn
   rw [hi]
   exact Mh hT hsz is f H G a w s h
  | some o =>
   rw [hi] at h
   exact wpOpIn_mono (fun a w ⟨G,f,H,s,h⟩ => Mh hT hsz is f H G a w s h) (Ep hT s hi (Cc hsz hi) h)
theorem Ux (hT : Ad P T) (md : Me) (ss lk : List Nat) {id : Nat} {ops : Array Oper} (hsz : BF X.sz ops.toList = true) (h : CD (Ak P T md ops.toList ss lk) (Q .normal) ops.toList f H) : AW P ro X (.region id ops false) Q f H := fun G a w s => by
 refine wpIn_region ?_
 have e : ops.size = ops.toList.length := by simp
 rw [e]
 exact Mh hT hsz _ f H G a w s (by rw [Cs]; exact h)
end
end Cp
namespace Cp
open Go
def Pu (K : Fr → Hp → Prop) (d : Option Tmp) (f : Fr) (H : Hp) (k e e' km em ver : Nat) (left : List Nat) : Option (Nat × AObj) → Prop
 | some (em',.map ver' es) => (e = e' ∧ em = em' ∧ ver = ver') ∧ (left = [] → K (put f d (.tup [.bool false])) H) ∧
   ∀ i ∈ left,∀ a v,es[i]? = some (a,v) → K (put f d (.tup [.bool true,a,v])) (upd H k (some (e,.itr km em ver (left.erase i) (some i))))
 | _ => False
def Ng (K : Fr → Hp → Prop) (d : Option Tmp) (f : Fr) (H : Hp) (k e : Nat) : Option (Nat × AObj) → Prop
 | some (e',.nit) => e = e' ∧ K (put f d (.tup [.bool false])) H
 | some (e',.itr km em ver left cur) => Pu K d f H k e e' km em ver left (H km)
 | _ => False
def Nk (K : Fr → Hp → Prop) (d : Option Tmp) (f : Fr) (H : Hp) : Val → Prop
 | .itr k e => Ng K d f H k e (H k)
 | _ => False
def M3 (K : Fr → Hp → Prop) (d : Option Tmp) (f : Fr) (H : Hp) (e e' em ver i : Nat) : Option (Nat × AObj) → Prop
 | some (em',.map ver' es) => (e = e' ∧ em = em' ∧ ver = ver') ∧ ∃ a v,es[i]? = some (a,v) ∧ K (put f d (.tup [a,v])) H
 | _ => False
def LQ (K : Fr → Hp → Prop) (d : Option Tmp) (f : Fr) (H : Hp) (e : Nat) : Option (Nat × AObj) → Prop
 | some (e',.itr km em ver left (some i)) => M3 K d f H e e' em ver i (H km)
 | _ => False
def KC (K : Fr → Hp → Prop) (d : Option Tmp) (f : Fr) (H : Hp) : Val → Prop
 | .itr k e => LQ K d f H e (H k)
 | _ => False
def Kc (P : Program) (T : Tab) (md : Me) (os : List Oper) (ss lk : List Nat) (o : Oper) (K : Fr → Hp → Prop) (f : Fr) (H : Hp) : Prop :=
 match o.op,o.guard with
 | .next it false,none => Nk K o.dst f H (ev f it)
 | .entry it,none => KC K o.dst f H (ev f it)
 | _,_ => Ak P T md os ss lk o K f H
section
variable {P : Program} {T : Tab} {G : Gh} {w : World} {H : Hp} {md : Me} {K : Fr → Hp → Prop} {f f' : Fr} {os : List Oper} {X : Cx} {ro : Option Nat} {Q : Exit → Fr → Hp → Prop} {ss lk : List Nat} {o : Oper}
theorem QW {a : Act} (s : St X G f H a w) (hd : ∀ t,o.dst = some t → t < X.sz) {it : Operand} (ho : o.op = .next it false) {Q : Exit → Act → World → Prop}
  (h : Nk K o.dst f H (ev f it)) : o.wpIn (FW ro) 0 P a w (Kon X K) Q := by
 refine ⟨fun _ _ => trivial,?_⟩
 have hnd : ∀ d,o.op ≠ .defer d := fun d e => by rw [ho] at e; cases e
 have hv := s.er it
 unfold Nk at h
 generalize hit : ev f it = iv at h hv
 cases iv <;> try (exact h.elim)
 rename_i k e
 simp only at h
 have over : (Instr.next (a.eval it) false o.type).run P w = .ok (.tuple #[.bool false]) w → K (put f o.dst (.tup [.bool false])) H →
   o.uponIn (FW ro) 0 P a (Kon X K) Q ((o.semAt (FW ro).round a.eval).run P w) := by
  intro hr hK
  rw [show (FW ro).round = ro from rfl,Oper.semAt_eq ro _ o hnd,JA ho]
  simp only [Sem.run_bind,hr,Result.andThen,Sem.run_pure]
  refine ⟨G,_,H,s.put (Tr.refl G H w) s.rel rfl (.tup _ _ (by rfl) (fun i v hi => by
   cases i with
   | zero => simp at hi; subst hi; exact .bool _
   | succ i => simp at hi)) o.dst hd,hK⟩
 unfold Ng at h
 cases hk : H k with
 | none => rw [hk] at h; exact h.elim
 | some en =>
  obtain ⟨e',ob⟩ := en
  rw [hk] at h
  cases ob <;> try (exact h.elim)
  case nit =>
   obtain ⟨rfl,hK⟩ := h
   exact over (Lo s.rel hv hk _) hK
  rename_i km em ver left cur
  simp only at h
  unfold Pu at h
  cases hm : H km with
  | none => rw [hm] at h; exact h.elim
  | some en2 =>
   obtain ⟨em',ob2⟩ := en2
   rw [hm] at h
   cases ob2 <;> try (exact h.elim)
   rename_i ver' es
   obtain ⟨⟨rfl,rfl,rfl⟩,h0,h1⟩ := h
   rcases ML (P := P) s.rel hv hk hm o.type with ⟨hl,hr⟩ | ⟨i,ka,va,hi,hes,z,w',hr,t,r,hvr⟩
   ·exact over hr (h0 hl)
   ·rw [show (FW ro).round = ro from rfl,Oper.semAt_eq ro _ o hnd,JA ho]
    simp only [Sem.run_bind,hr,Result.andThen,Sem.run_pure]
    exact ⟨G,_,_,s.put t r rfl hvr o.dst hd,h1 i hi ka va hes⟩
theorem Qz {a : Act} (s : St X G f H a w) (hd : ∀ t,o.dst = some t → t < X.sz) {it : Operand} (ho : o.op = .entry it) {Q : Exit → Act → World → Prop}
  (h : KC K o.dst f H (ev f it)) : o.wpIn (FW ro) 0 P a w (Kon X K) Q := by
 refine ⟨fun _ _ => trivial,?_⟩
 have hnd : ∀ d,o.op ≠ .defer d := fun d e => by rw [ho] at e; cases e
 have hv := s.er it
 unfold KC at h
 generalize hit : ev f it = iv at h hv
 cases iv <;> try (exact h.elim)
 rename_i k e
 simp only at h
 unfold LQ at h
 cases hk : H k with
 | none => rw [hk] at h; exact h.elim
 | some en =>
  obtain ⟨e',ob⟩ := en
  rw [hk] at h
  cases ob <;> try (exact h.elim)
  rename_i km em ver left cur
  cases cur <;> try (exact h.elim)
  rename_i i
  simp only at h
  unfold M3 at h
  cases hm : H km with
  | none => rw [hm] at h; exact h.elim
  | some en2 =>
   obtain ⟨em',ob2⟩ := en2
   rw [hm] at h
   cases ob2 <;> try (exact h.elim)
   rename_i ver' es
   obtain ⟨⟨rfl,rfl,rfl⟩,ka,va,hes,hK⟩ := h
   obtain ⟨b,bm,clk,seen,xs,i1,i2,i3,i4,_,_,_,hcur,_⟩ := s.rel.itr k e km em ver left (some i) em es hk hm rfl
   obtain ⟨x,hx,hback⟩ := hcur i rfl
   obtain ⟨hE,hN,_⟩ := s.rel.obj k e _ hk
   obtain ⟨_,_,_,bm',xs',clk',m1,m2,m3,m4,m5⟩ := s.rel.obj km em _ hm
   rw [i3] at m1; cases m1
   rw [i4] at m2; cases m2
   obtain ⟨x',q1,q2,q3⟩ := m3.2 i ka va hes
   rw [Array.getElem?_toList,hx] at q1
   cases q1
   generalize hxa : a.eval it = y at hv
   cases hv with
   | itr _ _ ad he hp =>
    obtain ⟨b',hb',rfl⟩ := hp hE
    rw [i1] at hb'; cases hb'
    have hmem : x ∈ xs.toList := List.mem_of_getElem? (by rw [Array.getElem?_toList]; exact hx)
    have hfind : xs.find? (·.born == x.born) = some x := by rw [← Array.find?_toList]; exact find_born x xs.toList m4 hmem
    have hrun : (Instr.entry (.pointer (some ⟨b,0,none⟩))).run P w = .ok (.tuple #[x.key,x.val]) w := by
     simp [Instr.entry,getObj,Sem.run_bind,Sem.run,i2,i4,Result.andThen,hback,hfind]
    rw [show (FW ro).round = ro from rfl,Oper.semAt_eq ro _ o hnd,Mv ho,hxa]
    simp only [Sem.run_bind,hrun,Result.andThen,Sem.run_pure]
    refine ⟨G,_,H,s.put (Tr.refl G H w) s.rel rfl (.tup _ _ rfl (fun i v hi => by
     cases i with
     | zero => simp at hi; subst hi; exact q2
     | succ i =>
      cases i with
      | zero => simp at hi; subst hi; exact q3
      | succ i => simp at hi)) o.dst hd,hK⟩
theorem R3 (hT : Ad P T) {a : Act} (s : St X G f H a w) {ops : Array Oper} {i : Nat} (hi : ops[i]? = some o) (hd : ∀ t,o.dst = some t → t < X.sz) {Q : Exit → Act → World → Prop}
  (h : Kc P T md ops.toList ss lk o K f H) : wpOpIn (FW ro) 0 P ops Q i (Kon X K) a w := by
 have plain : o.guard = none → o.wpIn (FW ro) 0 P a w (Kon X K) Q → wpOpIn (FW ro) 0 P ops Q i (Kon X K) a w := fun hg hw => by
  unfold wpOpIn
  rw [hi]
  simp only
  rw [if_pos (by simp [Region.wanted,hg])]
  exact hw
 unfold Kc at h
 split at h
 ·rename_i it ho hg
  exact plain hg (QW s hd ho h)
 ·rename_i it ho hg
  exact plain hg (Qz s hd ho h)
 ·exact Ep hT s hi hd h
theorem LR (hT : Ad P T) {ops : Array Oper} (hsz : BF X.sz ops.toList = true) {Q : Exit → Fr → Hp → Prop} : ∀ (is : List Nat) (f : Fr) (H : Hp) (G : Gh) (a : Act) (w : World),St X G f H a w → Bd (Kc P T md ops.toList ss lk) ops.toList (Q .normal) is f H →
  wpOpsIn (FW ro) 0 P ops (Post X Q) is a w
 | [],f,H,G,a,w,s,h => ⟨G,f,H,s,h⟩
 | i :: is,f,H,G,a,w,s,h => by
  rw [wpOpsIn_cons]
  simp only [Bd] at h
  rw [Array.getElem?_toList] at h
  cases hi : ops[i]? with
  | none =>
   rw [hi] at h
   unfold wpOpIn
   rw [hi]
   exact LR hT hsz is f H G a w s h
  | some o =>
   rw [hi] at h
   exact wpOpIn_mono (fun a w ⟨G,f,H,s,h⟩ => LR hT hsz is f H G a w s h) (R3 hT s hi (Cc hsz hi) h)
theorem E1 (hT : Ad P T) (md : Me) (ss lk : List Nat) {id : Nat} {ops : Array Oper} (hsz : BF X.sz ops.toList = true) (h : CD (Kc P T md ops.toList ss lk) (Q .normal) ops.toList f H) : AW P ro X (.region id ops false) Q f H := fun G a w s => by
 refine wpIn_region ?_
 have e : ops.size = ops.toList.length := by simp
 rw [e]
 exact LR hT hsz _ f H G a w s (by rw [Cs]; exact h)
end
end Cp
namespace Cp
open Go
def aD (ps : List Tmp) (vs : List Val) (f : Fr) : Fr := (ps.zip vs).foldl (fun g p => upd g p.1 p.2) f
def frL (f : Fr) (n : Nat) : List Val := (List.range n).map f
theorem Ix {f : Fr} {n : Nat} : (frL f n).length = n := by simp [frL]
@[go_sem] theorem Dz {f : Fr} {n t : Nat} : Co (frL f n) t = if t < n then f t else .any := by
 unfold Co frL
 by_cases h : t < n
 ·simp [h]
 ·simp [h]
def i0 (k e : Nat) (R : Val → Hp → Prop) (ex : Exit) (H : Hp) : Prop :=
 ∃ fs ps asg body st pend,H k = some (e,.loop fs ps asg body st pend) ∧
  match ex with
  | .normal => R (.bool true) (upd H k (some (e,.loop fs ps asg body .ready none)))
  | .ret => R (.bool false) (upd H k (some (e,.loop fs ps asg body .done (some .ret))))
  | .exit id => R (.bool false) (upd H k (some (e,.loop fs ps asg body .done (some (.exit id)))))
  | _ => False
def gP (P : Program) (X : Cx) (b k e : Nat) (body : Code) (R : Val → Hp → Prop) (ex : Exit) (f : Fr) (H : Hp) : Prop :=
 ex = .normal ∧ ∃ fs ps asg body1 pend,H k = some (e,.loop fs ps asg body1 .ready pend) ∧
  AW P (some b) X body (fun ex _ H => i0 k e R ex H) f (upd H k (some (e,.loop fs ps asg body1 .busy pend)))
def JV (P : Program) (k e : Nat) (args : List Val) (H : Hp) (R : Val → Hp → Prop) : Prop :=
 ∃ fs ps asg body pend,H k = some (e,.loop fs ps asg body .ready pend) ∧ ps.size = args.length ∧ (∀ t ∈ ps.toList,t < fs.length) ∧
  ∀ (X : Cx) (b : Nat),X.H0 = H → X.sz = fs.length → X.rnd = true → AW P (some b) X asg (gP P X b k e body R) (aD ps.toList args (Co fs)) H
section
variable {P : Program} {T : Tab} {G G' : Gh} {w w' : World} {H H' : Hp} {md : Me} {K : Fr → Hp → Prop} {f f' : Fr} {os : List Oper} {X : Cx} {ro : Option Nat} {Q : Exit → Fr → Hp → Prop} {ss lk : List Nat} {o : Oper}
theorem St.setLoop {a : Act} (s : St X G f H a w) {k e b : Nat} {fs : List Val} {ps : Array Tmp} {asg body : Code} {st st' : LoopState} {pend pend' : Option Code} {r r' : Loop} (hk : H k = some (e,.loop fs ps asg body st pend)) (hK : G.K k = some b)
  (hb : w.heap[b]? = some (.loop r)) (hp : r'.params = ps) (ha : r'.assign = asg) (hbo : r'.body = body) (hs : r'.state = st') (hpe : r'.pending = pend') (ht : r'.tmps.size = fs.length) (hv : ∀ (i : Nat) (v : Val),fs[i]? = some v → VR G w v (r'.tmps.getD i undef)) :
  St X G f (upd H k (some (e,.loop fs ps asg body st' pend'))) a (w.putObj b (.loop r')) := by
 obtain ⟨t,r1⟩ := s.rel.setLoop hk hK hb hp ha hbo hs hpe ht hv
 exact ⟨s.tr.trans t,r1,fun u => (s.fr u).mono s.rel.imm t,s.size,s.dfr⟩
theorem Mz {a : Act} (s : St X G f H a w) (hd : ∀ t,o.dst = some t → t < X.sz) {c : Call} {g : Operand} {k e : Nat} {R : Val → Hp → Prop} {Q : Exit → Act → World → Prop}
  (ho : o.op = .call c) (hc : c.callee = .value g) (hg : ev f g = .yld k e) (h : JV P k e (c.args.toList.map (ev f)) H R) (hK : ∀ v H',R v H' → K (put f o.dst v) H') : o.wpIn (FW ro) 0 P a w (Kon X K) Q := by
 obtain ⟨fs,ps,asg,body,pend,hHk,hps,hlt,hA⟩ := h
 obtain ⟨hE,hN,b,r,hKb,hr,r1,r2,r3,r4,r5,r6,r7⟩ := s.rel.obj k e _ hHk
 have hv := s.er g
 rw [hg] at hv
 generalize hx : a.eval g = x at hv
 cases hv with
 | yld _ _ b' he' hp =>
  have := hp hE
  rw [hKb] at this
  cases this
  have hnd : ∀ d,o.op ≠ .defer d := fun d e => by rw [ho] at e; cases e
  have hsz : c.args.size = r.params.size := by
   rw [r1,hps]; simp
  refine ⟨fun _ _ => trivial,?_⟩
  rw [show (FW ro).round = ro from rfl,Oper.semAt_eq ro _ o hnd,Lx ho hc hx hr hsz,Oper.uponIn_round]
  refine ⟨fun h => by simp [FW,Fence.wide] at h,roundIn_of_wpIn trivial ?_⟩
  have hfold : (r.params.zip (c.args.map a.eval)).foldl (fun tmps (t,a) => tmps.setIfInBounds t a) r.tmps = (ps.toList.zip (c.args.toList.map a.eval)).foldl (fun tmps (t,a) => tmps.setIfInBounds t a) r.tmps := by
   rw [← Array.foldl_toList,Array.toList_zip,r1]
   simp
  rw [hfold]
  obtain ⟨q1,q2⟩ := LF ps.toList (c.args.toList.map (ev f)) (c.args.toList.map a.eval) (Co fs) r.tmps (by simpa using hps) (by simp) (fun t ht => by rw [r6]; exact hlt t ht)
   (fun i v hi => by
    rw [List.getElem?_map,Option.map_eq_some_iff] at hi
    obtain ⟨y,hy,rfl⟩ := hi
    exact ⟨a.eval y,by simp [hy],s.er y⟩)
   (fun t => by
    unfold Co
    cases hi : fs[t]? with
    | none => exact .any _
    | some v => exact r7 t v hi)
  generalize hTm : (ps.toList.zip (c.args.toList.map a.eval)).foldl (fun tmps (t,a) => tmps.setIfInBounds t a) r.tmps = tmps at q1 q2 ⊢
  let X1 : Cx := { G0 := G,H0 := H,w0 := w,sz := fs.length,rnd := true }
  have st1 : St X1 G (aD ps.toList (c.args.toList.map (ev f)) (Co fs)) H { tmps := tmps,defers := [] } w := ⟨Tr.refl G _ w,s.rel,q2,by rw [q1,r6],[],rfl,rfl,List.nodup_nil,fun r h => by simp at h⟩
  rw [r2,r3]
  have hin : (FW ro).inRound b = FW (some b) := rfl
  rw [hin]
  refine wpIn_mono (hA X1 b rfl rfl rfl G _ w st1) fun ex a1 w1 hq => ?_
  obtain ⟨G1,f1,H1,st2,rfl,fs1,ps1,asg1,body1,pend1,hHk1,hAb⟩ := hq
  simp only [Exit.then]
  obtain ⟨hE1,hN1,b1,rr1,hKb1,hr1,z1,z2,z3,z4,z5,z6,z7⟩ := st2.rel.obj k e _ hHk1
  have hbb := CM st2.tr hN hKb hE hE1 hKb1
  subst hbb
  refine ⟨_,run_beginRound hr1 z4,?_⟩
  have st3 := st2.setLoop (st' := .busy) (pend' := pend1) (r' := { rr1 with state := .busy }) hHk1 hKb1 hr1 z1 z2 z3 rfl z5 z6 z7
  refine wpIn_mono (hAb G1 _ _ st3) fun ex2 a2 w2 hq2 => ?_
  obtain ⟨G2,f2,H2,st4,fs2,ps2,asg2,body2,lst2,pend2,hHk2,hR⟩ := hq2
  obtain ⟨hE2,hN2,b2,rr2,hKb2,hr2,y1,y2,y3,y4,y5,y6,y7⟩ := st4.rel.obj k e _ hHk2
  have hbb := CM st4.tr hN hKb hE hE2 hKb2
  subst hbb
  have fin : ∀ (jump : Option Code) (sj : LoopState),sj = (if jump.isNone then .ready else .done) → R (.bool jump.isNone) (upd H2 k (some (e,.loop fs2 ps2 asg2 body2 sj jump))) →
    ∃ v w',(Instr.endRound b2 jump).run P w2 = .ok v w' ∧ Kon X K (a.put o.dst v) w' := by
   intro jump sj hsj hRv
   subst hsj
   refine ⟨_,_,run_endRound jump hr2,?_⟩
   have st5 := st4.setLoop (st' := if jump.isNone then .ready else .done) (pend' := jump) (r' := { rr2 with state := if jump.isNone then .ready else .done,pending := jump }) hHk2 hKb2 hr2 y1 y2 y3 rfl rfl y6 y7
   obtain ⟨l,d1,d2,d3,d4⟩ := st5.dfr
   have hl : l = [] := by
    cases l with
    | nil => rfl
    | cons q l => have := (d4 q (by simp)).2; cases this
   subst hl
   exact ⟨G2,_,_,s.put st5.tr st5.rel d1 (.bool _) o.dst hd,hK _ _ hRv⟩
  cases ex2 with
  | normal => exact fin none .ready rfl hR
  | ret => exact fin (some .ret) .done rfl hR
  | exit id => exact fin (some (.exit id)) .done rfl hR
  | goto l => exact hR.elim
  | panic ch => exact hR.elim
  | outgrown => exact hR.elim
def Rr (P : Program) (d : Option Tmp) (K : Fr → Hp → Prop) (f : Fr) (H : Hp) (k e : Nat) (args : List Val) : Prop := ∃ R,JV P k e args H R ∧ ∀ v H',R v H' → K (put f d v) H'
theorem GL {d : Option Tmp} {k e : Nat} {args : List Val} {R : Val → Hp → Prop} (h : JV P k e args H R) (hk : ∀ v H',R v H' → K (put f d v) H') : Rr P d K f H k e args := ⟨R,h,hk⟩
def yvK (P : Program) (d : Option Tmp) (K : Fr → Hp → Prop) (f : Fr) (H : Hp) (args : List Val) (rest : Prop) : Val → Prop
 | .yld k e => Rr P d K f H k e args
 | _ => rest
def B9 (P : Program) (T : Tab) (md : Me) (os : List Oper) (ss lk : List Nat) (o : Oper) (K : Fr → Hp → Prop) (f : Fr) (H : Hp) : Prop :=
 match o.op,o.guard with
 | .call { callee := .value g,args,.. },none => yvK P o.dst K f H (args.toList.map (ev f)) (Ak P T md os ss lk o K f H) (ev f g)
 | _,_ => Ak P T md os ss lk o K f H
theorem Nr (hT : Ad P T) {a : Act} (s : St X G f H a w) {ops : Array Oper} {i : Nat} (hi : ops[i]? = some o) (hd : ∀ t,o.dst = some t → t < X.sz) {Q : Exit → Act → World → Prop}
  (h : B9 P T md ops.toList ss lk o K f H) : wpOpIn (FW ro) 0 P ops Q i (Kon X K) a w := by
 unfold B9 at h
 split at h
 ·rename_i g args ts ho hg
  unfold yvK at h
  split at h
  ·rename_i k e hv
   obtain ⟨R,h1,h2⟩ := h
   unfold wpOpIn
   rw [hi]
   simp only
   rw [if_pos (by simp [Region.wanted,hg])]
   exact Mz s hd ho rfl hv h1 h2
  ·exact Ep hT s hi hd h
 ·exact Ep hT s hi hd h
theorem Mp (hT : Ad P T) {ops : Array Oper} (hsz : BF X.sz ops.toList = true) {Q : Exit → Fr → Hp → Prop} : ∀ (is : List Nat) (f : Fr) (H : Hp) (G : Gh) (a : Act) (w : World),St X G f H a w → Bd (B9 P T md ops.toList ss lk) ops.toList (Q .normal) is f H →
  wpOpsIn (FW ro) 0 P ops (Post X Q) is a w
 | [],f,H,G,a,w,s,h => ⟨G,f,H,s,h⟩
 | i :: is,f,H,G,a,w,s,h => by
  rw [wpOpsIn_cons]
  simp only [Bd] at h
  rw [Array.getElem?_toList] at h
  cases hi : ops[i]? with
  | none =>
   rw [hi] at h
   unfold wpOpIn
   rw [hi]
   exact Mp hT hsz is f H G a w s h
  | some o =>
   rw [hi] at h
   exact wpOpIn_mono (fun a w ⟨G,f,H,s,h⟩ => Mp hT hsz is f H G a w s h) (Nr hT s hi (Cc hsz hi) h)
theorem OV (hT : Ad P T) (md : Me) (ss lk : List Nat) {id : Nat} {ops : Array Oper} (hsz : BF X.sz ops.toList = true) (h : CD (B9 P T md ops.toList ss lk) (Q .normal) ops.toList f H) : AW P ro X (.region id ops false) Q f H := fun G a w s => by
 refine wpIn_region ?_
 have e : ops.size = ops.toList.length := by simp
 rw [e]
 exact Mp hT hsz _ f H G a w s (by rw [Cs]; exact h)
def bg (k e : Nat) (Q : Exit → Fr → Hp → Prop) (f : Fr) (H : Hp) : Prop :=
 ∃ fs ps asg body st pend,H k = some (e,.loop fs ps asg body st pend) ∧ st ≠ .busy ∧
  match pend with
  | none => Q .normal f (upd H k none)
  | some c => ∃ ex,exitOf c = some ex ∧ Q ex f (upd H k none)
theorem GV {g : Operand} {ps : Array Tmp} {asg body : Code} {fid : FuncId} {caps : List Val} (k : Nat) (hg : ev f g = .fn fid caps) (hrn : X.rnd = false)
  (h : ∀ e,∃ R,BD P fid ([.yld k e] ++ caps) (upd H k (some (e,.loop (frL f X.sz) ps asg body .ready none))) R ∧ ∀ v H',R v H' → bg k e Q f H') :
  AW P none X (.rangeFunc g ps asg body) Q f H := fun G a w s => by
 refine wpIn_rangeFunc fun fn _ => ?_
 obtain ⟨R,⟨hE,hA⟩,hR⟩ := h (G.N k)
 have hv := s.er g
 rw [hg] at hv
 generalize hx : a.eval g = x at hv
 cases hv with
 | fn _ _ xs hs hcaps =>
  obtain ⟨fnr,f1,f2,f3⟩ := hE
  let rec0 : Loop := { state := .ready,pending := none,fn,tmps := a.tmps,params := ps,assign := asg,body,defers := w.heap.size }
  let wd := w.alloc (.deferred (some []))
  let Gd : Gh := { G with D := w.heap.size :: G.D }
  have hsz : wd.heap.size = w.heap.size + 1 := World.size_alloc _ _
  obtain ⟨tD,rD,vD⟩ := s.rel.markD
  have hN0 : Gd.N k ≤ G.N k := Nat.le_refl _
  have vL : ∀ v x,VR Gd wd v x → VR (Gd.lay k wd.heap.size 0 (G.N k)) (wd.alloc (.loop rec0)) v x := fun v x h => h.mono rD.imm (Tr.lay rD k 0 (G.N k) (.loop rec0) (.loop (frL f X.sz) ps asg body .ready none) hN0)
  have tL := Tr.lay rD k 0 (G.N k) (.loop rec0) (.loop (frL f X.sz) ps asg body .ready none) hN0
  have rL : HRel (Gd.lay k wd.heap.size 0 (G.N k)) (wd.alloc (.loop rec0)) (upd H k (some (G.N k,.loop (frL f X.sz) ps asg body .ready none))) :=
   rD.lay hN0 ⟨wd.heap.size,rec0,by simp only [Gh.lay,A4]; rfl,World.alloc_heap_new wd _,rfl,rfl,rfl,rfl,rfl,by rw [Ix]; exact s.size,fun i v hi => vL _ _ (vD _ _ (by
    have : v = f i := by
     simp only [frL,List.getElem?_map,Option.map_eq_some_iff] at hi
     obtain ⟨j,hj,rfl⟩ := hi
     obtain ⟨hj2,rfl⟩ := List.getElem?_eq_some_iff.1 hj
     simp
    rw [this]; exact s.fr i))⟩
    (fun _ _ _ _ _ h => by cases h) (fun _ _ h => by cases h)
  have hres : (resolve a.eval (rangeCall g (w.heap.size + 1)) 0).run P (wd.alloc (.loop rec0)) = .ok { target := .fn (.func fid) xs,args := #[.func (.yield (w.heap.size + 1)) #[] #[]] } (wd.alloc (.loop rec0)) := by
   have : resolve a.eval (rangeCall g (w.heap.size + 1)) 0 = pure { target := .fn (.func fid) xs,args := #[] ++ (#[Operand.const (.func (.yield (w.heap.size + 1)) #[] #[])]).map a.eval } := by
    simp only [resolve,rangeCall,hx,Deferred.ofValue]
   rw [this]
   simp [Sem.run_pure,Act.eval]
  refine ⟨w.heap.size + 1,[Ms w.heap.size],wd.alloc (.loop rec0),{ target := .fn (.func fid) xs,args := #[.func (.yield (w.heap.size + 1)) #[] #[]] },wd.alloc (.loop rec0),fid,#[.func (.yield (w.heap.size + 1)) #[] #[]] ++ xs,wd.alloc (.loop rec0),
   run_enterLoop_outer fn a.tmps ps asg body,hres,fun _ _ => trivial,?_,fun h => by simp [FW,Fence.wide] at h,Cn ?_⟩
  ·simp only [invoke,callFunc,Sem.run_bind,run_program,Result.andThen,f1,f3,f2,Bool.false_eq_true,if_false,Sem.run_pure]
  have hvr : VRs (Gd.lay k wd.heap.size 0 (G.N k)) (wd.alloc (.loop rec0)) ([.yld k (G.N k)] ++ caps) (#[.func (.yield (w.heap.size + 1)) #[] #[]] ++ xs) := by
   refine ⟨by simp [hs]; omega,fun i v hi => ?_⟩
   cases i with
   | zero =>
    simp at hi
    subst hi
    have : (#[Value.func (.yield (w.heap.size + 1)) #[] #[]] ++ xs).getD 0 undef = .func (.yield (w.heap.size + 1)) #[] #[] := by
     rw [Array.getD_eq_getD_getElem?,Array.getElem?_append_left (by simp)]; rfl
    rw [this]
    exact .yld _ _ _ (by simp [Gh.lay]) (fun _ => by simp [Gh.lay,hsz])
   | succ i =>
    simp at hi
    have : (#[Value.func (.yield (w.heap.size + 1)) #[] #[]] ++ xs).getD (i + 1) undef = xs.getD i undef := by
     rw [Array.getD_eq_getD_getElem?,Array.getD_eq_getD_getElem?,Array.getElem?_append]
     simp
    rw [this]
    exact vL _ _ (vD _ _ (hcaps i v hi))
  refine Calls.mono (hA (Gd.lay k wd.heap.size 0 (G.N k)) (wd.alloc (.loop rec0)) _ rL hvr) fun e w2 he => ?_
  obtain ⟨v,x,G2,H2,rfl,t2,r2,d2,v2,hRv⟩ := he
  obtain ⟨fs2,ps2,asg2,body2,lst2,pend2,hHk2,hnb,hq⟩ := hR v H2 hRv
  have tAll : Tr G H w G2 H2 w2 := tD.trans (tL.trans t2)
  obtain ⟨dl,h1,h2,h3,h4⟩ := s.dfr
  have st2 : St X G2 f H2 { a with defers := [Ms w.heap.size] ++ a.defers } w2 := by
   refine ⟨s.tr.trans tAll,r2,fun u => (s.fr u).mono s.rel.imm tAll,s.size,w.heap.size :: dl,?_,?_,?_,fun q hq => ?_⟩
   ·rw [d2]; show w.heap.size :: G.D = _; rw [h1]; rfl
   ·simp [h2]
   ·rw [List.nodup_cons]
    refine ⟨fun hmem => ?_,h3⟩
    have := Aj (s.rel.dfr w.heap.size (by rw [h1]; exact List.mem_append_left _ hmem)).1
    omega
   ·rcases List.mem_cons.1 hq with rfl | hq
    ·exact ⟨s.tr.size,hrn⟩
    ·exact h4 q hq
  obtain ⟨hE2,hN2,b2,rr2,hKb2,hr2,y1,y2,y3,y4,y5,y6,y7⟩ := r2.obj k _ _ hHk2
  have hbb : b2 = w.heap.size + 1 := CM t2 (e := G.N k) (b := w.heap.size + 1) (by simp [Gh.lay]) (by simp [Gh.lay,hsz]) (by simp [Gh.lay]) hE2 hKb2
  subst hbb
  have st3 := st2.setLoop (st' := .exhausted) (pend' := pend2) (r' := { rr2 with state := .exhausted }) hHk2 hKb2 hr2 y1 y2 y3 rfl y5 y6 y7
  have hdr : ∀ j,upd H2 k none j = none ∨ upd H2 k none j = upd H2 k (some (G.N k,.loop fs2 ps2 asg2 body2 .exhausted pend2)) j := fun j => by
   by_cases hj : j = k
   ·subst hj; exact .inl (by rw [A4])
   ·right; rw [A0 _ _ hj,A0 _ _ hj]
  have st4 : St X G2 f (upd H2 k none) { a with defers := [Ms w.heap.size] ++ a.defers } (w2.putObj (w.heap.size + 1) (.loop { rr2 with state := .exhausted })) := ⟨st3.tr.drop hdr,st3.rel.drop hdr,st3.fr,st3.size,st3.dfr⟩
  refine ⟨rr2.pending,_,run_endLoop hr2 (by rw [y4]; exact hnb),?_⟩
  rw [y5]
  rw [y5] at st4
  cases pend2 with
  | none => exact ⟨_,_,_,st4,hq⟩
  | some c =>
   obtain ⟨ex,he,hq⟩ := hq
   exact Lu he ⟨_,_,_,st4,hq⟩
end
end Cp
namespace Cp
open Go
def pickO : List Oper → Nat → Option Oper
 | [],_ => none
 | a :: _,0 => some a
 | _ :: l,n + 1 => pickO l n
theorem pickO_eq : ∀ (l : List Oper) (n : Nat),pickO l n = l[n]?
 | [],n => by simp [pickO]
 | a :: l,0 => rfl
 | a :: l,n + 1 => by simp only [pickO,pickO_eq l n,List.getElem?_cons_succ]
def GM (os : List Oper) : List Nat → List Oper
 | [] => []
 | i :: is => match pickO os i with | some o => o :: GM os is | none => GM os is
def OH (cmp : Oper → Oper → Bool) (os : List Oper) (x i : Nat) : Bool :=
 !(x == i) && match pickO os x,pickO os i with | some ox,some oi => !Ef i ox && (cmp ox oi || BK os x 8 oi) | _,_ => false
def PA (cmp : Oper → Oper → Bool) (os : List Oper) : List Nat → Bool
 | [] => true
 | x :: l => l.all (OH cmp os x) && PA cmp os l
def Kl (n : Nat) : Nat → List Oper → Bool
 | _,[] => true
 | i,o :: l => o.after.toList.all (fun e => !Region.binds .any e || (decide (e.on < n) && !(e.on == i))) && Kl n (i + 1) l
def Rz (cmp : Oper → Oper → Bool) (ord : List Nat) (os : List Oper) : Bool :=
 PA cmp os ord && Kl os.length 0 os && ord.all (fun i => decide (i < os.length)) && (List.range os.length).all (ord.contains ·)
section
variable {P : Program} {T : Tab} {G : Gh} {w : World} {H : Hp} {md : Me} {K : Fr → Hp → Prop} {f : Fr} {os : List Oper} {X : Cx} {ro : Option Nat} {Q : Exit → Fr → Hp → Prop} {stp : Oper → (Fr → Hp → Prop) → Fr → Hp → Prop} {cmp : Oper → Oper → Bool} {ss lk : List Nat}
theorem pairP_iff : ∀ {ord : List Nat},PA cmp os ord = true → ord.Pairwise fun x i => OH cmp os x i = true
 | [],_ => .nil
 | x :: l,h => by
  simp only [PA,Bool.and_eq_true,List.all_eq_true] at h
  exact .cons h.1 (pairP_iff h.2)
theorem Kt {n : Nat} : ∀ (l : List Oper) (i : Nat),Kl n i l = true → ∀ (j : Nat) (o : Oper),l[j]? = some o → ∀ e ∈ o.after,Region.binds .any e = true → e.on < n ∧ e.on ≠ i + j
 | [],i,h,j,o,hj => by simp at hj
 | a :: l,i,h,j,o,hj => by
  simp only [Kl,Bool.and_eq_true,List.all_eq_true] at h
  cases j with
  | zero =>
   simp only [List.getElem?_cons_zero,Option.some.injEq] at hj
   subst hj
   intro e he hb
   have := h.1 e (by simpa using he)
   simpa [hb] using this
  | succ j =>
   have := Kt l (i + 1) h.2 j o (by simpa using hj)
   rwa [show i + 1 + j = i + (j + 1) from by omega] at this
theorem Tj {R : List Nat} {rel : Nat → Nat → Prop} {i : Nat} (h : i ∈ R) (hp : R.Pairwise rel) : ∃ A B,R = A ++ i :: B ∧ ∀ x ∈ A,rel x i := by
 obtain ⟨A,B,rfl⟩ := List.append_of_mem h
 refine ⟨A,B,rfl,fun x hx => ?_⟩
 exact (List.pairwise_append.1 hp).2.2 x hx i (by simp)
theorem Uf {ops : Array Oper} (hsz : BF X.sz ops.toList = true) (hedge : Kl ops.toList.length 0 ops.toList = true)
  (hmono : ∀ (o : Oper) (K K' : Fr → Hp → Prop) (f : Fr) (H : Hp),(∀ f H,K f H → K' f H) → stp o K f H → stp o K' f H)
  (hswap : ∀ (x i : Oper) (K : Fr → Hp → Prop) (f : Fr) (H : Hp),cmp x i = true → stp x (stp i K) f H → stp i (stp x K) f H)
  (hstep : ∀ (G : Gh) (a : Act) (w : World) (f : Fr) (H : Hp) (i : Nat) (o : Oper) (K : Fr → Hp → Prop) (Q : Exit → Act → World → Prop),St X G f H a w → ops[i]? = some o → (∀ t,o.dst = some t → t < X.sz) → stp o K f H → wpOpIn (FW ro) 0 P ops Q i (Kon X K) a w) :
  ∀ (R : List Nat) (listed : Array Bool) (f : Fr) (H : Hp) (G : Gh) (a : Act) (w : World),listed.size = ops.size →
  R.Pairwise (fun x i => OH cmp ops.toList x i = true) → (∀ j,j ∈ R ↔ listed.getD j true = false) → (∀ j o,ops[j]? = some o → listed.getD j true = true → ∀ e ∈ o.after,Region.binds .any e = true → listed.getD e.on false = true) →
  St X G f H a w → Bd stp ops.toList (Q .normal) R f H → wpAnyIn (FW ro) 0 P .any ops (Post X Q) R.length listed a w := by
 intro R
 generalize hn : R.length = n
 induction n generalizing R with
 | zero =>
  intro listed f H G a w hls hp hm hcl s h
  have hR : R = [] := List.eq_nil_of_length_eq_zero hn
  subst hR
  refine ⟨?_,G,f,H,s,h⟩
  cases hr : Region.ready .any ops listed with
  | nil => rfl
  | cons x xs =>
   have := (mem_ready.1 (by rw [hr]; simp : x ∈ Region.ready .any ops listed)).1
   exact absurd ((hm x).2 this) (by simp)
 | succ n ih =>
  intro listed f H G a w hls hp hm hcl s h
  have hlt : ∀ j,j ∈ R → j < ops.size := fun j hj => by
   have := (hm j).1 hj
   rcases Nat.lt_or_ge j ops.size with h | h
   ·exact h
   ·rw [Array.getD_eq_getD_getElem?,Array.getElem?_eq_none (by omega)] at this; cases this
  have ht : ∀ j : Nat,j < ops.size → listed.getD j true = listed.getD j false := fun j hj => by
   rw [Array.getD_eq_getD_getElem?,Array.getD_eq_getD_getElem?,Array.getElem?_eq_getElem (by omega)]; rfl
  have hrel : ∀ x i : Nat,OH cmp ops.toList x i = true → x ≠ i ∧ ∃ ox oi,ops[x]? = some ox ∧ ops[i]? = some oi ∧ Ef i ox = false ∧ (cmp ox oi = true ∨ BK ops.toList x 8 oi = true) := fun x i hr => by
   simp only [OH,pickO_eq,Bool.and_eq_true] at hr
   obtain ⟨h1,h2⟩ := hr
   cases hx : ops.toList[x]? with
   | none => rw [hx] at h2; simp at h2
   | some ox =>
    cases hi : ops.toList[i]? with
    | none => rw [hx,hi] at h2; simp at h2
    | some oi =>
     rw [hx,hi] at h2
     simp only [Bool.and_eq_true,Bool.or_eq_true] at h2
     refine ⟨by simpa using h1,ox,oi,by rw [← Array.getElem?_toList]; exact hx,by rw [← Array.getElem?_toList]; exact hi,by simpa using h2.1,h2.2⟩
  refine ⟨fun hr => ?_,fun i hi => ?_⟩
  ·exfalso
   cases R with
   | nil => simp at hn
   | cons m R =>
    have hml := hlt m (by simp)
    have hmo : ops[m]? = some ops[m] := Array.getElem?_eq_getElem hml
    have : m ∈ Region.ready .any ops listed := mem_ready.2 ⟨(hm m).1 (by simp),ops[m],hmo,fun e he hb => by
     have hlt' := Kt _ 0 hedge m ops[m] (by rw [Array.getElem?_toList]; exact hmo) e he hb
     rw [Array.length_toList] at hlt'
     rw [← ht e.on (by omega)]
     cases hq : listed.getD e.on true with
     | true => rfl
     | false =>
      have hin := (hm e.on).2 hq
      rw [List.pairwise_cons] at hp
      rcases List.mem_cons.1 hin with h1 | h1
      ·omega
      ·obtain ⟨_,ox,oi,q1,_,q3,_⟩ := hrel _ _ (hp.1 _ h1)
       rw [hmo] at q1; cases q1
       have : Ef e.on ops[m] = true := List.any_eq_true.2 ⟨e,by simpa using he,by simp [hb]⟩
       rw [this] at q3; cases q3⟩
    rw [hr] at this
    cases this
  ·obtain ⟨hun,oi,hoi,hpre⟩ := mem_ready.1 hi
   have hiR := (hm i).2 hun
   obtain ⟨A,B,rfl,hA⟩ := Tj hiR hp
   have hoi' : ops.toList[i]? = some oi := by rw [Array.getElem?_toList]; exact hoi
   have hAun : ∀ x ∈ A,listed.getD x true = false := fun x hx => (hm x).1 (by simp [hx])
   have hcomp : ∀ x ∈ A,∃ ox,ops.toList[x]? = some ox ∧ cmp ox oi = true := by
    intro x hx
    have hxl := hlt x (by simp [hx])
    obtain ⟨_,ox,oi2,q1,q2,_,q⟩ := hrel _ _ (hA x hx)
    rw [hoi] at q2; cases q2
    have hox : ops.toList[x]? = some ox := by rw [Array.getElem?_toList]; exact q1
    refine ⟨ox,hox,?_⟩
    have hnot : ∀ (j : Nat) (o : Oper),ops[j]? = some o → (∀ e ∈ o.after,Region.binds .any e = true → listed.getD e.on false = true) → Ef x o = true → False := fun j o _ hall he => by
     obtain ⟨e,he1,he2,he3⟩ := EK he
     have := hall e he1 he2
     rw [he3,← ht x hxl,hAun x hx] at this
     cases this
    have hno : ∀ (n : Nat) (j : Nat) (o : Oper),ops[j]? = some o → (∀ e ∈ o.after,Region.binds .any e = true → listed.getD e.on false = true) → BK ops.toList x n o = true → False := by
     intro n
     induction n with
     | zero => exact hnot
     | succ n ihn =>
      intro j o hj hall hpt
      simp only [BK,Bool.or_eq_true] at hpt
      rcases hpt with hpt | hpt
      ·exact hnot j o hj hall hpt
      ·obtain ⟨e,he,hq⟩ := List.any_eq_true.1 hpt
       simp only [Bool.and_eq_true] at hq
       have hme := hall e (by simpa using he) hq.1
       cases hm1 : ops.toList[e.on]? with
       | none => rw [hm1] at hq; simp at hq
       | some m =>
        rw [hm1] at hq
        rw [Array.getElem?_toList] at hm1
        have hml : e.on < ops.size := (Array.getElem?_eq_some_iff.1 hm1).1
        exact ihn e.on m hm1 (hcl e.on m hm1 (by rw [ht e.on hml]; exact hme)) hq.2
    rcases q with q | q
    ·exact q
    ·exact (hno 8 i oi hoi hpre q).elim
   have hb := Mm hmono hswap hoi' A B hcomp h
   simp only [Bd,hoi'] at hb
   refine wpOpIn_mono ?_ (hstep _ _ _ _ _ _ _ _ _ s hoi (Cc hsz hoi) hb)
   rintro a' w' ⟨G',f',H',s',h'⟩
   have hil := hlt i hiR
   have hset : ∀ j,(listed.setIfInBounds i true).getD j true = if j = i then true else listed.getD j true := fun j => by
    rw [Array.getD_eq_getD_getElem?,Array.getElem?_setIfInBounds,Array.getD_eq_getD_getElem?]
    by_cases hj : i = j
    ·subst hj; simp [show i < listed.size from by omega]
    ·rw [if_neg hj,if_neg fun e => hj e.symm]
   have hset' : ∀ j,listed.getD j false = true → (listed.setIfInBounds i true).getD j false = true := fun j hj => by
    rw [Array.getD_eq_getD_getElem?,Array.getElem?_setIfInBounds]
    by_cases hij : i = j
    ·subst hij; simp [show i < listed.size from by omega]
    ·rw [if_neg hij,← Array.getD_eq_getD_getElem?]; exact hj
   have hp' : (A ++ B).Pairwise (fun x i => OH cmp ops.toList x i = true) := hp.sublist (by simp)
   have hnd : i ∉ A ++ B := by
    have hp2 : (A ++ i :: B).Pairwise (· ≠ ·) := hp.imp fun h => (hrel _ _ h).1
    rw [List.pairwise_append,List.pairwise_cons] at hp2
    intro hmem
    rcases List.mem_append.1 hmem with h1 | h1
    ·exact hp2.2.2 i h1 i (by simp) rfl
    ·exact hp2.2.1.1 i h1 rfl
   refine ih (A ++ B) (by simp at hn ⊢; omega) (listed.setIfInBounds i true) f' H' G' a' w' (by simpa using hls) hp' (fun j => ?_) (fun j o hj hl e he hb => ?_) s' h'
   ·rw [hset]
    by_cases hji : j = i
    ·subst hji; simp [hnd] at *
    ·rw [if_neg hji,← hm]
     simp [hji]
   ·rw [hset] at hl
    by_cases hji : j = i
    ·subst hji
     rw [hoi] at hj
     cases hj
     exact hset' _ (hpre e he hb)
    ·rw [if_neg hji] at hl
     exact hset' _ (hcl j o hj hl e he hb)
theorem xidxG_ord : ∀ (ord : List Nat) (f : Fr) (H : Hp),Bd stp os K ord f H = CD stp K (GM os ord) f H
 | [],f,H => rfl
 | i :: is,f,H => by
  have ih : Bd stp os K is = CD stp K (GM os is) := by funext f H; exact xidxG_ord is f H
  simp only [Bd,GM,pickO_eq,ih]
  cases os[i]? <;> rfl
theorem SR (hT : Ad P T) (hmix : P.follows .mixedOrders = true) (md : Me) (ss lk ord : List Nat) {id : Nat} {ops : Array Oper} {l : List Oper} (hsz : BF X.sz ops.toList = true) (hok : Rz (Iz ss lk md ops.toList) ord ops.toList = true)
  (hl : GM ops.toList ord = l) (h : CD (Ak P T md ops.toList ss lk) (Q .normal) l f H) : AW P ro X (.region id ops true) Q f H := fun G a w s => by
 refine wpIn_region_any hmix ?_
 simp only [Rz,Bool.and_eq_true,List.all_eq_true,decide_eq_true_eq] at hok
 obtain ⟨⟨⟨h1,h2⟩,h3⟩,h4⟩ := hok
 have hmem : ∀ j,j ∈ ord ↔ j < ops.size := fun j => ⟨fun hj => by simpa using h3 j hj,fun hj => by simpa using h4 j (by simpa using hj)⟩
 have hpair := pairP_iff h1
 have hlen : ord.length = ops.size := by
  have hnd : ord.Nodup := hpair.imp fun h => by
   simp only [OH,Bool.and_eq_true] at h
   simpa using h.1
  have hperm : ord.Perm (List.range ops.size) := (List.perm_ext_iff_of_nodup hnd List.nodup_range).2 fun j => by rw [hmem,List.mem_range]
  rw [hperm.length_eq,List.length_range]
 have h' : Bd (Ak P T md ops.toList ss lk) ops.toList (Q .normal) ord f H := by rw [xidxG_ord,hl]; exact h
 have hrep : ∀ j d,(Array.replicate ops.size false).getD j d = if j < ops.size then false else d := fun j d => by
  rw [Array.getD_eq_getD_getElem?,Array.getElem?_replicate]
  split <;> rfl
 have := Uf (ro := ro) (stp := Ak P T md ops.toList ss lk) hsz h2 (fun o K K' f H hk h => L3 hk h) (fun x i K f H hc h => Vj hc h)
  (fun G a w f H i o K Q s hi hd h => Ep hT s hi hd h) ord (Array.replicate ops.size false) f H G a _ (by simp) hpair (fun j => ?_) (fun j o hj hl e he hb => ?_) (s.drawn (w.drawn + 1) (Nat.le_succ _)) h'
 ·rw [hlen] at this; exact this
 ·rw [hrep,hmem]
  split <;> simp_all
 ·rw [hrep] at hl
  have : j < ops.size := (Array.getElem?_eq_some_iff.1 hj).1
  rw [if_pos this] at hl
  cases hl
end
end Cp
namespace Cp
open Go
section
variable {P : Program} {T : Tab} {G G' : Gh} {w w' : World} {H H' : Hp} {f : Fr} {X : Cx}
end
end Cp
namespace Cp
open Go
section
variable {P : Program} {T : Tab} {G G' : Gh} {w w' : World} {H H' : Hp} {f : Fr} {X : Cx}
def Gh.mv (G : Gh) (k k' : Nat) : Gh := { G with K := upd G.K k' (G.K k),C := upd G.C k' (G.C k),E := upd G.E k' (G.N k'),N := upd G.N k' (G.N k' + 1) }
end
end Cp
namespace Cp
open Go
section
variable {P : Program} {T : Tab} {G G' : Gh} {w w' : World} {H H' : Hp}
end
end Cp
namespace Cp
open Go
end Cp
namespace Cp
open Go
def O2 (P : Program) (t : TypeId) (m : String) (fid : FuncId) : Prop := ∀ (v : Value) (w : World),(method (P.types.size + Made.depth) t v m).run P w = .ok (fid,v) w
section
variable {P : Program} {T : Tab} {G G' : Gh} {w w' : World} {H H' : Hp} {md : Me} {K : Fr → Hp → Prop} {f f' : Fr} {os : List Oper} {X : Cx} {ro : Option Nat} {Q : Exit → Fr → Hp → Prop} {ss lk : List Nat} {o : Oper}
theorem Og {c : Call} {r : Operand} {m : String} {ρ : Operand → Value} {t : TypeId} {x : Value} {fid : FuncId} {o : Oper} (ho : o.op = .call c) (hc : c.callee = .invoke r m) (hr : ρ r = .iface t x) (hm : O2 P t m fid) (hE : Ent P fid) :
  (execOp ρ o).run P w = .ok (.enter fid (#[x] ++ c.args.map ρ)) w := by
 obtain ⟨fn,h1,h2,h3⟩ := hE
 have hres : resolve ρ c o.type = pure { target := .fn (.method m) #[],args := #[.iface t x] ++ c.args.map ρ } := by
  simp only [resolve,hc,hr]
 have hget : (#[Value.iface t x] ++ c.args.map ρ)[0]? = some (.iface t x) := by rw [Array.getElem?_append_left (by simp)]; rfl
 have hext : (#[Value.iface t x] ++ c.args.map ρ).extract 1 (#[Value.iface t x] ++ c.args.map ρ).size = c.args.map ρ := by
  apply Array.toList_inj.1
  simp
  exact List.take_of_length_le (by simp)
 have hm' := hm x w
 unfold execOp
 rw [ho]
 simp only [hres,Sem.run_bind,Sem.run_pure,Result.andThen,invoke,hget,hext,callMethod,run_program,hm',callFunc,h1,h3,h2,Bool.false_eq_true,if_false]
theorem Im {a : Act} (s : St X G f H a w) {o : Oper} (hd : ∀ t,o.dst = some t → t < X.sz) {c : Call} {r : Operand} {m : String} {t : TypeId} {v : Val} {fid : FuncId} {args : List Val} {R : Val → Hp → Prop} {Q : Exit → Act → World → Prop}
  (ho : o.op = .call c) (hc : c.callee = .invoke r m) (hg : ev f r = .iface t v) (hm : O2 P t m fid) (hargs : ∀ xs,VRs G w (v :: c.args.toList.map (ev f)) xs → VRs G w args xs)
  (hA : BD P fid args H R) (hK : ∀ v H',R v H' → K (put f o.dst v) H') : o.wpIn (FW ro) 0 P a w (Kon X K) Q := by
 refine ⟨fun _ _ => trivial,?_⟩
 obtain ⟨hE,hA⟩ := hA
 have hv := s.er r
 rw [hg] at hv
 generalize hx : a.eval r = x at hv
 cases hv with
 | iface _ _ y hy =>
  have hnd : ∀ d,o.op ≠ .defer d := fun d e => by rw [ho] at e; cases e
  have hvs : VRs G w (v :: c.args.toList.map (ev f)) (#[y] ++ c.args.map a.eval) := by
   refine ⟨by simp; omega,fun i u hi => ?_⟩
   cases i with
   | zero =>
    simp at hi
    subst hi
    have : (#[y] ++ c.args.map a.eval).getD 0 undef = y := by rw [Array.getD_eq_getD_getElem?,Array.getElem?_append_left (by simp)]; rfl
    rw [this]; exact hy
   | succ i =>
    simp only [List.getElem?_cons_succ,List.getElem?_map,Option.map_eq_some_iff] at hi
    obtain ⟨z,hz,rfl⟩ := hi
    have : (#[y] ++ c.args.map a.eval).getD (i + 1) undef = a.eval z := by
     rw [Array.getD_eq_getD_getElem?,Array.getElem?_append_right (by simp)]
     simp only [List.size_toArray,List.length_cons,List.length_nil,Nat.zero_add,Nat.add_sub_cancel,Array.getElem?_map]
     rw [Array.getElem?_toList] at hz
     rw [hz]; rfl
    rw [this]; exact s.er z
  rw [show (FW ro).round = ro from rfl,Oper.semAt_eq ro _ o hnd,Og ho hc hx hm hE,Oper.uponIn_enter]
  refine ⟨fun h => by simp [FW,Fence.wide] at h,Cn ?_⟩
  refine Calls.mono (hA G w _ s.rel (hargs _ hvs)) fun e w' he => ?_
  obtain ⟨v,x,G',H',rfl,h1,h2,h3,h4,h5⟩ := he
  exact ⟨G',_,H',s.put h1 h2 h3 h4 o.dst hd,hK v H' h5⟩
def MG (P : Program) (md : Me) (d : Option Tmp) (K : Fr → Hp → Prop) (f : Fr) (H : Hp) (m : String) (args : List Val) : Val → Prop
 | .iface t v => ∃ fid,O2 P t m fid ∧ if RT md d then Qe P d K f H fid (v :: args) else K3 P d K f H fid (v :: args)
 | _ => False
def B7 (P : Program) (T : Tab) (md : Me) (os : List Oper) (ss lk : List Nat) (o : Oper) (K : Fr → Hp → Prop) (f : Fr) (H : Hp) : Prop :=
 match o.op,o.guard with
 | .call { callee := .invoke r m,args,.. },none => MG P md o.dst K f H m (args.toList.map (ev f)) (ev f r)
 | _,_ => B9 P T md os ss lk o K f H
theorem Mw (hT : Ad P T) {a : Act} (s : St X G f H a w) {ops : Array Oper} {i : Nat} (hi : ops[i]? = some o) (hd : ∀ t,o.dst = some t → t < X.sz) {Q : Exit → Act → World → Prop}
  (h : B7 P T md ops.toList ss lk o K f H) : wpOpIn (FW ro) 0 P ops Q i (Kon X K) a w := by
 unfold B7 at h
 split at h
 ·rename_i r m args ts ho hg
  unfold MG at h
  split at h
  ·rename_i t v hv
   obtain ⟨fid,hm,h⟩ := h
   unfold wpOpIn
   rw [hi]
   simp only
   rw [if_pos (by simp [Region.wanted,hg])]
   split at h
   ·obtain ⟨R,hA,hK⟩ := h
    exact Im s hd ho rfl hv hm (fun xs h => h) hA hK
   ·obtain ⟨v',hP,hK⟩ := h
    exact Im s hd ho rfl hv hm (fun xs h => h) (hP.acall H) (fun v' H' hv => by obtain ⟨rfl,rfl⟩ := hv; exact hK)
  ·exact h.elim
 ·exact Nr hT s hi hd h
end
end Cp
namespace Cp
open Go
section
variable {P : Program} {T : Tab} {G G' : Gh} {w w' : World} {H H' : Hp} {md : Me} {K : Fr → Hp → Prop} {f f' : Fr} {os : List Oper} {X : Cx} {ro : Option Nat} {Q : Exit → Fr → Hp → Prop} {ss lk : List Nat} {o : Oper}
def gdK (b : Bool) (A B : Prop) : Option Val → Prop
 | some (.bool c) => if c = b then A else B
 | some (.tup []) => B
 | _ => False
def yvG (P : Program) (d : Option Tmp) (K : Fr → Hp → Prop) (f : Fr) (H : Hp) (args : List Val) (b : Bool) (gv : Option Val) (rest : Prop) : Val → Prop
 | .yld k e => gdK b (Rr P d K f H k e args) (K (put f d (.tup [])) H) gv
 | _ => rest
def Cu (P : Program) (T : Tab) (md : Me) (os : List Oper) (ss lk : List Nat) (o : Oper) (K : Fr → Hp → Prop) (f : Fr) (H : Hp) : Prop :=
 match o.op,o.guard with
 | .call { callee := .value g,args,.. },some (j,b) => yvG P o.dst K f H (args.toList.map (ev f)) b ((opd os j).map f) (B7 P T md os ss lk o K f H) (ev f g)
 | .call { callee := .invoke r m,args,.. },some (j,b) => gdK b (MG P md o.dst K f H m (args.toList.map (ev f)) (ev f r)) (K (put f o.dst (.tup [])) H) ((opd os j).map f)
 | _,_ => B7 P T md os ss lk o K f H
theorem Nv {a : Act} (s : St X G f H a w) {ops : Array Oper} {i : Nat} (hi : ops[i]? = some o) (hd : ∀ t,o.dst = some t → t < X.sz) {Q : Exit → Act → World → Prop} {j : Nat} {b : Bool} (hg : o.guard = some (j,b)) {A : Prop}
  (hA : A → o.wpIn (FW ro) 0 P a w (Kon X K) Q) (h : gdK b A (K (put f o.dst (.tup [])) H) ((opd ops.toList j).map f)) : wpOpIn (FW ro) 0 P ops Q i (Kon X K) a w := by
 unfold wpOpIn
 rw [hi]
 simp only
 have skip : K (put f o.dst (.tup [])) H → Kon X K (a.put o.dst undef) w := fun h => ⟨G,_,H,s.put (Tr.refl G H w) s.rel rfl (.tup [] #[] rfl (fun i v hi => by simp at hi)) o.dst hd,h⟩
 unfold gdK at h
 split at h
 ·rename_i c hc
  have hy := Dv s hc
  have hw : Region.wanted o (yielded ops a.tmps) = (c == b) := by simp only [Region.wanted,hg,hy]; cases c <;> cases b <;> rfl
  by_cases hcb : c = b
  ·subst hcb
   rw [if_pos (by rw [hw]; simp)]
   rw [if_pos rfl] at h
   exact hA h
  ·rw [if_neg (by rw [hw]; simpa using hcb)]
   rw [if_neg hcb] at h
   exact ⟨fun _ _ => trivial,skip h⟩
 ·rename_i hc
  have hw : Region.wanted o (yielded ops a.tmps) = false := by
   have hy : yielded ops a.tmps j = none := by
    rw [Option.map_eq_some_iff] at hc
    obtain ⟨t,ht,hf⟩ := hc
    unfold opd at ht
    rw [Array.getElem?_toList] at ht
    have hv := s.fr t
    rw [hf] at hv
    unfold yielded
    rw [ht]
    simp only [Option.bind_some]
    generalize hx : a.tmps.getD t undef = x at hv
    cases hv
    rw [Array.getD_eq_getD_getElem?] at hx
    cases hq : a.tmps[t]? with
    | none => rfl
    | some y => rw [hq] at hx; simp at hx; subst hx; rfl
   simp only [Region.wanted,hg,hy]
   rfl
  rw [if_neg (by rw [hw]; simp)]
  exact ⟨fun _ _ => trivial,skip h⟩
 ·exact h.elim
theorem Wh {a : Act} (s : St X G f H a w) (hd : ∀ t,o.dst = some t → t < X.sz) {Q : Exit → Act → World → Prop} {r : Operand} {m : String} {args : Array Operand} {ts : Array TypeId} (ho : o.op = .call { callee := .invoke r m,args := args,argTypes := ts })
  (h : MG P md o.dst K f H m (args.toList.map (ev f)) (ev f r)) : o.wpIn (FW ro) 0 P a w (Kon X K) Q := by
 unfold MG at h
 split at h
 ·rename_i t v hv
  obtain ⟨fid,hm,h⟩ := h
  split at h
  ·obtain ⟨R,hA,hK⟩ := h
   exact Im s hd ho rfl hv hm (fun xs h => h) hA hK
  ·obtain ⟨v',hP,hK⟩ := h
   exact Im s hd ho rfl hv hm (fun xs h => h) (hP.acall H) (fun v' H' hv => by obtain ⟨rfl,rfl⟩ := hv; exact hK)
 ·exact h.elim
theorem SJ (hT : Ad P T) {a : Act} (s : St X G f H a w) {ops : Array Oper} {i : Nat} (hi : ops[i]? = some o) (hd : ∀ t,o.dst = some t → t < X.sz) {Q : Exit → Act → World → Prop}
  (h : Cu P T md ops.toList ss lk o K f H) : wpOpIn (FW ro) 0 P ops Q i (Kon X K) a w := by
 unfold Cu at h
 split at h
 ·rename_i g args ts j b ho hg
  unfold yvG at h
  split at h
  ·rename_i k e hv
   refine Nv s hi hd hg (fun ⟨R,h1,h2⟩ => ?_) h
   exact Mz s hd ho rfl hv h1 h2
  ·exact Mw hT s hi hd h
 ·rename_i r m args ts j b ho hg
  exact Nv s hi hd hg (fun h => Wh s hd ho h) h
 ·exact Mw hT s hi hd h
theorem Ml (hT : Ad P T) {ops : Array Oper} (hsz : BF X.sz ops.toList = true) {Q : Exit → Fr → Hp → Prop} : ∀ (is : List Nat) (f : Fr) (H : Hp) (G : Gh) (a : Act) (w : World),St X G f H a w → Bd (Cu P T md ops.toList ss lk) ops.toList (Q .normal) is f H →
  wpOpsIn (FW ro) 0 P ops (Post X Q) is a w
 | [],f,H,G,a,w,s,h => ⟨G,f,H,s,h⟩
 | i :: is,f,H,G,a,w,s,h => by
  rw [wpOpsIn_cons]
  simp only [Bd] at h
  rw [Array.getElem?_toList] at h
  cases hi : ops[i]? with
  | none =>
   rw [hi] at h
   unfold wpOpIn
   rw [hi]
   exact Ml hT hsz is f H G a w s h
  | some o =>
   rw [hi] at h
   exact wpOpIn_mono (fun a w ⟨G,f,H,s,h⟩ => Ml hT hsz is f H G a w s h) (SJ hT s hi (Cc hsz hi) h)
theorem F3 (hT : Ad P T) (md : Me) (ss lk : List Nat) {id : Nat} {ops : Array Oper} (hsz : BF X.sz ops.toList = true) (h : CD (Cu P T md ops.toList ss lk) (Q .normal) ops.toList f H) : AW P ro X (.region id ops false) Q f H := fun G a w s => by
 refine wpIn_region ?_
 have e : ops.size = ops.toList.length := by simp
 rw [e]
 exact Ml hT hsz _ f H G a w s (by rw [Cs]; exact h)
end
end Cp
namespace Cp
open Go
section
variable {P : Program} {T : Tab} {G G' : Gh} {w w' : World} {H H' : Hp} {f : Fr} {X : Cx}
def mvH (G : Gh) (H : Hp) (k k' sz : Nat) (xss : List (List Val)) : Hp := upd (upd H k none) k' (some (G.N k',.arr sz xss))
theorem JD {k k' e sz : Nat} {xss : List (List Val)} (hk : H k = some (e,.arr sz xss)) (hk' : H k' = none) (hne : k ≠ k') {b : Nat} (h : Own (G.mv k k') (mvH G H k k' sz xss) b) : Own G H b := by
 obtain ⟨j,e',o',h3,h4,h5⟩ := h
 by_cases hj : j = k'
 ·subst hj
  simp only [Gh.mv,A4] at h5
  exact ⟨k,e,_,hk,rfl,h5⟩
 ·simp only [mvH,A0 _ _ hj] at h3
  by_cases hjk : j = k
  ·subst hjk; simp at h3
  ·rw [A0 _ _ hjk] at h3
   simp only [Gh.mv,A0 _ _ hj] at h5
   exact ⟨j,e',o',h3,h4,h5⟩
theorem Tr.mvA {G0 : Gh} {H0 : Hp} {w0 : World} (t : Tr G0 H0 w0 G H w) {k k' e sz : Nat} {xss : List (List Val)} (hk : H k = some (e,.arr sz xss)) (hk' : H k' = none) (hne : k ≠ k') : Tr G0 H0 w0 (G.mv k k') (mvH G H k k' sz xss) w :=
 { t with
  own := fun b hb => t.own b (JD hk hk' hne hb)
  I1 := t.I1
  I2 := t.I2
  N := fun j => by
   have := t.N j
   simp only [Gh.mv,upd]; split
   ·rename_i h; subst h; omega
   ·exact this
  eps := fun j => by
   simp only [Gh.mv,upd]
   by_cases h : j = k'
   ·subst h; simp only [if_true]; exact .inr (t.N j)
   ·simp only [h,if_false]; exact t.eps j
  D := t.D }
theorem RA {ro : Option Nat} {c : Code} {Q : Exit → Fr → Hp → Prop} (k k' t : Nat) {e n sz : Nat} {xss : List (List Val)} (ht : f t = .gr k e n) (hk : H k = some (e,.arr sz xss)) (hk' : H k' = none) (hne : k ≠ k')
  (h : ∀ e',AW P ro X c Q (upd f t (.gr k' e' n)) (upd (upd H k none) k' (some (e',.arr sz xss)))) : AW P ro X c Q f H := by
 intro G a w s
 obtain ⟨he,hN,hrow⟩ := s.rel.obj k e _ hk
 have tr1 : Tr G H w (G.mv k k') (mvH G H k k' sz xss) w := (Tr.refl G H w).mvA hk hk' hne
 have hvr : ∀ v x,VR G w v x → VR (G.mv k k') w v x := fun v x q => q.mono s.rel.imm tr1
 have hNle : ∀ j,G.N j ≤ (G.mv k k').N j := tr1.N
 have get : ∀ {j : Nat} {e' : Nat} {o : AObj},mvH G H k k' sz xss j = some (e',o) → (j = k' ∧ e' = G.N k' ∧ o = .arr sz xss) ∨ (j ≠ k' ∧ j ≠ k ∧ H j = some (e',o)) := by
  intro j e' o q
  by_cases hj : j = k'
  ·subst hj
   simp only [mvH,A4,Option.some.injEq,Prod.mk.injEq] at q
   exact .inl ⟨rfl,q.1.symm,q.2.symm⟩
  ·simp only [mvH,A0 _ _ hj] at q
   by_cases hjk : j = k
   ·subst hjk; simp at q
   ·rw [A0 _ _ hjk] at q; exact .inr ⟨hj,hjk,q⟩
 refine h (G.N k') (G.mv k k') a w ⟨s.tr.mvA hk hk' hne,?_,fun t' => ?_,s.size,s.dfr⟩
 ·refine ⟨fun j e' o q => ?_,fun k1 e1 km em v2 left cur e' es' q1 q2 q3 => ?_,fun k1 k2 e1 e2 o1 o2 b' q1 q2 w1 w2 g1 g2 => ?_,fun b' hI => ?_,fun b' ho => ?_,fun r hr => ?_,fun g cs hg => hvr _ _ (s.rel.glb g cs hg)⟩
  ·rcases get q with ⟨rfl,rfl,rfl⟩ | ⟨hj,hjk,q⟩
   ·refine ⟨by simp [Gh.mv,upd],by simp [Gh.mv,upd],?_⟩
    have := Row.mono' (G' := G.mv k j) (w' := w) hrow hvr (by simp [Gh.mv,upd,hne]) (by simp [Gh.mv,upd,hne]) (fun b hb => rfl)
    obtain ⟨r1,r2⟩ := this
    refine ⟨r1,?_⟩
    have e1 : (G.mv k j).K j = (G.mv k j).K k := by simp [Gh.mv,upd,hne]
    have e2 : (G.mv k j).C j = (G.mv k j).C k := by simp [Gh.mv,upd,hne]
    rw [e1,e2]; exact r2
   ·obtain ⟨a1,a2,a3⟩ := s.rel.obj j e' o q
    refine ⟨by simp [Gh.mv,upd,hj,a1],by have := hNle j; omega,?_⟩
    exact ORel.mono' a3 hvr hNle (fun _ h => h) (by simp [Gh.mv,upd,hj]) (by simp [Gh.mv,upd,hj]) (fun _ _ => rfl)
  ·rcases get q1 with ⟨rfl,rfl,hx⟩ | ⟨hj,hjk,q1⟩
   ·cases hx
   ·rcases get q2 with ⟨rfl,rfl,hx⟩ | ⟨hm,hmk,q2⟩
    ·cases hx
    ·obtain ⟨b,bm,clk,seen,xs,r1,r2,r3,r4⟩ := s.rel.itr k1 e1 km em v2 left cur e' es' q1 q2 q3
     exact ⟨b,bm,clk,seen,xs,by simp [Gh.mv,upd,hj,r1],r2,by simp [Gh.mv,upd,hm,r3],r4⟩
  ·rcases get q1 with ⟨a1,a2,a3⟩ | ⟨hj,hjk,p1⟩ <;> rcases get q2 with ⟨b1,b2,b3⟩ | ⟨hm,hmk,p2⟩
   ·rw [a1,b1]
   ·rw [a1] at g1
    simp only [Gh.mv,A4,A0 _ _ hm] at g1 g2
    exact absurd (s.rel.inj k k2 _ _ _ _ b' hk p2 rfl w2 g1 g2).symm hmk
   ·rw [b1] at g2
    simp only [Gh.mv,A4,A0 _ _ hj] at g1 g2
    exact absurd (s.rel.inj k1 k _ _ _ _ b' p1 hk w1 rfl g1 g2) hjk
   ·simp only [Gh.mv,A0 _ _ hj,A0 _ _ hm] at g1 g2
    exact s.rel.inj k1 k2 _ _ _ _ b' p1 p2 w1 w2 g1 g2
  ·exact ⟨(s.rel.imm b' hI).1,fun ho => (s.rel.imm b' hI).2 (JD hk hk' hne ho)⟩
  ·exact s.rel.own b' (JD hk hk' hne ho)
  ·exact ⟨(s.rel.dfr r hr).1,fun ho => (s.rel.dfr r hr).2.1 (JD hk hk' hne ho),(s.rel.dfr r hr).2.2⟩
 ·by_cases h1 : t' = t
  ·subst h1
   rw [A4]
   have := s.fr t'
   rw [ht] at this
   generalize a.tmps.getD t' undef = x at this
   cases this with
   | gr _ _ _ a' c' he' hp =>
    refine .gr _ _ _ _ _ (by simp [Gh.mv,upd]) fun _ => ?_
    have := hp he
    rw [this]
    simp [Gh.handle,Gh.mv,upd]
  ·rw [A0 _ _ h1]; exact hvr _ _ (s.fr t')
end
end Cp
