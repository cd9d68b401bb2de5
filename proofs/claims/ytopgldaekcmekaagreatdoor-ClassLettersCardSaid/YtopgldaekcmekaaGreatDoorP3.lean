/- Rules,facts and contracts that the statement's proof leans on. Conditions: none. -/
import Derived.Laws.Sem
import Derived.ChangeArms
import Derived.OpenShut
import Derived.Below
import Derived.WideShapes
import Derived.Test.YtopgldaekcmekaaGreatDoorP2
set_option linter.unusedVariables false
set_option linter.unusedSimpArgs false
set_option linter.unusedSectionVars false
namespace Cp
open Go
def Cz (xs : List Operand) : List Nat := xs.filterMap fun | .tmp t => some t | _ => none
def rdT (os : List Oper) (o : Oper) : List Nat := Cz o.op.operands.toList ++ (match o.guard with | some (j,_) => (opd os j).toList | none => [])
def cls (md : Me) (o : Oper) : Nat :=
 let d := o.dst.getD 0
 let own := md.own.contains d
 match o.op with
 | .load .. | .indexAddr .. | .slice .. | .lookup .. => 1
 | .alloc _ | .makeSlice .. | .makeMap .. => if o.dst.isNone then 4 else 2
 | .box .. | .buildSlice .. | .assign _ => if own then (if o.dst.isNone then 4 else 2) else 0
 | .store .. | .mapUpdate .. | .insert .. | .range .. => 3
 | .call { callee := .builtin .append,.. } => if own then 3 else 1
 | .call { callee := .builtin .delete,.. } => 3
 | .call { callee := .builtin _,.. } => 1
 | .call { callee := .value _,.. } => if md.imp.contains d then 4 else if md.fz.contains d then 1 else 0
 | .call _ => 4
 | .move _ | .pick .. | .build .. | .nilCheck _ | .binOp .. | .unOp .. | .convert .. | .makeInterface .. | .makeFunc .. | .fieldAddr .. | .field .. | .index .. | .typeAssert .. | .extract .. => 0
 | _ => 4
def BC (o : Oper) : Bool := match o.op with | .call { callee := .value _,.. } => true | _ => false
def Dq (P : Program) (T : Tab) (md : Me) (o : Oper) (ep : Nat → Nat) (f : Fr) (H : Hp) (v : Val) (u : Up) : Prop :=
 match o.op with
 | .call { callee := .value g,args,.. } =>
  match ev f g with
  | .fn fid caps => PureC P fid ((args.toList.map (ev f) ++ caps).map (if md.fz.contains (o.dst.getD 0) then fzv H else id)) v ∧ u = none
  | _ => False
 | _ => xop T md.toMd ep f H o = some (v,u)
def Out (P : Program) (T : Tab) (md : Me) (os : List Oper) (o : Oper) (ep : Nat → Nat) (f : Fr) (H : Hp) (v : Val) (u : Up) : Prop :=
 match o.guard with
 | none => Dq P T md o ep f H v u
 | some (j,b) =>
  match (opd os j).map f with
  | some (.bool c) => if c = b then Dq P T md o ep f H v u else v = .tup [] ∧ u = none
  | some (.tup []) => v = .tup [] ∧ u = none
  | _ => False
section
variable {P : Program} {T : Tab} {G G' : Gh} {w w' : World} {H H' : Hp} {md : Me} {X : Cx} {K : Fr → Hp → Prop} {f f' : Fr} {o : Oper} {os : List Oper} {v : Val} {u : Up} {ep ep' : Nat → Nat}
theorem OY (hc : cls md o ≠ 4) : xgo P T md o K f H ↔ ∀ ep,∃ v u,Dq P T md o ep f H v u ∧ K (put f o.dst v) (app H u) := by
 obtain ⟨dst,op,type,pos,after,guard⟩ := o
 have hx : (∀ g args ts,op ≠ .call { callee := .value g,args := args,argTypes := ts }) → (xgo P T md ⟨dst,op,type,pos,after,guard⟩ K f H ↔ ∀ ep,∃ v u,Dq P T md ⟨dst,op,type,pos,after,guard⟩ ep f H v u ∧ K (put f dst v) (app H u)) := by
  intro hn
  have e1 : xgo P T md ⟨dst,op,type,pos,after,guard⟩ K f H = ∀ ep,match xop T md.toMd ep f H ⟨dst,op,type,pos,after,guard⟩ with | some (v,u) => K (put f dst v) (app H u) | none => False := by
   unfold xgo
   split
   ·rename_i g args ts h; exact absurd h (hn g args ts)
   ·rfl
  have e2 : ∀ ep v u,Dq P T md ⟨dst,op,type,pos,after,guard⟩ ep f H v u = (xop T md.toMd ep f H ⟨dst,op,type,pos,after,guard⟩ = some (v,u)) := by
   intro ep v u
   unfold Dq
   split
   ·rename_i g args ts h; exact absurd h (hn g args ts)
   ·rfl
  rw [e1]
  refine forall_congr' fun ep => ?_
  constructor
  ·intro h
   cases hq : xop T md.toMd ep f H ⟨dst,op,type,pos,after,guard⟩ with
   | none => rw [hq] at h; exact h.elim
   | some p => obtain ⟨v,u⟩ := p; rw [hq] at h; exact ⟨v,u,by rw [e2]; exact hq,h⟩
  ·rintro ⟨v,u,h1,h2⟩
   rw [e2] at h1
   rw [h1]
   exact h2
 by_cases hq : ∃ g args ts,op = .call { callee := .value g,args := args,argTypes := ts }
 ·obtain ⟨g,args,ts,rfl⟩ := hq
  simp only [xgo,Dq]
  have himp : md.imp.contains (dst.getD 0) = false := by
   simp only [cls] at hc
   by_cases h : md.imp.contains (dst.getD 0) = true
   ·rw [if_pos h] at hc; exact absurd rfl hc
   ·simpa using h
  rw [himp]
  cases hg : ev f g with
  | fn fid caps =>
   simp only [Bool.false_eq_true,if_false]
   constructor
   ·rintro ⟨v,h1,h2⟩ ep
    exact ⟨v,none,⟨h1,rfl⟩,h2⟩
   ·intro h
    obtain ⟨v,u,⟨h1,rfl⟩,h2⟩ := h fun _ => 0
    exact ⟨v,h1,h2⟩
  | _ =>
   simp only
   constructor
   ·intro h; exact h.elim
   ·intro h; obtain ⟨v,u,⟨h1,h2⟩⟩ := h fun _ => 0; exact h1.elim
 ·exact hx fun g args ts h => hq ⟨g,args,ts,h⟩
theorem Ao (hc : cls md o ≠ 4) : Bo P T md os o K f H ↔ ∀ ep,∃ v u,Out P T md os o ep f H v u ∧ K (put f o.dst v) (app H u) := by
 unfold Bo Out
 cases hg : o.guard with
 | none => exact OY hc
 | some p =>
  obtain ⟨j,b⟩ := p
  simp only
  cases hq : (opd os j).map f with
  | none =>
   simp only
   constructor
   ·intro h; exact h.elim
   ·intro h; obtain ⟨v,u,⟨h1,h2⟩⟩ := h fun _ => 0; exact h1.elim
  | some x =>
   cases x with
   | bool c =>
    simp only
    by_cases hcb : c = b
    ·subst hcb
     simp only [if_true]
     rw [← OY hc]
     constructor
     ·intro h; exact h.1 trivial
     ·intro h; exact ⟨fun _ => h,fun e => by cases c <;> cases e⟩
    ·simp only [if_neg hcb]
     constructor
     ·intro h ep
      exact ⟨.tup [],none,⟨rfl,rfl⟩,h.2 (by cases c <;> cases b <;> simp_all)⟩
     ·intro h
      obtain ⟨v,u,⟨⟨rfl,rfl⟩,h2⟩⟩ := h fun _ => 0
      exact ⟨fun e => absurd e hcb,fun _ => h2⟩
   | tup l =>
    cases l with
    | nil =>
     simp only
     constructor
     ·intro h ep; exact ⟨.tup [],none,⟨rfl,rfl⟩,h⟩
     ·intro h; obtain ⟨v,u,⟨⟨rfl,rfl⟩,h2⟩⟩ := h fun _ => 0; exact h2
    | cons y l =>
     simp only
     constructor
     ·intro h; exact h.elim
     ·intro h; obtain ⟨v,u,⟨h1,h2⟩⟩ := h fun _ => 0; exact h1.elim
   | _ =>
    simp only
    constructor
    ·intro h; exact h.elim
    ·intro h; obtain ⟨v,u,⟨h1,h2⟩⟩ := h fun _ => 0; exact h1.elim
theorem RM {x : Operand} (h : ∀ t ∈ Cz [x],f t = f' t) : ev f x = ev f' x := by
 cases x with
 | tmp t => exact h t (by simp [Cz])
 | _ => rfl
theorem OP {xs : List Operand} {t : Nat} : t ∈ Cz xs ↔ Operand.tmp t ∈ xs := by
 induction xs with
 | nil => simp [Cz]
 | cons x xs ih =>
  have e : Cz (x :: xs) = Cz [x] ++ Cz xs := by simp [Cz,List.filterMap_cons]; cases x <;> simp
  rw [e,List.mem_append,ih]
  cases x <;> simp [Cz]
theorem IG {xs : List Operand} (h : ∀ t ∈ Cz xs,f t = f' t) : ∀ x ∈ xs,ev f x = ev f' x := fun x hx => RM fun t ht => h t (OP.2 (by
 cases x <;> simp [Cz] at ht
 subst ht; exact hx))
theorem Q1 (h : ∀ x ∈ o.op.operands.toList,ev f x = ev f' x) : xop T md.toMd ep f H o = xop T md.toMd ep f' H o := by
 obtain ⟨dst,op,type,pos,after,guard⟩ := o
 have hm : ∀ xs : Array Operand,(∀ x ∈ xs.toList,ev f x = ev f' x) → xs.toList.map (ev f) = xs.toList.map (ev f') := fun xs hx => List.map_congr_left hx
 have ho : ∀ x : Option Operand,(∀ y ∈ x.toArray.toList,ev f y = ev f' y) → x.map (ev f) = x.map (ev f') := fun x hx => by
  cases x with
  | none => rfl
  | some y => simp [hx y (by simp)]
 have hp : ∀ ps : Array (Nat × Operand),(∀ x ∈ ((ps.toList.map (·.2)).toArray).toList,ev f x = ev f' x) → ps.toList.map (fun p => (p.1,ev f p.2)) = ps.toList.map (fun p => (p.1,ev f' p.2)) := fun ps hx =>
  List.map_congr_left fun p hp => by rw [hx p.2 (by simpa using ⟨p.1,(by simpa using hp : (p.1,p.2) ∈ ps)⟩)]
 cases op <;> simp only [Op.operands] at h <;> simp only [xop] <;> try rfl
 case call c =>
  obtain ⟨callee,args,ts⟩ := c
  cases callee <;> simp only <;> try rfl
  rw [hm args fun x hx => h x (by simpa [Call.operands] using hx)]
 case build t ps => rw [hp ps h]
 case makeMap t r => rw [ho r fun y hy => h y (by simpa using hy)]
 case buildSlice t n ps => rw [hp ps h]
 case makeFunc fn first caps =>
  rw [hm first fun x hx => h x (by simp at hx ⊢; exact .inl hx),hm caps fun x hx => h x (by simp at hx ⊢; exact .inr hx)]
 case slice t x lo hi mx =>
  rw [h x (by simp),ho lo fun y hy => h y (by simp at hy ⊢; simp [hy]),ho hi fun y hy => h y (by simp at hy ⊢; simp [hy]),ho mx fun y hy => h y (by simp at hy ⊢; simp [hy])]
 all_goals
  first
  | (rw [h _ (by simp)]; done)
  | (rw [h _ (by simp),h _ (List.mem_cons_of_mem _ (by simp))]; done)
  | (rw [h _ (by simp),h _ (List.mem_cons_of_mem _ (by simp)),h _ (List.mem_cons_of_mem _ (List.mem_cons_of_mem _ (by simp)))]; done)
  | skip
end
end Cp
namespace Cp
open Go
def Ext (H H' : Hp) : Prop := ∀ k p,H k = some p → H' k = some p
section
variable {P : Program} {T : Tab} {H H' : Hp} {md : Me} {f f' : Fr} {o : Oper} {os : List Oper} {v : Val} {u : Up} {ep ep' : Nat → Nat}
theorem map_some {r : Option Val} {v : Val} (h : r = some v) : r.map (fun v => ((v,none) : Val × Up)) = some (v,none) := by rw [h]; rfl
theorem Qk {k e : Nat} {a : Val} (h : Fp false k e a = some (v,u)) : u = none ∧ ∀ k' e',Fp false k' e' a = some (v,none) := by
 unfold Fp at *
 cases hc : vcells a with
 | none => rw [hc] at h; cases h
 | some cs => rw [hc] at h; cases h; exact ⟨rfl,fun _ _ => rfl⟩
theorem IL {k e n : Nat} {t : TypeId} {ps : List (Nat × Val)} (h : Al T false k e t n ps = some (v,u)) : u = none ∧ ∀ k' e',Al T false k' e' t n ps = some (v,none) := by
 have : ∀ k' e',Al T false k' e' t n ps = Al T false k e t n ps := fun k' e' => by
  unfold Al; simp only [Bool.false_eq_true,if_false]
 have hu : u = none := by
  unfold Al at h
  split at h
  ·split at h
   ·split at h
    ·split at h
     ·split at h
      ·simp only [Bool.false_eq_true,if_false] at h
       split at h <;> cases h <;> rfl
      ·cases h
     ·cases h
    ·cases h
   ·cases h
  ·cases h
 subst hu
 exact ⟨rfl,fun k' e' => by rw [this,h]⟩
theorem av (hc : cls md o = 0) (hn : BC o = false) (h : xop T md.toMd ep f H o = some (v,u)) : u = none ∧ ∀ ep' H',xop T md.toMd ep' f H' o = some (v,none) := by
 obtain ⟨dst,op,type,pos,after,guard⟩ := o
 cases op <;> simp only [xop] at h <;> try (cases h; done)
 case move x => cases h; exact ⟨rfl,fun _ _ => rfl⟩
 case assign x =>
  simp only [cls] at hc
  have ho : md.own.contains (dst.getD 0) = false := by
   by_cases ho : md.own.contains (dst.getD 0) = true
   ·rw [if_pos ho] at hc; split at hc <;> cases hc
   ·simpa using ho
  rw [ho] at h
  simp only [Bool.false_eq_true,if_false] at h
  cases h
  exact ⟨rfl,fun _ _ => by simp only [xop,ho,Bool.false_eq_true,if_false]⟩
 case box t x =>
  simp only [cls] at hc
  have ho : md.own.contains (dst.getD 0) = false := by
   by_cases ho : md.own.contains (dst.getD 0) = true
   ·rw [if_pos ho] at hc; split at hc <;> cases hc
   ·simpa using ho
  rw [ho] at h
  simp only [Bool.false_eq_true,if_false] at h
  obtain ⟨rfl,h2⟩ := Qk h
  exact ⟨rfl,fun _ _ => by simp only [xop,ho,Bool.false_eq_true,if_false]; exact h2 _ _⟩
 case buildSlice t n ps =>
  simp only [cls] at hc
  have ho : md.own.contains (dst.getD 0) = false := by
   by_cases ho : md.own.contains (dst.getD 0) = true
   ·rw [if_pos ho] at hc; split at hc <;> cases hc
   ·simpa using ho
  rw [ho] at h
  simp only [Bool.false_eq_true,if_false] at h
  obtain ⟨rfl,h2⟩ := IL h
  exact ⟨rfl,fun _ _ => by simp only [xop,ho,Bool.false_eq_true,if_false]; exact h2 _ _⟩
 case call c =>
  obtain ⟨callee,args,ts⟩ := c
  cases callee with
  | value g => simp [BC] at hn
  | invoke r n => simp only at h; cases h
  | builtin b => simp only [cls] at hc; cases b <;> simp at hc; split at hc <;> cases hc
 case alloc t => simp only [cls] at hc; split at hc <;> cases hc
 case makeSlice t l c => simp only [cls] at hc; split at hc <;> cases hc
 case load => simp only [cls] at hc; cases hc
 case store => simp only [cls] at hc; cases hc
 case slice => simp only [cls] at hc; cases hc
 case indexAddr => simp only [cls] at hc; cases hc
 case lookup => simp only [cls] at hc; cases hc
 case makeMap => simp only [cls] at hc; split at hc <;> cases hc
 case mapUpdate => simp only [cls] at hc; cases hc
 case insert => simp only [cls] at hc; cases hc
 case range => simp only [cls] at hc; cases hc
 all_goals
  obtain ⟨h',rfl⟩ := map_none h
  exact ⟨rfl,fun _ _ => map_some h'⟩
theorem Om {t : TypeId} {a v : Val} (hx : Ext H H') (h : Cg T H t a = some v) : Cg T H' t a = some v := by
 unfold Cg at *
 cases ht : T t with
 | none => rw [ht] at h; cases h
 | some ti =>
  rw [ht] at h
  simp only at h ⊢
  cases a <;> simp only at h ⊢ <;> try (first | exact h | cases h)
  rename_i k e sz i j
  cases hk : H k with
  | none => rw [hk] at h; cases h
  | some p => rw [hk] at h; rw [hx k p hk]; exact h
theorem Jt {t : TypeId} {a i v : Val} (hx : Ext H H') (h : AL T H t a i = some v) : AL T H' t a i = some v := by
 unfold AL at *
 cases i <;> simp only at h ⊢ <;> try (cases h; done)
 split at h
 ·rename_i h0
  rw [if_pos h0]
  cases ht : T t with
  | none => rw [ht] at h; cases h
  | some ti =>
   rw [ht] at h
   obtain ⟨kind,sz,bytes,zero,plain⟩ := ti
   cases kind <;> simp only at h ⊢ <;> try (first | exact h | cases h)
   rename_i et
   cases het : T et with
   | none => rw [het] at h; cases h
   | some ei =>
    rw [het] at h
    simp only at h ⊢
    cases a <;> simp only at h ⊢ <;> try (first | exact h | cases h)
    rename_i k e n
    cases hk : H k with
    | none => rw [hk] at h; cases h
    | some p => rw [hk] at h; rw [hx k p hk]; exact h
 ·cases h
theorem NQ {t : TypeId} {a v : Val} {lo hi mx : Option Val} (hx : Ext H H') (h : DT T H t a lo hi mx = some v) : DT T H' t a lo hi mx = some v := by
 unfold DT at *
 cases ht : T t with
 | none => rw [ht] at h; cases h
 | some ti =>
  rw [ht] at h
  simp only at h ⊢
  cases h1 : xint lo with
  | none => rw [h1] at h; cases h
  | some lo =>
   rw [h1] at h
   simp only at h ⊢
   cases h2 : xint hi with
   | none => rw [h2] at h; cases h
   | some hi =>
    rw [h2] at h
    simp only at h ⊢
    cases h3 : xint mx with
    | none => rw [h3] at h; cases h
    | some mx =>
     rw [h3] at h
     simp only at h ⊢
     unfold Dp at *
     cases hk : ti.kind <;> rw [hk] at h <;> simp only at h ⊢ <;> try (first | exact h | cases h)
     rename_i et
     cases het : T et with
     | none => rw [het] at h; cases h
     | some ei =>
      rw [het] at h
      simp only at h ⊢
      cases a <;> simp only at h ⊢ <;> try (first | exact h | cases h)
      rename_i k e n
      cases hk : H k with
      | none => rw [hk] at h; cases h
      | some p => rw [hk] at h; rw [hx k p hk]; exact h
theorem OC {t : TypeId} {a v : Val} (hx : Ext H H') (h : Gp T H t a = some v) : Gp T H' t a = some v := by
 unfold Gp at *
 cases ht : T t with
 | none => rw [ht] at h; cases h
 | some ti =>
  rw [ht] at h
  obtain ⟨kind,sz,bytes,zero,plain⟩ := ti
  cases kind <;> simp only at h ⊢ <;> try (first | exact h | cases h)
  cases a <;> simp only at h ⊢ <;> try (first | exact h | cases h)
  rename_i k e
  cases hk : H k with
  | none => rw [hk] at h; cases h
  | some p => rw [hk] at h; rw [hx k p hk]; exact h
theorem Nz {n : Nat} {a : Val} {r : List (List Val)} (hx : Ext H H') (h : Cq H n a = some r) : Cq H' n a = some r := by
 unfold Cq at *
 cases a <;> simp only at h ⊢ <;> try (first | exact h | cases h)
 rename_i k e n
 cases hk : H k with
 | none => rw [hk] at h; cases h
 | some p => rw [hk] at h; rw [hx k p hk]; exact h
theorem LY {t tx : TypeId} {s x v : Val} {own : Bool} {k0 : Nat} (hx : Ext H H') (h : AF T H own k0 ep t tx s x = some (v,none)) : AF T H' own k0 ep' t tx s x = some (v,none) := by
 unfold AF at *
 cases ht : T t with
 | none => rw [ht] at h; cases h
 | some ti =>
  rw [ht] at h
  obtain ⟨kind,sz,bytes,zero,plain⟩ := ti
  cases kind <;> simp only at h ⊢ <;> try (cases h; done)
  rename_i et
  cases het : T et with
  | none => rw [het] at h; cases h
  | some ei =>
   rw [het] at h
   simp only at h ⊢
   cases hz : vcells ei.zero with
   | none => rw [hz] at h; cases h
   | some zs =>
    rw [hz] at h
    cases he : Cq H ei.sz x with
    | none => rw [he] at h; cases h
    | some yss =>
     rw [he] at h
     rw [Nz hx he]
     simp only at h ⊢
     split at h
     ·rename_i hc
      rw [if_pos hc]
      cases s <;> simp only at h ⊢ <;> try (first | exact h | cases h)
      ·split at h
       ·rename_i hl
        rw [if_pos hl]
        split at h
        ·split at h <;> cases h
        ·rename_i ho; rw [if_neg ho]; exact h
       ·cases h
      ·rename_i k e n
       cases hk : H k with
       | none => rw [hk] at h; cases h
       | some p =>
        obtain ⟨e',o⟩ := p
        rw [hk] at h
        cases o <;> simp only at h <;> try (cases h; done)
        split at h <;> cases h
     ·cases h
theorem LE {t : TypeId} {m key v : Val} {ok : Bool} (hx : Ext H H') (h : BI T H t m key ok = some v) : BI T H' t m key ok = some v := by
 cases m
 case map k e =>
  cases hk : H k with
  | none =>
   simp only [BI,hk] at h
   cases ht : T t with
   | none => rw [ht] at h; cases h
   | some ti =>
    rw [ht] at h
    obtain ⟨kind,sz,bytes,zero,plain⟩ := ti
    cases kind <;> simp only at h <;> try (cases h; done)
    split at h
    ·split at h <;> cases h
    ·cases h
  | some p =>
   have := hx k p hk
   simp only [BI,hk] at h
   simp only [BI,this]
   exact h
 all_goals exact h
theorem bA (hc : cls md o = 1) (hn : BC o = false) (h : xop T md.toMd ep f H o = some (v,u)) : u = none ∧ ∀ ep' H',Ext H H' → xop T md.toMd ep' f H' o = some (v,none) := by
 obtain ⟨dst,op,type,pos,after,guard⟩ := o
 cases op <;> simp only [xop] at h <;> try (cases h; done)
 case load t a => obtain ⟨h',rfl⟩ := map_none h; exact ⟨rfl,fun _ _ hx => map_some (Om hx h')⟩
 case indexAddr t a i => obtain ⟨h',rfl⟩ := map_none h; exact ⟨rfl,fun _ _ hx => map_some (Jt hx h')⟩
 case slice t a lo hi mx => obtain ⟨h',rfl⟩ := map_none h; exact ⟨rfl,fun _ _ hx => map_some (NQ hx h')⟩
 case lookup t m key ok => obtain ⟨h',rfl⟩ := map_none h; exact ⟨rfl,fun _ _ hx => map_some (LE hx h')⟩
 case call c =>
  obtain ⟨callee,args,ts⟩ := c
  cases callee with
  | value g => simp [BC] at hn
  | invoke r n => simp only at h; cases h
  | builtin b =>
   simp only at h
   have hdel : b ≠ .delete := fun e => by subst e; simp [cls] at hc
   have eq : ∀ H' ep',KR T H' (md.own.contains (dst.getD 0)) (md.base + dst.getD 0) ep' b ts.toList (args.toList.map (ev f)) = (match Ba T H' (md.own.contains (dst.getD 0)) (md.base + dst.getD 0) ep' b ts.toList (args.toList.map (ev f)) with
    | some (v,none) => some (v,none)
    | some (v,some u) => if md.own.contains (dst.getD 0) then some (v,some u) else none
    | none => none) := fun H' ep' => by cases b <;> first | exact absurd rfl hdel | rfl
   rw [eq] at h
   have ho : b = .append → md.own.contains (dst.getD 0) = false := fun e => by
    subst e
    simp only [cls] at hc
    by_cases ho : md.own.contains (dst.getD 0) = true
    ·rw [if_pos ho] at hc; cases hc
    ·simpa using ho
   cases hb : Ba T H (md.own.contains (dst.getD 0)) (md.base + dst.getD 0) ep b ts.toList (args.toList.map (ev f)) with
   | none => rw [hb] at h; cases h
   | some p =>
    obtain ⟨v',u'⟩ := p
    rw [hb] at h
    have hu : u' = none := by
     cases u' with
     | none => rfl
     | some u' =>
      simp only at h
      cases b <;> simp only [Ba] at hb <;> try (cases hb; done)
      ·rw [ho rfl] at h; simp at h
      ·split at hb
       ·obtain ⟨_,hb⟩ := map_none hb; cases hb
       ·cases hb
      ·obtain ⟨_,hb⟩ := map_none hb; cases hb
      ·obtain ⟨_,hb⟩ := map_none hb; cases hb
    subst hu
    simp only at h
    cases h
    refine ⟨rfl,fun ep' H' hx => ?_⟩
    have : Ba T H' (md.own.contains (dst.getD 0)) (md.base + dst.getD 0) ep' b ts.toList (args.toList.map (ev f)) = some (v,none) := by
     cases b <;> simp only [Ba] at hb ⊢ <;> try (cases hb; done)
     ·split at hb
      ·rename_i e1 e2; exact LY hx hb
      ·cases hb
     ·split at hb
      ·rename_i e1 e2; obtain ⟨hb',_⟩ := map_none hb; exact map_some (OC hx hb')
      ·cases hb
     ·exact hb
     ·exact hb
    simp only [xop,eq,this]
 case box =>
  simp only [cls] at hc
  split at hc
  ·split at hc <;> cases hc
  ·cases hc
 case buildSlice =>
  simp only [cls] at hc
  split at hc
  ·split at hc <;> cases hc
  ·cases hc
 case assign =>
  simp only [cls] at hc
  split at hc
  ·split at hc <;> cases hc
  ·cases hc
 case alloc => simp only [cls] at hc; split at hc <;> cases hc
 case makeSlice => simp only [cls] at hc; split at hc <;> cases hc
 case makeMap => simp only [cls] at hc; split at hc <;> cases hc
 all_goals (simp only [cls] at hc; cases hc)
theorem OG {k : Nat} {r : Option (Val × Up)} (h : H k = none) : Bw H k r = r := by unfold Bw; rw [h]
theorem PS {k d : Nat} {r : Option (Val × Up)} (hk : k = md.base + d) (h : Bw H k r = some (v,u)) (hr : ∀ v u,r = some (v,u) → ∃ p,u = some (k,some p)) :
  H (md.base + d) = none ∧ (∃ p,u = some (md.base + d,some p)) ∧ ∀ H',H' (md.base + d) = none → Bw H' k r = some (v,u) := by
 subst hk
 obtain ⟨h1,h2⟩ := C3 h
 exact ⟨h1,hr v u h2,fun H' hH => by rw [OG hH,h2]⟩
theorem V6 (hc : cls md o = 2) (h : xop T md.toMd ep f H o = some (v,u)) : ∃ d,o.dst = some d ∧ H (md.base + d) = none ∧ (∃ p,u = some (md.base + d,some p)) ∧ ∀ H',H' (md.base + d) = none → ∀ ep',ep' (md.base + d) = ep (md.base + d) → xop T md.toMd ep' f H' o = some (v,u) := by
 obtain ⟨dst,op,type,pos,after,guard⟩ := o
 have hdst : (∃ d,dst = some d) ∧ (∀ x,op = .assign x → md.own.contains (dst.getD 0) = true) ∧ (∀ t x,op = .box t x → md.own.contains (dst.getD 0) = true) ∧ (∀ t n ps,op = .buildSlice t n ps → md.own.contains (dst.getD 0) = true) := by
  cases dst with
  | some d =>
   refine ⟨⟨d,rfl⟩,fun x e => ?_,fun t x e => ?_,fun t n ps e => ?_⟩ <;>
   ·subst e
    simp only [cls] at hc
    split at hc
    ·assumption
    ·cases hc
  | none =>
   exfalso
   cases op <;> simp only [cls,Option.isNone_none,if_true] at hc <;> try (cases hc; done)
   ·split at hc <;> cases hc
   ·split at hc <;> cases hc
   ·split at hc <;> cases hc
   ·rename_i c
    obtain ⟨callee,args,ts⟩ := c
    cases callee <;> (try simp only at hc) <;> try (cases hc; done)
    ·split at hc
     ·cases hc
     ·split at hc <;> cases hc
    ·rename_i b
     cases b <;> simp only at hc <;> try (cases hc; done)
     split at hc <;> cases hc
 obtain ⟨⟨d,rfl⟩,h1,h2,h3⟩ := hdst
 refine ⟨d,rfl,?_⟩
 cases op <;> simp only [xop] at h <;> try (cases h; done)
 case alloc t =>
  obtain ⟨a,b,c⟩ := PS (md := md) (d := d) rfl h fun v u hx => by
   unfold Fy at hx
   split at hx
   ·split at hx <;> cases hx; exact ⟨_,rfl⟩
   ·cases hx
  exact ⟨a,b,fun H' hH ep' he => by simp only [xop,Option.getD_some]; rw [he]; exact c H' hH⟩
 case makeMap t r =>
  obtain ⟨a,b,c⟩ := PS (md := md) (d := d) rfl h fun v u hx => by
   unfold Ci at hx
   split at hx
   ·split at hx <;> cases hx <;> exact ⟨_,rfl⟩
   ·cases hx
  exact ⟨a,b,fun H' hH ep' he => by simp only [xop,Option.getD_some]; rw [he]; exact c H' hH⟩
 case makeSlice t l n =>
  obtain ⟨a,b,c⟩ := PS (md := md) (d := d) rfl h fun v u hx => by
   unfold CT at hx
   split at hx
   ·split at hx
    ·split at hx
     ·split at hx <;> cases hx; exact ⟨_,rfl⟩
     ·cases hx
    ·cases hx
   ·cases hx
  exact ⟨a,b,fun H' hH ep' he => by simp only [xop,Option.getD_some]; rw [he]; exact c H' hH⟩
 case box t x =>
  rw [if_pos (h2 t x rfl)] at h
  obtain ⟨a,b,c⟩ := PS (md := md) (d := d) rfl h fun v u hx => by
   unfold Fp at hx
   split at hx <;> cases hx; exact ⟨_,rfl⟩
  exact ⟨a,b,fun H' hH ep' he => by simp only [xop]; rw [if_pos (h2 t x rfl)]; simp only [Option.getD_some]; rw [he]; exact c H' hH⟩
 case buildSlice t n ps =>
  rw [if_pos (h3 t n ps rfl)] at h
  obtain ⟨a,b,c⟩ := PS (md := md) (d := d) rfl h fun v u hx => by
   unfold Al at hx
   split at hx
   ·split at hx
    ·split at hx
     ·split at hx
      ·split at hx <;> cases hx; exact ⟨_,rfl⟩
      ·cases hx
     ·cases hx
    ·cases hx
   ·cases hx
  exact ⟨a,b,fun H' hH ep' he => by simp only [xop]; rw [if_pos (h3 t n ps rfl)]; simp only [Option.getD_some]; rw [he]; exact c H' hH⟩
 case assign x =>
  rw [if_pos (h1 x rfl)] at h
  split at h
  ·rename_i he ht
   split at h
   ·rename_i ei hei
    split at h
    ·rename_i hx
     obtain ⟨a,b,c⟩ := PS (md := md) (d := d) rfl h fun v u hx => by cases hx; exact ⟨_,rfl⟩
     refine ⟨a,b,fun H' hH ep' hep => ?_⟩
     simp only [xop]
     rw [if_pos (h1 x rfl),he,ht]
     simp only [hei]
     rw [if_pos hx]
     simp only [Option.getD_some]
     rw [hep]
     exact c H' hH
    ·cases h
   ·cases h
  ·cases h
 case call c =>
  obtain ⟨callee,args,ts⟩ := c
  exfalso
  cases callee <;> simp only [cls] at hc <;> try (cases hc; done)
  ·split at hc
   ·cases hc
   ·split at hc <;> cases hc
  ·rename_i b
   cases b <;> simp only at hc <;> try (cases hc; done)
   split at hc <;> cases hc
 all_goals (simp only [cls] at hc; cases hc)
end
end Cp
namespace Cp
open Go
def CU (md : Me) (os : List Oper) (x i : Oper) : Bool :=
 (match x.dst with | none => true | some d => !(rdT os i).contains d && !(i.dst == some d)) && (match i.dst with | none => true | some d => !(rdT os x).contains d) &&
 ((decide (cls md x ≤ 1) && decide (cls md i ≤ 2)) || (cls md x == 0 && cls md i == 3) || (cls md x == 2 && cls md i == 0 && !BC i) || (cls md x == 2 && cls md i == 2) || (cls md x == 3 && cls md i == 0 && !BC i))
section
variable {P : Program} {T : Tab} {H H' : Hp} {md : Me} {K : Fr → Hp → Prop} {f f' : Fr} {o x i : Oper} {os : List Oper} {v v' : Val} {u u' : Up} {ep ep' : Nat → Nat}
theorem Ox (hn : BC o = false) (g : Operand) (args : Array Operand) (ts : Array TypeId) : o.op ≠ .call { callee := .value g,args := args,argTypes := ts } := fun e => by
 unfold BC at hn; rw [e] at hn; cases hn
theorem BZ (hn : BC o = false) : Dq P T md o ep f H v u = (xop T md.toMd ep f H o = some (v,u)) := by
 unfold Dq
 split
 ·rename_i g args ts h; exact absurd h (Ox hn g args ts)
 ·rfl
theorem CS (hn : BC o = true) : ∃ g args ts,o.op = .call { callee := .value g,args := args,argTypes := ts } := by
 unfold BC at hn
 split at hn
 ·rename_i g args ts h; exact ⟨g,args,ts,h⟩
 ·cases hn
theorem Gv (h : ∀ y ∈ o.op.operands.toList,ev f y = ev f' y) : Dq P T md o ep f H v u = Dq P T md o ep f' H v u := by
 cases hn : BC o with
 | false => rw [BZ hn,BZ hn,Q1 h]
 | true =>
  obtain ⟨g,args,ts,e⟩ := CS hn
  unfold Dq
  rw [e] at h ⊢
  simp only
  rw [h g (by simp [Op.operands,Call.operands])]
  have : args.toList.map (ev f) = args.toList.map (ev f') := List.map_congr_left fun y hy => h y (by simp [Op.operands,Call.operands]; exact .inr (by simpa using hy))
  rw [this]
theorem Ar (h : ∀ t ∈ rdT os o,f t = f' t) : Out P T md os o ep f H v u = Out P T md os o ep f' H v u := by
 have h1 : ∀ y ∈ o.op.operands.toList,ev f y = ev f' y := IG fun t ht => h t (List.mem_append_left _ ht)
 unfold Out
 cases hg : o.guard with
 | none => simp only; exact Gv h1
 | some p =>
  obtain ⟨j,b⟩ := p
  have h2 : (opd os j).map f = (opd os j).map f' := by
   cases ho : opd os j with
   | none => rfl
   | some d => simp only [Option.map_some]; rw [h d (List.mem_append_right _ (by rw [hg]; simp [ho]))]
  simp only
  rw [h2,Gv h1]
theorem ZF (hc : cls md o ≤ 1) (hn : BC o = true) : cls md o = 0 → md.fz.contains (o.dst.getD 0) = false := fun h0 => by
 obtain ⟨g,args,ts,e⟩ := CS hn
 unfold cls at h0
 rw [e] at h0
 simp only at h0
 split at h0
 ·cases h0
 ·split at h0
  ·cases h0
  ·rename_i h; simpa using h
theorem Ni (hx : Ext H H') : ∀ (vs : List Val),noids (vs.map (fzv H)) = true → vs.map (fzv H') = vs.map (fzv H)
 | [],_ => rfl
 | v :: vs,h => by
  simp only [List.map_cons,noids,Bool.and_eq_true] at h
  rw [List.map_cons,List.map_cons,Ni hx vs h.2]
  congr 1
  have h1 := h.1
  unfold fzv at h1 ⊢
  cases v <;> try rfl
  rename_i k e n
  simp only at h1 ⊢
  cases hk : H k with
  | none => rw [hk] at h1; simp [noid] at h1
  | some p => rw [hx k p hk]
theorem RD (hc : cls md o ≤ 1) (h : Dq P T md o ep f H v u) : u = none ∧ ∀ ep' H',(cls md o = 0 ∨ Ext H H') → Dq P T md o ep' f H' v none := by
 cases hn : BC o with
 | false =>
  rw [BZ hn] at h
  by_cases h0 : cls md o = 0
  ·obtain ⟨h1,h2⟩ := av h0 hn h
   exact ⟨h1,fun ep' H' _ => by rw [BZ hn]; exact h2 ep' H'⟩
  ·have h01 : cls md o = 1 := by omega
   obtain ⟨h1,h2⟩ := bA h01 hn h
   refine ⟨h1,fun ep' H' hx => ?_⟩
   rw [BZ hn]
   exact h2 ep' H' (hx.resolve_left h0)
 | true =>
  have hfz := ZF hc hn
  obtain ⟨g,args,ts,e⟩ := CS hn
  unfold Dq at h ⊢
  rw [e] at h ⊢
  simp only at h ⊢
  cases hg : ev f g with
  | fn fid caps =>
   rw [hg] at h
   simp only at h ⊢
   obtain ⟨hP,rfl⟩ := h
   refine ⟨rfl,fun ep' H' hx => ⟨?_,trivial⟩⟩
   by_cases hf : md.fz.contains (o.dst.getD 0) = true
   ·rw [if_pos hf] at hP ⊢
    have hx' : Ext H H' := hx.resolve_left fun h0 => by rw [hfz h0] at hf; cases hf
    rw [Ni hx' _ hP.2.1]
    exact hP
   ·rw [if_neg hf] at hP ⊢; exact hP
  | _ => rw [hg] at h; exact h.elim
theorem DI (hc : cls md o ≤ 1) (h : Out P T md os o ep f H v u) : u = none ∧ ∀ ep' H',(cls md o = 0 ∨ Ext H H') → Out P T md os o ep' f H' v none := by
 unfold Out at *
 cases hg : o.guard with
 | none => rw [hg] at h; exact RD hc h
 | some p =>
  obtain ⟨j,b⟩ := p
  rw [hg] at h
  simp only at h ⊢
  split at h
  ·split at h
   ·rename_i hcb
    obtain ⟨h1,h2⟩ := RD hc h
    exact ⟨h1,fun ep' H' hx => by rw [if_pos hcb]; exact h2 ep' H' hx⟩
   ·rename_i hcb
    obtain ⟨rfl,rfl⟩ := h
    exact ⟨rfl,fun ep' H' hx => by rw [if_neg hcb]; exact ⟨rfl,trivial⟩⟩
  ·obtain ⟨rfl,rfl⟩ := h
   exact ⟨rfl,fun ep' H' hx => ⟨rfl,trivial⟩⟩
  ·exact h.elim
theorem M7 (hc : cls md o = 2) : BC o = false := by
 cases hn : BC o with
 | false => rfl
 | true =>
  obtain ⟨g,args,ts,e⟩ := CS hn
  unfold cls at hc
  rw [e] at hc
  simp only at hc
  split at hc
  ·cases hc
  ·split at hc <;> cases hc
theorem UK (hc : cls md o = 3) : BC o = false := by
 cases hn : BC o with
 | false => rfl
 | true =>
  obtain ⟨g,args,ts,e⟩ := CS hn
  unfold cls at hc
  rw [e] at hc
  simp only at hc
  split at hc
  ·cases hc
  ·split at hc <;> cases hc
theorem Ey (hc : cls md o = 2) (h : Out P T md os o ep f H v u) : ∃ d,o.dst = some d ∧ ((u = none ∧ ∀ ep' H',Out P T md os o ep' f H' v none) ∨
  (H (md.base + d) = none ∧ (∃ p,u = some (md.base + d,some p)) ∧ ∀ H',H' (md.base + d) = none → ∀ ep',ep' (md.base + d) = ep (md.base + d) → Out P T md os o ep' f H' v u)) := by
 have hn := M7 hc
 have hd : ∃ d,o.dst = some d := by
  cases hd : o.dst with
  | some d => exact ⟨d,rfl⟩
  | none =>
   exfalso
   obtain ⟨dst,op,type,pos,after,guard⟩ := o
   simp only at hd
   subst hd
   cases op <;> simp only [cls,Option.isNone_none,if_true] at hc <;> try (cases hc; done)
   ·split at hc <;> cases hc
   ·split at hc <;> cases hc
   ·split at hc <;> cases hc
   ·rename_i c
    obtain ⟨callee,args,ts⟩ := c
    cases callee <;> (try simp only at hc) <;> try (cases hc; done)
    ·split at hc
     ·cases hc
     ·split at hc <;> cases hc
    ·rename_i b
     cases b <;> simp only at hc <;> try (cases hc; done)
     split at hc <;> cases hc
 obtain ⟨d,hd⟩ := hd
 refine ⟨d,hd,?_⟩
 unfold Out at *
 cases hg : o.guard with
 | none =>
  rw [hg] at h
  simp only at h ⊢
  rw [BZ hn] at h
  obtain ⟨d',h1,h2,h3,h4⟩ := V6 hc h
  rw [hd] at h1
  cases h1
  exact .inr ⟨h2,h3,fun H' hH ep' he => by rw [BZ hn]; exact h4 H' hH ep' he⟩
 | some p =>
  obtain ⟨j,b⟩ := p
  rw [hg] at h
  simp only at h ⊢
  split at h
  ·split at h
   ·rename_i hcb
    rw [BZ hn] at h
    obtain ⟨d',h1,h2,h3,h4⟩ := V6 hc h
    rw [hd] at h1
    cases h1
    exact .inr ⟨h2,h3,fun H' hH ep' he => by rw [if_pos hcb,BZ hn]; exact h4 H' hH ep' he⟩
   ·rename_i hcb
    obtain ⟨rfl,rfl⟩ := h
    exact .inl ⟨rfl,fun ep' H' => by rw [if_neg hcb]; exact ⟨rfl,trivial⟩⟩
  ·obtain ⟨rfl,rfl⟩ := h
   exact .inl ⟨rfl,fun ep' H' => ⟨rfl,trivial⟩⟩
  ·exact h.elim
theorem LU (hn : BC o = false) (h : Out P T md os o ep f H v u) (h' : Out P T md os o ep f H v' u') : v = v' ∧ u = u' := by
 unfold Out at h h'
 cases hg : o.guard with
 | none =>
  rw [hg] at h h'
  simp only [BZ hn] at h h'
  rw [h] at h'
  cases h'
  exact ⟨rfl,rfl⟩
 | some p =>
  obtain ⟨j,b⟩ := p
  rw [hg] at h h'
  simp only at h h'
  split at h
  ·rename_i hq
   rw [hq] at h'
   simp only at h'
   split at h
   ·rename_i hcb
    rw [if_pos hcb] at h'
    rw [BZ hn] at h h'
    rw [h] at h'
    cases h'
    exact ⟨rfl,rfl⟩
   ·rename_i hcb
    rw [if_neg hcb] at h'
    exact ⟨h.1.trans h'.1.symm,h.2.trans h'.2.symm⟩
  ·rename_i hq
   rw [hq] at h'
   simp only at h'
   exact ⟨h.1.trans h'.1.symm,h.2.trans h'.2.symm⟩
  ·exact h.elim
theorem GQ {d e : Option Nat} (h : ∀ t,d = some t → ¬ e = some t) : put (put f d v) e v' = put (put f e v') d v := by
 cases d with
 | none => rfl
 | some d =>
  cases e with
  | none => rfl
  | some e =>
   have hne : d ≠ e := fun q => h d rfl (by rw [q])
   funext t
   simp only [put,upd]
   by_cases h1 : t = d
   ·subst h1; rw [if_neg (fun q => hne q),if_pos rfl,if_pos rfl]
   ·rw [if_neg h1]
    by_cases h2 : t = e
    ·have : e ≠ d := fun q => hne q.symm
     simp [h1,h2,this]
    ·simp [h1,h2]
theorem swap (hm : CU md os x i = true) (h : Bo P T md os x (Bo P T md os i K) f H) : Bo P T md os i (Bo P T md os x K) f H := by
 unfold CU at hm
 simp only [Bool.and_eq_true] at hm
 obtain ⟨⟨hm1,hm2⟩,hm3⟩ := hm
 have hdi : ∀ v,∀ t ∈ rdT os i,put f x.dst v t = f t := fun v t ht => by
  cases hd : x.dst with
  | none => rfl
  | some d =>
   rw [hd] at hm1
   simp only [Bool.and_eq_true,Bool.not_eq_true'] at hm1
   exact A0 _ _ fun e => by subst e; have := hm1.1; simp [ht] at this
 have hdx : ∀ v,∀ t ∈ rdT os x,put f i.dst v t = f t := fun v t ht => by
  cases hd : i.dst with
  | none => rfl
  | some d =>
   rw [hd] at hm2
   simp only [Bool.not_eq_true'] at hm2
   exact A0 _ _ fun e => by subst e; simp [ht] at hm2
 have hdd : ∀ t,x.dst = some t → ¬ i.dst = some t := fun t ht hq => by
  rw [ht,hq] at hm1
  simp at hm1
 have hcomm : ∀ v v',put (put f i.dst v') x.dst v = put (put f x.dst v) i.dst v' := fun v v' => (GQ hdd).symm
 simp only [Bool.or_eq_true,Bool.and_eq_true,decide_eq_true_eq,beq_iff_eq,Bool.not_eq_true'] at hm3
 have hx4 : cls md x ≠ 4 := by omega
 have hi4 : cls md i ≠ 4 := by omega
 rw [Ao hx4] at h
 rw [Ao hi4]
 intro ep2
 have caseA : cls md x ≤ 1 → (cls md i ≤ 1 ∨ cls md i = 2 ∨ cls md x = 0) → ∃ v u,Out P T md os i ep2 f H v u ∧ Bo P T md os x K (put f i.dst v) (app H u) := by
  intro hx hi
  obtain ⟨v1,u1,o1,k1⟩ := h fun _ => 0
  obtain ⟨rfl,q1⟩ := DI hx o1
  rw [Ao hi4] at k1
  obtain ⟨v2,u2,o2,k2⟩ := k1 ep2
  rw [Ar (hdi v1)] at o2
  simp only [app] at o2 k2
  refine ⟨v2,u2,o2,?_⟩
  rw [Ao hx4]
  intro ep1
  refine ⟨v1,none,?_,?_⟩
  ·rw [Ar (hdx v2)]
   refine q1 ep1 _ ?_
   rcases hi with hi | hi | hi
   ·right
    obtain ⟨rfl,_⟩ := DI hi o2
    exact fun k p hk => hk
   ·right
    obtain ⟨d,_,hq⟩ := Ey hi o2
    rcases hq with ⟨rfl,_⟩ | ⟨hn,⟨p,rfl⟩,_⟩
    ·exact fun k p hk => hk
    ·intro k p' hk
     simp only [app]
     rw [A0 _ _ fun e => by subst e; rw [hn] at hk; cases hk]
     exact hk
   ·exact .inl hi
  ·rw [hcomm]; exact k2
 have caseD : BC i = false → BC x = false → cls md i = 0 → ∃ v u,Out P T md os i ep2 f H v u ∧ Bo P T md os x K (put f i.dst v) (app H u) := by
  intro hfi hfx hi0
  obtain ⟨v1,u1,o1,k1⟩ := h fun _ => 0
  rw [Ao hi4] at k1
  obtain ⟨v2,u2,o2,k2⟩ := k1 ep2
  rw [Ar (hdi v1)] at o2
  obtain ⟨rfl,q2⟩ := DI (by omega) o2
  have o2' := q2 ep2 H (.inl hi0)
  refine ⟨v2,none,o2',?_⟩
  rw [Ao hx4]
  intro ep1
  obtain ⟨v1',u1',o1',k1'⟩ := h ep1
  rw [Ao hi4] at k1'
  obtain ⟨v2',u2',o2'',k2'⟩ := k1' ep2
  rw [Ar (hdi v1')] at o2''
  obtain ⟨rfl,q2'⟩ := DI (by omega) o2''
  obtain ⟨rfl,_⟩ := LU hfi o2' (q2' ep2 H (.inl hi0))
  refine ⟨v1',u1',by rw [Ar (hdx v2)]; exact o1',?_⟩
  rw [hcomm]
  exact k2'
 have caseE : cls md x = 2 → cls md i = 2 → ∃ v u,Out P T md os i ep2 f H v u ∧ Bo P T md os x K (put f i.dst v) (app H u) := by
  intro hx2 hi2
  have hfi := M7 hi2
  have back : ∀ {ep1 v1 u1 v2 u2},Out P T md os x ep1 f H v1 u1 → Out P T md os i ep2 f (app H u1) v2 u2 → Out P T md os i ep2 f H v2 u2 := by
   intro ep1 v1 u1 v2 u2 o1 o2
   obtain ⟨dx,hdx',hq⟩ := Ey hx2 o1
   obtain ⟨di,hdi',hr⟩ := Ey hi2 o2
   rcases hr with ⟨rfl,hr⟩ | ⟨hr1,_,hr3⟩
   ·exact hr ep2 H
   ·refine hr3 H ?_ _ rfl
    rcases hq with ⟨rfl,_⟩ | ⟨_,⟨p,rfl⟩,_⟩
    ·exact hr1
    ·simp only [app] at hr1
     have hne : di ≠ dx := fun e => hdd dx hdx' (by rw [hdi',e])
     rwa [A0 _ _ fun e => hne (Nat.add_left_cancel e)] at hr1
  obtain ⟨v1,u1,o1,k1⟩ := h fun _ => 0
  rw [Ao hi4] at k1
  obtain ⟨v2,u2,o2,k2⟩ := k1 ep2
  rw [Ar (hdi v1)] at o2
  have o2' := back o1 o2
  refine ⟨v2,u2,o2',?_⟩
  rw [Ao hx4]
  intro ep1
  obtain ⟨v1',u1',o1',k1'⟩ := h ep1
  rw [Ao hi4] at k1'
  obtain ⟨v2',u2',o2'',k2'⟩ := k1' ep2
  rw [Ar (hdi v1')] at o2''
  obtain ⟨rfl,rfl⟩ := LU hfi o2' (back o1' o2'')
  refine ⟨v1',u1',?_,?_⟩
  ·rw [Ar (hdx v2)]
   obtain ⟨dx,hdx',hq⟩ := Ey hx2 o1'
   obtain ⟨di,hdi',hr⟩ := Ey hi2 o2'
   rcases hq with ⟨rfl,hq⟩ | ⟨hq1,_,hq3⟩
   ·exact hq ep1 _
   ·refine hq3 _ ?_ _ rfl
    rcases hr with ⟨rfl,_⟩ | ⟨_,⟨p,rfl⟩,_⟩
    ·exact hq1
    ·simp only [app]
     have hne : di ≠ dx := fun e => hdd dx hdx' (by rw [hdi',e])
     rw [A0 _ _ fun e => hne (Nat.add_left_cancel e).symm]; exact hq1
  ·rw [hcomm]
   have : app (app H u2) u1' = app (app H u1') u2 := by
    obtain ⟨dx,hdx',hq⟩ := Ey hx2 o1'
    obtain ⟨di,hdi',hr⟩ := Ey hi2 o2'
    rcases hq with ⟨rfl,hq⟩ | ⟨hq1,⟨p,rfl⟩,_⟩
    ·rfl
    ·rcases hr with ⟨rfl,_⟩ | ⟨_,⟨p',rfl⟩,_⟩
     ·rfl
     ·have hne : di ≠ dx := fun e => hdd dx hdx' (by rw [hdi',e])
      funext k
      simp only [app,upd]
      by_cases h1 : k = md.base + dx
      ·rw [if_pos h1,if_neg fun e => hne (Nat.add_left_cancel (e.symm.trans h1)),if_pos h1]
      ·rw [if_neg h1]
       by_cases h2 : k = md.base + di
       ·rw [if_pos h2,if_pos h2]
       ·rw [if_neg h2,if_neg h2,if_neg h1]
   rw [this]; exact k2'
 rcases hm3 with (((⟨hx,hi⟩ | ⟨hx,hi⟩) | ⟨⟨hx,hi⟩,hf⟩) | ⟨hx,hi⟩) | ⟨⟨hx,hi⟩,hf⟩
 ·exact caseA hx (by omega)
 ·exact caseA (by omega) (.inr (.inr hx))
 ·exact caseD hf (M7 hx) hi
 ·exact caseE hx hi
 ·exact caseD hf (UK hx) hi
end
end Cp
namespace Cp
open Go
def Ef (x : Nat) (o : Oper) : Bool := o.after.toList.any fun e => Region.binds .any e && e.on == x
def IE (os : List Oper) : Nat → List Oper → Bool
 | _,[] => true
 | i,o :: l => (o.after.toList.all fun e => !Region.binds .any e || decide (e.on < i)) && IE os (i + 1) l
def BK (os : List Oper) (x : Nat) : Nat → Oper → Bool
 | 0,o => Ef x o
 | n + 1,o => Ef x o || o.after.toList.any fun e => Region.binds .any e && (match os[e.on]? with | some m => BK os x n m | none => false)
def Kd (md : Me) (os : List Oper) (i : Nat) (o : Oper) : Nat → List Oper → Bool
 | _,[] => true
 | x,ox :: l => (if x < i then CU md os ox o || BK os x 8 o else true) && Kd md os i o (x + 1) l
def Jy (md : Me) (os : List Oper) : Nat → List Oper → Bool
 | _,[] => true
 | i,o :: l => Kd md os i o 0 os && Jy md os (i + 1) l
def PB (md : Me) (os : List Oper) : Bool := IE os 0 os && Jy md os 0 os
section
variable {P : Program} {T : Tab} {G : Gh} {w : World} {H : Hp} {md : Me} {K : Fr → Hp → Prop} {f : Fr} {os : List Oper} {X : Cx} {ro : Option Nat} {Q : Exit → Fr → Hp → Prop}
theorem backOK_get : ∀ (l : List Oper) (i : Nat),IE os i l = true → ∀ (j : Nat) (o : Oper),l[j]? = some o → ∀ e ∈ o.after,Region.binds .any e = true → e.on < i + j
 | [],i,h,j,o,hj => by simp at hj
 | a :: l,i,h,j,o,hj => by
  simp only [IE,Bool.and_eq_true] at h
  cases j with
  | zero =>
   simp only [List.getElem?_cons_zero,Option.some.injEq] at hj
   subst hj
   intro e he hb
   have := List.all_eq_true.1 h.1 e (by simpa using he)
   simp [hb] at this
   omega
  | succ j =>
   intro e he hb
   have := backOK_get l (i + 1) h.2 j o (by simpa using hj) e he hb
   omega
theorem KD {i : Nat} {o : Oper} : ∀ (l : List Oper) (x : Nat),Kd md os i o x l = true → ∀ (j : Nat) (ox : Oper),l[j]? = some ox → x + j < i →
  CU md os ox o = true ∨ BK os (x + j) 8 o = true
 | [],x,h,j,ox,hj => by simp at hj
 | a :: l,x,h,j,ox,hj => by
  simp only [Kd,Bool.and_eq_true] at h
  intro hlt
  cases j with
  | zero =>
   simp only [List.getElem?_cons_zero,Option.some.injEq] at hj
   subst hj
   have h1 := h.1
   rw [if_pos (by omega)] at h1
   simpa [Bool.or_eq_true] using h1
  | succ j =>
   have := KD l (x + 1) h.2 j ox (by simpa using hj) (by omega)
   rwa [show x + 1 + j = x + (j + 1) from by omega] at this
theorem pairsOK_get : ∀ (l : List Oper) (i : Nat),Jy md os i l = true → ∀ (j : Nat) (o : Oper),l[j]? = some o → Kd md os (i + j) o 0 os = true
 | [],i,h,j,o,hj => by simp at hj
 | a :: l,i,h,j,o,hj => by
  simp only [Jy,Bool.and_eq_true] at h
  cases j with
  | zero => simp only [List.getElem?_cons_zero,Option.some.injEq] at hj; subst hj; exact h.1
  | succ j =>
   have := pairsOK_get l (i + 1) h.2 j o (by simpa using hj)
   rwa [show i + 1 + j = i + (j + 1) from by omega] at this
theorem EK {x : Nat} {o : Oper} (h : Ef x o = true) : ∃ e ∈ o.after,Region.binds .any e = true ∧ e.on = x := by
 obtain ⟨e,he,hq⟩ := List.any_eq_true.1 h
 simp only [Bool.and_eq_true,beq_iff_eq] at hq
 exact ⟨e,by simpa using he,hq.1,hq.2⟩
theorem ET {o : Oper} {K' : Fr → Hp → Prop} (hk : ∀ f H,K f H → K' f H) (h : Bo P T md os o K f H) : Bo P T md os o K' f H := by
 have hgo : xgo P T md o K f H → xgo P T md o K' f H := by
  intro h
  unfold xgo at *
  split at h
  ·split at h
   ·simp only at h ⊢
    split at h
    ·rename_i hi; rw [if_pos hi]; obtain ⟨R,h1,h2⟩ := h; exact ⟨R,h1,fun v H' hr => hk _ _ (h2 v H' hr)⟩
    ·rename_i hi; rw [if_neg hi]; obtain ⟨v,h1,h2⟩ := h; exact ⟨v,h1,hk _ _ h2⟩
   ·exact h.elim
  ·intro ep
   have := h ep
   split at this
   ·exact hk _ _ this
   ·exact this.elim
 unfold Bo at *
 split at h
 ·exact hgo h
 ·split at h
  ·exact ⟨fun e => hgo (h.1 e),fun e => hk _ _ (h.2 e)⟩
  ·exact hk _ _ h
  ·exact h.elim
theorem Sq {i : Nat} {oi : Oper} (hi : os[i]? = some oi) : ∀ (A B : List Nat),(∀ x ∈ A,∃ ox,os[x]? = some ox ∧ CU md os ox oi = true) → ∀ {f : Fr} {H : Hp},EE P T md os K (A ++ i :: B) f H → EE P T md os K (i :: (A ++ B)) f H
 | [],B,hA,f,H,h => h
 | x :: A,B,hA,f,H,h => by
  obtain ⟨ox,hx,hc⟩ := hA x (by simp)
  simp only [List.cons_append,EE,hx] at h
  have h1 : Bo P T md os ox (EE P T md os K (i :: (A ++ B))) f H := ET (fun f H h => Sq hi A B (fun y hy => hA y (by simp [hy])) h) h
  have e : EE P T md os K (i :: (A ++ B)) = Bo P T md os oi (EE P T md os K (A ++ B)) := by funext f H; simp only [EE,hi]
  rw [e] at h1
  have h2 := swap hc h1
  simp only [EE,hi,hx,List.cons_append]
  exact h2
theorem GR {i : Nat} : ∀ {R : List Nat},i ∈ R → R.Pairwise (· < ·) → ∃ A B,R = A ++ i :: B ∧ ∀ x ∈ A,x < i
 | [],h,_ => by simp at h
 | a :: R,h,hp => by
  rw [List.pairwise_cons] at hp
  by_cases ha : a = i
  ·subst ha; exact ⟨[],R,rfl,fun x hx => by simp at hx⟩
  ·have hi : i ∈ R := by simpa [Ne.symm ha] using h
   obtain ⟨A,B,e,hA⟩ := GR hi hp.2
   exact ⟨a :: A,B,by rw [e]; rfl,fun x hx => by
    rcases List.mem_cons.1 hx with rfl | hx
    ·exact hp.1 i hi
    ·exact hA x hx⟩
theorem Wn (hT : Ad P T) {ops : Array Oper} (hsz : BF X.sz ops.toList = true) (hok : PB md ops.toList = true) : ∀ (R : List Nat) (listed : Array Bool) (f : Fr) (H : Hp) (G : Gh) (a : Act) (w : World),listed.size = ops.size →
  R.Pairwise (· < ·) → (∀ j,j ∈ R ↔ listed.getD j true = false) → (∀ j o,ops[j]? = some o → listed.getD j true = true → ∀ e ∈ o.after,Region.binds .any e = true → listed.getD e.on false = true) →
  St X G f H a w → EE P T md ops.toList (Q .normal) R f H → wpAnyIn (FW ro) 0 P .any ops (Post X Q) R.length listed a w := by
 simp only [PB,Bool.and_eq_true] at hok
 obtain ⟨hback,hpairs⟩ := hok
 intro R
 generalize hn : R.length = n
 induction n generalizing R with
 | zero =>
  intro listed f H G a w hls hp hm hcl s h
  have hR : R = [] := List.eq_nil_of_length_eq_zero hn
  subst hR
  refine ⟨?_,G,f,H,s,h⟩
  cases hr : Region.ready .any ops listed with
  | nil => rfl
  | cons x xs =>
   have := (mem_ready.1 (by rw [hr]; simp : x ∈ Region.ready .any ops listed)).1
   exact absurd ((hm x).2 this) (by simp)
 | succ n ih =>
  intro listed f H G a w hls hp hm hcl s h
  have hlt : ∀ j,j ∈ R → j < ops.size := fun j hj => by
   have := (hm j).1 hj
   rcases Nat.lt_or_ge j ops.size with h | h
   ·exact h
   ·rw [Array.getD_eq_getD_getElem?,Array.getElem?_eq_none (by omega)] at this; cases this
  have ht : ∀ j : Nat,j < ops.size → listed.getD j true = listed.getD j false := fun j hj => by
   rw [Array.getD_eq_getD_getElem?,Array.getD_eq_getD_getElem?,Array.getElem?_eq_getElem (by omega)]; rfl
  refine ⟨fun hr => ?_,fun i hi => ?_⟩
  ·exfalso
   cases R with
   | nil => simp at hn
   | cons m R =>
    have hml := hlt m (by simp)
    have hmo : ops[m]? = some ops[m] := Array.getElem?_eq_getElem hml
    have : m ∈ Region.ready .any ops listed := mem_ready.2 ⟨(hm m).1 (by simp),ops[m],hmo,fun e he hb => by
     have hlt' := backOK_get _ 0 hback m ops[m] (by rw [Array.getElem?_toList]; exact hmo) e he hb
     rw [← ht e.on (by omega)]
     cases hq : listed.getD e.on true with
     | true => rfl
     | false =>
      have hin := (hm e.on).2 hq
      rw [List.pairwise_cons] at hp
      rcases List.mem_cons.1 hin with h1 | h1
      ·omega
      ·have := hp.1 _ h1; omega⟩
    rw [hr] at this
    cases this
  ·obtain ⟨hun,oi,hoi,hpre⟩ := mem_ready.1 hi
   have hiR := (hm i).2 hun
   obtain ⟨A,B,rfl,hA⟩ := GR hiR hp
   have hoi' : ops.toList[i]? = some oi := by rw [Array.getElem?_toList]; exact hoi
   have hAun : ∀ x ∈ A,listed.getD x true = false := fun x hx => (hm x).1 (by simp [hx])
   have hcomp : ∀ x ∈ A,∃ ox,ops.toList[x]? = some ox ∧ CU md ops.toList ox oi = true := by
    intro x hx
    have hxl := hlt x (by simp [hx])
    have hox : ops.toList[x]? = some ops[x] := by rw [Array.getElem?_toList]; exact Array.getElem?_eq_getElem hxl
    refine ⟨ops[x],hox,?_⟩
    have hpi := pairsOK_get _ 0 hpairs i oi hoi'
    rw [Nat.zero_add] at hpi
    have hnot : ∀ (j : Nat) (o : Oper),ops[j]? = some o → (∀ e ∈ o.after,Region.binds .any e = true → listed.getD e.on false = true) → Ef x o = true → False := fun j o _ hall he => by
     obtain ⟨e,he1,he2,he3⟩ := EK he
     have := hall e he1 he2
     rw [he3,← ht x hxl,hAun x hx] at this
     cases this
    have hno : ∀ (n : Nat) (j : Nat) (o : Oper),ops[j]? = some o → (∀ e ∈ o.after,Region.binds .any e = true → listed.getD e.on false = true) → BK ops.toList x n o = true → False := by
     intro n
     induction n with
     | zero => exact hnot
     | succ n ihn =>
      intro j o hj hall hpt
      simp only [BK,Bool.or_eq_true] at hpt
      rcases hpt with hpt | hpt
      ·exact hnot j o hj hall hpt
      ·obtain ⟨e,he,hq⟩ := List.any_eq_true.1 hpt
       simp only [Bool.and_eq_true] at hq
       have hme := hall e (by simpa using he) hq.1
       cases hm1 : ops.toList[e.on]? with
       | none => rw [hm1] at hq; simp at hq
       | some m =>
        rw [hm1] at hq
        rw [Array.getElem?_toList] at hm1
        have hml : e.on < ops.size := (Array.getElem?_eq_some_iff.1 hm1).1
        exact ihn e.on m hm1 (hcl e.on m hm1 (by rw [ht e.on hml]; exact hme)) hq.2
    rcases KD _ 0 hpi x _ hox (by rw [Nat.zero_add]; exact hA x hx) with q | q
    ·exact q
    ·rw [Nat.zero_add] at q
     exact (hno 8 i oi hoi hpre q).elim
   have hb := Sq hoi' A B hcomp h
   simp only [EE,hoi'] at hb
   refine wpOpIn_mono ?_ (GY hT s hoi (Cc hsz hoi) hb)
   rintro a' w' ⟨G',f',H',s',h'⟩
   have hil := hlt i hiR
   have hset : ∀ j,(listed.setIfInBounds i true).getD j true = if j = i then true else listed.getD j true := fun j => by
    rw [Array.getD_eq_getD_getElem?,Array.getElem?_setIfInBounds,Array.getD_eq_getD_getElem?]
    by_cases hj : i = j
    ·subst hj; simp [show i < listed.size from by omega]
    ·rw [if_neg hj,if_neg fun e => hj e.symm]
   have hset' : ∀ j,listed.getD j false = true → (listed.setIfInBounds i true).getD j false = true := fun j hj => by
    rw [Array.getD_eq_getD_getElem?,Array.getElem?_setIfInBounds]
    by_cases hij : i = j
    ·subst hij; simp [show i < listed.size from by omega]
    ·rw [if_neg hij,← Array.getD_eq_getD_getElem?]; exact hj
   have hp' : (A ++ B).Pairwise (· < ·) := hp.sublist (by simp)
   have hnd : i ∉ A ++ B := by
    have hp2 : (A ++ i :: B).Pairwise (· ≠ ·) := hp.imp fun h => Nat.ne_of_lt h
    rw [List.pairwise_append,List.pairwise_cons] at hp2
    intro hmem
    rcases List.mem_append.1 hmem with h1 | h1
    ·exact hp2.2.2 i h1 i (by simp) rfl
    ·exact hp2.2.1.1 i h1 rfl
   refine ih (A ++ B) (by simp at hn ⊢; omega) (listed.setIfInBounds i true) f' H' G' a' w' (by simpa using hls) hp' (fun j => ?_) (fun j o hj hl e he hb => ?_) s' h'
   ·rw [hset]
    by_cases hji : j = i
    ·subst hji; simp [hnd] at *
    ·rw [if_neg hji,← hm]
     simp [hji]
   ·rw [hset] at hl
    by_cases hji : j = i
    ·subst hji
     rw [hoi] at hj
     cases hj
     exact hset' _ (hpre e he hb)
    ·rw [if_neg hji] at hl
     exact hset' _ (hcl j o hj hl e he hb)
theorem St.drawn {a : Act} (s : St X G f H a w) (n : Nat) (hn : w.drawn ≤ n) : St X G f H a { w with drawn := n } := by
 have t : Tr G H w G H { w with drawn := n } := (Tr.refl G H w).drawn n hn
 exact ⟨s.tr.drawn n hn,s.rel.still t rfl (fun _ => ⟨rfl,rfl,rfl⟩) (fun _ _ => rfl) (fun b hb => s.rel.imm b hb),fun u => (s.fr u).mono s.rel.imm t,s.size,s.dfr⟩
theorem Ue (hT : Ad P T) (hmix : P.follows .mixedOrders = true) (md : Me) {id : Nat} {ops : Array Oper} (hsz : BF X.sz ops.toList = true) (hok : PB md ops.toList = true) (h : K7 P T md ops.toList (Q .normal) ops.toList f H) :
  AW P ro X (.region id ops true) Q f H := fun G a w s => by
 refine wpIn_region_any hmix ?_
 have h' : EE P T md ops.toList (Q .normal) (List.range ops.toList.length) f H := by rw [Km]; exact h
 have hrep : ∀ j d,(Array.replicate ops.size false).getD j d = if j < ops.size then false else d := fun j d => by
  rw [Array.getD_eq_getD_getElem?,Array.getElem?_replicate]
  split <;> rfl
 have := Wn (ro := ro) hT hsz hok (List.range ops.toList.length) (Array.replicate ops.size false) f H G a _ (by simp) List.pairwise_lt_range (fun j => ?_) (fun j o hj hl e he hb => ?_) (s.drawn (w.drawn + 1) (Nat.le_succ _)) h'
 ·simpa using this
 ·rw [hrep]
  simp only [List.mem_range,Array.length_toList]
  split <;> simp_all
 ·rw [hrep] at hl
  have : j < ops.size := (Array.getElem?_eq_some_iff.1 hj).1
  rw [if_pos this] at hl
  cases hl
end
end Cp
namespace Cp
open Go
mutual
def fzd (H : Hp) : Nat → Val → Val
 | 0,v => v
 | n + 1,v =>
  match v with
  | .gr k e m =>
   match H k with
   | some (e',.fro sz xss) => if e = e' ∧ m = xss.length then .lst sz (xss.map fun es => es.map (fzd H n)) else v
   | _ => v
  | .ptr k e sz i j =>
   match H k with
   | some (e',.fro sz' xss) => if e = e' ∧ sz = sz' then (match xss[i]? with | some es => .pim ((es.drop j).map (fzd H n)) | none => v) else v
   | _ => v
  | .agg cs => .agg (cs.map (fzd H n))
  | .tup cs => .tup (cs.map (fzd H n))
  | .lst sz xss => .lst sz (xss.map fun es => es.map (fzd H n))
  | .exl sz xss => .exl sz (xss.map fun es => es.map (fzd H n))
  | .pim cs => .pim (cs.map (fzd H n))
  | .iface t v => .iface t (fzd H n v)
  | v => v
end
section
variable {P : Program} {T : Tab} {G G' : Gh} {w w' : World} {H H' : Hp}
theorem Sa {n : Nat} {v : Val} (h : v.cell = true) : (fzd H n v).cell = true := by
 cases n with
 | zero => exact h
 | succ n =>
  cases v <;> simp only [fzd] <;> try (first | (exact h; done) | (rfl; done))
  ·split
   ·split
    ·split <;> rfl
    ·rfl
   ·rfl
  ·split
   ·split <;> rfl
   ·rfl
theorem MR.map {g : Val → Val} {b off : Nat} {cs : List Val} (h : MR G w b off cs) (hg : ∀ v ∈ cs,v.cell = true → (g v).cell = true) (hv : ∀ v x,VR G w v x → VR G w (g v) x) : MR G w b off (cs.map g) := by
 intro j v hj
 rw [List.getElem?_map,Option.map_eq_some_iff] at hj
 obtain ⟨u,hu,rfl⟩ := hj
 obtain ⟨y,h1,h2,h3⟩ := h j u hu
 exact ⟨y,h1,hg u (List.mem_of_getElem? hu) h2,hv _ _ h3⟩
theorem ER.map {g : Val → Val} {b off sz : Nat} {xss : List (List Val)} (h : ER G w b off sz xss) (hg : ∀ v : Val,v.cell = true → (g v).cell = true) (hv : ∀ v x,VR G w v x → VR G w (g v) x) : ER G w b off sz (xss.map fun es => es.map g) := by
 intro i es hi
 rw [List.getElem?_map,Option.map_eq_some_iff] at hi
 obtain ⟨es',he,rfl⟩ := hi
 exact (h i es' he).map (fun v _ => hg v) hv
theorem JJ (hR : HRel G w H) : ∀ (n : Nat) (v : Val) (x : Value),VR G w v x → VR G w (fzd H n v) x
 | 0,v,x,h => h
 | n + 1,v,x,h => by
  have ih := JJ hR n
  have hcell : ∀ v : Val,v.cell = true → (fzd H n v).cell = true := fun v hv => Sa hv
  have hlen : ∀ (sz : Nat) (xss : List (List Val)),(∀ (i : Nat) (es : List Val),xss[i]? = some es → es.length = sz) → ∀ (i : Nat) (es : List Val),(xss.map fun es => es.map (fzd H n))[i]? = some es → es.length = sz := by
   intro sz xss h i es hi
   rw [List.getElem?_map,Option.map_eq_some_iff] at hi
   obtain ⟨es',he,rfl⟩ := hi
   rw [List.length_map]; exact h i es' he
  cases v with
  | gr k e m =>
   simp only [fzd]
   cases hk : H k with
   | none => exact h
   | some p =>
    obtain ⟨e',o⟩ := p
    cases o <;> try exact h
    rename_i sz xss
    simp only
    by_cases hc : e = e' ∧ m = xss.length
    case neg => rw [if_neg hc]; exact h
    rw [if_pos hc]
    obtain ⟨rfl,rfl⟩ := hc
    obtain ⟨hE,hN,hrow,hI⟩ := hR.obj k e _ hk
    cases h with
    | gr _ _ _ a c he hp =>
     have hh := hp hE
     have hr := hrow.2
     unfold Gh.handle at hh
     cases hK : G.K k with
     | none =>
      rw [hK] at hr
      obtain ⟨rfl,_⟩ := hr
      exact .lst_nil _ _ _
     | some b =>
      rw [hK] at hh hr
      injection hh with q1 q2 q3
      subst q1 q3
      have := VR.lst_of (cap := G.C k) (hI b hK) (hlen sz xss hrow.1) (ER.map (b := b) (off := 0) (fun i es hi => by rw [Nat.zero_add]; exact hr.2.2 i es hi) hcell ih) (by simpa using hr.2.1)
      simpa using this
  | ptr k e sz i j =>
   simp only [fzd]
   cases hk : H k with
   | none => exact h
   | some p =>
    obtain ⟨e',o⟩ := p
    cases o <;> try exact h
    rename_i sz' xss
    simp only
    by_cases hc : e = e' ∧ sz = sz'
    case neg => rw [if_neg hc]; exact h
    rw [if_pos hc]
    obtain ⟨rfl,rfl⟩ := hc
    obtain ⟨hE,hN,hrow,hI⟩ := hR.obj k e _ hk
    cases hes : xss[i]? with
    | none => exact h
    | some es =>
     simp only
     cases h with
     | ptr _ _ _ _ _ a he hp =>
      obtain ⟨b,hb,rfl⟩ := hp hE
      exact VR.cells_pim (hI b hb) (MR.map ((hrow.mem hb hes).drop (n := j)) (fun v _ => hcell v) ih)
  | agg cs =>
   obtain ⟨xs,rfl,h1,h2,h3⟩ := Ed h
   refine .agg _ _ (by simpa using h1) (fun i v hi => ?_) (fun i v hi => ?_)
   ·rw [List.getElem?_map,Option.map_eq_some_iff] at hi
    obtain ⟨u,hu,rfl⟩ := hi
    exact hcell u (h2 i u hu)
   ·rw [List.getElem?_map,Option.map_eq_some_iff] at hi
    obtain ⟨u,hu,rfl⟩ := hi
    exact ih _ _ (h3 i u hu)
  | tup cs =>
   cases h with
   | tup _ xs hs hv =>
    refine .tup _ _ (by simpa using hs) (fun i v hi => ?_)
    rw [List.getElem?_map,Option.map_eq_some_iff] at hi
    obtain ⟨u,hu,rfl⟩ := hi
    exact ih _ _ (hv i u hu)
  | lst sz xss =>
   obtain ⟨a,cap,rfl,h1,h2,h3⟩ := h.lst_inv
   by_cases hne : xss = []
   ·subst hne; exact .lst_nil _ _ _
   ·obtain ⟨b,off,rfl,hI,hE⟩ := h3 hne
    have := VR.lst_of (cap := cap) hI (hlen sz xss h2) (ER.map hE hcell ih) (by simpa using h1)
    rw [List.length_map] at this
    exact this
  | exl sz xss =>
   obtain ⟨a,rfl,h2,h3⟩ := h.exl_inv
   by_cases hne : xss = []
   ·subst hne; exact h
   ·obtain ⟨b,off,rfl,hI,hE⟩ := h3 hne
    have := VR.exl_of hI (hlen sz xss h2) (ER.map hE hcell ih)
    rw [List.length_map] at this
    exact this
  | pim cs =>
   obtain ⟨b,off,rfl,hI,hm⟩ := h.pim_cells
   exact VR.cells_pim hI (hm.map (fun v _ => hcell v) ih)
  | iface t v =>
   cases h with
   | iface _ _ x h => exact .iface _ _ _ (ih _ _ h)
  | _ => exact h
theorem VR.congr {v : Val} {x : Value} (h : VR G w v x) (hI : ∀ b,G.I b → G'.I b ∧ ∀ off,w'.cell? ⟨b,off,none⟩ = w.cell? ⟨b,off,none⟩) (hK : G'.K = G.K) (hC : G'.C = G.C) (hE : G'.E = G.E) (hN : G'.N = G.N) : VR G' w' v x := by
 induction h with
 | any x => exact .any x
 | int k n => exact .int k n
 | bool b => exact .bool b
 | str s => exact .str s
 | nilp => exact .nilp
 | nils a => exact .nils a
 | nilm => exact .nilm
 | nilf => exact .nilf
 | nili => exact .nili
 | ptr k e sz i j a he h => exact .ptr k e sz i j a (by rw [hN]; exact he) (by rw [hE,hK]; exact h)
 | gr k e n a c he h => exact .gr k e n a c (by rw [hN]; exact he) (by rw [hE]; unfold Gh.handle at *; rw [hK,hC]; exact h)
 | map k e b he h => exact .map k e b (by rw [hN]; exact he) (by rw [hE,hK]; exact h)
 | itr k e a he h => exact .itr k e a (by rw [hN]; exact he) (by rw [hE,hK]; exact h)
 | yld k e b he h => exact .yld k e b (by rw [hN]; exact he) (by rw [hE,hK]; exact h)
 | pim cs b off ys hb hm hc hv ih => exact .pim cs b off ys (hI b hb).1 (fun j v hj => by rw [(hI b hb).2]; exact hm j v hj) hc (fun j v hj => ih j v hj)
 | lst sz xss a cap ys hcap hsz ha hc hv ih =>
  refine .lst sz xss a cap ys hcap hsz (fun hne => ?_) hc (fun i es hi' j v hj => ih i es hi' j v hj)
  obtain ⟨b,off,h1,h2,h3⟩ := ha hne
  exact ⟨b,off,h1,(hI b h2).1,fun i es hi' j v hj => by rw [(hI b h2).2]; exact h3 i es hi' j v hj⟩
 | exl sz xss a ys hsz ha hc hv ih =>
  refine .exl sz xss a ys hsz (fun hne => ?_) hc (fun i es hi' j v hj => ih i es hi' j v hj)
  obtain ⟨b,off,h1,h2,h3⟩ := ha hne
  exact ⟨b,off,h1,(hI b h2).1,fun i es hi' j v hj => by rw [(hI b h2).2]; exact h3 i es hi' j v hj⟩
 | fn f caps xs hs hv ih => exact .fn f caps xs hs (fun i v hi' => ih i v hi')
 | iface t' v x h ih => exact .iface t' v x ih
 | agg cs xs hs hc hv ih => exact .agg cs xs hs hc (fun i v hi' => ih i v hi')
 | tup vs xs hs hv ih => exact .tup vs xs hs (fun i v hi' => ih i v hi')
end
end Cp
namespace Cp
open Go
def N7 (T : Tab) (f : Fr) (H : Hp) : ResultVar → Option Val
 | .tmp t => some (f t)
 | .cell a t => Cg T H t (f a)
def D2 (T : Tab) (f : Fr) (H : Hp) : List ResultVar → Option (List Val)
 | [] => some []
 | r :: rs => match N7 T f H r with | none => none | some v => match D2 T f H rs with | none => none | some vs => some (v :: vs)
def Fx (T : Tab) (f : Fr) (H : Hp) (rs : List ResultVar) : Option Val :=
 match D2 T f H rs with
 | none => none
 | some [v] => some v
 | some vs => some (.tup vs)
def _root_.Cp.Gh.frz (G : Gh) (k : Nat) : Gh := { G with I := fun b => G.I b ∨ G.K k = some b }
section
variable {P : Program} {T : Tab} {G G' : Gh} {w w' : World} {H H' : Hp} {f : Fr} {X : Cx}
theorem Row.mono' {k sz : Nat} {xss : List (List Val)} (h : Row G w k sz xss) (hv : ∀ v x,VR G w v x → VR G' w' v x)
  (hK : G'.K k = G.K k) (hC : G'.C k = G.C k) (hb : ∀ b,G.K k = some b → w'.heap[b]? = w.heap[b]?) : Row G' w' k sz xss := by
 refine ⟨h.1,?_⟩
 have h2 := h.2
 rw [hK,hC]
 cases hk : G.K k with
 | none => rw [hk] at h2; exact h2
 | some b =>
  rw [hk] at h2
  obtain ⟨⟨cs,ty,h3,h4⟩,h5,h6⟩ := h2
  refine ⟨⟨cs,ty,by rw [hb b hk]; exact h3,h4⟩,h5,fun i es hi' j v hj => ?_⟩
  obtain ⟨y,q1,q2,q3⟩ := h6 i es hi' j v hj
  exact ⟨y,by rw [Ca (hb b hk)]; exact q1,q2,hv _ _ q3⟩
theorem ORel.mono' {k : Nat} {o : AObj} (h : ORel G w k o) (hv : ∀ v x,VR G w v x → VR G' w' v x) (hN : ∀ k,G.N k ≤ G'.N k) (hI : ∀ b,G.I b → G'.I b)
  (hK : G'.K k = G.K k) (hC : G'.C k = G.C k) (hb : ∀ b,G.K k = some b → w'.heap[b]? = w.heap[b]?) : ORel G' w' k o := by
 cases o with
 | arr sz xss => exact Row.mono' h hv hK hC hb
 | fro sz xss => exact ⟨h.1.mono' hv hK hC hb,fun b hkb => hI b (h.2 b (hK ▸ hkb))⟩
 | map ver es =>
  obtain ⟨h0,b,xs,clock,h1,h2,h3,h4,h5⟩ := h
  refine ⟨Nat.lt_of_lt_of_le h0 (hN k),b,xs,clock,hK ▸ h1,by rw [hb b h1]; exact h2,⟨h3.1,fun i a v hi => ?_⟩,h4,h5⟩
  obtain ⟨x,q1,q2,q3⟩ := h3.2 i a v hi
  exact ⟨x,q1,hv _ _ q2,hv _ _ q3⟩
 | itr km em ver left cur =>
  obtain ⟨h0,b,bm,clk,seen,h1,h3⟩ := h
  exact ⟨Nat.lt_of_lt_of_le h0 (hN km),b,bm,clk,seen,hK ▸ h1,by rw [hb b h1]; exact h3⟩
 | loop fs ps asg body st pend =>
  obtain ⟨b,r,h1,h2,h3,h4,h5,h6,h7,h8,h9⟩ := h
  exact ⟨b,r,hK ▸ h1,by rw [hb b h1]; exact h2,h3,h4,h5,h6,h7,h8,fun i v hi => hv _ _ (h9 i v hi)⟩
 | nit =>
  obtain ⟨b,h1,h2⟩ := h
  exact ⟨b,hK ▸ h1,by rw [hb b h1]; exact h2⟩
 | frm ver es =>
  obtain ⟨⟨h0,b,xs,clock,h1,h2,h3,h4,h5⟩,h6⟩ := h
  refine ⟨⟨Nat.lt_of_lt_of_le h0 (hN k),b,xs,clock,hK ▸ h1,by rw [hb b h1]; exact h2,⟨h3.1,fun i a v hi => ?_⟩,h4,h5⟩,fun b hkb => hI b (h6 b (hK ▸ hkb))⟩
  obtain ⟨x,q1,q2,q3⟩ := h3.2 i a v hi
  exact ⟨x,q1,hv _ _ q2,hv _ _ q3⟩
 | dead => exact ⟨trivial,fun b hkb => hI b (h.2 b (hK ▸ hkb))⟩
theorem Tr.frz (hR : HRel G w H) {k e sz : Nat} {xss : List (List Val)} (hk : H k = some (e,.arr sz xss)) : Tr G H w (G.frz k) (upd H k (some (e,.fro sz xss))) w where
 os := rfl
 tape := ⟨rfl,Nat.le_refl _⟩
 output := rfl
 size := Nat.le_refl _
 same := fun _ _ _ => rfl
 own := fun b ⟨k',e',o',q1,q2,q3⟩ => by
  left
  by_cases hkk : k' = k
  ·subst hkk; rw [A4] at q1; cases q1; cases q2
  ·rw [A0 _ _ hkk] at q1; exact ⟨k',e',o',q1,q2,q3⟩
 I1 := fun b h => .inl h
 I2 := fun b h => by
  rcases h with h | h
  ·exact .inl h
  ·exact .inr (.inl ⟨k,e,_,hk,rfl,h⟩)
 N := fun _ => Nat.le_refl _
 eps := fun _ => .inl ⟨rfl,rfl,rfl⟩
 D := ⟨[],rfl⟩
theorem HRel.frz (hR : HRel G w H) {k e sz : Nat} {xss : List (List Val)} (hk : H k = some (e,.arr sz xss)) : HRel (G.frz k) w (upd H k (some (e,.fro sz xss))) := by
 have t := Tr.frz hR hk
 obtain ⟨hE,hN,hrow⟩ := hR.obj k e _ hk
 refine hR.turn t rfl (fun k' hkk => A0 _ _ hkk) (fun _ _ => ⟨rfl,rfl,rfl⟩) (fun _ _ _ _ _ _ _ => rfl) (fun e' o' q => ?_)
  (fun k1 e1 km em ver left cur e' es q1 q2 q3 hc => ?_) (fun e' o' b q1 q2 q3 => ?_) (fun b hI => ?_)
 ·rw [A4] at q
  cases q
  exact ⟨hE,hN,Row.mono' hrow (fun v x h => h.mono hR.imm t) rfl rfl (fun _ _ => rfl),fun b hb => .inr hb⟩
 ·exfalso
  by_cases hk1 : k1 = k
  ·subst hk1; rw [A4] at q1; cases q1
  ·have hkm := hc.resolve_left hk1
   subst hkm; rw [A4] at q2; cases q2
 ·rw [A4] at q1; cases q1; cases q2
 ·rcases hI with hI | hI
  ·refine ⟨(hR.imm b hI).1,fun ho => ?_⟩
   rcases t.own b ho with q | q
   ·exact (hR.imm b hI).2 q
   ·have := (hR.imm b hI).1; omega
  ·refine ⟨hR.lt hk hI,?_⟩
   rintro ⟨k',e',o',q1,q2,q3⟩
   by_cases hkk : k' = k
   ·subst hkk; rw [A4] at q1; cases q1; cases q2
   ·rw [A0 _ _ hkk] at q1
    exact hkk (hR.inj k' k e' e o' _ b q1 hk q2 rfl q3 hI)
theorem St.frz {a : Act} (s : St X G f H a w) {k e sz : Nat} {xss : List (List Val)} (hk : H k = some (e,.arr sz xss)) : St X (G.frz k) f (upd H k (some (e,.fro sz xss))) a w :=
 ⟨s.tr.trans (Tr.frz s.rel hk),s.rel.frz hk,fun t => (s.fr t).mono s.rel.imm (Tr.frz s.rel hk),s.size,s.dfr⟩
theorem Er {ro : Option Nat} {c : Code} {Q : Exit → Fr → Hp → Prop} (k : Nat) {e sz : Nat} {xss : List (List Val)} (hk : H k = some (e,.arr sz xss)) (h : AW P ro X c Q f (upd H k (some (e,.fro sz xss)))) : AW P ro X c Q f H :=
 fun G a w s => h _ a w (s.frz hk)
inductive Frz : Hp → Hp → Prop
 | refl (H : Hp) : Frz H H
 | step {H H' : Hp} (k e sz : Nat) (xss : List (List Val)) (hk : H k = some (e,.arr sz xss)) (h : Frz (upd H k (some (e,.fro sz xss))) H') : Frz H H'
theorem St.frzs {a : Act} (h : Frz H H') : ∀ {G : Gh},St X G f H a w → ∃ G',St X G' f H' a w := by
 induction h with
 | refl H => exact fun s => ⟨_,s⟩
 | step k e sz xss hk h ih => exact fun s => ih (s.frz hk)
theorem TM {t : TypeId} {a v : Val} {x : Value} (ha : VR G w a x) (h : Cg T H t a = some v) : ∃ ad,x = .pointer (some ad) := by
 unfold Cg at h
 cases ht : T t with
 | none => rw [ht] at h; cases h
 | some ti =>
  rw [ht] at h
  cases a <;> simp only at h <;> try (cases h; done)
  ·cases ha; exact ⟨_,rfl⟩
  ·obtain ⟨b,off,rfl,_⟩ := ha.pim_cells; exact ⟨_,rfl⟩
theorem RJ (hT : Ad P T) (hR : HRel G w H) {tmps : Array Value} (hf : ∀ t,VR G w (f t) (tmps.getD t undef)) {r : ResultVar} {v : Val} (h : N7 T f H r = some v) :
  ∃ y,((match r with | .tmp t => pure (tmps.getD t undef) | .cell a t => do loadVar t (← asAddr (tmps.getD a undef)) : Sem Value)).run P w = .ok y w ∧ VR G w v y := by
 cases r with
 | tmp t => cases h; exact ⟨_,rfl,hf t⟩
 | cell a t =>
  obtain ⟨y,h1,h2⟩ := N4 (P := P) hT hR (hf a) h
  obtain ⟨ad,he⟩ := TM (hf a) h
  rw [he] at h1
  refine ⟨y,?_,h2⟩
  dsimp only
  rw [he]
  simp only [asAddr,Sem.run_bind,Sem.run_pure,Result.andThen]
  simpa only [Instr.loadAt,Instr.sureAddr,Sem.run_bind,Sem.run_pure,Result.andThen] using h1
theorem N9 (hT : Ad P T) (hR : HRel G w H) {tmps : Array Value} (hf : ∀ t,VR G w (f t) (tmps.getD t undef)) : ∀ (rs : List ResultVar) (vs : List Val),D2 T f H rs = some vs →
  ∃ ys : List Value,(rs.mapM fun | .tmp t => pure (tmps.getD t undef) | .cell a t => do loadVar t (← asAddr (tmps.getD a undef)) : Sem (List Value)).run P w = .ok ys w ∧ ys.length = vs.length ∧ ∀ (i : Nat) (v : Val),vs[i]? = some v → ∃ y : Value,ys[i]? = some y ∧ VR G w v y
 | [],vs,h => by cases h; exact ⟨[],by simp,rfl,fun i v h => by simp at h⟩
 | r :: rs,vs,h => by
  simp only [D2] at h
  cases h1 : N7 T f H r with
  | none => rw [h1] at h; cases h
  | some v =>
   rw [h1] at h
   simp only at h
   cases h2 : D2 T f H rs with
   | none => rw [h2] at h; cases h
   | some vs' =>
    rw [h2] at h
    cases h
    obtain ⟨y,q1,q2⟩ := RJ hT hR hf h1
    obtain ⟨ys,r1,r2,r3⟩ := N9 hT hR hf rs vs' h2
    refine ⟨y :: ys,?_,by simp [r2],fun i v' hi => ?_⟩
    ·rw [List.mapM_cons]
     simp only [Sem.run_bind,q1,Result.andThen,r1]
     rfl
    ·cases i with
     | zero => cases hi; exact ⟨y,rfl,q2⟩
     | succ i => exact r3 i v' (by simpa using hi)
theorem Pl (hT : Ad P T) (hR : HRel G w H) {tmps : Array Value} (hf : ∀ t,VR G w (f t) (tmps.getD t undef)) {fn : Func} {v : Val} (h : Fx T f H fn.results.toList = some v) :
  ∃ y,(results fn tmps).run P w = .ok y w ∧ VR G w v y := by
 unfold Fx at h
 cases hx : D2 T f H fn.results.toList with
 | none => rw [hx] at h; cases h
 | some vs =>
  rw [hx] at h
  obtain ⟨ys,h1,h2,h3⟩ := N9 hT hR hf _ _ hx
  have hrun : (results fn tmps).run P w = .ok (if h : ys.toArray.size = 1 then ys.toArray[0] else .tuple ys.toArray) w := by
   unfold results
   rw [Array.mapM_eq_mapM_toList]
   simp only [bind_map_left,Sem.run_bind]
   generalize hq : Sem.run P (List.mapM _ _) w = r
   have hr : r = .ok ys w := hq.symm.trans h1
   subst hr
   rfl
  refine ⟨_,hrun,?_⟩
  match vs,ys,h2,h3,h with
  | [c],[y],_,h3,h =>
   obtain ⟨y',q1,q2⟩ := h3 0 c rfl
   cases h
   cases q1
   simpa using q2
  | [],[],_,_,h => cases h; exact .tup _ _ rfl (fun i v h => by simp at h)
  | c :: c' :: cs,y :: y' :: ys,h2,h3,h =>
   cases h
   have : ¬ (y :: y' :: ys).toArray.size = 1 := by simp
   rw [dif_neg this]
   refine .tup _ _ (by simpa using h2) (fun i v hi => ?_)
   obtain ⟨y'',q1,q2⟩ := h3 i v hi
   have e : ((y :: y' :: ys).toArray).getD i undef = y'' := by
    rw [Array.getD_eq_getD_getElem?,List.getElem?_toArray,q1]; rfl
   rw [e]; exact q2
end
end Cp
namespace Cp
open Go
def FnQ (T : Tab) (fn : Func) (R : Val → Hp → Prop) : Exit → Fr → Hp → Prop
 | .normal,f,H | .ret,f,H => ∃ H' v,Frz H H' ∧ Fx T f H' fn.results.toList = some v ∧ R v H'
 | _,_,_ => False
def FnP (T : Tab) (fn : Func) (v : Val) : Exit → Fr → Hp → Prop := FnQ T fn fun v' H' => fzd H' 6 v' = v
def Co (args : List Val) : Fr := fun t => (args[t]?).getD .any
section
variable {P : Program} {T : Tab} {G G' : Gh} {w w' : World} {H H' : Hp} {f : Fr} {X : Cx}
theorem HRel.shut {r : Nat} (hR : HRel G w H) (hD : G'.D ⊆ G.D) (hr : r ∈ G.D) (hn : r ∉ G'.D) (hI : G'.I = G.I) (hK : G'.K = G.K) (hC : G'.C = G.C) (hE : G'.E = G.E) (hN : G'.N = G.N) :
  HRel G' (w.putObj r (.deferred none)) H ∧ (∀ v x,VR G w v x → VR G' (w.putObj r (.deferred none)) v x) := by
 obtain ⟨d1,d2,d3⟩ := hR.dfr r hr
 have hOwn : ∀ b,Own G' H b ↔ Own G H b := fun b => by unfold Own; rw [hK]
 have hheap : ∀ b,b ≠ r → (w.putObj r (.deferred none)).heap[b]? = w.heap[b]? := fun b hb => World.putObj_heap_other hb
 have hv : ∀ v x,VR G w v x → VR G' (w.putObj r (.deferred none)) v x := fun v x h =>
  h.congr (fun b hb => ⟨by rw [hI]; exact hb,fun off => Ca (hheap b fun e => d3 (e ▸ hb)) off⟩) hK hC hE hN
 have hblk : ∀ k e o b,H k = some (e,o) → G.K k = some b → (w.putObj r (.deferred none)).heap[b]? = w.heap[b]? := fun k e o b hk hb => by
  refine hheap b fun e' => ?_
  subst e'
  cases hw : o.owned with
  | true => exact d2 ⟨k,e,o,hk,hw,hb⟩
  | false =>
   cases o <;> simp [AObj.owned] at hw
   all_goals exact d3 ((hR.obj k e _ hk).2.2.2 b hb)
 refine ⟨⟨fun k e o hk => ?_,fun k e km em ver left cur e' es h1 h2 h3 => ?_,fun k k' e e' o o' b h1 h2 w1 w2 g1 g2 => ?_,fun b hb => ?_,fun b hb => ?_,fun q hq => ?_,fun g cs hg => hv _ _ (hR.glb g cs hg)⟩,hv⟩
 ·obtain ⟨a1,a2,a3⟩ := hR.obj k e o hk
  exact ⟨by rw [hE]; exact a1,by rw [hN]; exact a2,ORel.mono' a3 hv (fun k => by rw [hN]; exact Nat.le_refl _) (fun b hb => by rw [hI]; exact hb) (by rw [hK]) (by rw [hC]) (fun b hb => hblk k e o b hk hb)⟩
 ·obtain ⟨b,bm,clk,seen,xs,i1,i2,i3,i4,i5⟩ := hR.itr k e km em ver left cur e' es h1 h2 h3
  exact ⟨b,bm,clk,seen,xs,by rw [hK]; exact i1,by rw [hblk k e _ b h1 i1]; exact i2,by rw [hK]; exact i3,by rw [hblk km e' _ bm h2 i3]; exact i4,i5⟩
 ·rw [hK] at g1 g2; exact hR.inj k k' e e' o o' b h1 h2 w1 w2 g1 g2
 ·rw [hI] at hb
  rw [hOwn,World.putObj_size]
  exact hR.imm b hb
 ·rw [hOwn] at hb
  rw [World.putObj_size]
  exact hR.own b hb
 ·obtain ⟨q1,q2,q3⟩ := hR.dfr q (hD hq)
  exact ⟨by rw [hheap q fun e => hn (e ▸ hq)]; exact q1,by rw [hOwn]; exact q2,by rw [hI]; exact q3⟩
theorem Jl {F : Fence} {n : Nat} {fn : Func} {tmps : Array Value} {R : Ending → World → Prop} (hT : Ad P T) {v : Val} (hres : Fx T f H fn.results.toList = some v)
  (hD0 : ∀ r ∈ X.G0.D,r < X.w0.heap.size)
  (hR : ∀ G' w' y,Tr X.G0 X.H0 X.w0 G' H w' → HRel G' w' H → G'.D = X.G0.D → VR G' w' v y → R (.returned y) w') : ∀ (l : List Nat) (G : Gh) (w : World),G.D = l ++ X.G0.D → l.Nodup → (∀ r ∈ l,X.w0.heap.size ≤ r) →
  Tr X.G0 X.H0 X.w0 G H w → HRel G w H → (∀ t,VR G w (f t) (tmps.getD t undef)) → LeavesInM F n P fn tmps R (l.map Ms) .returning w
 | [],G,w,hD,hnd,hfr,t,r,hf => by
  obtain ⟨y,h1,h2⟩ := Pl (P := P) hT r hf hres
  exact ⟨y,h1,hR G w y t r hD h2⟩
 | q :: l,G,w,hD,hnd,hfr,t,r,hf => by
  rw [List.nodup_cons] at hnd
  have hq : q ∈ G.D := by rw [hD]; simp
  obtain ⟨d1,d2,d3⟩ := r.dfr q hq
  have hq0 := hfr q (by simp)
  have hqn : q ∉ l ++ X.G0.D := by
   intro hm
   rcases List.mem_append.1 hm with h | h
   ·exact hnd.1 h
   ·have := hD0 q h; omega
  obtain ⟨hR',hv⟩ := HRel.shut (G' := { G with D := l ++ X.G0.D }) r (fun x hx => by rw [hD]; simp at hx ⊢; exact .inr hx) hq hqn rfl rfl rfl rfl rfl
  refine ⟨by simp,.inl ⟨q,_,rfl,run_takeDeferred d1,?_⟩⟩
  refine Jl hT hres hD0 hR l { G with D := l ++ X.G0.D } _ rfl hnd.2 (fun r hr => hfr r (by simp [hr])) ?_ hR' (fun t => hv _ _ (hf t))
  exact ⟨t.os,t.tape,t.output,by rw [World.putObj_size]; exact t.size,fun b hb hn => by rw [World.putObj_heap_other (by omega)]; exact t.same b hb hn,t.own,t.I1,t.I2,t.N,t.eps,l,rfl⟩
theorem Ld {args : Array Value} {n t : Nat} : (args ++ Array.replicate n undef).getD t undef = args.getD t undef := by
 rw [Array.getD_eq_getD_getElem?,Array.getD_eq_getD_getElem?,Array.getElem?_append]
 split
 ·rfl
 ·rw [Array.getElem?_replicate,Array.getElem?_eq_none (by omega)]
  split <;> rfl
theorem IQ {fid : FuncId} {fn : Func} {c : Code} (hT : Ad P T) (hf : P.funcs[fid]? = some fn) (hb : fn.body = some c) (hnm : (fn.name == "runtime.NumGoroutine") = false) {args : List Val} (hsz : args.length ≤ fn.ntmps)
  {R : Val → Hp → Prop} (h : ∀ X,X.H0 = H → X.sz = fn.ntmps → X.rnd = false → AW P none X c (FnQ T fn fun v H' => R (fzd H' 6 v) H') (Co args) H) : BD P fid args H R := by
 refine ⟨⟨fn,hf,by rw [hb]; rfl,hnm⟩,fun G w xs hR hv => ?_⟩
 have hD0 : ∀ r ∈ G.D,r < w.heap.size := fun r hr => Aj (hR.dfr r hr).1
 rw [← callsIn_wide (n := 0)]
 refine callsIn_of_wp_marks hf hb trivial ?_
 let X : Cx := { G0 := G,H0 := H,w0 := w,sz := fn.ntmps }
 have hs := hv.1
 have s : St X G (Co args) H { tmps := xs ++ Array.replicate (fn.ntmps - xs.size) undef,defers := [] } w := {
  tr := Tr.refl G H w
  rel := hR
  fr := fun t => by
   rw [Ld]
   unfold Co
   cases hi : args[t]? with
   | none => exact .any _
   | some v => exact hv.2 t v hi
  size := by
   simp only [Array.size_append,Array.size_replicate]
   show xs.size + (fn.ntmps - xs.size) = fn.ntmps
   omega
  dfr := ⟨[],rfl,rfl,List.nodup_nil,fun r h => by simp at h⟩ }
 have hAW := h X rfl rfl rfl G _ w s
 refine wpIn_mono hAW fun e a w' hp => ?_
 obtain ⟨G1,f1,H1,s1,q⟩ := hp
 have fin : (∃ H' v,Frz H1 H' ∧ Fx T f1 H' fn.results.toList = some v ∧ R (fzd H' 6 v) H') → LeavesInM Fence.wide 0 P fn a.tmps (fun e w' => ∃ v x G' H',e = .returned x ∧ Tr G H w G' H' w' ∧ HRel G' w' H' ∧ G'.D = G.D ∧ VR G' w' v x ∧ R v H') a.defers .returning w' := by
  rintro ⟨H',v,hfz,hres,hRv⟩
  obtain ⟨G2,s2⟩ := s1.frzs hfz
  obtain ⟨l,hD,hdf,hnd,hfr⟩ := s2.dfr
  rw [hdf]
  refine Jl (X := X) (f := f1) (H := H') hT hres hD0 (fun G' w' y t r hD hy => ?_) l G2 w' hD hnd (fun r hr => (hfr r hr).1) s2.tr s2.rel s2.fr
  exact ⟨fzd H' 6 v,y,G',H',rfl,t,r,hD,JJ r 6 v y hy,hRv⟩
 cases e with
 | normal => exact fin q
 | ret => exact fin q
 | exit id => exact q.elim
 | goto l => exact q.elim
 | panic c => exact q.elim
 | outgrown => exact q.elim
theorem BN {fid : FuncId} {fn : Func} {c : Code} (hT : Ad P T) (hf : P.funcs[fid]? = some fn) (hb : fn.body = some c) (hnm : (fn.name == "runtime.NumGoroutine") = false) {args : List Val} (hsz : args.length ≤ fn.ntmps)
  {R : Val → Hp → Prop} (h : ∀ X,X.H0 = H → X.sz = fn.ntmps → AW P none X c (FnQ T fn fun v H' => R (fzd H' 6 v) H') (Co args) H) : BD P fid args H R :=
 IQ hT hf hb hnm hsz fun X h0 h1 _ => h X h0 h1
theorem Ll {fid : FuncId} {fn : Func} {c : Code} (hT : Ad P T) (hf : P.funcs[fid]? = some fn) (hb : fn.body = some c) (hnm : (fn.name == "runtime.NumGoroutine") = false) {args : List Val} (hsz : args.length ≤ fn.ntmps)
  {v : Val} (hna : noids args = true) (hnv : noid v = true) (h : ∀ X,X.H0 = none0 → X.sz = fn.ntmps → X.rnd = false → AW P none X c (FnP T fn v) (Co args) none0) : PureC P fid args v := by
 have hA := IQ (R := fun v' H' => v' = v) hT hf hb hnm hsz h
 refine ⟨hA.1,hna,hnv,fun G w xs hR hv => Calls.mono (hA.2 G w xs hR hv) ?_⟩
 rintro e w' ⟨v',x,G',H',rfl,t,r,hD,hvr,rfl⟩
 have hsame : ∀ b,b < w.heap.size → w'.heap[b]? = w.heap[b]? := fun b hb => t.same b hb Own.none0
 refine ⟨x,G'.I,rfl,⟨t.os,t.tape,t.output,t.size,fun b hb _ => hsame b hb,fun b hb => (Own.none0 hb).elim,t.I1,fun b hb => t.I2 b hb,fun _ => Nat.le_refl _,fun _ => .inl ⟨rfl,rfl,rfl⟩,[],rfl⟩,
  ⟨fun k e o hk => (by cases hk),fun k e km em ver left cur e' es hk => (by cases hk),fun k k' e e' o o' b hk => (by cases hk),fun b hb => ⟨(r.imm b hb).1,Own.none0⟩,fun b hb => (Own.none0 hb).elim,fun q hq => ?_,fun g cs hg => (hR.glb g cs hg).congr (fun b hb => ⟨t.I1 b hb,fun off => Ca (hsame b (hR.imm b hb).1) off⟩) rfl rfl rfl rfl⟩,
  hvr.noid_mono hnv fun b hb => ⟨hb,fun _ => rfl⟩⟩
 obtain ⟨l,hl⟩ := t.D
 have hq' : q ∈ G'.D := by rw [hl]; exact List.mem_append_right _ hq
 exact ⟨(r.dfr q hq').1,Own.none0,(r.dfr q hq').2.2⟩
theorem A8 {fid : FuncId} {fn : Func} {c : Code} (hT : Ad P T) (hf : P.funcs[fid]? = some fn) (hb : fn.body = some c) (hnm : (fn.name == "runtime.NumGoroutine") = false) {args : List Val} (hsz : args.length ≤ fn.ntmps)
  {v : Val} (hna : noids args = true) (hnv : noid v = true) (h : ∀ X,X.H0 = none0 → X.sz = fn.ntmps → AW P none X c (FnP T fn v) (Co args) none0) : PureC P fid args v :=
 Ll hT hf hb hnm hsz hna hnv fun X h0 h1 _ => h X h0 h1
end
end Cp
namespace Cp
open Go
def Fit (T : Tab) : Nat → TypeId → List Val → Prop
 | 0,_,_ => False
 | n + 1,t,vs =>
  match T t with
  | none => False
  | some ti =>
   match ti.kind with
   | .int k => ∃ m,vs = [.int k m] ∧ (Lit.int k m).wf = true
   | .bool => ∃ c,vs = [.bool c]
   | .str => ∃ s,vs = [.str s] ∧ s.size ≤ maxLen
   | .slice e => ∃ sz xss,vs = [.lst sz xss] ∧ (T e).map (·.sz) = some sz ∧ xss.length ≤ maxLen ∧ ∀ es ∈ xss,es.length = sz ∧ Fit T n e es
   | .struct fs => vs.length = ti.sz ∧ ∀ q ∈ fs,∃ fi,T q.2 = some fi ∧ Fit T n q.2 ((vs.drop q.1).take fi.sz)
   | .array m e => vs.length = ti.sz ∧ ∀ i,i < m → ∃ fi,T e = some fi ∧ Fit T n e ((vs.drop (i * fi.sz)).take fi.sz)
   | _ => False
def IH (T : Tab) : Nat → List (Nat × Nat) → Nat → Bool
 | off,[],total => off == total
 | off,(o,t) :: fs,total => off == o && (match T t with | some fi => IH T (off + fi.sz) fs total | none => false)
def GN (T : Tab) : Nat → TypeId → Bool
 | 0,_ => false
 | n + 1,t =>
  match T t with
  | none => false
  | some ti =>
   match ti.kind with
   | .int _ | .bool | .str => ti.sz == 1
   | .slice e => ti.sz == 1 && (match T e with | some ei => decide (0 < ei.sz) | none => false) && GN T n e
   | .struct fs => IH T 0 fs ti.sz && fs.all fun q => (match T q.2 with | some fi => decide (0 < fi.sz) | none => false) && GN T n q.2
   | .array m e => match T e with | some fi => IH T 0 ((List.range m).map fun i => (i * fi.sz,e)) ti.sz && (decide (0 < fi.sz) && GN T n e) | none => false
   | _ => false
section
variable {P : Program} {T : Tab} {G : Gh} {w : World} {Ty : Type} {enc : TypeId × Value → Ty}
theorem GF {n : Nat} {total : Nat} {cs : List Value} (hlen : cs.length = total) : ∀ (fs : List (Nat × Nat)) (off : Nat),IH T off fs total = true → off ≤ total →
  (∀ q ∈ fs,∀ fi,T q.2 = some fi → ∃ vs,CR G w vs ((cs.drop q.1).take fi.sz) ∧ Fit T n q.2 vs ∧ vs.length = fi.sz) →
  ∃ vs,CR G w vs (cs.drop off) ∧ vs.length = total - off ∧ ∀ q ∈ fs,off ≤ q.1 ∧ ∃ fi,T q.2 = some fi ∧ Fit T n q.2 ((vs.drop (q.1 - off)).take fi.sz)
 | [],off,hc,hle,h => by
  simp only [IH,beq_iff_eq] at hc
  subst hc
  refine ⟨[],⟨by simp [hlen],fun j v hj => by simp at hj⟩,by simp,fun q hq => by simp at hq⟩
 | (o,t) :: fs,off,hc,hle,h => by
  simp only [IH,Bool.and_eq_true,beq_iff_eq] at hc
  obtain ⟨rfl,hc⟩ := hc
  cases ht : T t with
  | none => rw [ht] at hc; cases hc
  | some fi =>
   rw [ht] at hc
   simp only at hc
   obtain ⟨vs,h1,h2,h3⟩ := h (off,t) (by simp) fi ht
   have hl := h1.1
   simp only [List.length_take,List.length_drop,h3] at hl
   obtain ⟨us,k1,k2,k3⟩ := GF hlen fs (off + fi.sz) hc (by omega) (fun q hq fi hfi => h q (by simp [hq]) fi hfi)
   refine ⟨vs ++ us,?_,by simp [h3,k2]; omega,fun q hq => ?_⟩
   ·have e : cs.drop off = (cs.drop off).take fi.sz ++ cs.drop (off + fi.sz) := by
     rw [← List.drop_drop,List.take_append_drop]
    rw [e]
    exact h1.append k1
   ·rcases List.mem_cons.1 hq with rfl | hq
    ·refine ⟨Nat.le_refl _,fi,ht,?_⟩
     simp only [Nat.sub_self,List.drop_zero]
     rw [List.take_left' h3]
     exact h2
    ·obtain ⟨q1,gi,q2,q3⟩ := k3 q hq
     refine ⟨by omega,gi,q2,?_⟩
     have e : (vs ++ us).drop (q.1 - off) = us.drop (q.1 - (off + fi.sz)) := by
      rw [List.drop_append,List.drop_eq_nil_of_le (by omega),List.nil_append]
      congr 1
      omega
     rw [e]
     exact q3
theorem F0 {t : TypeId} {ti : TI} (h : TIok P t ti) : P.cellsOf t = ti.sz := by
 obtain ⟨i,h1,h2,_⟩ := h.infos
 simp [Program.cellsOf,h1,h2]
theorem Ii (hT : Ad P T) (hI : ∀ b,b < w.heap.size → G.I b) : ∀ (n fuel : Nat) (t : TypeId) (ti : TI) (cs : List Value) (x : DataW Ty × List MemPlace),T t = some ti → GN T n t = true → 0 < ti.sz →
  DataW.trod enc P w 0 (fun _ => true) true fuel t cs = some x → ∃ vs,CR G w vs cs ∧ Fit T n t vs ∧ vs.length = ti.sz
 | 0,fuel,t,ti,cs,x,ht,hp,hz,h => by cases hp
 | n + 1,0,t,ti,cs,x,ht,hp,hz,h => by simp [DataW.trod] at h
 | n + 1,fuel + 1,t,ti,cs,x,ht,hp,hz,h => by
  have hti := hT t ti ht
  obtain ⟨d,hd,hk⟩ := hti.under
  have hcs := F0 hti
  have one : ∀ (v : Val) (y : Value),VR G w v y → v.cell = true → CR G w [v] [y] := fun v y hv hc => ⟨rfl,fun j u hj => by
   cases j with
   | zero => cases hj; exact ⟨y,rfl,hc,hv⟩
   | succ j => simp at hj⟩
  simp only [GN,ht] at hp
  cases hkk : ti.kind with
  | int k =>
   rw [hkk] at hk hp
   have := CN hk
   subst this
   simp only [beq_iff_eq] at hp
   cases cs with
   | nil => simp [DataW.trod,hd] at h
   | cons c cs =>
    cases cs with
    | cons c' cs => simp [DataW.trod,hd] at h
    | nil =>
     cases c <;> simp [DataW.trod,hd] at h
     rename_i k' m
     obtain ⟨⟨rfl,hwf⟩,rfl⟩ := h
     exact ⟨[.int k' m],one _ _ (.int _ _) rfl,by simp only [Fit,ht,hkk]; exact ⟨m,rfl,hwf⟩,by simp [hp]⟩
  | bool =>
   rw [hkk] at hk hp
   have := E9 hk
   subst this
   simp only [beq_iff_eq] at hp
   cases cs with
   | nil => simp [DataW.trod,hd] at h
   | cons c cs =>
    cases cs with
    | cons c' cs => simp [DataW.trod,hd] at h
    | nil =>
     cases c <;> simp [DataW.trod,hd] at h
     rename_i m
     exact ⟨[.bool m],one _ _ (.bool _) rfl,by simp only [Fit,ht,hkk]; exact ⟨m,rfl⟩,by simp [hp]⟩
  | str =>
   rw [hkk] at hk hp
   have := C0 hk
   subst this
   simp only [beq_iff_eq] at hp
   cases cs with
   | nil => simp [DataW.trod,hd] at h
   | cons c cs =>
    cases cs with
    | cons c' cs => simp [DataW.trod,hd] at h
    | nil =>
     cases c <;> simp [DataW.trod,hd] at h
     rename_i m
     exact ⟨[.str m],one _ _ (.str _) rfl,by simp only [Fit,ht,hkk]; exact ⟨m,rfl,h.1⟩,by simp [hp]⟩
  | slice e =>
   rw [hkk] at hk hp
   have := Bb hk
   subst this
   simp only [Bool.and_eq_true,beq_iff_eq] at hp
   obtain ⟨⟨hp1,hp2⟩,hp3⟩ := hp
   cases hte : T e with
   | none => rw [hte] at hp2; cases hp2
   | some ei =>
    rw [hte] at hp2
    simp only [decide_eq_true_eq] at hp2
    have hec := F0 (hT e ei hte)
    rcases DataW.trod_slice hd h with ⟨rfl,_⟩ | ⟨a,len,cap,elems,rest,m,_,rfl,_,_,hlc,hcm,hel,hcell,_⟩
    ·exact ⟨[.lst ei.sz []],one _ _ (.lst_nil _ _ _) rfl,by simp only [Fit,ht,hkk]; exact ⟨ei.sz,[],rfl,by rw [hte]; rfl,by simp,fun es hes => by simp at hes⟩,by simp [hp1]⟩
    ·have hx : ∀ i : Nat,∃ es : List Val,i < len → (∀ j v,es[j]? = some v → ∃ y,w.cell? ((a.add (i * ei.sz)).add j) = some y ∧ v.cell = true ∧ VR G w v y) ∧ Fit T n e es ∧ es.length = ei.sz := by
      intro i
      by_cases hi : i < len
      ·have hci := hcell i hi
       have hls : i < elems.length := by omega
       rw [List.getElem?_eq_getElem hls,hec] at hci
       cases hcc : w.cells? 0 (a.add (i * ei.sz)) ei.sz with
       | none => rw [hcc] at hci; cases hci
       | some cs' =>
        rw [hcc] at hci
        simp only [Option.bind_some] at hci
        obtain ⟨_,hl',hcell'⟩ := World.cells?_some hcc
        obtain ⟨vs,q1,q2,q3⟩ := Ii hT hI n m e ei cs' _ hte hp3 hp2 hci
        refine ⟨vs,fun _ => ⟨fun j v hj => ?_,q2,q3⟩⟩
        obtain ⟨y,r1,r2,r3⟩ := q1.2 j v hj
        have hjl : j < ei.sz := by have := (List.getElem?_eq_some_iff.1 hj).1; omega
        exact ⟨y,by rw [hcell' j hjl]; exact r1,r2,r3⟩
      ·exact ⟨[],fun h => absurd h hi⟩
     obtain ⟨g,hg⟩ := Classical.axiomOfChoice hx
     have hget : ∀ (i : Nat) (es : List Val),((List.range len).map g)[i]? = some es → i < len ∧ es = g i := by
      intro i es hi
      rw [List.getElem?_map,Option.map_eq_some_iff] at hi
      obtain ⟨i',h1,rfl⟩ := hi
      have := List.getElem?_eq_some_iff.1 h1
      obtain ⟨hlt,he⟩ := this
      simp at hlt he
      subst he
      exact ⟨hlt,rfl⟩
     refine ⟨[.lst ei.sz ((List.range len).map g)],one _ _ ?_ rfl,?_,by simp [hp1]⟩
     ·by_cases h0 : len = 0
      ·subst h0; exact .lst_nil _ _ _
      ·
       have hspot : a.spot = none := by
        obtain ⟨hg1,hg2,hg3⟩ := hg 0 (by omega)
        cases hg0 : g 0 with
        | nil => rw [hg0] at hg3; simp at hg3; omega
        | cons v l =>
         obtain ⟨y,r1,_⟩ := hg1 0 v (by rw [hg0]; rfl)
         cases hs : a.spot with
         | none => rfl
         | some q =>
          simp [Addr.add,World.cell?,hs] at r1
          split at r1 <;> simp at r1
       obtain ⟨b,off,spot⟩ := a
       simp only at hspot
       subst hspot
       have hblk : b < w.heap.size := by
        obtain ⟨hg1,hg2,hg3⟩ := hg 0 (by omega)
        cases hg0 : g 0 with
        | nil => rw [hg0] at hg3; simp at hg3; omega
        | cons v l =>
         obtain ⟨y,r1,_⟩ := hg1 0 v (by rw [hg0]; rfl)
         rw [AU,AU] at r1
         exact OW r1
       have := VR.lst_of (G := G) (w := w) (b := b) (off := off) (sz := ei.sz) (cap := cap) (xss := (List.range len).map g) (hI b hblk) (fun i es hi => by obtain ⟨h1,rfl⟩ := hget i es hi; exact (hg i h1).2.2)
        (fun i es hi j v hj => by
         obtain ⟨h1,rfl⟩ := hget i es hi
         obtain ⟨y,r1,r2⟩ := (hg i h1).1 j v hj
         rw [AU,AU] at r1
         exact ⟨y,r1,r2⟩) (by simpa using hlc)
       simpa using this
     ·simp only [Fit,ht,hkk]
      refine ⟨ei.sz,_,rfl,by rw [hte]; rfl,by simp; omega,fun es hes => ?_⟩
      obtain ⟨i,hi⟩ := List.getElem?_of_mem hes
      obtain ⟨h1,rfl⟩ := hget i es hi
      exact ⟨(hg i h1).2.2,(hg i h1).2.1⟩
  | struct fs =>
   rw [hkk] at hk hp
   obtain ⟨fa,rfl,rfl,_⟩ := Bc hk
   simp only [Bool.and_eq_true] at hp
   obtain ⟨hp1,hp2⟩ := hp
   obtain ⟨xs,m,hm,_,hl,hxl,hf⟩ := DataW.trod_struct hd h
   obtain ⟨vs,q1,q2,q3⟩ := GF (T := T) (G := G) (w := w) (n := n) (cs := cs) (total := ti.sz) (by rw [hl,hcs]) (fa.toList.map fun f => (f.offset,f.type)) 0 hp1 (Nat.zero_le _) (fun q hq fi hfi => by
    obtain ⟨f,hfm,rfl⟩ := List.mem_map.1 hq
    have hpq := List.all_eq_true.1 hp2 _ hq
    simp only [hfi,Bool.and_eq_true,decide_eq_true_eq] at hpq
    obtain ⟨i,hi⟩ := List.getElem?_of_mem hfm
    have hi' : fa[i]? = some f := by rw [← Array.getElem?_toList]; exact hi
    have hfi' := hf i f hi'
    have hix : i < xs.length := by have := (Array.getElem?_eq_some_iff.1 hi').1; omega
    rw [List.getElem?_eq_getElem hix,F0 (hT _ _ hfi)] at hfi'
    exact Ii hT hI n m f.type fi _ _ hfi hpq.2 hpq.1 hfi')
   simp only [List.drop_zero] at q1
   refine ⟨vs,q1,?_,by simpa using q2⟩
   simp only [Fit,ht,hkk]
   refine ⟨by simpa using q2,fun q hq => ?_⟩
   obtain ⟨_,fi,r1,r2⟩ := q3 q hq
   exact ⟨fi,r1,by simpa using r2⟩
  | array m e =>
   rw [hkk] at hk hp
   have := Bp hk
   subst this
   simp only at hp
   cases hte : T e with
   | none => rw [hte] at hp; cases hp
   | some ei =>
    rw [hte] at hp
    simp only [Bool.and_eq_true,decide_eq_true_eq] at hp
    obtain ⟨hp1,hp2,hp3⟩ := hp
    have hec := F0 (hT e ei hte)
    obtain ⟨xs,m',hm,_,hl,hxl,hf⟩ := DataW.trod_array hd h
    obtain ⟨vs,q1,q2,q3⟩ := GF (T := T) (G := G) (w := w) (n := n) (cs := cs) (total := ti.sz) (by rw [hl,hcs]) ((List.range m).map fun i => (i * ei.sz,e)) 0 hp1 (Nat.zero_le _) (fun q hq fi hfi => by
     obtain ⟨i,hi,rfl⟩ := List.mem_map.1 hq
     have hi' : i < m := by simpa using hi
     simp only at hfi
     rw [hte] at hfi
     cases hfi
     have hfi' := hf i hi'
     rw [hec,List.getElem?_eq_getElem (by omega)] at hfi'
     exact Ii hT hI n m' e ei _ _ hte hp3 hp2 hfi')
    simp only [List.drop_zero] at q1
    refine ⟨vs,q1,?_,by simpa using q2⟩
    simp only [Fit,ht,hkk]
    refine ⟨by simpa using q2,fun i hi => ?_⟩
    obtain ⟨_,fi,r1,r2⟩ := q3 (i * ei.sz,e) (List.mem_map.2 ⟨i,by simpa using hi,rfl⟩)
    simp only at r1
    rw [hte] at r1
    cases r1
    exact ⟨ei,hte,by simpa using r2⟩
  | _ => rw [hkk] at hp; cases hp
end
end Cp
namespace Cp
open Go
def NW (ti : TI) (cs : List Val) : Val := match ti.kind with | .struct _ => .agg cs | _ => cs.headD .any
def aR (T : Tab) (n : Nat) (t : TypeId) (a : Val) : Prop := ∃ ti cs,T t = some ti ∧ Fit T n t cs ∧ cs.length = ti.sz ∧ a = NW ti cs
section
variable {P : Program} {T : Tab} {G : Gh} {w : World} {Ty : Type} {enc : TypeId × Value → Ty}
theorem arg_fit (hT : Ad P T) (hI : ∀ b,b < w.heap.size → G.I b) {n : Nat} {t : TypeId} {ti : TI} {v : Value} {d : DataW Ty} {ps : List MemPlace} (ht : T t = some ti) (hp : GN T n t = true) (hz : 0 < ti.sz)
  {base : Nat} (hok : Value.okWide P w .any base t v) (h : DataW.Trod enc P w 0 (fun _ => true) true t v d ps) (hna : ∀ m e,ti.kind ≠ .array m e := by intro _ _ h; cases h) : ∃ a,VR G w a v ∧ aR T n t a := by
 obtain ⟨fuel,hf⟩ := h
 obtain ⟨vs,h1,h2,h3⟩ := Ii (G := G) hT hI n fuel t ti _ _ ht hp hz hf
 have hti := hT t ti ht
 obtain ⟨dd,hd,hk⟩ := hti.under
 refine ⟨NW ti vs,?_,ti,vs,ht,h2,h3,rfl⟩
 cases n with
 | zero => cases hp
 | succ n =>
 simp only [GN,ht] at hp
 have scal : ∀ y : Value,v = y → y.cells = #[y] → (∀ fs,ti.kind ≠ .struct fs) → VR G w (NW ti vs) v := by
  intro y hv hy hns
  subst hv
  rw [hy] at h1
  have hl := h1.1
  match vs,hl,h1 with
  | [c],_,h1 =>
   obtain ⟨z,q1,_,q3⟩ := h1.2 0 c rfl
   simp at q1
   subst q1
   unfold NW
   cases hkk : ti.kind with
   | struct fs => exact absurd hkk (hns fs)
   | _ => exact q3
 cases hkk : ti.kind with
 | int k =>
  rw [hkk] at hk; have := CN hk; subst this
  obtain ⟨m,rfl⟩ := WideShapes.okWide_int hd hok
  exact scal _ rfl rfl (fun fs e => by rw [hkk] at e; cases e)
 | bool =>
  rw [hkk] at hk; have := E9 hk; subst this
  obtain ⟨m,rfl⟩ := WideShapes.okWide_bool hd hok
  exact scal _ rfl rfl (fun fs e => by rw [hkk] at e; cases e)
 | str =>
  rw [hkk] at hk; have := C0 hk; subst this
  obtain ⟨m,rfl⟩ := WideShapes.okWide_string hd hok
  exact scal _ rfl rfl (fun fs e => by rw [hkk] at e; cases e)
 | slice e =>
  rw [hkk] at hk; have := Bb hk; subst this
  obtain ⟨a,len,cap,rfl⟩ := WideShapes.okWide_slice hd hok
  exact scal _ rfl rfl (fun fs e => by rw [hkk] at e; cases e)
 | struct fs =>
  rw [hkk] at hk
  obtain ⟨fa,rfl,_,_⟩ := Bc hk
  unfold Value.okWide at hok
  rw [hd] at hok
  obtain ⟨cs,rfl,_,_⟩ := hok
  have hl := h1.1
  simp only [Value.cells,Array.length_toList] at hl
  unfold NW
  rw [hkk]
  refine .agg _ _ hl (fun i c hi => (h1.2 i c hi).choose_spec.2.1) (fun i c hi => ?_)
  obtain ⟨y,q1,_,q3⟩ := h1.2 i c hi
  simp only [Value.cells,Array.getElem?_toList] at q1
  rw [Array.getD_eq_getD_getElem?,q1]
  exact q3
 | array m e => exact absurd hkk (hna m e)
 | _ => rw [hkk] at hp; cases hp
def G00 (w : World) : Gh := { I := fun b => b < w.heap.size,K := fun _ => none,C := fun _ => 0,E := fun _ => 0,N := fun _ => 0,D := [] }
def SB (w : World) : Prop := ∀ g cs,GE g = some cs → VR (G00 w) w (.pim cs) (.pointer (some ⟨g,0,none⟩))
theorem Ww (hg : SB w) : HRel (G00 w) w none0 :=
 ⟨fun k e o h => (by cases h),fun k e km em ver left cur e' es h => (by cases h),fun k k' e e' o o' b h => (by cases h),fun b hb => ⟨hb,Own.none0⟩,fun b hb => (Own.none0 hb).elim,fun r hr => (by simp [G00] at hr),hg⟩
theorem law_calls {fid : FuncId} {as : List Val} {xs : Array Value} (h : PureC P fid as (.bool true)) (hv : VRs (G00 w) w as xs) (hg : SB w := by intro g cs h; cases h) : Calls P fid xs w fun e w' => e = .returned (.bool true) ∧ RowKit.Below w.heap.size w w' := by
 obtain ⟨_,_,_,h3⟩ := h
 refine Calls.mono (h3 (G00 w) w xs (Ww hg) hv) ?_
 rintro e w' ⟨x,I',rfl,t,r,hx⟩
 cases hx
 exact ⟨rfl,⟨t.os,t.tape.1,t.output,t.size,fun k hk => t.same k hk Own.none0⟩⟩
end
end Cp
