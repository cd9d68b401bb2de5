/- Rules,facts and contracts that the statement's proof leans on. Conditions: none. -/
import Derived.Laws.StructEq
import Derived.ChangeKeysEq
import Derived.Maps.RangeRun
import Derived.Sort.LoopGhostIn
import Derived.Test.YtopgldaekcmekaaGreatDoorP1
set_option linter.unusedVariables false
set_option linter.unusedSimpArgs false
set_option linter.unusedSectionVars false
namespace Cp
open Go
def DH (T : Tab) (f : TI → Val → Val → Option Bool) (xs ys : List Val) : List (Nat × Nat) → Option Bool
 | [] => some true
 | (off,ft) :: fs =>
  match T ft with
  | none => none
  | some fi =>
   match rdC fi (xs.drop off) with
   | none => none
   | some a =>
    match rdC fi (ys.drop off) with
    | none => none
    | some b =>
     match f fi a b with
     | none => none
     | some r => match DH T f xs ys fs with | none => none | some s => some (r && s)
def xeqS : TK → Val → Val → Option Bool
 | .int _,.int k a,.int k' b => if k = k' then some (decide (a = b)) else none
 | .bool,.bool a,.bool b => some (a == b)
 | .str,.str a,.str b => some (decide (a = b))
 | .ptr,.nilp,.nilp => some true
 | .ptr,.nilp,.pim _ => some false
 | .ptr,.nilp,.ptr .. => some false
 | .ptr,.pim _,.nilp => some false
 | .ptr,.ptr ..,.nilp => some false
 | .map ..,.nilm,.nilm => some true
 | .map ..,.map ..,.nilm => some false
 | .iface,.iface ..,.nili => some false
 | .iface,.nili,.iface .. => some false
 | .iface,.nili,.nili => some true
 | .func,.nilf,.nilf => some true
 | .func,.fn ..,.nilf => some false
 | _,_,_ => none
def CZ (T : Tab) : Nat → TI → Val → Val → Option Bool
 | 0,_,_,_ => none
 | n + 1,ti,x,y =>
  match ti.kind with
  | .struct fs =>
   match x,y with
   | .agg xs,.agg ys => if ti.plain then DH T (CZ T n) xs ys fs else none
   | _,_ => none
  | .array m et =>
   match x,y with
   | .agg xs,.agg ys => if ti.plain then (match T et with | some ei => DH T (CZ T n) xs ys ((List.range m).map fun i => (i * ei.sz,et)) | none => none) else none
   | _,_ => none
  | k => xeqS k x y
def xeq (T : Tab) (t : TypeId) (x y : Val) : Option Bool :=
 match T t with
 | some ti => CZ T 8 ti x y
 | none => none
section
variable {P : Program} {T : Tab} {G G' : Gh} {w w' : World} {H H' : Hp}
theorem IM (a b : ByteArray) : (a.toList == b.toList) = decide (a = b) := by
 rw [ByteArray.toList_eq,ByteArray.toList_eq]
 obtain ⟨⟨x⟩⟩ := a
 obtain ⟨⟨y⟩⟩ := b
 by_cases h : x = y
 ·subst h; simp
 ·have h1 : ¬ ((⟨⟨x⟩⟩ : ByteArray) = ⟨⟨y⟩⟩) := fun e => h (by injection e with e; injection e)
  simp [h,h1]
theorem Dy {d : TypeDesc} (h : kindOf d = .ptr) : ∃ e,d = .pointer e := by
 cases d with
 | pointer e => exact ⟨e,rfl⟩
 | struct fa => simp only [kindOf] at h; split at h <;> cases h
 | _ => cases h
theorem EP {d : TypeDesc} (h : kindOf d = .iface) : ∃ e,d = .interface e := by
 cases d with
 | interface e => exact ⟨e,rfl⟩
 | struct fa => simp only [kindOf] at h; split at h <;> cases h
 | _ => cases h
theorem Jg {d : TypeDesc} (h : kindOf d = .func) : ∃ a b c,d = .func a b c := by
 cases d with
 | func a b c => exact ⟨a,b,c,rfl⟩
 | struct fa => simp only [kindOf] at h; split at h <;> cases h
 | _ => cases h
theorem Tq {t : TypeId} {d : TypeDesc} {x y : Val} {a b : Value} {r : Bool} {n : Nat} (hd : P.underlying t = some d) (hx : VR G w x a) (hy : VR G w y b)
  (h : xeqS (kindOf d) x y = some r) : (Op.equalIn (n + 1) t a b).run P w = .ok r w := by
 unfold xeqS at h
 split at h <;> try (cases h; done)
 all_goals (rename_i hk)
 ·split at h
  ·rename_i e; subst e; cases h; cases hx; cases hy
   rw [CN hk] at hd
   rw [Go.run_equalIn_int w n t _ _ _ _ hd,LT]
  ·cases h
 ·cases h; cases hx; cases hy
  exact Go.run_equalIn_bool w n t _ _ (E9 hk ▸ hd)
 ·cases h; cases hx; cases hy
  rw [Go.run_equalIn_string w n t _ _ (C0 hk ▸ hd),IM]
 ·cases h; cases hx; cases hy
  obtain ⟨e,rfl⟩ := Dy hk
  simp [Op.equalIn,Sem.run_bind,Cp.run_underlying hd,Result.andThen]
 ·cases h; cases hx
  obtain ⟨e,rfl⟩ := Dy hk
  obtain ⟨b,off,rfl,_⟩ := hy.pim_cells
  simp [Op.equalIn,Sem.run_bind,Cp.run_underlying hd,Result.andThen]
 ·cases h; cases hx; cases hy
  obtain ⟨e,rfl⟩ := Dy hk
  simp [Op.equalIn,Sem.run_bind,Cp.run_underlying hd,Result.andThen]
 ·cases h; cases hy
  obtain ⟨e,rfl⟩ := Dy hk
  obtain ⟨b,off,rfl,_⟩ := hx.pim_cells
  simp [Op.equalIn,Sem.run_bind,Cp.run_underlying hd,Result.andThen]
 ·cases h; cases hx; cases hy
  obtain ⟨e,rfl⟩ := Dy hk
  simp [Op.equalIn,Sem.run_bind,Cp.run_underlying hd,Result.andThen]
 ·cases h; cases hx; cases hy
  rw [C9 hk] at hd
  simp [Op.equalIn,Sem.run_bind,Cp.run_underlying hd,Result.andThen]
 ·cases h; cases hx; cases hy
  rw [C9 hk] at hd
  simp [Op.equalIn,Sem.run_bind,Cp.run_underlying hd,Result.andThen]
 ·cases h; cases hx; cases hy
  obtain ⟨e,rfl⟩ := EP hk
  simp [Op.equalIn,Sem.run_bind,Cp.run_underlying hd,Result.andThen]
 ·cases h; cases hx; cases hy
  obtain ⟨e,rfl⟩ := EP hk
  simp [Op.equalIn,Sem.run_bind,Cp.run_underlying hd,Result.andThen]
 ·cases h; cases hx; cases hy
  obtain ⟨e,rfl⟩ := EP hk
  simp [Op.equalIn,Sem.run_bind,Cp.run_underlying hd,Result.andThen]
 ·cases h; cases hx; cases hy
  obtain ⟨_,_,_,rfl⟩ := Jg hk
  simp [Op.equalIn,Sem.run_bind,Cp.run_underlying hd,Result.andThen]
 ·cases h; cases hx; cases hy
  obtain ⟨_,_,_,rfl⟩ := Jg hk
  simp [Op.equalIn,Sem.run_bind,Cp.run_underlying hd,Result.andThen]
theorem Ed {cs : List Val} {x : Value} (h : VR G w (.agg cs) x) : ∃ xs : Array Value,x = .agg xs ∧ xs.size = cs.length ∧ (∀ (i : Nat) (v : Val),cs[i]? = some v → v.cell = true) ∧
  ∀ (i : Nat) (v : Val),cs[i]? = some v → VR G w v (xs.getD i undef) := by
 cases h with
 | agg _ xs hs hc hv => exact ⟨xs,rfl,hs,hc,hv⟩
theorem Jx (hT : Ad P T) : ∀ (n m : Nat) (t : TypeId) (ti : TI) (x y : Val) (a b : Value) (r : Bool),T t = some ti → n ≤ m → VR G w x a → VR G w y b → CZ T n ti x y = some r →
  (Op.equalIn m t a b).run P w = .ok r w
 | 0,m,t,ti,x,y,a,b,r,ht,hm,hx,hy,h => by cases h
 | n + 1,m,t,ti,x,y,a,b,r,ht,hm,hx,hy,h => by
  obtain ⟨m,rfl⟩ : ∃ m',m = m' + 1 := ⟨m - 1,by omega⟩
  have hti := hT t ti ht
  obtain ⟨d,hd,hk⟩ := hti.under
  have hscal : (∀ fs,ti.kind ≠ .struct fs) → (∀ q e,ti.kind ≠ .array q e) → (Op.equalIn (m + 1) t a b).run P w = .ok r w := by
   intro hns hna
   have : xeqS ti.kind x y = some r := by
    simp only [CZ] at h
    cases hkk : ti.kind <;> rw [hkk] at h <;> first | exact h | exact absurd hkk (hns _) | exact absurd hkk (hna _ _)
   exact Tq hd hx hy (hk ▸ this)
  cases hkk : ti.kind with
  | struct fs =>
   simp only [CZ,hkk] at h
   cases x <;> try (cases h; done)
   cases y <;> try (cases h; done)
   rename_i xs ys
   simp only at h
   by_cases hp : ti.plain = true
   case neg => rw [if_neg hp] at h; cases h
   rw [if_pos hp] at h
   rw [hkk] at hk
   obtain ⟨fa,rfl,rfl,hnm⟩ := Bc hk
   obtain ⟨as,rfl,s1,c1,v1⟩ := Ed hx
   obtain ⟨bs,rfl,s2,c2,v2⟩ := Ed hy
   have hfs : P.fieldsOf t = fa := by simp [Program.fieldsOf,hd]
   rw [Go.run_equalIn_struct w m t as bs (by rw [hfs]; exact hd) (hti.plain hp).1,hfs]
   generalize fa.toList = fl at *
   clear hd hk hkk hfs hscal
   induction fl generalizing r with
   | nil => cases h; rfl
   | cons f fl ih =>
    simp only [List.map_cons,DH] at h
    cases hft : T f.type with
    | none => rw [hft] at h; cases h
    | some fi =>
     rw [hft] at h
     simp only at h
     cases hra : rdC fi (xs.drop f.offset) with
     | none => rw [hra] at h; cases h
     | some va =>
      rw [hra] at h
      simp only at h
      cases hrb : rdC fi (ys.drop f.offset) with
      | none => rw [hrb] at h; cases h
      | some vb =>
       rw [hrb] at h
       simp only at h
       cases he : CZ T n fi va vb with
       | none => rw [he] at h; cases h
       | some r1 =>
        rw [he] at h
        simp only at h
        cases hr : DH T (CZ T n) xs ys (fl.map fun f => (f.offset,f.type)) with
        | none => rw [hr] at h; cases h
        | some r2 =>
         rw [hr] at h
         cases h
         obtain ⟨pa,hpa,hva⟩ := EM (hT _ _ hft) s1 c1 v1 hra
         obtain ⟨pb,hpb,hvb⟩ := EM (hT _ _ hft) s2 c2 v2 hrb
         have e1 := Jx hT n m f.type fi va vb pa pb r1 hft (by omega) hva hvb he
         have hn1 : f.name ≠ "_" := hnm f (by simp)
         have hrest := ih _ (fun g hg => hnm g (by simp [hg])) hr
         simp only [Op.eqFields,ne_eq,hn1,not_false_eq_true,if_true,Sem.run_bind,hpa,hpb,e1,Result.andThen_ok]
         cases r1 with
         | true => simpa using hrest
         | false => simp
  | array q et =>
   simp only [CZ,hkk] at h
   cases x <;> try (cases h; done)
   cases y <;> try (cases h; done)
   rename_i xs ys
   simp only at h
   by_cases hp : ti.plain = true
   case neg => rw [if_neg hp] at h; cases h
   rw [if_pos hp] at h
   rw [hkk] at hk
   obtain rfl := Bp hk
   cases hft : T et with
   | none => rw [hft] at h; cases h
   | some fi =>
    rw [hft] at h
    simp only at h
    obtain ⟨as,rfl,s1,c1,v1⟩ := Ed hx
    obtain ⟨bs,rfl,s2,c2,v2⟩ := Ed hy
    obtain ⟨i,hi,hsz,_⟩ := (hT et fi hft).infos
    have hcz : P.cellsOf et = fi.sz := by simp [Program.cellsOf,hi,hsz]
    rw [Go.run_equalIn_array w m as bs hd hi,hcz]
    generalize List.range q = is at *
    clear hd hk hkk hscal
    induction is generalizing r with
    | nil => cases h; rfl
    | cons j is ih =>
     simp only [List.map_cons,DH,hft] at h
     cases hra : rdC fi (xs.drop (j * fi.sz)) with
     | none => rw [hra] at h; cases h
     | some va =>
      rw [hra] at h
      simp only at h
      cases hrb : rdC fi (ys.drop (j * fi.sz)) with
      | none => rw [hrb] at h; cases h
      | some vb =>
       rw [hrb] at h
       simp only at h
       cases he : CZ T n fi va vb with
       | none => rw [he] at h; cases h
       | some r1 =>
        rw [he] at h
        simp only at h
        cases hr : DH T (CZ T n) xs ys (is.map fun i => (i * fi.sz,et)) with
        | none => rw [hr] at h; cases h
        | some r2 =>
         rw [hr] at h
         cases h
         obtain ⟨pa,hpa,hva⟩ := EM (hT _ _ hft) s1 c1 v1 hra
         obtain ⟨pb,hpb,hvb⟩ := EM (hT _ _ hft) s2 c2 v2 hrb
         have e1 := Jx hT n m et fi va vb pa pb r1 hft (by omega) hva hvb he
         have hrest := ih _ hr
         simp only [Op.eqItems,Sem.run_bind,hpa,hpb,e1,Result.andThen_ok]
         cases r1 with
         | true => simpa using hrest
         | false => simp
  | _ => exact hscal (fun fs e => by rw [hkk] at e; cases e) (fun q t e => by rw [hkk] at e; cases e)
end
end Cp
namespace Cp
open Go
mutual
def keq : Val → Val → Bool
 | .int k a,.int k' b => k == k' && a == b
 | .bool a,.bool b => a == b
 | .str a,.str b => decide (a = b)
 | .agg xs,.agg ys => keqs xs ys
 | _,_ => false
def keqs : List Val → List Val → Bool
 | [],[] => true
 | x :: xs,y :: ys => keq x y && keqs xs ys
 | _,_ => false
end
def B3 (T : Tab) (kt : TypeId) (key : Val) : List (Val × Val) → Nat → Option (Option (Nat × Val))
 | [],_ => some none
 | (k,v) :: es,i =>
  match xeq T kt key k with
  | some true => if keq key k then some (some (i,v)) else none
  | some false => B3 T kt key es (i + 1)
  | none => none
section
variable {P : Program} {T : Tab} {G : Gh} {w : World} {H : Hp}
theorem OO {t : TypeId} {d : TypeDesc} {x y : Value} {r : Bool} (hd : P.underlying t = some d) (h : Instr.sameNow d x y = some r) : (Op.equal t x y).run P w = .ok r w := by
 cases d <;> cases x <;> cases y <;> simp only [Instr.sameNow] at h <;> try (cases h; done)
 ·cases h; exact Go.run_equalIn_bool w _ t _ _ hd
 ·split at h
  ·rename_i e; subst e; cases h; exact Go.run_equalIn_int w _ t _ _ _ _ hd
  ·cases h
 ·cases h
  rw [Go.beq_toListBytes]
  exact Go.run_equalIn_string w _ t _ _ hd
theorem Kq {t : TypeId} {d : TypeDesc} {k : Value} (hd : P.underlying t = some d) : ∀ (es : List MapEntry) (i : Nat) (r : Option (Nat × Value)),Instr.findNow d k es i = some r → (Instr.findAsking t k es i).run P w = .ok r w
 | [],i,r,h => by simp only [Instr.findNow] at h; cases h; rfl
 | e :: es,i,r,h => by
  simp only [Instr.findNow] at h
  cases hs : Instr.sameNow d k e.key with
  | none => rw [hs] at h; cases h
  | some b =>
   rw [hs] at h
   have he := OO (P := P) (w := w) hd hs
   simp only [Instr.findAsking,Sem.run_bind,he,Result.andThen]
   cases b with
   | true => simp only at h; cases h; simp
   | false =>
    simp only at h
    simp only [Bool.false_eq_true,if_false]
    exact Kq hd es (i + 1) r h
theorem GB {t : TypeId} {d : TypeDesc} {k : Value} {es : List MapEntry} {r : Option (Nat × Value)} (hd : P.underlying t = some d) (h : (Instr.findAsking t k es).run P w = .ok r w) : (Instr.findKey t k es).run P w = .ok r w := by
 simp only [Instr.findKey,Sem.run_bind,run_underlying hd,Result.andThen]
 cases hf : Instr.findNow d k es 0 with
 | none => simp only; exact h
 | some r' =>
  simp only
  have := Kq (P := P) (w := w) hd es 0 r' hf
  rw [h] at this
  cases this
  rfl
theorem U9 {t : TypeId} {x y : Val} {a b : Value} {r : Bool} (hT : Ad P T) (hx : VR G w x a) (hy : VR G w y b) (h : xeq T t x y = some r) : (Op.equal t a b).run P w = .ok r w := by
 unfold xeq at h
 cases ht : T t with
 | none => rw [ht] at h; cases h
 | some ti =>
  rw [ht] at h
  exact Jx hT 8 Op.maxDepth t ti x y a b r ht (by simp [Op.maxDepth]) hx hy h
theorem GU (hT : Ad P T) {kt : TypeId} {key : Val} {k : Value} (hk : VR G w key k) : ∀ (es : List (Val × Val)) (xs : List MapEntry) (i : Nat) (r : Option (Nat × Val)),ERel G w es xs → B3 T kt key es i = some r →
  (∃ r' : Option (Nat × Value),(Instr.findAsking kt k xs i).run P w = .ok r' w ∧
   match r,r' with
   | none,none => True
   | some (j,v),some (j',x) => j = j' ∧ VR G w v x ∧ i ≤ j ∧ ∃ (a : Val) (e : MapEntry),es[j - i]? = some (a,v) ∧ xs[j - i]? = some e ∧ e.val = x ∧ keq key a = true ∧ VR G w a e.key
   | _,_ => False)
 | [],xs,i,r,hE,h => by
  cases h
  have : xs = [] := List.eq_nil_of_length_eq_zero (by simpa using hE.1)
  subst this
  exact ⟨none,rfl,trivial⟩
 | (a,v) :: es,xs,i,r,hE,h => by
  cases xs with
  | nil => have := hE.1; simp at this
  | cons e xs =>
   obtain ⟨e',h1,h2,h3⟩ := hE.2 0 a v rfl
   cases h1
   simp only [B3] at h
   cases he : xeq T kt key a with
   | none => rw [he] at h; cases h
   | some b =>
    rw [he] at h
    have hrun := U9 hT hk h2 he
    cases b with
    | true =>
     simp only at h
     split at h
     ·rename_i hkq
      cases h
      refine ⟨some (i,e.val),by simp [Instr.findAsking,Sem.run_bind,hrun,Result.andThen],rfl,h3,Nat.le_refl _,a,e,by simp,by simp,rfl,hkq,h2⟩
     ·cases h
    | false =>
     simp only at h
     have hE' : ERel G w es xs := ⟨by have := hE.1; simpa using this,fun j c u hj => hE.2 (j + 1) c u (by simpa using hj)⟩
     obtain ⟨r',q1,q2⟩ := GU hT hk es xs (i + 1) r hE' h
     refine ⟨r',by simp [Instr.findAsking,Sem.run_bind,hrun,Result.andThen,q1],?_⟩
     cases r with
     | none => cases r' with
      | none => trivial
      | some _ => exact q2
     | some p =>
      obtain ⟨j,u⟩ := p
      cases r' with
      | none => exact q2
      | some p' =>
       obtain ⟨j',x⟩ := p'
       obtain ⟨z1,z2,z3,a',e',z4,z5,z6⟩ := q2
       refine ⟨z1,z2,by omega,a',e',?_,?_,z6⟩
       ·rw [show j - i = (j - (i + 1)) + 1 from by omega]; simpa using z4
       ·rw [show j - i = (j - (i + 1)) + 1 from by omega]; simpa using z5
end
end Cp
namespace Cp
open Go
def KZ (T : Tab) (g : TI → Val → Bool) (cs : List Val) : List (Nat × Nat) → Bool
 | [] => true
 | (off,ft) :: fs =>
  match T ft with
  | none => false
  | some fi => match rdC fi (cs.drop off) with | none => false | some a => g fi a && KZ T g cs fs
def xck (T : Tab) : Nat → TI → Val → Bool
 | 0,_,_ => false
 | n + 1,ti,v =>
  match ti.kind with
  | .int _ | .bool | .str => true
  | .struct fs => (match v with | .agg cs => KZ T (xck T n) cs fs | _ => false)
  | _ => false
section
variable {P : Program} {T : Tab} {G : Gh} {w : World} {H : Hp}
theorem Mr (hT : Ad P T) (em : Bool) : ∀ (n m : Nat) (t : TypeId) (ti : TI) (v : Val) (x : Value),T t = some ti → n ≤ m → VR G w v x → xck T n ti v = true → (Instr.checkKey em m t x).run P w = .ok () w
 | 0,m,t,ti,v,x,ht,hm,hx,h => by cases h
 | n + 1,m,t,ti,v,x,ht,hm,hx,h => by
  obtain ⟨m,rfl⟩ : ∃ m',m = m' + 1 := ⟨m - 1,by omega⟩
  have hti := hT t ti ht
  obtain ⟨d,hd,hk⟩ := hti.under
  simp only [xck] at h
  cases hkk : ti.kind with
  | int k =>
   rw [hkk] at hk; have := CN hk; subst this
   simp [Instr.checkKey,Sem.run_bind,run_underlying hd,Result.andThen]
  | bool =>
   rw [hkk] at hk; have := E9 hk; subst this
   simp [Instr.checkKey,Sem.run_bind,run_underlying hd,Result.andThen]
  | str =>
   rw [hkk] at hk; have := C0 hk; subst this
   simp [Instr.checkKey,Sem.run_bind,run_underlying hd,Result.andThen]
  | struct fs =>
   rw [hkk] at hk h
   obtain ⟨fa,rfl,rfl,hnm⟩ := Bc hk
   cases v <;> simp only at h <;> try (cases h; done)
   rename_i cs
   obtain ⟨xs,rfl,s1,c1,v1⟩ := Ed hx
   simp only [Instr.checkKey,Sem.run_bind,run_underlying hd,Result.andThen_ok]
   rw [← Array.forIn_toList]
   generalize fa.toList = fl at *
   clear hd hk hkk
   induction fl with
   | nil => simp
   | cons f fl ih =>
    simp only [List.map_cons,KZ] at h
    cases hft : T f.type with
    | none => rw [hft] at h; cases h
    | some fi =>
     rw [hft] at h
     simp only at h
     cases hra : rdC fi (cs.drop f.offset) with
     | none => rw [hra] at h; cases h
     | some va =>
      rw [hra] at h
      simp only [Bool.and_eq_true] at h
      obtain ⟨pa,hpa,hva⟩ := EM (hT _ _ hft) s1 c1 v1 hra
      have e1 := Mr hT em n m f.type fi va pa hft (by omega) hva h.1
      have hn1 : f.name ≠ "_" := hnm f (by simp)
      have hrest := ih (fun g hg => hnm g (by simp [hg])) h.2
      simp only [List.forIn_cons,ne_eq,hn1,not_false_eq_true,if_true,Sem.run_bind,hpa,e1,Result.andThen_ok,Sem.run_pure]
      exact hrest
  | _ => rw [hkk] at h; cases h
def BI (T : Tab) (H : Hp) (t : TypeId) (m key : Val) (ok : Bool) : Option Val :=
 match T t with
 | some { kind := .map kt vt,.. } =>
  match T kt,T vt with
  | some ki,some vi =>
   if xck T 8 ki key then
    match (match m with
     | .nilm => some []
     | .map k e => (match H k with | some (e',.map _ es) => if e = e' then some es else none | some (e',.frm _ es) => if e = e' then some es else none | _ => none)
     | _ => none : Option (List (Val × Val))) with
    | none => none
    | some es =>
     match B3 T kt key es 0 with
     | none => none
     | some none => some (if ok then .tup [vi.zero,.bool false] else vi.zero)
     | some (some (_,v)) => some (if ok then .tup [v,.bool true] else v)
   else none
  | _,_ => none
 | _ => none
def PD (H : Hp) : Val → Option (List (Val × Val))
 | .nilm => some []
 | .map k e => (match H k with | some (e',.map _ es) => if e = e' then some es else none | some (e',.frm _ es) => if e = e' then some es else none | _ => none)
 | _ => none
theorem SG (hR : HRel G w H) {m : Val} {x : Value} {es : List (Val × Val)} (hm : VR G w m x) (h : PD H m = some es) :
  ∃ xs : Array MapEntry,ERel G w es xs.toList ∧ ((x = .map none ∧ xs = #[]) ∨ ∃ r clk,x = .map (some r) ∧ w.heap[r]? = some (.map xs clk)) := by
 cases m <;> simp only [PD] at h <;> try (cases h; done)
 ·cases h
  cases hm
  exact ⟨#[],⟨rfl,fun i a v hi => by simp at hi⟩,.inl ⟨rfl,rfl⟩⟩
 ·rename_i k e
  cases hk : H k with
  | none => rw [hk] at h; cases h
  | some p =>
   obtain ⟨e',o⟩ := p
   rw [hk] at h
   cases o <;> simp only at h <;> try (cases h; done)
   ·split at h
    ·rename_i hee
     subst hee
     cases h
     obtain ⟨hE,hN,_,b,xs,clk,h1,h2,h3,_⟩ := hR.obj k e _ hk
     cases hm with
     | map _ _ b' he hp =>
      have := hp hE
      rw [h1] at this
      cases this
      exact ⟨xs,h3,.inr ⟨b,clk,rfl,h2⟩⟩
    ·cases h
   ·split at h
    ·rename_i hee
     subst hee
     cases h
     obtain ⟨hE,hN,⟨_,b,xs,clk,h1,h2,h3,_⟩,_⟩ := hR.obj k e _ hk
     cases hm with
     | map _ _ b' he hp =>
      have := hp hE
      rw [h1] at this
      cases this
      exact ⟨xs,h3,.inr ⟨b,clk,rfl,h2⟩⟩
    ·cases h
theorem OL {t : TypeId} {m key v : Val} {x y : Value} {ok : Bool} (hT : Ad P T) (hR : HRel G w H) (hm : VR G w m x) (hk : VR G w key y) (h : BI T H t m key ok = some v) :
  ∃ z,(Instr.lookup t x y ok).run P w = .ok z w ∧ VR G w v z := by
 unfold BI at h
 cases ht : T t with
 | none => rw [ht] at h; cases h
 | some ti =>
  rw [ht] at h
  obtain ⟨kind,sz,bytes,zero,plain⟩ := ti
  obtain ⟨d,hd,hkd⟩ := (hT t _ ht).under
  cases kind <;> simp only at h hkd <;> try (cases h; done)
  rename_i kt vt
  rw [C9 hkd] at hd
  cases hkt : T kt with
  | none => rw [hkt] at h; cases h
  | some ki =>
   cases hvt : T vt with
   | none => rw [hkt,hvt] at h; cases h
   | some vi =>
    rw [hkt,hvt] at h
    simp only at h
    split at h
    ·rename_i hck
     change (match PD H m with | none => none | some es => match B3 T kt key es 0 with | none => none | some none => some (if ok then .tup [vi.zero,.bool false] else vi.zero) | some (some (_,v)) => some (if ok then .tup [v,.bool true] else v)) = some v at h
     cases hes : PD H m with
     | none => rw [hes] at h; cases h
     | some es =>
      rw [hes] at h
      simp only at h
      obtain ⟨xs,hE,hx⟩ := SG hR hm hes
      have hc : ∀ em,(Instr.checkKey em 10000 kt y).run P w = .ok () w := fun em => Mr hT em 8 10000 kt ki key y hkt (by omega) hk hck
      obtain ⟨dk,hdk,_⟩ := (hT kt _ hkt).under
      obtain ⟨iv,hiv,_,_,zv,hzv,hza⟩ := (hT vt _ hvt).infos
      cases hf : B3 T kt key es 0 with
      | none => rw [hf] at h; cases h
      | some r =>
       rw [hf] at h
       obtain ⟨r',q1,q2⟩ := GU hT hk es xs.toList 0 r hE hf
       have hfk := GB hdk q1
       cases r with
       | none =>
        cases r' with
        | some _ => exact q2.elim
        | none =>
         simp only [Option.some.injEq] at h
         subst h
         have hz0 : VR G w vi.zero zv := hza ▸ Ec zv
         refine ⟨if ok then .tuple #[zv,.bool false] else zv,?_,by cases ok; exact hz0; exact VR.tup2 hz0 (.bool _)⟩
         unfold Instr.lookup
         rcases hx with ⟨rfl,rfl⟩ | ⟨r,clk,rfl,hr⟩
         ·simp only [Sem.run_bind,run_underlying hd,Result.andThen_ok,hc,hfk,Cf hiv hzv,Sem.run_pure]
         ·have hgo : (getObj r).run P w = .ok (.map xs clk) w := by simp [getObj,Sem.run,hr]
          simp only [Sem.run_bind,run_underlying hd,Result.andThen_ok,hgo,hc,hfk,Cf hiv hzv,Sem.run_pure]
       | some p =>
        obtain ⟨j,u⟩ := p
        cases r' with
        | none => exact q2.elim
        | some p' =>
         obtain ⟨j',z⟩ := p'
         simp only [Option.some.injEq] at h
         subst h
         refine ⟨if ok then .tuple #[z,.bool true] else z,?_,by cases ok; exact q2.2.1; exact VR.tup2 q2.2.1 (.bool _)⟩
         unfold Instr.lookup
         rcases hx with ⟨rfl,rfl⟩ | ⟨r,clk,rfl,hr⟩
         ·simp only [Sem.run_bind,run_underlying hd,Result.andThen_ok,hc,hfk,Sem.run_pure]
         ·have hgo : (getObj r).run P w = .ok (.map xs clk) w := by simp [getObj,Sem.run,hr]
          simp only [Sem.run_bind,run_underlying hd,Result.andThen_ok,hgo,hc,hfk,Sem.run_pure]
    ·cases h
end
end Cp
namespace Cp
open Go
def Ci (T : Tab) (k e : Nat) (t : TypeId) (r : Option Val) : Option (Val × Up) :=
 match T t with
 | some { kind := .map _ _,.. } =>
  match r with
  | none => some (.map k e,some (k,some (e,.map e [])))
  | some (.int _ _) => some (.map k e,some (k,some (e,.map e [])))
  | _ => none
 | _ => none
def EC (T : Tab) (H : Hp) (k e : Nat) (t : TypeId) (m : Val) : Option (Val × Up) :=
 match T t,m with
 | some { kind := .map _ _,.. },.map km em =>
  match H km with
  | some (em',.map ver es) => if em = em' ∧ km ≠ k then some (.itr k e,some (k,some (e,.itr km em ver (List.range es.length) none))) else none
  | _ => none
 | some { kind := .map _ _,.. },.nilm => some (.itr k e,some (k,some (e,.nit)))
 | _,_ => none
section
variable {P : Program} {T : Tab} {G : Gh} {w : World} {H : Hp}
theorem NM {k e : Nat} {t : TypeId} {r : Option Val} {x : Option Value} {v : Val} {u : Up} (hT : Ad P T) (hR : HRel G w H) (he : G.N k ≤ e) (hr : OR G w r x) (h : Ci T k e t r = some (v,u)) :
  Does P G w H (Instr.makeMap t x) v u := by
 unfold Ci at h
 cases ht : T t with
 | none => rw [ht] at h; cases h
 | some ti =>
  rw [ht] at h
  obtain ⟨kind,sz,bytes,zero,plain⟩ := ti
  obtain ⟨d,hd,hk⟩ := (hT t _ ht).under
  cases kind <;> simp only at h hk <;> try (cases h; done)
  rename_i kt vt
  rw [C9 hk] at hd
  have fin : (Instr.makeMap t x).run P w = .ok (.map (some w.heap.size)) (w.alloc (.map #[] 0)) → v = .map k e → u = some (k,some (e,.map e [])) → Does P G w H (Instr.makeMap t x) v u := by
   rintro hrun rfl rfl
   refine ⟨_,_,G.lay k w.heap.size 0 e,hrun,Tr.lay hR k 0 e _ _ he,hR.lay he ⟨by simp [Gh.lay],w.heap.size,#[],0,by simp [Gh.lay],World.alloc_heap_new w _,⟨rfl,fun i a v h => by simp at h⟩,by simp,fun x h => by simp at h⟩
    (fun _ _ _ _ _ h => by cases h) (fun ver es h => by cases h; exact Nat.le_refl _),.at rfl rfl,.map _ _ _ (by simp [Gh.lay]) (fun _ => by simp [Gh.lay])⟩
  rcases hr with ⟨rfl,rfl⟩ | ⟨a,b,rfl,rfl,hab⟩
  ·simp only [Option.some.injEq,Prod.mk.injEq] at h
   exact fin (by simp [Instr.makeMap,Sem.run_bind,Result.andThen]) h.1.symm h.2.symm
  ·cases a <;> simp only at h <;> try (cases h; done)
   simp only [Option.some.injEq,Prod.mk.injEq] at h
   cases hab
   exact fin (by simp [Instr.makeMap,Sem.run_bind,Result.andThen,run_underlying hd,asInt,asIntOf]) h.1.symm h.2.symm
theorem HRel.layItr (hR : HRel G w H) {k c e km em ver : Nat} {left : List Nat} {cur : Option Nat} {o : Obj} (he : G.N k ≤ e) (hao : ORel (G.lay k w.heap.size c e) (w.alloc o) k (.itr km em ver left cur))
  (hI : ∀ es,H km = some (em,.map ver es) → km ≠ k → WB (G.lay k w.heap.size c e) (w.alloc o) k km left cur) (hkm : km ≠ k) : HRel (G.lay k w.heap.size c e) (w.alloc o) (upd H k (some (e,.itr km em ver left cur))) := by
 have hE : ∀ k',k' ≠ k → (G.lay k w.heap.size c e).E k' = G.E k' ∧ (G.lay k w.heap.size c e).K k' = G.K k' ∧ (G.lay k w.heap.size c e).C k' = G.C k' := fun k' hk => by
  simp only [Gh.lay]; rw [A0 _ _ hk,A0 _ _ hk,A0 _ _ hk]; exact ⟨rfl,rfl,rfl⟩
 have t := Tr.lay hR k c e o (.itr km em ver left cur) he
 refine hR.turn t rfl (fun k' hk => A0 _ _ hk) hE (fun k' e' o' b hk h1 h2 => Go.RowKit.Below.heap_alloc w o b (hR.lt h1 h2)) (fun e' o' h1 => ?_) (fun k1 e1 km1 em1 ver1 left1 cur1 e' es h1 h2 h3 hc => ?_) (fun e' o' b h1 h2 h3 => ?_) (fun b hb => ?_)
 ·rw [A4] at h1
  cases h1
  exact ⟨by simp [Gh.lay],by simp [Gh.lay],hao⟩
 ·by_cases hk1 : k1 = k
  ·subst hk1
   rw [A4] at h1
   cases h1
   rw [A0 _ _ hkm] at h2
   exact hI es (by rw [h2,h3]) hkm
  ·have hkm1 : km1 = k := hc.resolve_left hk1
   subst hkm1
   rw [A4] at h2
   cases h2
 ·simp only [Gh.lay,A4,Option.some.injEq] at h3
  subst h3
  exact .inl ⟨Nat.le_refl _,by simp⟩
 ·have hI := hR.imm b hb
  refine ⟨by simp; omega,fun ho => ?_⟩
  rcases t.own b ho with ho | ho
  ·exact hI.2 ho
  ·omega
theorem PT {k e : Nat} {t : TypeId} {m v : Val} {x : Value} {u : Up} (hT : Ad P T) (hR : HRel G w H) (he : G.N k ≤ e) (hm : VR G w m x) (h : EC T H k e t m = some (v,u)) :
  Does P G w H (Instr.range t x) v u := by
 unfold EC at h
 cases ht : T t with
 | none => rw [ht] at h; cases h
 | some ti =>
  rw [ht] at h
  obtain ⟨kind,sz,bytes,zero,plain⟩ := ti
  obtain ⟨d,hd,hk⟩ := (hT t _ ht).under
  cases kind <;> simp only at h hk <;> try (cases h; done)
  rename_i kt vt
  rw [C9 hk] at hd
  cases m <;> simp only at h <;> try (cases h; done)
  ·simp only [Option.some.injEq,Prod.mk.injEq] at h
   obtain ⟨rfl,rfl⟩ := h
   cases hm
   have hrun : (Instr.range t (.map none)).run P w = .ok (.pointer (some ⟨w.heap.size,0,none⟩)) (w.alloc (.mapIter none 0 #[] 0)) := by
    simp [Instr.range,Sem.run_bind,run_underlying hd,Result.andThen]
   exact ⟨_,_,G.lay k w.heap.size 0 e,hrun,Tr.lay hR k 0 e _ _ he,hR.lay he ⟨w.heap.size,by simp [Gh.lay],World.alloc_heap_new w _⟩ (fun _ _ _ _ _ h => by cases h) (fun _ _ h => by cases h),.at rfl rfl,
    .itr _ _ _ (by simp [Gh.lay]) (fun _ => ⟨_,by simp [Gh.lay],rfl⟩)⟩
  rename_i km em
  cases hkm : H km with
  | none => rw [hkm] at h; cases h
  | some p =>
   obtain ⟨em',o⟩ := p
   rw [hkm] at h
   cases o <;> simp only at h <;> try (cases h; done)
   rename_i ver es
   split at h
   ·rename_i hc
    obtain ⟨rfl,hne⟩ := hc
    simp only [Option.some.injEq,Prod.mk.injEq] at h
    obtain ⟨rfl,rfl⟩ := h
    obtain ⟨hE,hN,hver,bm,xs,clk,h1,h2,h3,h4,h5⟩ := hR.obj km em _ hkm
    cases hm with
    | map _ _ b' he' hp =>
     have := hp hE
     rw [h1] at this
     cases this
     have hrun : (Instr.range t (.map (some bm))).run P w = .ok (.pointer (some ⟨w.heap.size,0,none⟩)) (w.alloc (.mapIter (some bm) clk #[] clk)) := by
      simp [Instr.range,Sem.run_bind,run_underlying hd,Result.andThen,getObj,Sem.run,h2]
     have hKm : (G.lay k w.heap.size 0 e).K km = some bm := by simp only [Gh.lay]; rw [A0 _ _ hne]; exact h1
     have hbm : bm < w.heap.size := Aj h2
     have hxs : xs.size = es.length := by have := h3.1; simpa using this
     refine ⟨_,_,G.lay k w.heap.size 0 e,hrun,Tr.lay hR k 0 e _ _ he,hR.layItr he ⟨?_,w.heap.size,bm,clk,#[],by simp [Gh.lay],World.alloc_heap_new w _⟩ (fun es' hes' _ => ?_) hne,.at rfl rfl,.itr _ _ _ (by simp [Gh.lay]) (fun _ => ⟨_,by simp [Gh.lay],rfl⟩)⟩
     ·simp only [Gh.lay]; rw [A0 _ _ hne]; exact hver
     ·refine ⟨w.heap.size,bm,clk,#[],xs,by simp [Gh.lay],World.alloc_heap_new w _,hKm,by rw [Go.RowKit.Below.heap_alloc w _ _ hbm]; exact h2,List.nodup_range,fun i x hi => ?_,fun i hi => ?_,fun i hi => (by cases hi),fun s hs => (by simp at hs)⟩
      ·have := (Array.getElem?_eq_some_iff.1 hi).1
       simp; omega
      ·simp at hi; omega
   ·cases h
end
end Cp
namespace Cp
open Go
section
variable {P : Program} {T : Tab} {G : Gh} {w : World} {H : Hp}
theorem Lo (hR : HRel G w H) {k e : Nat} {x : Value} (hx : VR G w (.itr k e) x) (hk : H k = some (e,.nit)) (ty : TypeId) : (Instr.next x false ty).run P w = .ok (.tuple #[.bool false]) w := by
 obtain ⟨hE,hN,b,h1,h2⟩ := hR.obj k e _ hk
 cases hx with
 | itr _ _ a he hp =>
  obtain ⟨b',hb',rfl⟩ := hp hE
  rw [h1] at hb'; cases hb'
  simp [Instr.next,getObj,Sem.run_bind,Sem.run,h2,Result.andThen]
theorem ML (hR : HRel G w H) {k e km em ver : Nat} {left : List Nat} {cur : Option Nat} {es : List (Val × Val)} {x : Value} (hx : VR G w (.itr k e) x) (hk : H k = some (e,.itr km em ver left cur)) (hm : H km = some (em,.map ver es)) (ty : TypeId) :
  (left = [] ∧ (Instr.next x false ty).run P w = .ok (.tuple #[.bool false]) w) ∨
  ∃ i a v,i ∈ left ∧ es[i]? = some (a,v) ∧ ∃ z w',(Instr.next x false ty).run P w = .ok z w' ∧ Tr G H w G (upd H k (some (e,.itr km em ver (left.erase i) (some i)))) w' ∧
   HRel G w' (upd H k (some (e,.itr km em ver (left.erase i) (some i)))) ∧ VR G w' (.tup [.bool true,a,v]) z := by
 obtain ⟨b,bm,clk,seen,xs,i1,i2,i3,i4,hnd,hiff,hlt,hcur,hseen⟩ := hR.itr k e km em ver left cur em es hk hm rfl
 obtain ⟨hE,hN,hver,_⟩ := hR.obj k e _ hk
 obtain ⟨_,_,_,bm',xs',clk',m1,m2,m3,m4,m5⟩ := hR.obj km em _ hm
 rw [i3] at m1; cases m1
 rw [i4] at m2; cases m2
 cases hx with
 | itr _ _ a he hp =>
  obtain ⟨b',hb',rfl⟩ := hp hE
  rw [i1] at hb'; cases hb'
  rcases run_next_at (P := P) w ty b bm clk clk seen xs clk i2 i4 m5 (Nat.le_refl _) with ⟨h0,hrun⟩ | ⟨en,hen,w1,hw1,hrun⟩
  ·left
   refine ⟨?_,hrun⟩
   cases left with
   | nil => rfl
   | cons i l =>
    exfalso
    have hi := hlt i (by simp)
    have hni := (hiff i xs[i] (Array.getElem?_eq_getElem hi)).1 (by simp)
    have : xs[i] ∈ leftOf xs seen := by
     unfold leftOf
     rw [Array.mem_filter]
     refine ⟨by simp,?_⟩
     simpa using hni
    have hs := Array.size_pos_of_mem this
    omega
  ·right
   have hmem : en ∈ xs ∧ ¬ en.born ∈ seen.toList := by
    unfold leftOf at hen
    have := Array.mem_filter.1 (Array.mem_toList_iff.1 hen)
    exact ⟨this.1,by simpa using this.2⟩
   obtain ⟨i,hi⟩ := Array.getElem?_of_mem hmem.1
   have hil : i ∈ left := (hiff i en hi).2 hmem.2
   have hixs := (Array.getElem?_eq_some_iff.1 hi).1
   have hes : i < es.length := by have := m3.1; simp at this; omega
   obtain ⟨⟨a,v⟩,hav⟩ : ∃ p,es[i]? = some p := ⟨es[i],List.getElem?_eq_getElem hes⟩
   obtain ⟨en',r1,r2,r3⟩ := m3.2 i a v hav
   rw [Array.getElem?_toList,hi] at r1
   cases r1
   have hb : b < w.heap.size := Aj i2
   have hne : bm ≠ b := fun e => by subst e; rw [i2] at i4; cases i4
   have hkk : km ≠ k := fun e => by subst e; rw [hm] at hk; cases hk
   let w' := Go.ChangeMaps.setBlock w1 b (.mapIter (some bm) clk (seen.push en.born) clk)
   have hw : w'.os = w.os ∧ (w'.tape = w.tape ∧ w.drawn ≤ w'.drawn) ∧ w'.output = w.output ∧ w'.heap = w.heap.setIfInBounds b (.mapIter (some bm) clk (seen.push en.born) clk) := by
    rcases hw1 with rfl | rfl <;> exact ⟨rfl,⟨rfl,by first | exact Nat.le_refl _ | exact Nat.le_succ _⟩,rfl,rfl⟩
   have hother : ∀ b',b' ≠ b → w'.heap[b']? = w.heap[b']? := fun b' h => by rw [hw.2.2.2,Array.getElem?_setIfInBounds_ne (Ne.symm h)]
   have hself : w'.heap[b]? = some (.mapIter (some bm) clk (seen.push en.born) clk) := by rw [hw.2.2.2]; simp [hb]
   have hsz : w'.heap.size = w.heap.size := by rw [hw.2.2.2]; simp
   have hOwn : ∀ b',Own G (upd H k (some (e,AObj.itr km em ver (left.erase i) (some i)))) b' → Own G H b' := by
    rintro b' ⟨k',e',o',q1,q2,q3⟩
    by_cases hq : k' = k
    ·subst hq; exact ⟨k',e,_,hk,rfl,q3⟩
    ·rw [A0 _ _ hq] at q1; exact ⟨k',e',o',q1,q2,q3⟩
   have t : Tr G H w G (upd H k (some (e,AObj.itr km em ver (left.erase i) (some i)))) w' :=
    ⟨hw.1,hw.2.1,hw.2.2.1,by rw [hsz]; exact Nat.le_refl _,fun b' _ hn => hother b' fun e' => hn (e' ▸ ⟨k,e,_,hk,rfl,i1⟩),fun b' ho => .inl (hOwn b' ho),fun _ h => h,fun _ h => .inl h,fun _ => Nat.le_refl _,fun _ => .inl ⟨rfl,rfl,rfl⟩,[],rfl⟩
   have hR' : HRel G w' (upd H k (some (e,AObj.itr km em ver (left.erase i) (some i)))) := by
    refine hR.turn t rfl (fun k' hq => A0 _ _ hq) (fun _ _ => ⟨rfl,rfl,rfl⟩) (fun k' e' o' b' hq q1 q2 => ?_) (fun e' o' q => ?_) (fun k1 e1 km1 em1 ver1 left1 cur1 e' es' q1 q2 q3 hc => ?_) (fun e' o' b' q1 q2 q3 => .inr ⟨e,_,hk,rfl,q3⟩) (fun b' hI => ⟨by rw [hsz]; exact (hR.imm b' hI).1,fun ho => (hR.imm b' hI).2 (hOwn b' ho)⟩)
    ·refine hother b' fun e2 => ?_
     subst e2
     cases hwn : o'.owned with
     | true => exact hq (hR.inj k' k e' e o' _ b' q1 hk hwn rfl q2 i1)
     | false =>
      cases o' <;> simp [AObj.owned] at hwn
      all_goals exact (hR.imm b' ((hR.obj k' e' _ q1).2.2.2 b' q2)).2 ⟨k,e,_,hk,rfl,i1⟩
    ·rw [A4] at q
     cases q
     exact ⟨hE,hN,hver,b,bm,clk,seen.push en.born,i1,hself⟩
    ·by_cases hk1 : k1 = k
     ·subst hk1
      rw [A4] at q1
      cases q1
      rw [A0 _ _ hkk,hm] at q2
      cases q2
      have hborn : ∀ (j : Nat) (y : MapEntry),xs[j]? = some y → y.born = en.born → j = i := fun j y hj hy => by
       have hjl := (Array.getElem?_eq_some_iff.1 hj).1
       have e1 : (xs.toList.map (·.born))[j]? = some y.born := by simp [hj]
       have e2 : (xs.toList.map (·.born))[i]? = some en.born := by simp [hi]
       rw [hy] at e1
       exact (List.getElem?_inj (by simpa using hjl) m4).1 (e1.trans e2.symm)
      refine ⟨b,bm,clk,seen.push en.born,xs,i1,hself,i3,by rw [hother bm hne]; exact i4,hnd.erase i,fun j y hj => ?_,fun j hj => hlt j (List.mem_of_mem_erase hj),fun j hj => ?_,fun s' hs => ?_⟩
      ·rw [hnd.mem_erase_iff,hiff j y hj]
       simp only [Array.toList_push,List.mem_append,List.mem_singleton,not_or]
       constructor
       ·rintro ⟨h1,h2⟩; exact ⟨h2,fun h3 => h1 (hborn j y hj h3)⟩
       ·rintro ⟨h1,h2⟩; exact ⟨fun h3 => h2 (by subst h3; rw [hi] at hj; cases hj; rfl),h1⟩
      ·cases hj
       exact ⟨en,hi,by simp⟩
      ·simp only [Array.toList_push,List.mem_append,List.mem_singleton] at hs
       rcases hs with hs | rfl
       ·exact hseen s' hs
       ·exact m5 en (Array.mem_toList_iff.2 hmem.1)
     ·have hkm1 := hc.resolve_left hk1
      subst hkm1
      rw [A4] at q2
      cases q2
   refine ⟨i,a,v,hil,hav,_,w',hrun,t,hR',?_⟩
   refine .tup _ _ rfl (fun j c hj => ?_)
   match j with
   | 0 => cases hj; exact .bool _
   | 1 => cases hj; exact r2.mono hR.imm t
   | 2 => cases hj; exact r3.mono hR.imm t
   | j + 3 => simp at hj
end
end Cp
namespace Cp
open Go
def AJ (T : Tab) (H : Hp) (ep : Nat → Nat) (t : TypeId) (m key v : Val) : Option Up :=
 match T t,m with
 | some { kind := .map kt _,.. },.map k em =>
  match T kt,H k with
  | some ki,some (em',.map _ es) =>
   if em = em' ∧ xck T 8 ki key = true then
    match B3 T kt key es 0 with
    | none => none
    | some none => some (some (k,some (em,.map (ep k) (es ++ [(key,v)]))))
    | some (some (i,_)) => some (some (k,some (em,.map (ep k) (es.set i (key,v)))))
   else none
  | _,_ => none
 | _,_ => none
section
variable {P : Program} {T : Tab} {G : Gh} {w w' : World} {H : Hp}
theorem HRel.remap (hR : HRel G w H) {k b em ver ver' : Nat} {es es' : List (Val × Val)} (hk : H k = some (em,.map ver es)) (hb : G.K k = some b) (hv : G.N k ≤ ver')
  (h1 : w'.os = w.os) (h2 : w'.tape = w.tape ∧ w.drawn ≤ w'.drawn) (h3 : w'.output = w.output) (h4 : w'.heap.size = w.heap.size) (h5 : ∀ b',b' ≠ b → w'.heap[b']? = w.heap[b']?)
  (hao : Tr G H w { G with N := upd G.N k (ver' + 1) } (upd H k (some (em,.map ver' es'))) w' → ORel { G with N := upd G.N k (ver' + 1) } w' k (.map ver' es')) :
  Tr G H w { G with N := upd G.N k (ver' + 1) } (upd H k (some (em,.map ver' es'))) w' ∧ HRel { G with N := upd G.N k (ver' + 1) } w' (upd H k (some (em,.map ver' es'))) := by
 obtain ⟨hE,hN,hver,_⟩ := hR.obj k em _ hk
 have hOwn : ∀ b',Own { G with N := upd G.N k (ver' + 1) } (upd H k (some (em,.map ver' es'))) b' → Own G H b' := by
  rintro b' ⟨k',e',o',q1,q2,q3⟩
  by_cases hq : k' = k
  ·subst hq; exact ⟨k',em,_,hk,rfl,q3⟩
  ·rw [A0 _ _ hq] at q1; exact ⟨k',e',o',q1,q2,q3⟩
 have hNle : ∀ k',G.N k' ≤ (upd G.N k (ver' + 1)) k' := fun k' => by
  by_cases hq : k' = k
  ·subst hq; rw [A4]; omega
  ·rw [A0 _ _ hq]; exact Nat.le_refl _
 have t : Tr G H w { G with N := upd G.N k (ver' + 1) } (upd H k (some (em,.map ver' es'))) w' :=
  ⟨h1,h2,h3,by rw [h4]; exact Nat.le_refl _,fun b' _ hn => h5 b' fun e' => hn (e' ▸ ⟨k,em,_,hk,rfl,hb⟩),fun b' ho => .inl (hOwn b' ho),fun _ h => h,fun _ h => .inl h,hNle,fun _ => .inl ⟨rfl,rfl,rfl⟩,[],rfl⟩
 refine ⟨t,hR.turn t rfl (fun k' hq => A0 _ _ hq) (fun _ _ => ⟨rfl,rfl,rfl⟩) (fun k' e' o' b' hq q1 q2 => ?_) (fun e' o' q => ?_) (fun k1 e1 km1 em1 ver1 left1 cur1 e' es2 q1 q2 q3 hc => ?_) (fun e' o' b' q1 q2 q3 => .inr ⟨em,_,hk,rfl,q3⟩) (fun b' hI => ⟨by rw [h4]; exact (hR.imm b' hI).1,fun ho => (hR.imm b' hI).2 (hOwn b' ho)⟩)⟩
 ·refine h5 b' fun e2 => ?_
  subst e2
  cases hwn : o'.owned with
  | true => exact hq (hR.inj k' k e' em o' _ b' q1 hk hwn rfl q2 hb)
  | false =>
   cases o' <;> simp [AObj.owned] at hwn
   all_goals exact (hR.imm b' ((hR.obj k' e' _ q1).2.2.2 b' q2)).2 ⟨k,em,_,hk,rfl,hb⟩
 ·rw [A4] at q
  cases q
  exact ⟨hE,Nat.lt_of_lt_of_le hN (hNle k),hao t⟩
 ·exfalso
  by_cases hk1 : k1 = k
  ·subst hk1; rw [A4] at q1; cases q1
  ·have hkm := hc.resolve_left hk1
   subst hkm
   rw [A0 _ _ hk1] at q1
   rw [A4] at q2
   cases q2
   have h6 := (hR.obj k1 e1 _ q1).2.2.1
   omega
theorem MT {x y : Val} {a b : Value} (h : keq x y = true) (hc : x.cell = true) (hx : VR G w x a) (hy : VR G w y b) (n : Nat) : Instr.sameBits n b a = true := by
 cases x <;> cases y <;> simp only [keq] at h <;> try (cases h; done)
 ·simp only [Bool.and_eq_true,beq_iff_eq] at h
  obtain ⟨rfl,rfl⟩ := h
  cases hx; cases hy
  cases n <;> simp [Instr.sameBits]
 ·simp only [beq_iff_eq] at h
  subst h
  cases hx; cases hy
  cases n <;> simp [Instr.sameBits]
 ·simp only [decide_eq_true_eq] at h
  subst h
  cases hx; cases hy
  cases n <;> simp [Instr.sameBits,Go.beq_toListBytes]
 ·cases hc
theorem keqs_get : ∀ {xs ys : List Val},keqs xs ys = true → xs.length = ys.length ∧ ∀ (i : Nat) (x y : Val),xs[i]? = some x → ys[i]? = some y → keq x y = true
 | [],[],_ => ⟨rfl,fun i x y h => by simp at h⟩
 | [],_ :: _,h => by simp [keqs] at h
 | _ :: _,[],h => by simp [keqs] at h
 | x :: xs,y :: ys,h => by
  simp only [keqs,Bool.and_eq_true] at h
  obtain ⟨h1,h2⟩ := keqs_get h.2
  refine ⟨by simp [h1],fun i a b ha hb => ?_⟩
  cases i with
  | zero => cases ha; cases hb; exact h.1
  | succ i => exact h2 i a b (by simpa using ha) (by simpa using hb)
theorem S2 {x y : Val} {a b : Value} (h : keq x y = true) (hx : VR G w x a) (hy : VR G w y b) (n : Nat) : Instr.sameBits (n + 1) b a = true := by
 by_cases hc : x.cell = true
 ·exact MT h hc hx hy _
 ·cases x <;> cases y <;> simp only [keq] at h <;> try (cases h; done)
  ·exact absurd rfl hc
  ·exact absurd rfl hc
  ·exact absurd rfl hc
  ·rename_i xs ys
   obtain ⟨as,rfl,s1,c1,v1⟩ := Ed hx
   obtain ⟨bs,rfl,s2,c2,v2⟩ := Ed hy
   obtain ⟨k1,k2⟩ := keqs_get h
   simp only [Instr.sameBits,Bool.and_eq_true,beq_iff_eq]
   refine ⟨by omega,List.all_eq_true.2 fun p hp => ?_⟩
   obtain ⟨i,hi⟩ := List.getElem?_of_mem hp
   rw [List.getElem?_zip_eq_some] at hi
   obtain ⟨hi1,hi2⟩ := hi
   rw [Array.getElem?_toList] at hi1 hi2
   have hil := (Array.getElem?_eq_some_iff.1 hi2).1
   have hxi : xs[i]? = some xs[i] := List.getElem?_eq_getElem (by omega)
   have hyi : ys[i]? = some ys[i] := List.getElem?_eq_getElem (by omega)
   have e1 := v1 i _ hxi
   have e2 := v2 i _ hyi
   rw [Array.getD_eq_getD_getElem?,hi2] at e1
   rw [Array.getD_eq_getD_getElem?,hi1] at e2
   exact MT (k2 i _ _ hxi hyi) (c1 i _ hxi) e1 e2 n
theorem Gj {ep : Nat → Nat} {t : TypeId} {m key v : Val} {x y z : Value} {u : Up} (hT : Ad P T) (hR : HRel G w H) (hep : ∀ k,G.N k ≤ ep k) (hm : VR G w m x) (hk : VR G w key y) (hv : VR G w v z) (h : AJ T H ep t m key v = some u) :
  ∃ w' G',(Instr.mapUpdate t x y z).run P w = .ok () w' ∧ Tr G H w G' (app H u) w' ∧ HRel G' w' (app H u) ∧ GD G G' u := by
 unfold AJ at h
 cases ht : T t with
 | none => rw [ht] at h; cases h
 | some ti =>
  rw [ht] at h
  obtain ⟨kind,sz,bytes,zero,plain⟩ := ti
  obtain ⟨d,hd,hkd⟩ := (hT t _ ht).under
  cases kind <;> simp only at h hkd <;> try (cases h; done)
  rename_i kt vt
  rw [C9 hkd] at hd
  cases m <;> simp only at h <;> try (cases h; done)
  rename_i k em
  cases hkt : T kt with
  | none => rw [hkt] at h; cases h
  | some ki =>
   cases hH : H k with
   | none => rw [hkt,hH] at h; cases h
   | some p =>
    obtain ⟨em',o⟩ := p
    rw [hkt,hH] at h
    cases o <;> simp only at h <;> try (cases h; done)
    rename_i ver es
    split at h
    ·rename_i hc
     obtain ⟨rfl,hck⟩ := hc
     obtain ⟨hE,hN,hver,b,xs,clk,h1,h2,h3,h4,h5⟩ := hR.obj k em _ hH
     obtain ⟨dk,hdk,_⟩ := (hT kt _ hkt).under
     have hcr := Mr (P := P) hT false 8 10000 kt ki key y hkt (by omega) hk hck
     have hb : b < w.heap.size := Aj h2
     have hxs : xs.size = es.length := by have := h3.1; simpa using this
     cases hm with
     | map _ _ b' he' hp =>
      have := hp hE
      rw [h1] at this
      cases this
      have hgo : (getObj b).run P w = .ok (.map xs clk) w := by simp [getObj,Sem.run,h2]
      have hso : ∀ o,(setObj b o).run P w = .ok () (w.putObj b o) := fun o => by simp [setObj,Sem.run,h2,World.putObj]
      cases hf : B3 T kt key es 0 with
      | none => rw [hf] at h; cases h
      | some r =>
       rw [hf] at h
       obtain ⟨r',q1,q2⟩ := GU hT hk es xs.toList 0 r h3 hf
       have hfk := GB hdk q1
       cases r with
       | none =>
        cases r' with
        | some _ => exact q2.elim
        | none =>
         cases h
         have hrun : (Instr.mapUpdate t (.map (some b)) y z).run P w = .ok () (w.putObj b (.map (xs.push { key := y,val := z,born := clk }) (clk + 1))) := by
          unfold Instr.mapUpdate
          simp only [Sem.run_bind,run_underlying hd,Result.andThen_ok,hgo,hcr,hfk,hso]
         refine ⟨_,{ G with N := upd G.N k (ep k + 1) },hrun,?_⟩
         have rem := fun hao => hR.remap (w' := w.putObj b (.map (xs.push { key := y,val := z,born := clk }) (clk + 1))) (ver' := ep k) (es' := es ++ [(key,v)]) hH h1 (hep k) rfl ⟨rfl,Nat.le_refl _⟩ rfl World.putObj_size (fun b' hb' => World.putObj_heap_other hb')
          hao
         refine (fun hh => ⟨(rem hh).1,(rem hh).2,.ver rfl rfl⟩) (fun t => ?_)
         refine ⟨by simp,b,_,_,h1,World.putObj_heap_same hb,⟨by simp [hxs],fun i a c hi => ?_⟩,?_,?_⟩
         ·rw [Array.toList_push]
          by_cases hil : i < es.length
          ·rw [List.getElem?_append_left hil] at hi
           rw [List.getElem?_append_left (by simp; omega)]
           obtain ⟨e',r1,r2,r3⟩ := h3.2 i a c hi
           exact ⟨e',r1,r2.mono hR.imm t,r3.mono hR.imm t⟩
          ·have hie : i = es.length := by
            have := (List.getElem?_eq_some_iff.1 hi).1
            simp at this; omega
           subst hie
           simp at hi
           obtain ⟨rfl,rfl⟩ := hi
           exact ⟨{ key := y,val := z,born := clk },by rw [List.getElem?_append_right (by simp; omega)]; simp [hxs],hk.mono hR.imm t,hv.mono hR.imm t⟩
         ·simp only [Array.toList_push,List.map_append,List.map_cons,List.map_nil]
          refine List.nodup_append.2 ⟨h4,by simp,fun a ha b' hb' => ?_⟩
          simp at hb'
          subst hb'
          obtain ⟨e',he1,rfl⟩ := List.mem_map.1 ha
          have := h5 e' he1
          omega
         ·intro e' he1
          simp only [Array.toList_push,List.mem_append,List.mem_singleton] at he1
          rcases he1 with he1 | rfl
          ·have := h5 e' he1; omega
          ·simp
       | some p =>
        obtain ⟨j,c⟩ := p
        cases r' with
        | none => exact q2.elim
        | some p' =>
         obtain ⟨j',xv⟩ := p'
         obtain ⟨rfl,z2,_,a',e',z4,z5,z6,z7,z8⟩ := q2
         simp only [Nat.sub_zero] at z4 z5
         cases h
         have hxj : xs[j]? = some e' := by rw [← Array.getElem?_toList]; exact z5
         have hks : (Instr.keyThatStays (((xs[j]?).map (·.key)).getD y) y).run P w = .ok y w := by
          rw [hxj]
          simp only [Option.map_some,Option.getD_some,Instr.keyThatStays,S2 z7 hk z8 9999,if_true,Sem.run_pure]
         have hrun : (Instr.mapUpdate t (.map (some b)) y z).run P w = .ok () (w.putObj b (.map (xs.modify j fun e => { e with key := y,val := z }) clk)) := by
          unfold Instr.mapUpdate
          simp only [Sem.run_bind,run_underlying hd,Result.andThen_ok,hgo,hcr,hfk,hks,hso]
         refine ⟨_,{ G with N := upd G.N k (ep k + 1) },hrun,?_⟩
         have rem := fun hao => hR.remap (w' := w.putObj b (.map (xs.modify j fun e => { e with key := y,val := z }) clk)) (ver' := ep k) (es' := es.set j (key,v)) hH h1 (hep k) rfl ⟨rfl,Nat.le_refl _⟩ rfl World.putObj_size (fun b' hb' => World.putObj_heap_other hb') hao
         refine (fun hh => ⟨(rem hh).1,(rem hh).2,.ver rfl rfl⟩) (fun tt => ?_)
         have hborn : (xs.modify j fun e => { e with key := y,val := z }).toList.map (·.born) = xs.toList.map (·.born) := by
          rw [Array.toList_modify]
          refine List.ext_getElem? fun i => ?_
          simp only [List.getElem?_map,List.getElem?_modify]
          cases xs.toList[i]? with
          | none => rfl
          | some e0 => simp only [Option.map_some,Option.map_eq_map]; split <;> rfl
         refine ⟨by simp,b,_,_,h1,World.putObj_heap_same hb,⟨by simp [hxs],fun i a c hi => ?_⟩,by rw [hborn]; exact h4,fun e0 he0 => ?_⟩
         ·rw [List.getElem?_set] at hi
          rw [Array.toList_modify,List.getElem?_modify]
          by_cases hij : j = i
          ·subst hij
           rw [if_pos rfl] at hi
           split at hi
           ·cases hi
            rw [z5]
            exact ⟨{ e' with key := y,val := z },by simp,hk.mono hR.imm tt,hv.mono hR.imm tt⟩
           ·cases hi
          ·rw [if_neg hij] at hi
           obtain ⟨e0,r1,r2,r3⟩ := h3.2 i a c hi
           rw [r1]
           exact ⟨e0,by simp [hij],r2.mono hR.imm tt,r3.mono hR.imm tt⟩
         ·have hm0 : e0.born ∈ (xs.modify j fun e => { e with key := y,val := z }).toList.map (·.born) := List.mem_map.2 ⟨e0,he0,rfl⟩
          rw [hborn] at hm0
          obtain ⟨e1,he1,he2⟩ := List.mem_map.1 hm0
          rw [← he2]
          exact h5 e1 he1
    ·cases h
end
end Cp
namespace Cp
open Go
def E6 (T : Tab) (H : Hp) (ep : Nat → Nat) (t : TypeId) (m key : Val) : Option Up :=
 match T t,m with
 | some { kind := .map kt _,.. },.map k em =>
  match T kt,H k with
  | some ki,some (em',.map _ es) =>
   if em = em' ∧ xck T 8 ki key = true then
    match B3 T kt key es 0 with
    | none => none
    | some none => some (some (k,some (em,.map (ep k) es)))
    | some (some (i,_)) => some (some (k,some (em,.map (ep k) (es.eraseIdx i))))
   else none
  | _,_ => none
 | _,_ => none
section
variable {P : Program} {T : Tab} {G : Gh} {w w' : World} {H : Hp}
theorem Od {ep : Nat → Nat} {t t2 ty : TypeId} {m key : Val} {x y : Value} {u : Up} (hT : Ad P T) (hR : HRel G w H) (hep : ∀ k,G.N k ≤ ep k) (hm : VR G w m x) (hk : VR G w key y) (h : E6 T H ep t m key = some u) :
  ∃ w' G',(Builtin.delete_ #[t,t2] ty #[x,y]).run P w = .ok (.tuple #[]) w' ∧ Tr G H w G' (app H u) w' ∧ HRel G' w' (app H u) ∧ GD G G' u := by
 unfold E6 at h
 cases ht : T t with
 | none => rw [ht] at h; cases h
 | some ti =>
  rw [ht] at h
  obtain ⟨kind,sz,bytes,zero,plain⟩ := ti
  obtain ⟨d,hd,hkd⟩ := (hT t _ ht).under
  cases kind <;> simp only at h hkd <;> try (cases h; done)
  rename_i kt vt
  rw [C9 hkd] at hd
  cases m <;> simp only at h <;> try (cases h; done)
  rename_i k em
  cases hkt : T kt with
  | none => rw [hkt] at h; cases h
  | some ki =>
   cases hH : H k with
   | none => rw [hkt,hH] at h; cases h
   | some p =>
    obtain ⟨em',o⟩ := p
    rw [hkt,hH] at h
    cases o <;> simp only at h <;> try (cases h; done)
    rename_i ver es
    split at h
    ·rename_i hc
     obtain ⟨rfl,hck⟩ := hc
     obtain ⟨hE,hN,hver,b,xs,clk,h1,h2,h3,h4,h5⟩ := hR.obj k em _ hH
     obtain ⟨dk,hdk,_⟩ := (hT kt _ hkt).under
     have hcr := fun em => Mr (P := P) hT em 8 10000 kt ki key y hkt (by omega) hk hck
     have hb : b < w.heap.size := Aj h2
     have hxs : xs.size = es.length := by have := h3.1; simpa using this
     cases hm with
     | map _ _ b' he' hp =>
      have := hp hE
      rw [h1] at this
      cases this
      have hgo : (getObj b).run P w = .ok (.map xs clk) w := by simp [getObj,Sem.run,h2]
      have hso : ∀ o,(setObj b o).run P w = .ok () (w.putObj b o) := fun o => by simp [setObj,Sem.run,h2,World.putObj]
      cases hf : B3 T kt key es 0 with
      | none => rw [hf] at h; cases h
      | some r =>
       rw [hf] at h
       obtain ⟨r',q1,q2⟩ := GU hT hk es xs.toList 0 r h3 hf
       have hfk := GB hdk q1
       cases r with
       | none =>
        cases r' with
        | some _ => exact q2.elim
        | none =>
         cases h
         have hrun : (Builtin.delete_ #[t,t2] ty #[.map (some b),y]).run P w = .ok (.tuple #[]) (w.putObj b (.map xs clk)) := by
          simp [Builtin.delete_,Sem.run_bind,run_underlying hd,hgo,hcr,hfk,hso,Result.andThen]
         refine ⟨_,{ G with N := upd G.N k (ep k + 1) },hrun,?_⟩
         have rem := fun hao => hR.remap (w' := w.putObj b (.map xs clk)) (ver' := ep k) (es' := es) hH h1 (hep k) rfl ⟨rfl,Nat.le_refl _⟩ rfl World.putObj_size (fun b' hb' => World.putObj_heap_other hb') hao
         refine (fun hh => ⟨(rem hh).1,(rem hh).2,.ver rfl rfl⟩) (fun tt => ?_)
         exact ⟨by simp,b,_,_,h1,World.putObj_heap_same hb,h3.mono hR.imm tt,h4,h5⟩
       | some p =>
        obtain ⟨j,c⟩ := p
        cases r' with
        | none => exact q2.elim
        | some p' =>
         obtain ⟨j',xv⟩ := p'
         obtain ⟨rfl,z2,_,a',e',z4,z5,_⟩ := q2
         cases h
         have hrun : (Builtin.delete_ #[t,t2] ty #[.map (some b),y]).run P w = .ok (.tuple #[]) (w.putObj b (.map (xs.eraseIdxIfInBounds j) clk)) := by
          simp [Builtin.delete_,Sem.run_bind,run_underlying hd,hgo,hcr,hfk,hso,Result.andThen]
         refine ⟨_,{ G with N := upd G.N k (ep k + 1) },hrun,?_⟩
         have rem := fun hao => hR.remap (w' := w.putObj b (.map (xs.eraseIdxIfInBounds j) clk)) (ver' := ep k) (es' := es.eraseIdx j) hH h1 (hep k) rfl ⟨rfl,Nat.le_refl _⟩ rfl World.putObj_size (fun b' hb' => World.putObj_heap_other hb') hao
         refine (fun hh => ⟨(rem hh).1,(rem hh).2,.ver rfl rfl⟩) (fun tt => ?_)
         have hl : (xs.eraseIdxIfInBounds j).toList = xs.toList.eraseIdx j := by simp
         refine ⟨by simp,b,_,_,h1,World.putObj_heap_same hb,?_,?_,?_⟩
         ·rw [hl]
          refine ⟨by simp [List.length_eraseIdx,hxs],fun i a c hi => ?_⟩
          rw [List.getElem?_eraseIdx] at hi ⊢
          split at hi
          ·rename_i hlt
           rw [if_pos hlt]
           obtain ⟨e0,r1,r2,r3⟩ := h3.2 i a c hi
           exact ⟨e0,r1,r2.mono hR.imm tt,r3.mono hR.imm tt⟩
          ·rename_i hlt
           rw [if_neg hlt]
           obtain ⟨e0,r1,r2,r3⟩ := h3.2 (i + 1) a c hi
           exact ⟨e0,r1,r2.mono hR.imm tt,r3.mono hR.imm tt⟩
         ·rw [hl]
          exact h4.sublist ((List.eraseIdx_sublist _ _).map _)
         ·rw [hl]
          exact fun e0 he0 => h5 e0 ((List.eraseIdx_sublist _ _).subset he0)
    ·cases h
end
end Cp
namespace Cp
open Go
def evG (g : Nat) : Val := match GE g with | some cs => .pim cs | none => .any
def ev (f : Fr) : Operand → Val
 | .tmp t => f t
 | .const v => absV v
 | .func g => .fn g []
 | .global g => evG g
def isC : Operand → Bool
 | .const _ => true
 | _ => false
def Gt (c : Val) (a b : Val) : Option Val :=
 match c with
 | .bool c =>
  match a,b with
  | .bool x,.bool y => some (.bool (if c then x else y))
  | _,_ => some (if c then a else b)
 | _ => none
def Za (op : BinOp) (a b : ByteArray) : Option Val :=
 match op with
 | .eql => some (.bool (decide (a = b)))
 | .neq => some (.bool (!decide (a = b)))
 | .add => if a.size + b.size ≤ 1073741824 then some (.str (a ++ b)) else none
 | _ => none
def B1 (T : Tab) (op : BinOp) (t : TypeId) (o1 o2 : Operand) (x y : Val) : Option Val :=
 match x,y with
 | .int k a,.int k' b =>
  match op with
  | .shl => M6 .shl k a b
  | .shr => M6 .shr k a b
  | _ => if k = k' then FL op k a b else none
 | .str a,.str b => Za op a b
 | .nili,.nili => if isC o1 || isC o2 then (match xeq T t .nili .nili with | none => none | some r => match op with | .eql => some (.bool r) | .neq => some (.bool (!r)) | _ => none) else none
 | x,y =>
  match xeq T t x y with
  | none => none
  | some r => match op with | .eql => some (.bool r) | .neq => some (.bool (!r)) | _ => none
def CL (fn : Fn) (first captured : List Val) : Option Val :=
 match fn,first with
 | .func f,[] => some (.fn f captured)
 | _,_ => none
def Ba (T : Tab) (H : Hp) (own : Bool) (k0 : Nat) (ep : Nat → Nat) (b : Builtin) (ts : List TypeId) (args : List Val) : Option (Val × Up) :=
 match b with
 | .append => match ts,args with | [t,tx],[s,x] => AF T H own k0 ep t tx s x | _,_ => none
 | .len => match ts,args with | [t],[x] => (Gp T H t x).map (·,none) | _,_ => none
 | .max => (xminmax true args).map (·,none)
 | .min => (xminmax false args).map (·,none)
 | _ => none
def Bw (H : Hp) (k : Nat) (r : Option (Val × Up)) : Option (Val × Up) := match H k with | none => r | some _ => none
def KR (T : Tab) (H : Hp) (own : Bool) (k0 : Nat) (ep : Nat → Nat) (b : Builtin) (ts : List TypeId) (args : List Val) : Option (Val × Up) :=
 match b with
 | .delete => match ts,args with | [t,_],[m,key] => (E6 T H ep t m key).map (.tup [],·) | _,_ => none
 | b =>
  match Ba T H own k0 ep b ts args with
  | some (v,none) => some (v,none)
  | some (v,some u) => if own then some (v,some u) else none
  | none => none
def xop (T : Tab) (md : Md) (ep : Nat → Nat) (f : Fr) (H : Hp) (o : Oper) : Option (Val × Up) :=
 let d := o.dst.getD 0
 let k := md.base + d
 let own := md.own.contains d
 match o.op with
 | .move x => some (ev f x,none)
 | .assign x =>
  if own then
   match ev f x,T o.type with
   | .nils,some { kind := .slice et,.. } => match T et with | some ei => if isC x then Bw H k (some (.gr k (ep k) 0,some (k,some (ep k,.arr ei.sz [])))) else none | none => none
   | _,_ => none
  else some (ev f x,none)
 | .pick c a b => (Gt (ev f c) (ev f a) (ev f b)).map (·,none)
 | .alloc t => Bw H k (Fy T k (ep k) t)
 | .box _ x => if own then Bw H k (Fp true k (ep k) (ev f x)) else Fp false k (ep k) (ev f x)
 | .build t ps => (Fk T t (ps.toList.map fun p => (p.1,ev f p.2))).map (·,none)
 | .buildSlice t n ps => if own then Bw H k (Al T true k (ep k) t n (ps.toList.map fun p => (p.1,ev f p.2))) else Al T false k (ep k) t n (ps.toList.map fun p => (p.1,ev f p.2))
 | .makeSlice t l c => Bw H k (CT T k (ep k) t (ev f l) (ev f c))
 | .load t a => (Cg T H t (ev f a)).map (·,none)
 | .store t a x => (Dd T H t (ev f a) (ev f x)).map (.any,·)
 | .nilCheck x => (xnilCheck (ev f x)).map (·,none)
 | .binOp op t x y _ => (B1 T op t x y (ev f x) (ev f y)).map (·,none)
 | .unOp op _ x => (Ji op (ev f x)).map (·,none)
 | .convert s t x => (D1 T s t (ev f x)).map (·,none)
 | .makeInterface t x => (B6 T t (ev f x)).map (·,none)
 | .makeFunc fn first caps => (CL fn (first.toList.map (ev f)) (caps.toList.map (ev f))).map (·,none)
 | .slice t x lo hi mx => (DT T H t (ev f x) (lo.map (ev f)) (hi.map (ev f)) (mx.map (ev f))).map (·,none)
 | .fieldAddr s x i => (C6 T s (ev f x) i).map (·,none)
 | .field t x i => (IZ T t (ev f x) i).map (·,none)
 | .indexAddr t x i => (AL T H t (ev f x) (ev f i)).map (·,none)
 | .index t x i => (IP T t (ev f x) (ev f i)).map (·,none)
 | .typeAssert x _ t ok => (BG T (ev f x) t ok).map (·,none)
 | .extract x i => (DB (ev f x) i).map (·,none)
 | .makeMap t r => Bw H k (Ci T k (ep k) t (r.map (ev f)))
 | .lookup t m key ok => (BI T H t (ev f m) (ev f key) ok).map (·,none)
 | .mapUpdate t m key x => (AJ T H ep t (ev f m) (ev f key) (ev f x)).map (.any,·)
 | .insert t m key x => (AJ T H ep t (ev f m) (ev f key) (ev f x)).map (.any,·)
 | .range t m => Bw H k (EC T H k (ep k) t (ev f m))
 | .call { callee := .builtin b,args,argTypes } => KR T H own k ep b argTypes.toList (args.toList.map (ev f))
 | _ => none
section
variable {P : Program} {T : Tab} {G G' : Gh} {w w' : World} {H H' : Hp} {f : Fr} {ρ : Operand → Value}
def Res (P : Program) (G : Gh) (w : World) (H : Hp) (s : Sem Next) (v : Val) (u : Up) : Prop :=
 ∃ nx x w' G',s.run P w = .ok nx w' ∧ (nx = .value x ∨ nx = .skip ∧ x = undef) ∧ Tr G H w G' (app H u) w' ∧ HRel G' w' (app H u) ∧ GD G G' u ∧ VR G' w' v x
theorem Does.res {s : Sem Value} {v : Val} {u : Up} (h : Does P G w H s v u) : Res P G w H (do Pure.pure (Next.value (← s))) v u := by
 obtain ⟨x,w',G',h1,h2,h3,h4,h5⟩ := h
 exact ⟨.value x,x,w',G',by simp [Sem.run_bind,h1,Result.andThen],.inl rfl,h2,h3,h4,h5⟩
theorem Res.pure (hR : HRel G w H) {s : Sem Value} {v : Val} {x : Value} (h : s.run P w = .ok x w) (hv : VR G w v x) : Res P G w H (do Pure.pure (Next.value (← s))) v none :=
 (Does.pure hR h hv).res
theorem Res.ex (hR : HRel G w H) {s : Sem Value} {v : Val} (h : ∃ x,s.run P w = .ok x w ∧ VR G w v x) : Res P G w H (do Pure.pure (Next.value (← s))) v none := by
 obtain ⟨x,h1,h2⟩ := h
 exact Res.pure hR h1 h2
def ER1 (G : Gh) (w : World) (f : Fr) (ρ : Operand → Value) : Prop := ∀ x,VR G w (ev f x) (ρ x)
theorem Vi {ps : List (Nat × Operand)} (hv : ER1 G w f ρ) : PR G w (ps.map fun p => (p.1,ev f p.2)) (ps.map fun p => (p.1,ρ p.2)) := by
 refine ⟨by simp,fun j i v hp => ?_⟩
 rw [List.getElem?_map,Option.map_eq_some_iff] at hp
 obtain ⟨a,ha,h⟩ := hp
 cases h
 exact ⟨ρ a.2,by simp [ha],hv _⟩
theorem Pg (hv : ER1 G w f ρ) (x : Option Operand) : OR G w (x.map (ev f)) (x.map ρ) := by
 cases x with
 | none => exact .inl ⟨rfl,rfl⟩
 | some x => exact .inr ⟨_,_,rfl,rfl,hv x⟩
theorem map_none {r : Option Val} {v : Val} {u : Up} (h : r.map (fun v => ((v,none) : Val × Up)) = some (v,u)) : r = some v ∧ u = none := by
 cases r with
 | none => cases h
 | some a => cases h; exact ⟨rfl,rfl⟩
theorem C3 {k : Nat} {r : Option (Val × Up)} {p : Val × Up} (h : Bw H k r = some p) : H k = none ∧ r = some p := by
 unfold Bw at h
 cases hk : H k with
 | none => rw [hk] at h; exact ⟨rfl,h⟩
 | some _ => rw [hk] at h; cases h
theorem Mj {op : BinOp} {t : TypeId} {x y : Operand} {a b : Value} (h1 : ¬ (a = .nilIface ∧ b = .nilIface) ∨ isC x = true ∨ isC y = true) (h2 : ∀ xs ys,a = .agg xs → b = .agg ys → P.eqGuardType P.depth t = false) :
  (eqGuard op t x y a b).run P w = .ok () w := by
 by_cases ha : ∃ xs ys,a = .agg xs ∧ b = .agg ys
 ·obtain ⟨xs,ys,rfl,rfl⟩ := ha
  exact Go.run_eqGuard_agg w op t x y xs ys (h2 xs ys rfl rfl)
 ·by_cases hn : a = .nilIface ∧ b = .nilIface
  ·obtain ⟨rfl,rfl⟩ := hn
   have h := h1.resolve_left (fun h => h ⟨rfl,rfl⟩)
   cases op <;> try rfl
   all_goals
    cases x <;> cases y <;> first | rfl | (rcases h with h | h <;> cases h)
  ·cases op <;> simp only [eqGuard,Sem.run_bind,Result.andThen] <;> try rfl
   all_goals
    cases a <;> cases b <;> first | rfl | exact absurd ⟨rfl,rfl⟩ hn | exact absurd ⟨_,_,rfl,rfl⟩ ha
end
end Cp
namespace Cp
open Go
def plainV : Value → Bool
 | .int .. | .float .. | .complex .. | .string .. => false
 | _ => true
section
variable {P : Program} {T : Tab} {G G' : Gh} {w w' : World} {H H' : Hp} {f : Fr} {ρ : Operand → Value}
theorem V5 {t : TypeId} {a b : Value} {r : Bool} (h : plainV a = true ∨ plainV b = true) (he : (Op.equal t a b).run P w = .ok r w) : (binOp .eql t a b).run P w = .ok (.bool r) w := by
 have : binOp .eql t a b = (do pure (.bool (← Op.equal t a b)) : Sem Value) := by
  cases a <;> cases b <;> first | rfl | (rcases h with h | h <;> cases h)
 rw [this]
 simp [Sem.run_bind,he,Result.andThen]
theorem TU {t : TypeId} {a b : Value} {r : Bool} (h : plainV a = true ∨ plainV b = true) (he : (Op.equal t a b).run P w = .ok r w) : (binOp .neq t a b).run P w = .ok (.bool (!r)) w := by
 have : binOp .neq t a b = (do pure (.bool (!(← Op.equal t a b))) : Sem Value) := by
  cases a <;> cases b <;> first | rfl | (rcases h with h | h <;> cases h)
 rw [this]
 simp [Sem.run_bind,he,Result.andThen]
theorem Qt {t : TypeId} {x y : Val} {r : Bool} (hT : Ad P T) (h : xeq T t x y = some r) : x ≠ .any ∧ y ≠ .any ∧ ((∃ k n,x = .int k n) → ∃ k n,y = .int k n) ∧ ((∃ s,x = .str s) → ∃ s,y = .str s) ∧
    (∀ xs ys,x = .agg xs → y = .agg ys → P.eqGuardType P.depth t = false) := by
  unfold xeq at h
  cases ht : T t with
  | none => rw [ht] at h; cases h
  | some ti =>
    rw [ht] at h
    have hp := (hT t ti ht).plain
    obtain ⟨kind,sz,bytes,zero,plain⟩ := ti
    cases kind <;> cases x <;> (try (simp [CZ,xeqS] at h; done)) <;> cases y <;> (try (simp [CZ,xeqS] at h; done)) <;>
      first
      | (refine ⟨?_,?_,?_,?_,?_⟩ <;> simp_all; done)
      | (simp only [CZ] at h
         by_cases hpl : plain = true
         · exact ⟨by simp,by simp,by simp,by simp,fun _ _ _ _ => (hp hpl).2⟩
         · rw [if_neg hpl] at h; cases h)
theorem VR.plainV {x : Val} {a : Value} (h : VR G w x a) (h1 : x ≠ .any) (h2 : ∀ k n,x ≠ .int k n) (h3 : ∀ s,x ≠ .str s) : plainV a = true := by
 cases h <;> first | rfl | exact absurd rfl h1 | exact absurd rfl (h2 _ _) | exact absurd rfl (h3 _)
theorem Xu {t : TypeId} {x y : Val} {a b : Value} {r : Bool} (hT : Ad P T) (hx : VR G w x a) (hy : VR G w y b) (h : xeq T t x y = some r) : (Op.equal t a b).run P w = .ok r w := by
 unfold xeq at h
 cases ht : T t with
 | none => rw [ht] at h; cases h
 | some ti =>
  rw [ht] at h
  exact Jx hT 8 Op.maxDepth t ti x y a b r ht (by simp [Op.maxDepth]) hx hy h
theorem Ns {op : BinOp} {t : TypeId} {o1 o2 : Operand} {x y v : Val} {a b : Value} (hT : Ad P T) (hx : VR G w x a) (hy : VR G w y b) (hni : ¬ (∃ k n,x = .int k n) ∨ ¬ (∃ k n,y = .int k n)) (hns : ¬ (∃ s,x = .str s) ∨ ¬ (∃ s,y = .str s))
  (hnn : ¬ (x = .nili ∧ y = .nili) ∨ isC o1 = true ∨ isC o2 = true)
  (h : (match xeq T t x y with | none => none | some r => match op with | .eql => some (Val.bool r) | .neq => some (.bool (!r)) | _ => none) = some v) :
  ∃ z,(do eqGuard op t o1 o2 a b; binOp op t a b : Sem Value).run P w = .ok z w ∧ VR G w v z := by
 cases he : xeq T t x y with
 | none => rw [he] at h; cases h
 | some r =>
  rw [he] at h
  obtain ⟨s1,s2,s3,s4,s5⟩ := Qt hT he
  have hrun := Xu hT hx hy he
  have hg : (eqGuard op t o1 o2 a b).run P w = .ok () w := by
   refine Mj ?_ (fun xs ys ha hb => ?_)
   ·rcases hnn with hnn | h
    ·left
     rintro ⟨rfl,rfl⟩
     refine hnn ⟨?_,?_⟩
     ·cases hx <;> first | rfl | exact absurd rfl s1
     ·cases hy <;> first | rfl | exact absurd rfl s2
    ·exact .inr h
   ·subst ha hb
    cases hx with
    | any => exact absurd rfl s1
    | agg cs _ _ _ _ =>
     cases hy with
     | any => exact absurd rfl s2
     | agg ds _ _ _ _ => exact s5 _ _ rfl rfl
  have hpl : Cp.plainV a = true ∨ Cp.plainV b = true := by
   have hx1 : ¬ (∃ k n,x = .int k n) := fun hi => by
    rcases hni with h | h
    ·exact h hi
    ·exact h (s3 hi)
   have hx2 : ¬ (∃ s,x = .str s) := fun hi => by
    rcases hns with h | h
    ·exact h hi
    ·exact h (s4 hi)
   exact .inl (hx.plainV s1 (fun k n e => hx1 ⟨k,n,e⟩) (fun s e => hx2 ⟨s,e⟩))
  rw [Sem.run_bind,hg]
  simp only [Result.andThen]
  cases op <;> simp only at h <;> try (cases h; done)
  ·cases h; exact ⟨_,V5 hpl hrun,.bool _⟩
  ·cases h; exact ⟨_,TU hpl hrun,.bool _⟩
theorem SW {op : BinOp} {t : TypeId} {o1 o2 : Operand} {x y v : Val} {a b : Value} (hT : Ad P T) (hx : VR G w x a) (hy : VR G w y b) (h : B1 T op t o1 o2 x y = some v) :
  ∃ z,(do eqGuard op t o1 o2 a b; binOp op t a b : Sem Value).run P w = .ok z w ∧ VR G w v z := by
 unfold B1 at h
 split at h
 ·cases hx
  cases hy
  split at h
  ·exact Lk h (.inl rfl)
  ·exact Lk h (.inr rfl)
  ·split at h
   ·rename_i e; subst e; exact Q2 h (by assumption) (by assumption)
   ·cases h
 ·cases hx
  cases hy
  rename_i s1 s2
  have hg : (eqGuard op t o1 o2 (.string s1) (.string s2)).run P w = .ok () w := by cases op <;> rfl
  rw [Sem.run_bind,hg]
  simp only [Result.andThen]
  cases op <;> simp only [Za] at h <;> try (cases h; done)
  ·split at h
   ·rename_i hsz
    cases h
    refine ⟨.string (s1 ++ s2),?_,.str _⟩
    simp only [binOp,Op.stringOp]
    rw [if_neg]
    ·rfl
    ·have : IntKind.i64.max = 9223372036854775807 := by decide
     rw [this]
     omega
   ·cases h
  ·cases h
   refine ⟨.bool (decide (s1 = s2)),?_,.bool _⟩
   simp only [binOp,Op.stringOp,IM]
   rfl
  ·cases h
   refine ⟨.bool (!decide (s1 = s2)),?_,.bool _⟩
   simp only [binOp,Op.stringOp,IM]
   rfl
 ·split at h
  ·rename_i hc
   refine Ns hT hx hy (.inl (fun ⟨_,_,e⟩ => by cases e)) (.inl (fun ⟨_,e⟩ => by cases e)) (.inr (by simpa using hc)) h
  ·cases h
 ·rename_i h1 h2 h3
  refine Ns hT hx hy ?_ ?_ (.inl fun ⟨e1,e2⟩ => h3 e1 e2) h
  ·by_cases hi : ∃ k n,x = .int k n
   ·right
    obtain ⟨k,n,rfl⟩ := hi
    rintro ⟨k',n',rfl⟩
    exact h1 _ _ _ _ rfl rfl
   ·exact .inl hi
  ·by_cases hi : ∃ s,x = .str s
   ·right
    obtain ⟨s,rfl⟩ := hi
    rintro ⟨s',rfl⟩
    exact h2 _ _ rfl rfl
   ·exact .inl hi
end
end Cp
namespace Cp
open Go
section
variable {P : Program} {T : Tab} {G G' : Gh} {w w' : World} {H H' : Hp} {f : Fr} {ρ : Operand → Value}
theorem Kj {mx : Bool} {vs : List Val} {ys : List Value} {v : Val} (hl : ys.length = vs.length) (hv : ∀ (i : Nat) (c : Val),vs[i]? = some c → ∃ y : Value,ys[i]? = some y ∧ VR G w c y) (h : xminmax mx vs = some v) (ts : Array TypeId) (ty : TypeId) :
  ∃ z,((if mx then Builtin.max_ ts ty ys.toArray else Builtin.min_ ts ty ys.toArray) : Sem Value).run P w = .ok z w ∧ VR G w v z := by
 cases vs with
 | nil => cases h
 | cons c vs =>
  cases ys with
  | nil => simp at hl
  | cons y ys =>
   obtain ⟨y',h1,h2⟩ := hv 0 c rfl
   cases h1
   cases c <;> simp only [xminmax] at h <;> try (cases h; done)
   rename_i k n
   cases h2
   obtain ⟨z,r1,r2⟩ := K6 (P := P) mx k vs ys n v (by simpa using hl) (fun i c hi => hv (i + 1) c (by simpa using hi)) h
   refine ⟨z,?_,r2⟩
   rw [← r1]
   cases mx <;> simp [Builtin.max_,Builtin.min_]
theorem JC (hv : ER1 G w f ρ) (xs : Array Operand) : (xs.map ρ).toList.length = (xs.toList.map (ev f)).length ∧ ∀ (i : Nat) (c : Val),(xs.toList.map (ev f))[i]? = some c → ∃ y : Value,(xs.map ρ).toList[i]? = some y ∧ VR G w c y := by
 refine ⟨by simp,fun i c hi => ?_⟩
 rw [List.getElem?_map,Option.map_eq_some_iff] at hi
 obtain ⟨a,ha,rfl⟩ := hi
 exact ⟨ρ a,by simp at ha ⊢; simp [ha],hv a⟩
theorem ZN {α : Type} {xs : Array α} {a : α} (h : xs.toList = [a]) : xs = #[a] := by rw [← Array.toArray_toList (xs := xs),h]
theorem UD {α : Type} {xs : Array α} {a b : α} (h : xs.toList = [a,b]) : xs = #[a,b] := by rw [← Array.toArray_toList (xs := xs),h]
theorem ge {α β : Type} {xs : List α} {g : α → β} {b : β} (h : xs.map g = [b]) : ∃ a,xs = [a] ∧ g a = b := by
 match xs,h with
 | [a],h => exact ⟨a,rfl,by simpa using h⟩
theorem aJ {α β : Type} {xs : List α} {g : α → β} {b c : β} (h : xs.map g = [b,c]) : ∃ a a',xs = [a,a'] ∧ g a = b ∧ g a' = c := by
 match xs,h with
 | [a,a'],h => simp at h; exact ⟨a,a',rfl,h.1,h.2⟩
theorem Mu {own : Bool} {k0 : Nat} {ep : Nat → Nat} {b : Builtin} {ts : Array TypeId} {args : Array Operand} {v : Val} {u : Up} (ty : TypeId) (cs : Array Bool) (hT : Ad P T) (hR : HRel G w H) (hep : ∀ k,G.N k ≤ ep k) (hv : ER1 G w f ρ)
  (h : Ba T H own k0 ep b ts.toList (args.toList.map (ev f)) = some (v,u)) : Res P G w H (builtin b ts ty cs (args.map ρ)) v u := by
 cases b <;> simp only [Ba] at h <;> try (cases h; done)
 ·split at h
  ·rename_i ht ha
   obtain ⟨a,a',ha',rfl,rfl⟩ := aJ ha
   rw [UD ha',UD ht]
   have := (OI ty hT hR hep (hv a) (hv a') h).res
   have e : (#[a,a'] : Array Operand).map ρ = #[ρ a,ρ a'] := by simp
   rw [e]
   exact this
  ·cases h
 ·split at h
  ·rename_i ht ha
   obtain ⟨a,ha',rfl⟩ := ge ha
   rw [ZN ha',ZN ht]
   obtain ⟨h',rfl⟩ := map_none h
   have e : (#[a] : Array Operand).map ρ = #[ρ a] := by simp
   rw [e]
   exact Res.ex hR (SC hT hR (hv a) h')
  ·cases h
 ·obtain ⟨h',rfl⟩ := map_none h
  obtain ⟨l1,l2⟩ := JC hv args
  have := Kj (P := P) l1 l2 h' ts ty
  simp only [if_true,Array.toArray_toList] at this
  exact Res.ex hR this
 ·obtain ⟨h',rfl⟩ := map_none h
  obtain ⟨l1,l2⟩ := JC hv args
  have := Kj (P := P) l1 l2 h' ts ty
  simp only [Bool.false_eq_true,if_false,Array.toArray_toList] at this
  exact Res.ex hR this
theorem Mf {fn : Fn} {first caps : Array Operand} {v : Val} (hv : ER1 G w f ρ) (h : CL fn (first.toList.map (ev f)) (caps.toList.map (ev f)) = some v) :
  ∃ z,(Instr.makeFunc fn (first.map ρ) (caps.map ρ)).run P w = .ok z w ∧ VR G w v z := by
 unfold CL at h
 split at h
 ·rename_i hf
  cases h
  have : first = #[] := by
   have h1 : first.toList = [] := by simpa using hf
   rw [← Array.toArray_toList (xs := first),h1]
  subst this
  refine ⟨.func (.func _) #[] (caps.map ρ),by simp [Instr.makeFunc],VR.fn _ (caps.toList.map (ev f)) (caps.map ρ) (by simp) (fun i c hi => ?_)⟩
  obtain ⟨y,h1,h2⟩ := (JC hv caps).2 i c hi
  have : (caps.map ρ).getD i undef = y := by
   rw [Array.getElem?_toList] at h1
   rw [Array.getD_eq_getD_getElem?,h1]; rfl
  rw [this]; exact h2
 ·cases h
theorem RY {c a b v : Val} {x y z : Value} (hc : VR G w c x) (ha : VR G w a y) (hb : VR G w b z) (h : Gt c a b = some v) :
  ∃ r,(do pure (Next.value (if ← asBool x then y else z)) : Sem Next).run P w = .ok (.value r) w ∧ VR G w v r := by
 unfold Gt at h
 cases c <;> simp only at h <;> try (cases h; done)
 cases hc
 rename_i c
 refine ⟨if c then y else z,by simp [asBool,Sem.run_bind,Result.andThen],?_⟩
 split at h
 ·cases h; cases ha; cases hb; cases c <;> exact .bool _
 ·cases h; cases c
  ·exact hb
  ·exact ha
theorem O4 {c : Value} (h : absV c = .nils) : c = .slice none 0 0 := by
 cases c with
 | slice a n m =>
  cases a with
  | none => cases n <;> cases m <;> first | rfl | (simp [absV,absS] at h)
  | some a => simp [absV,absS] at h
 | agg cs => simp only [absV] at h; split at h <;> cases h
 | pointer a => cases a <;> simp [absV,absS] at h
 | map r => cases r <;> simp [absV,absS] at h
 | _ => simp [absV,absS] at h
theorem S6 {md : Md} {ep : Nat → Nat} {o : Oper} {v : Val} {u : Up} (hT : Ad P T) (hR : HRel G w H) (hep : ∀ k,G.N k ≤ ep k) (hv : ER1 G w f ρ) (hρ : ∀ c,ρ (.const c) = c) (h : xop T md ep f H o = some (v,u)) :
  Res P G w H (execOp ρ o) v u := by
 obtain ⟨dst,op,type,pos,after,guard⟩ := o
 cases op <;> simp only [xop] at h <;> try (cases h; done)
 case move x => cases h; exact ⟨.value (ρ x),ρ x,w,G,rfl,.inl rfl,Tr.refl G H w,hR,.same rfl rfl,hv x⟩
 case assign x =>
  split at h
  ·split at h
   ·rename_i he ht
    split at h
    ·rename_i ei hei
     split at h
     ·rename_i hc
      obtain ⟨hk,h⟩ := C3 h
      cases h
      cases x <;> simp only [isC,Bool.false_eq_true] at hc
      rename_i c
      have hcc := O4 (show absV c = .nils from he)
      subst hcc
      exact ⟨.value _,.slice none 0 0,w,G.unb _ (ep _),by simp only [execOp,hρ]; rfl,.inl rfl,Tr.unb (hep _) _,hR.unb (hep _),.at rfl rfl,.gr _ _ _ _ _ (by simp [Gh.unb]) (fun _ => by simp [Gh.handle,Gh.unb])⟩
     ·cases h
    ·cases h
   ·cases h
  ·cases h; exact ⟨.value (ρ x),ρ x,w,G,rfl,.inl rfl,Tr.refl G H w,hR,.same rfl rfl,hv x⟩
 case pick c a b =>
  obtain ⟨h',rfl⟩ := map_none h
  obtain ⟨r,h1,h2⟩ := RY (P := P) (hv c) (hv a) (hv b) h'
  exact ⟨.value r,r,w,G,h1,.inl rfl,Tr.refl G H w,hR,.same rfl rfl,h2⟩
 case alloc t =>
  obtain ⟨hk,h⟩ := C3 h
  exact (Qw hT hR (hep _) h _).res
 case box t x =>
  split at h
  ·obtain ⟨hk,h⟩ := C3 h
   exact (Pq hR (hep _) (hv x) h).res
  ·exact (Pq hR (hep _) (hv x) h).res
 case build t ps =>
  obtain ⟨h',rfl⟩ := map_none h
  have := Qg (P := P) (qs := ps.map fun p => (p.1,ρ p.2)) hT (by simpa using Vi (ps := ps.toList) hv) h'
  exact Res.ex hR this
 case buildSlice t n ps =>
  have hp : PR G w (ps.toList.map fun p => (p.1,ev f p.2)) (ps.map fun p => (p.1,ρ p.2)).toList := by simpa using Vi (ps := ps.toList) hv
  split at h
  ·obtain ⟨hk,h⟩ := C3 h
   exact (FC hT hR (hep _) hp h).res
  ·exact (FC hT hR (hep _) hp h).res
 case makeSlice t l c =>
  obtain ⟨hk,h⟩ := C3 h
  exact (KN hT hR (hep _) (hv l) (hv c) h).res
 case load t a =>
  obtain ⟨h',rfl⟩ := map_none h
  exact Res.ex hR (N4 hT hR (hv a) h')
 case store t a x =>
  cases hs : Dd T H t (ev f a) (ev f x) with
  | none => rw [hs] at h; cases h
  | some u' =>
   rw [hs] at h
   cases h
   obtain ⟨w',G',h1,h2,h3,h4⟩ := Qj hT hR (hv a) (hv x) hs
   exact ⟨.skip,undef,w',G',by simp [execOp,Sem.run_bind,h1,Result.andThen],.inr ⟨rfl,rfl⟩,h2,h3,h4,.any _⟩
 case nilCheck x =>
  obtain ⟨h',rfl⟩ := map_none h
  obtain ⟨z,h1,h2⟩ := LV (P := P) (hv x) h' pos dst type after guard x ρ rfl
  exact ⟨.value z,z,w,G,h1,.inl rfl,Tr.refl G H w,hR,.same rfl rfl,h2⟩
 case binOp op t x y yt =>
  obtain ⟨h',rfl⟩ := map_none h
  exact Res.ex hR (SW hT (hv x) (hv y) h')
 case unOp op t x =>
  obtain ⟨h',rfl⟩ := map_none h
  exact Res.ex hR (RF (hv x) h')
 case convert s t x =>
  obtain ⟨h',rfl⟩ := map_none h
  exact Res.ex hR (NF hT (hv x) h')
 case makeInterface t x =>
  obtain ⟨h',rfl⟩ := map_none h
  exact Res.ex hR (GT hT (hv x) h')
 case makeFunc fn first caps =>
  obtain ⟨h',rfl⟩ := map_none h
  exact Res.ex hR (Mf hv h')
 case slice t x lo hi mx =>
  obtain ⟨h',rfl⟩ := map_none h
  exact Res.ex hR (QH hT hR (hv x) (Pg hv lo) (Pg hv hi) (Pg hv mx) h')
 case fieldAddr s x i =>
  obtain ⟨h',rfl⟩ := map_none h
  exact Res.ex hR (KY hT (hv x) h')
 case field t x i =>
  obtain ⟨h',rfl⟩ := map_none h
  exact Res.ex hR (Q4 hT (hv x) h')
 case indexAddr t x i =>
  obtain ⟨h',rfl⟩ := map_none h
  exact Res.ex hR (L1 hT hR (hv x) (hv i) h')
 case index t x i =>
  obtain ⟨h',rfl⟩ := map_none h
  exact Res.ex hR (Qv hT (hv x) (hv i) h')
 case typeAssert x xt t ok =>
  obtain ⟨h',rfl⟩ := map_none h
  exact Res.ex hR (JN hT (hv x) h')
 case extract x i =>
  obtain ⟨h',rfl⟩ := map_none h
  exact Res.ex hR (NX (hv x) h')
 case makeMap t r =>
  obtain ⟨hk,h⟩ := C3 h
  exact (NM hT hR (hep _) (Pg hv r) h).res
 case lookup t m key ok =>
  obtain ⟨h',rfl⟩ := map_none h
  exact Res.ex hR (OL hT hR (hv m) (hv key) h')
 case mapUpdate t m key x =>
  cases hs : AJ T H ep t (ev f m) (ev f key) (ev f x) with
  | none => rw [hs] at h; cases h
  | some u' =>
   rw [hs] at h
   cases h
   obtain ⟨w',G',h1,h2,h3,h4⟩ := Gj hT hR hep (hv m) (hv key) (hv x) hs
   exact ⟨.skip,undef,w',G',by simp [execOp,Sem.run_bind,h1,Result.andThen],.inr ⟨rfl,rfl⟩,h2,h3,h4,.any _⟩
 case insert t m key x =>
  cases hs : AJ T H ep t (ev f m) (ev f key) (ev f x) with
  | none => rw [hs] at h; cases h
  | some u' =>
   rw [hs] at h
   cases h
   obtain ⟨w',G',h1,h2,h3,h4⟩ := Gj hT hR hep (hv m) (hv key) (hv x) hs
   exact ⟨.skip,undef,w',G',by simp [execOp,Sem.run_bind,h1,Result.andThen],.inr ⟨rfl,rfl⟩,h2,h3,h4,.any _⟩
 case range t m =>
  obtain ⟨hk,h⟩ := C3 h
  exact (PT hT hR (hep _) (hv m) h).res
 case call c =>
  obtain ⟨callee,args,argTypes⟩ := c
  cases callee <;> simp only at h <;> try (cases h; done)
  rename_i b
  by_cases hdel : b = .delete
  ·subst hdel
   simp only [KR] at h
   split at h
   ·rename_i t t2 m key hts has
    obtain ⟨am,akey,has',rfl,rfl⟩ := aJ has
    cases hs : E6 T H ep t (ev f am) (ev f akey) with
    | none => rw [hs] at h; cases h
    | some u' =>
     rw [hs] at h
     cases h
     have ea := UD has'
     have et := UD hts
     subst ea et
     obtain ⟨w',G',h1,h2,h3,h4⟩ := Od (t2 := t2) (ty := type) hT hR hep (hv am) (hv akey) hs
     refine ⟨.value (.tuple #[]),.tuple #[],w',G',?_,.inl rfl,h2,h3,h4,.tup [] #[] rfl (fun i v h => by simp at h)⟩
     simp only [execOp,resolve,Sem.run_bind,Sem.run_pure,Result.andThen,invoke,builtin]
     have e : (#[am,akey] : Array Operand).map ρ = #[ρ am,ρ akey] := by simp
     rw [e,h1]
   ·cases h
  replace h : (match Ba T H (md.own.contains (dst.getD 0)) (md.base + dst.getD 0) ep b argTypes.toList (args.toList.map (ev f)) with
    | some (v,none) => some (v,none)
    | some (v,some u) => if md.own.contains (dst.getD 0) then some (v,some u) else none
    | none => none) = some (v,u) := by
   cases b <;> first | exact absurd rfl hdel | exact h
  have hb : Ba T H (md.own.contains (dst.getD 0)) (md.base + dst.getD 0) ep b argTypes.toList (args.toList.map (ev f)) = some (v,u) := by
   cases hx : Ba T H (md.own.contains (dst.getD 0)) (md.base + dst.getD 0) ep b argTypes.toList (args.toList.map (ev f)) with
   | none => rw [hx] at h; cases h
   | some p =>
    obtain ⟨v',u'⟩ := p
    rw [hx] at h
    cases u' with
    | none => exact h
    | some u' =>
     simp only at h
     split at h
     ·exact h
     ·cases h
  have := Mu type (args.map fun | .const _ => true | _ => false) hT hR hep hv hb
  obtain ⟨nx,x,w',G',h1,h2⟩ := this
  refine ⟨nx,x,w',G',?_,h2⟩
  simp only [execOp,resolve,Sem.run_bind,Sem.run_pure,Result.andThen,invoke]
  exact h1
end
end Cp
namespace Cp
open Go
mutual
def noid : Val → Bool
 | .ptr .. | .gr .. | .map .. | .itr .. | .yld .. => false
 | .pim cs => noids cs
 | .lst _ xss => noidss xss
 | .exl _ xss => noidss xss
 | .fn _ cs => noids cs
 | .iface _ v => noid v
 | .agg cs => noids cs
 | .tup cs => noids cs
 | _ => true
def noids : List Val → Bool
 | [] => true
 | v :: vs => noid v && noids vs
def noidss : List (List Val) → Bool
 | [] => true
 | v :: vs => noids v && noidss vs
end
theorem noids_get : ∀ {cs : List Val},noids cs = true → ∀ (j : Nat) (v : Val),cs[j]? = some v → noid v = true
 | [],_,j,v,h => by simp at h
 | c :: cs,hn,j,v,h => by
  simp only [noids,Bool.and_eq_true] at hn
  cases j with
  | zero => simp at h; subst h; exact hn.1
  | succ j => exact noids_get hn.2 j v (by simpa using h)
theorem noidss_get : ∀ {cs : List (List Val)},noidss cs = true → ∀ (j : Nat) (v : List Val),cs[j]? = some v → noids v = true
 | [],_,j,v,h => by simp at h
 | c :: cs,hn,j,v,h => by
  simp only [noidss,Bool.and_eq_true] at hn
  cases j with
  | zero => simp at h; subst h; exact hn.1
  | succ j => exact noidss_get hn.2 j v (by simpa using h)
def VRs (G : Gh) (w : World) (vs : List Val) (xs : Array Value) : Prop := xs.size = vs.length ∧ ∀ (i : Nat) (v : Val),vs[i]? = some v → VR G w v (xs.getD i undef)
def none0 : Hp := fun _ => none
theorem I9 (g : Nat) (cs : List Val) (h : GE g = some cs) : noid (.pim cs) = true := by
 unfold GE at h
 first | (cases h; done) | ((repeat' split at h) <;> first | (cases h; rfl) | (cases h; done))
def Ent (P : Program) (fid : FuncId) : Prop := ∃ fn,P.funcs[fid]? = some fn ∧ fn.body.isNone = false ∧ (fn.name == "runtime.NumGoroutine") = false
def PureC (P : Program) (fid : FuncId) (args : List Val) (v : Val) : Prop :=
 Ent P fid ∧ noids args = true ∧ noid v = true ∧ ∀ G w xs,HRel G w none0 → VRs G w args xs → Calls P fid xs w fun e w' => ∃ x I',e = .returned x ∧ Tr G none0 w { G with I := I' } none0 w' ∧ HRel { G with I := I' } w' none0 ∧ VR { G with I := I' } w' v x
def BD (P : Program) (fid : FuncId) (args : List Val) (H : Hp) (R : Val → Hp → Prop) : Prop :=
 Ent P fid ∧ ∀ G w xs,HRel G w H → VRs G w args xs → Calls P fid xs w fun e w' => ∃ v x G' H',e = .returned x ∧ Tr G H w G' H' w' ∧ HRel G' w' H' ∧ G'.D = G.D ∧ VR G' w' v x ∧ R v H'
section
variable {P : Program} {G G' : Gh} {w w' : World} {H H' : Hp}
theorem VR.noid_mono {v : Val} {x : Value} (h : VR G w v x) (hn : noid v = true) (hI : ∀ b,G.I b → G'.I b ∧ ∀ off,w'.cell? ⟨b,off,none⟩ = w.cell? ⟨b,off,none⟩) : VR G' w' v x := by
 induction h with
 | any x => exact .any x
 | int k n => exact .int k n
 | bool b => exact .bool b
 | str s => exact .str s
 | nilp => exact .nilp
 | nils a => exact .nils a
 | nilm => exact .nilm
 | nilf => exact .nilf
 | nili => exact .nili
 | ptr => cases hn
 | gr => cases hn
 | map => cases hn
 | itr => cases hn
 | yld => cases hn
 | pim cs b off ys hb hm hc hv ih =>
  simp only [noid] at hn
  exact .pim cs b off ys (hI b hb).1 (fun j v hj => by rw [(hI b hb).2]; exact hm j v hj) hc (fun j v hj => ih j v hj (noids_get hn j v hj))
 | lst sz xss a cap ys hcap hsz ha hc hv ih =>
  simp only [noid] at hn
  refine .lst sz xss a cap ys hcap hsz (fun hne => ?_) hc (fun i es hi' j v hj => ih i es hi' j v hj (noids_get (noidss_get hn i es hi') j v hj))
  obtain ⟨b,off,h1,h2,h3⟩ := ha hne
  exact ⟨b,off,h1,(hI b h2).1,fun i es hi' j v hj => by rw [(hI b h2).2]; exact h3 i es hi' j v hj⟩
 | exl sz xss a ys hsz ha hc hv ih =>
  simp only [noid] at hn
  refine .exl sz xss a ys hsz (fun hne => ?_) hc (fun i es hi' j v hj => ih i es hi' j v hj (noids_get (noidss_get hn i es hi') j v hj))
  obtain ⟨b,off,h1,h2,h3⟩ := ha hne
  exact ⟨b,off,h1,(hI b h2).1,fun i es hi' j v hj => by rw [(hI b h2).2]; exact h3 i es hi' j v hj⟩
 | fn f caps xs hs hv ih => simp only [noid] at hn; exact .fn f caps xs hs (fun i v hi' => ih i v hi' (noids_get hn i v hi'))
 | iface t' v x h ih => simp only [noid] at hn; exact .iface t' v x (ih hn)
 | agg cs xs hs hc hv ih => simp only [noid] at hn; exact .agg cs xs hs hc (fun i v hi' => ih i v hi' (noids_get hn i v hi'))
 | tup vs xs hs hv ih => simp only [noid] at hn; exact .tup vs xs hs (fun i v hi' => ih i v hi' (noids_get hn i v hi'))
theorem HRel.drop (h : HRel G w H) (hH : ∀ k,H' k = none ∨ H' k = H k) : HRel G w H' := by
 have hk : ∀ {k e o},H' k = some (e,o) → H k = some (e,o) := fun {k e o} q => by
  rcases hH k with e1 | e1
  ·rw [e1] at q; cases q
  ·rw [← e1]; exact q
 have hO : ∀ b,Own G H' b → Own G H b := fun b ⟨k,e,o,q1,q2⟩ => ⟨k,e,o,hk q1,q2⟩
 exact ⟨fun k e o q => h.obj k e o (hk q),fun k e km em ver left cur e' es q1 q2 q3 => h.itr k e km em ver left cur e' es (hk q1) (hk q2) q3,
  fun k k' e e' o o' b q1 q2 => h.inj k k' e e' o o' b (hk q1) (hk q2),fun b hI => ⟨(h.imm b hI).1,fun ho => (h.imm b hI).2 (hO b ho)⟩,fun b hb => h.own b (hO b hb),
  fun r hr => ⟨(h.dfr r hr).1,fun ho => (h.dfr r hr).2.1 (hO r ho),(h.dfr r hr).2.2⟩,h.glb⟩
theorem Own.drop (hH : ∀ k,H' k = none ∨ H' k = H k) {b : Nat} (h : Own G H' b) : Own G H b := by
 obtain ⟨k,e,o,q1,q2⟩ := h
 rcases hH k with e1 | e1
 ·rw [e1] at q1; cases q1
 ·exact ⟨k,e,o,by rw [← e1]; exact q1,q2⟩
theorem Tr.drop {H1 : Hp} (t : Tr G H w G' H1 w') (hH : ∀ k,H' k = none ∨ H' k = H1 k) : Tr G H w G' H' w' :=
 ⟨t.os,t.tape,t.output,t.size,t.same,fun b hb => t.own b (hb.drop hH),t.I1,t.I2,t.N,t.eps,t.D⟩
theorem Own.none0 {b : Nat} : ¬ Own G Cp.none0 b := fun ⟨_,_,_,h,_⟩ => by cases h
theorem PureC.acall {fid : FuncId} {args : List Val} {v : Val} (h : PureC P fid args v) (H : Hp) : BD P fid args H fun v' H' => v' = v ∧ H' = H := by
 obtain ⟨h0,h1,h2,h3⟩ := h
 refine ⟨h0,?_⟩
 intro G w xs hR hv cs
 obtain ⟨e,w',fr,⟨x,I',hx,t,r,hvr⟩,hc,hfn,hl⟩ := h3 G w xs (hR.drop fun _ => .inl rfl) hv cs
 have hsame : ∀ b,b < w.heap.size → w'.heap[b]? = w.heap[b]? := fun b hb => t.same b hb Own.none0
 have t' : Tr G H w { G with I := I' } H w' := ⟨t.os,t.tape,t.output,t.size,fun b hb _ => hsame b hb,fun b hb => .inl hb,t.I1,fun b hb => by
  rcases t.I2 b hb with q | q | q
  ·exact .inl q
  ·exact (Own.none0 q).elim
  ·exact .inr (.inr q),t.N,t.eps,t.D⟩
 refine ⟨e,w',fr,⟨v,x,{ G with I := I' },H,hx,t',hR.still t' rfl (fun _ => ⟨rfl,rfl,rfl⟩) hsame (fun b hb => ⟨(r.imm b hb).1,fun ho => ?_⟩),rfl,hvr,rfl,rfl⟩,hc,hfn,hl⟩
 have ho' : Own G H b := ho
 rcases t.I2 b hb with q | q | q
 ·exact (hR.imm b q).2 ho'
 ·exact Own.none0 q
 ·have := hR.own b ho'; omega
def Ms (r : Nat) : Deferred := { target := .collected r,args := #[] }
structure Cx where
 G0 : Gh
 H0 : Hp
 w0 : World
 sz : Nat
 rnd : Bool := false
structure St (X : Cx) (G : Gh) (f : Fr) (H : Hp) (a : Act) (w : World) : Prop where
 tr : Tr X.G0 X.H0 X.w0 G H w
 rel : HRel G w H
 fr : ∀ t,VR G w (f t) (a.tmps.getD t undef)
 size : a.tmps.size = X.sz
 dfr : ∃ l,G.D = l ++ X.G0.D ∧ a.defers = l.map Ms ∧ l.Nodup ∧ ∀ r ∈ l,X.w0.heap.size ≤ r ∧ X.rnd = false
def FW (ro : Option Nat) : Fence := { Fence.wide with round := ro }
theorem Cn {ro : Option Nat} {n : Nat} {fid : FuncId} {xs : Array Value} {R : Ending → World → Prop} (h : Calls P fid xs w R) : CallsIn (FW ro) n P fid xs w R :=
 (callsIn_wide (n := n)).2 h
def put (f : Fr) (d : Option Tmp) (v : Val) : Fr := match d with | none => f | some d => upd f d v
theorem St.er {X : Cx} {f : Fr} {a : Act} (s : St X G f H a w) : ER1 G w f a.eval := fun x => by
 cases x with
 | tmp t => exact s.fr t
 | const v => exact Ec v
 | global g =>
  show VR G w (evG g) _
  unfold evG
  split
  ·rename_i cs hg; exact s.rel.glb g cs hg
  ·exact .any _
 | func g => exact .fn _ _ _ rfl (fun i v h => by simp at h)
theorem R0 {a : Act} {d t : Nat} {x : Value} : (a.tmps.setIfInBounds d x).getD t undef = if t = d ∧ d < a.tmps.size then x else a.tmps.getD t undef := by
 rw [Array.getD_eq_getD_getElem?,Array.getElem?_setIfInBounds]
 by_cases h : d = t
 ·subst h
  by_cases h2 : d < a.tmps.size
  ·simp [h2]
  ·rw [if_pos rfl,if_neg h2,if_neg (by simp [h2]),Array.getD_eq_getD_getElem?,Array.getElem?_eq_none (by omega)]
 ·rw [if_neg h,if_neg (fun e => h e.1.symm),Array.getD_eq_getD_getElem?]
theorem St.put {X : Cx} {f : Fr} {a : Act} (s : St X G f H a w) (t : Tr G H w G' H' w') (r : HRel G' w' H') (hD : G'.D = G.D) {v : Val} {x : Value} (hv : VR G' w' v x) (d : Option Tmp) (hd : ∀ t,d = some t → t < X.sz) :
  St X G' (put f d v) H' (a.put d x) w' where
 tr := s.tr.trans t
 rel := r
 fr := fun u => by
  cases d with
  | none => exact (s.fr u).mono s.rel.imm t
  | some d =>
   have hd := hd d rfl
   simp only [Cp.put,Act.put,R0]
   by_cases hu : u = d
   ·subst hu
    rw [if_pos ⟨rfl,by rw [s.size]; exact hd⟩,A4]
    exact hv
   ·rw [if_neg (fun e => hu e.1),A0 _ _ hu]
    exact (s.fr u).mono s.rel.imm t
 size := by cases d <;> simp [Act.put,s.size]
 dfr := by
  obtain ⟨l,h1,h2,h3⟩ := s.dfr
  refine ⟨l,by rw [hD]; exact h1,?_,h3⟩
  cases d <;> exact h2
end
end Cp
namespace Cp
open Go
structure Me extends Md where
 imp : List Nat := []
 fz : List Nat := []
def fzv (H : Hp) (v : Val) : Val :=
 match v with
 | .gr k e n =>
  match H k with
  | some (e',.fro sz xss) => if e = e' ∧ n = xss.length then .lst sz xss else v
  | _ => v
 | v => v
def opd (os : List Oper) (j : Nat) : Option Nat := (os[j]?).bind (·.dst)
def xgo (P : Program) (T : Tab) (md : Me) (o : Oper) (K : Fr → Hp → Prop) (f : Fr) (H : Hp) : Prop :=
 match o.op with
 | .call { callee := .value g,args,.. } =>
  match ev f g with
  | .fn fid caps =>
   let d := o.dst.getD 0
   if md.imp.contains d then ∃ R,BD P fid (args.toList.map (ev f) ++ caps) H R ∧ ∀ v H',R v H' → K (put f o.dst v) H'
   else ∃ v,PureC P fid ((args.toList.map (ev f) ++ caps).map (if md.fz.contains d then fzv H else id)) v ∧ K (put f o.dst v) H
  | _ => False
 | _ => ∀ ep,match xop T md.toMd ep f H o with | some (v,u) => K (put f o.dst v) (app H u) | none => False
def Bo (P : Program) (T : Tab) (md : Me) (os : List Oper) (o : Oper) (K : Fr → Hp → Prop) (f : Fr) (H : Hp) : Prop :=
 match o.guard with
 | none => xgo P T md o K f H
 | some (j,b) =>
  match (opd os j).map f with
  | some (.bool c) => (c = b → xgo P T md o K f H) ∧ (c = (!b) → K (put f o.dst (.tup [])) H)
  | some (.tup []) => K (put f o.dst (.tup [])) H
  | _ => False
def EE (P : Program) (T : Tab) (md : Me) (os : List Oper) (K : Fr → Hp → Prop) : List Nat → Fr → Hp → Prop
 | [],f,H => K f H
 | i :: is,f,H => match os[i]? with | none => EE P T md os K is f H | some o => Bo P T md os o (EE P T md os K is) f H
def K7 (P : Program) (T : Tab) (md : Me) (os : List Oper) (K : Fr → Hp → Prop) : List Oper → Fr → Hp → Prop
 | [],f,H => K f H
 | o :: l,f,H => Bo P T md os o (K7 P T md os K l) f H
section
variable {P : Program} {T : Tab} {G G' : Gh} {w w' : World} {H H' : Hp} {md : Me} {K : Fr → Hp → Prop}
theorem Nc (os : List Oper) : ∀ (n i : Nat),i + n = os.length → ∀ f H,EE P T md os K (List.range' i n) f H = K7 P T md os K (os.drop i) f H
 | 0,i,h,f,H => by
  rw [List.drop_eq_nil_of_le (by omega)]; rfl
 | n + 1,i,h,f,H => by
  have hi : i < os.length := by omega
  rw [List.drop_eq_getElem_cons hi]
  simp only [List.range'_succ,EE,K7,List.getElem?_eq_getElem hi]
  have : EE P T md os K (List.range' (i + 1) n) = K7 P T md os K (os.drop (i + 1)) := by
   funext f H
   exact Nc os n (i + 1) (by omega) f H
  rw [this]
theorem Km (os : List Oper) (f : Fr) (H : Hp) : EE P T md os K (List.range os.length) f H = K7 P T md os K os f H := by
 rw [List.range_eq_range',Nc os os.length 0 (by omega)]; rfl
theorem Rh (hR : HRel G w H) {v : Val} {x : Value} (h : VR G w v x) : VR G w (fzv H v) x := by
 unfold fzv
 cases v <;> try exact h
 rename_i k e n
 simp only
 cases hk : H k with
 | none => exact h
 | some p =>
  obtain ⟨e',o⟩ := p
  cases o <;> try exact h
  rename_i sz xss
  simp only
  by_cases hc : e = e' ∧ n = xss.length
  case neg => rw [if_neg hc]; exact h
  rw [if_pos hc]
  obtain ⟨rfl,rfl⟩ := hc
  obtain ⟨hE,hN,hrow,hI⟩ := hR.obj k e _ hk
  cases h with
  | gr _ _ _ a c he hp =>
   have hh := hp hE
   have hr := hrow.2
   unfold Gh.handle at hh
   cases hK : G.K k with
   | none =>
    rw [hK] at hr
    obtain ⟨rfl,_⟩ := hr
    exact .lst_nil _ _ _
   | some b =>
    rw [hK] at hh hr
    injection hh with q1 q2 q3
    subst q1 q3
    exact VR.lst_of (hI b hK) hrow.1 (fun i es hi => by rw [Nat.zero_add]; exact hr.2.2 i es hi) hr.2.1
theorem LX {f : Fr} {ρ : Operand → Value} (hv : ER1 G w f ρ) {args : Array Operand} {caps : List Val} {xs : Array Value} (hs : xs.size = caps.length) (hc : ∀ (i : Nat) (v : Val),caps[i]? = some v → VR G w v (xs.getD i undef)) :
  VRs G w (args.toList.map (ev f) ++ caps) (args.map ρ ++ xs) := by
 refine ⟨by simp [hs],fun i v hi => ?_⟩
 rw [Array.getD_eq_getD_getElem?,Array.getElem?_append]
 by_cases h : i < args.size
 ·rw [List.getElem?_append_left (by simpa using h)] at hi
  rw [if_pos (by simpa using h)]
  obtain ⟨y,h1,h2⟩ := (JC hv args).2 i v hi
  rw [Array.getElem?_toList] at h1
  rw [h1]; exact h2
 ·rw [List.getElem?_append_right (by simpa using Nat.le_of_not_lt h)] at hi
  rw [if_neg (by simpa using h)]
  have := hc _ v hi
  rw [Array.getD_eq_getD_getElem?] at this
  simpa using this
end
end Cp
namespace Cp
open Go
def Post (X : Cx) (Q : Exit → Fr → Hp → Prop) : Exit → Act → World → Prop := fun e a w => ∃ G f H,St X G f H a w ∧ Q e f H
def Kon (X : Cx) (K : Fr → Hp → Prop) : Act → World → Prop := fun a w => ∃ G f H,St X G f H a w ∧ K f H
section
variable {P : Program} {T : Tab} {G G' : Gh} {w w' : World} {H H' : Hp} {md : Me} {K : Fr → Hp → Prop} {X : Cx} {ro : Option Nat}
theorem X3 {o : Oper} {f : Fr} {ep : Nat → Nat} {r : Val × Up} {ρ : Operand → Value} (h : xop T md.toMd ep f H o = some r) : o.semAt ro ρ = execOp ρ o :=
 Oper.semAt_eq ro ρ o fun c hc => by
  obtain ⟨dst,op,type,pos,after,guard⟩ := o
  simp only at hc
  subst hc
  cases h
theorem Zc (hT : Ad P T) {f : Fr} {a : Act} (s : St X G f H a w) {o : Oper} (hd : ∀ t,o.dst = some t → t < X.sz) {Q : Exit → Act → World → Prop}
  (h : ∀ ep,match xop T md.toMd ep f H o with | some (v,u) => K (put f o.dst v) (app H u) | none => False) : o.wpIn (FW ro) 0 P a w (Kon X K) Q := by
 refine ⟨fun _ _ => trivial,?_⟩
 have h0 := h G.N
 cases hx : xop T md.toMd G.N f H o with
 | none => rw [hx] at h0; exact h0.elim
 | some r =>
  obtain ⟨v,u⟩ := r
  rw [hx] at h0
  simp only at h0
  obtain ⟨nx,x,w',G',h1,h2,h3,h4,h5,h6⟩ := S6 hT s.rel (fun k => Nat.le_refl _) s.er (fun c => rfl) hx
  rw [show (FW ro).round = ro from rfl,X3 hx,h1]
  rcases h2 with rfl | ⟨rfl,rfl⟩
  ·exact ⟨G',_,_,s.put h3 h4 h5.D h6 o.dst hd,h0⟩
  ·exact ⟨G',_,_,s.put h3 h4 h5.D h6 o.dst hd,h0⟩
theorem Iv {c : Call} {g : Operand} {ρ : Operand → Value} {fid : FuncId} {xs : Array Value} {o : Oper} (ho : o.op = .call c) (hc : c.callee = .value g) (hg : ρ g = .func (.func fid) #[] xs) (hE : Ent P fid) :
  (execOp ρ o).run P w = .ok (.enter fid (c.args.map ρ ++ xs)) w := by
 obtain ⟨fn,h1,h2,h3⟩ := hE
 have hr : resolve ρ c o.type = pure { target := .fn (.func fid) xs,args := #[] ++ c.args.map ρ } := by
  simp only [resolve,hc,hg,Deferred.ofValue]
 unfold execOp
 rw [ho]
 simp only [hr,Sem.run_bind,Sem.run_pure,Result.andThen,invoke,callFunc,run_program,h1,h3,h2,Bool.false_eq_true,if_false]
 simp
theorem NV {f : Fr} {a : Act} (s : St X G f H a w) {o : Oper} (hd : ∀ t,o.dst = some t → t < X.sz) {c : Call} {g : Operand} {fid : FuncId} {caps args : List Val} {R : Val → Hp → Prop} {Q : Exit → Act → World → Prop}
  (ho : o.op = .call c) (hc : c.callee = .value g) (hg : ev f g = .fn fid caps) (hargs : ∀ xs,VRs G w (c.args.toList.map (ev f) ++ caps) xs → VRs G w args xs)
  (hA : BD P fid args H R) (hK : ∀ v H',R v H' → K (put f o.dst v) H') : o.wpIn (FW ro) 0 P a w (Kon X K) Q := by
 refine ⟨fun _ _ => trivial,?_⟩
 obtain ⟨hE,hA⟩ := hA
 have hv := s.er g
 rw [hg] at hv
 generalize hx : a.eval g = x at hv
 cases hv with
 | fn _ _ xs hs hcaps =>
  have hnd : ∀ d,o.op ≠ .defer d := fun d e => by rw [ho] at e; cases e
  rw [show (FW ro).round = ro from rfl,Oper.semAt_eq ro _ o hnd,Iv ho hc hx hE,Oper.uponIn_enter]
  refine ⟨fun h => by simp [FW,Fence.wide] at h,Cn ?_⟩
  refine Calls.mono (hA G w _ s.rel (hargs _ (LX s.er hs hcaps))) fun e w' he => ?_
  obtain ⟨v,x,G',H',rfl,h1,h2,h3,h4,h5⟩ := he
  exact ⟨G',_,H',s.put h1 h2 h3 h4 o.dst hd,hK v H' h5⟩
theorem VRs.map {g : Val → Val} (hg : ∀ v x,VR G w v x → VR G w (g v) x) {vs : List Val} {xs : Array Value} (h : VRs G w vs xs) : VRs G w (vs.map g) xs := by
 refine ⟨by simp [h.1],fun i v hi => ?_⟩
 rw [List.getElem?_map,Option.map_eq_some_iff] at hi
 obtain ⟨u,hu,rfl⟩ := hi
 exact hg _ _ (h.2 i u hu)
theorem Vp (hT : Ad P T) {f : Fr} {a : Act} (s : St X G f H a w) {o : Oper} (hd : ∀ t,o.dst = some t → t < X.sz) {Q : Exit → Act → World → Prop}
  (h : xgo P T md o K f H) : o.wpIn (FW ro) 0 P a w (Kon X K) Q := by
 unfold xgo at h
 split at h
 ·rename_i g args ts ho
  split at h
  ·rename_i fid caps hg
   simp only at h
   split at h
   ·obtain ⟨R,hA,hK⟩ := h
    exact NV s hd ho rfl hg (fun xs h => h) hA hK
   ·obtain ⟨v,hP,hK⟩ := h
    refine NV s hd ho rfl hg (fun xs h => ?_) (hP.acall H) (fun v' H' hv => ?_)
    ·split
     ·exact h.map fun v x hv => Rh s.rel hv
     ·simpa using h
    ·obtain ⟨rfl,rfl⟩ := hv; exact hK
  ·exact h.elim
 ·exact Zc hT s hd h
theorem Dv {f : Fr} {a : Act} (s : St X G f H a w) {ops : Array Oper} {j : Nat} {c : Bool} (h : (opd ops.toList j).map f = some (.bool c)) : yielded ops a.tmps j = some c := by
 rw [Option.map_eq_some_iff] at h
 obtain ⟨t,ht,hf⟩ := h
 unfold opd at ht
 rw [Array.getElem?_toList] at ht
 have hv := s.fr t
 rw [hf] at hv
 unfold yielded
 rw [ht]
 simp only [Option.bind_some]
 generalize hx : a.tmps.getD t undef = x at hv
 cases hv
 rw [Array.getD_eq_getD_getElem?] at hx
 cases hq : a.tmps[t]? with
 | none => rw [hq] at hx; cases hx
 | some y => rw [hq] at hx; simp at hx; subst hx; rfl
theorem GY (hT : Ad P T) {f : Fr} {a : Act} (s : St X G f H a w) {ops : Array Oper} {i : Nat} {o : Oper} (hi : ops[i]? = some o) (hd : ∀ t,o.dst = some t → t < X.sz) {Q : Exit → Act → World → Prop}
  (h : Bo P T md ops.toList o K f H) : wpOpIn (FW ro) 0 P ops Q i (Kon X K) a w := by
 unfold wpOpIn
 rw [hi]
 simp only
 unfold Bo at h
 cases hg : o.guard with
 | none =>
  rw [hg] at h
  have hw : Region.wanted o (yielded ops a.tmps) = true := by simp [Region.wanted,hg]
  rw [if_pos hw]
  exact Vp hT s hd h
 | some p =>
  obtain ⟨j,b⟩ := p
  rw [hg] at h
  simp only at h
  split at h
  ·rename_i c hc
   have hy := Dv s hc
   have hw : Region.wanted o (yielded ops a.tmps) = (c == b) := by simp only [Region.wanted,hg,hy]; cases c <;> cases b <;> rfl
   by_cases hcb : c = b
   ·subst hcb
    rw [if_pos (by rw [hw]; simp)]
    exact Vp hT s hd (h.1 rfl)
   ·rw [if_neg (by rw [hw]; simpa using hcb)]
    refine ⟨fun _ _ => trivial,G,_,H,s.put (Tr.refl G H w) s.rel rfl (.tup [] #[] rfl (fun i v hi => by simp at hi)) o.dst hd,h.2 ?_⟩
    cases c <;> cases b <;> simp_all
  ·rename_i hc
   have hw : Region.wanted o (yielded ops a.tmps) = false := by
    have hy : yielded ops a.tmps j = none := by
     rw [Option.map_eq_some_iff] at hc
     obtain ⟨t,ht,hf⟩ := hc
     unfold opd at ht
     rw [Array.getElem?_toList] at ht
     have hv := s.fr t
     rw [hf] at hv
     unfold yielded
     rw [ht]
     simp only [Option.bind_some]
     generalize hx : a.tmps.getD t undef = x at hv
     cases hv
     rw [Array.getD_eq_getD_getElem?] at hx
     cases hq : a.tmps[t]? with
     | none => rfl
     | some y => rw [hq] at hx; simp at hx; subst hx; rfl
    simp only [Region.wanted,hg,hy]
    rfl
   rw [if_neg (by rw [hw]; simp)]
   exact ⟨fun _ _ => trivial,G,_,H,s.put (Tr.refl G H w) s.rel rfl (.tup [] #[] rfl (fun i v hi => by simp at hi)) o.dst hd,h⟩
  ·exact h.elim
def BF (n : Nat) (ops : List Oper) : Bool := ops.all fun o => match o.dst with | none => true | some d => d < n
theorem Cc {n i : Nat} {ops : Array Oper} {o : Oper} (h : BF n ops.toList = true) (hi : ops[i]? = some o) : ∀ t,o.dst = some t → t < n := by
 intro t ht
 have := List.all_eq_true.1 h o (List.mem_of_getElem? (by rw [Array.getElem?_toList]; exact hi))
 rw [ht] at this
 simpa using this
theorem Ow (hT : Ad P T) {ops : Array Oper} (hsz : BF X.sz ops.toList = true) {Q : Exit → Fr → Hp → Prop} : ∀ (is : List Nat) (f : Fr) (H : Hp) (G : Gh) (a : Act) (w : World),St X G f H a w → EE P T md ops.toList (Q .normal) is f H →
  wpOpsIn (FW ro) 0 P ops (Post X Q) is a w
 | [],f,H,G,a,w,s,h => ⟨G,f,H,s,h⟩
 | i :: is,f,H,G,a,w,s,h => by
  rw [wpOpsIn_cons]
  simp only [EE] at h
  rw [Array.getElem?_toList] at h
  cases hi : ops[i]? with
  | none =>
   rw [hi] at h
   unfold wpOpIn
   rw [hi]
   exact Ow hT hsz is f H G a w s h
  | some o =>
   rw [hi] at h
   exact wpOpIn_mono (fun a w ⟨G,f,H,s,h⟩ => Ow hT hsz is f H G a w s h) (GY hT s hi (Cc hsz hi) h)
end
end Cp
namespace Cp
open Go
def AW (P : Program) (ro : Option Nat) (X : Cx) (c : Code) (Q : Exit → Fr → Hp → Prop) (f : Fr) (H : Hp) : Prop :=
 ∀ G a w,St X G f H a w → c.wpIn (FW ro) 0 P (Post X Q) a w
def Fz (K : Fr → Hp → Prop) (Q : Exit → Fr → Hp → Prop) : Exit → Fr → Hp → Prop
 | .normal,f,H => K f H
 | e,f,H => Q e f H
def E5 (id : Nat) (Q : Exit → Fr → Hp → Prop) : Exit → Fr → Hp → Prop
 | .exit id',f,H => if id' = id then Q .normal f H else Q (.exit id') f H
 | e,f,H => Q e f H
section
variable {P : Program} {T : Tab} {G G' : Gh} {w w' : World} {H H' : Hp} {md : Me} {X : Cx} {ro : Option Nat} {Q : Exit → Fr → Hp → Prop} {f : Fr}
theorem Post.mono {Q' : Exit → Fr → Hp → Prop} (h : ∀ e f H,Q e f H → Q' e f H) {e : Exit} {a : Act} {w : World} (hp : Post X Q e a w) : Post X Q' e a w := by
 obtain ⟨G,f,H,s,q⟩ := hp
 exact ⟨G,f,H,s,h e f H q⟩
theorem AW.mono {c : Code} {Q' : Exit → Fr → Hp → Prop} (h : AW P ro X c Q f H) (hq : ∀ e f H,Q e f H → Q' e f H) : AW P ro X c Q' f H :=
 fun G a w s => wpIn_mono (h G a w s) fun e a w hp => hp.mono hq
theorem Pw (h : Q .normal f H) : AW P ro X .skip Q f H := fun G a w s => wpIn_skip ⟨G,f,H,s,h⟩
theorem WP (h : Q .ret f H) : AW P ro X .ret Q f H := fun G a w s => wpIn_ret ⟨G,f,H,s,h⟩
theorem PJ {id : Nat} (h : Q (.exit id) f H) : AW P ro X (.exit id) Q f H := fun G a w s => wpIn_exit ⟨G,f,H,s,h⟩
theorem Xw {x y : Code} (K : Fr → Hp → Prop) (h : AW P ro X x (Fz K Q) f H) (hK : ∀ f H,K f H → AW P ro X y Q f H) : AW P ro X (.seq x y) Q f H := fun G a w s => by
 refine wpIn_seq (wpIn_mono (h G a w s) fun e a w hp => ?_)
 obtain ⟨G,f,H,s,q⟩ := hp
 cases e with
 | normal => exact hK f H q G a w s
 | _ => exact ⟨G,f,H,s,q⟩
theorem FB {x y : Code} (h : ∀ K : Fr → Hp → Prop,(∀ f H,AW P ro X y Q f H → K f H) → AW P ro X x (Fz K Q) f H) : AW P ro X (.seq x y) Q f H :=
 Xw _ (h _ fun _ _ h => h) fun _ _ h => h
theorem Mq {c : Operand} {x y : Code} {b : Bool} (hc : ev f c = .bool b) (h1 : b = true → AW P ro X x Q f H) (h2 : b = false → AW P ro X y Q f H) : AW P ro X (.cond c x y) Q f H := fun G a w s => by
 have hv := s.er c
 rw [hc] at hv
 generalize hx : a.eval c = v at hv
 cases hv
 exact wpIn_cond_split hx (fun e => h1 e G a w s) (fun e => h2 e G a w s)
theorem An {id : Nat} {c : Code} (h : AW P ro X c (E5 id Q) f H) : AW P ro X (.block id c) Q f H := fun G a w s => by
 refine wpIn_block (wpIn_mono (h G a w s) fun e a w hp => ?_)
 obtain ⟨G,f,H,s,q⟩ := hp
 cases e with
 | exit id' =>
  simp only [E5] at q
  simp only [Exit.inBlock]
  split at q
  ·rename_i e; rw [if_pos e]; exact ⟨G,f,H,s,q⟩
  ·rename_i e; rw [if_neg e]; exact ⟨G,f,H,s,q⟩
 | _ => exact ⟨G,f,H,s,q⟩
theorem AK {c : Code} (I : Nat → Fr → Hp → Prop) (n : Nat) (h0 : I n f H) (h : ∀ n f H,I n f H → AW P ro X c (Fz (fun f H => ∃ m,m < n ∧ I m f H) Q) f H) : AW P ro X (.loop c) Q f H := fun G a w s => by
 refine wpIn_loop_ghost (fun n a w => ∃ G f H,St X G f H a w ∧ I n f H) n ⟨G,f,H,s,h0⟩ (fun n a w ⟨G,f,H,s,hI⟩ => ?_)
 refine wpIn_mono (h n f H hI G a w s) fun e a w hp => ?_
 obtain ⟨G,f,H,s,q⟩ := hp
 cases e with
 | normal => obtain ⟨m,h1,h2⟩ := q; exact ⟨m,h1,G,f,H,s,h2⟩
 | _ => exact ⟨G,f,H,s,q⟩
theorem IV (hT : Ad P T) (md : Me) {id : Nat} {ops : Array Oper} (hsz : BF X.sz ops.toList = true) (h : K7 P T md ops.toList (Q .normal) ops.toList f H) : AW P ro X (.region id ops false) Q f H := fun G a w s => by
 refine wpIn_region ?_
 have e : ops.size = ops.toList.length := by simp
 rw [e]
 exact Ow hT hsz _ f H G a w s (by rw [Km]; exact h)
theorem Jw {c : Code} (H' : Hp) (hH : ∀ k,H' k = none ∨ H' k = H k) (h : AW P ro X c Q f H') : AW P ro X c Q f H :=
 fun G a w s => h G a w ⟨s.tr.drop hH,s.rel.drop hH,s.fr,s.size,s.dfr⟩
end
end Cp
