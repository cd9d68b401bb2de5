/- Rules,facts and contracts that the statement's proof leans on. Conditions: none. -/
import Derived.Test.YtopgldaekcmekaaGreatDoorRows
import Derived.LaidMore
import Derived.LaidHandle
import Derived.OpenShut
import Derived.FnData
import Derived.Test.YtopgldaekcmekaaGreatDoorP12
set_option linter.unusedVariables false
set_option linter.unusedSimpArgs false
set_option linter.unusedSectionVars false
namespace Cp
open Go Go.Proofs
set_option maxRecDepth 10000
set_option maxHeartbeats 1000000
end Cp
namespace Cp
open Go
theorem P1 {α : Type} {c : α → List Val} : ∀ {xss : List (List Val)},(∀ es ∈ xss,∃ x,es = c x) → ∃ l : List α,xss = l.map c
 | [],_ => ⟨[],rfl⟩
 | es :: xss,h => by
  obtain ⟨x,rfl⟩ := h es (by simp)
  obtain ⟨l,rfl⟩ := P1 fun es he => h es (List.mem_cons_of_mem _ he)
  exact ⟨x :: l,rfl⟩
theorem El {T : Tab} {n : Nat} {t e sz : Nat} {vs : List Val} {b b2 s1 : Nat} {z z2 : Val} {p p2 : Bool} {k2 : TK} {α : Type} {c : α → List Val} (ht : T t = some ⟨.slice e,s1,b,z,p⟩)
  (he : T e = some ⟨k2,sz,b2,z2,p2⟩) (h : Fit T (n + 1) t vs) (hc : ∀ es,Fit T n e es → ∃ x,es = c x) : ∃ l : List α,vs = [.lst sz (l.map c)] := by
 simp only [Fit,ht] at h
 obtain ⟨sz',xss,rfl,hs,_,hx⟩ := h
 rw [he] at hs
 cases hs
 obtain ⟨l,rfl⟩ := P1 (c := c) fun es hes => hc es (hx es hes).2
 exact ⟨l,rfl⟩
theorem Ck {T : Tab} {n : Nat} {t sz : Nat} {vs : List Val} {b : Nat} {z : Val} {p : Bool} {fs : List (Nat × Nat)} (ht : T t = some ⟨.struct fs,sz,b,z,p⟩) (h : Fit T (n + 1) t vs) :
  vs.length = sz ∧ ∀ q ∈ fs,∃ fi,T q.2 = some fi ∧ Fit T n q.2 ((vs.drop q.1).take fi.sz) := by
 simp only [Fit,ht] at h
 exact h
theorem Ju {T : Tab} {n : Nat} {t : Nat} {vs : List Val} {s b : Nat} {z : Val} {p : Bool} {k : IntKind} (ht : T t = some ⟨.int k,s,b,z,p⟩) (h : Fit T (n + 1) t vs) : ∃ m,vs = [.int k m] ∧ (Lit.int k m).wf = true := by
 simp only [Fit,ht] at h
 exact h
theorem Gw {n : Nat} {vs : List Val} (h : Fit tab (n + 1) 3 vs) : ∃ m,vs = [.int .i64 m] := by
 obtain ⟨m,h,_⟩ := Ju tab_3 h; exact ⟨m,h⟩
theorem RZ {n : Nat} {vs : List Val} {t b s1 : Nat} {z : Val} {p : Bool} (ht : tab t = some ⟨.slice 3,s1,b,z,p⟩) (h : Fit tab (n + 2) t vs) : ∃ l : List Int,vs = [.lst 1 (BM l)] := by
 obtain ⟨l,rfl⟩ := El (c := fun m : Int => [Val.int .i64 m]) ht tab_3 h fun es he => Gw he
 exact ⟨l,rfl⟩
theorem LN {n : Nat} {vs : List Val} {t b : Nat} {z : Val} {p : Bool} (ht : tab t = some ⟨.struct [(0,3),(1,3)],2,b,z,p⟩) (h : Fit tab (n + 2) t vs) : ∃ x y : Int,vs = [.int .i64 x,.int .i64 y] := by
 obtain ⟨hl,hq⟩ := Ck ht h
 match vs,hl with
 | [a,b],_ =>
  obtain ⟨fi,e,h0⟩ := hq (0,3) (by simp)
  rw [tab_3] at e; cases e
  obtain ⟨fi,e,h1⟩ := hq (1,3) (by simp)
  rw [tab_3] at e; cases e
  obtain ⟨x,hx⟩ := Gw h0
  obtain ⟨y,hy⟩ := Gw h1
  simp at hx hy
  exact ⟨x,y,by rw [hx,hy]⟩
theorem Eo {n : Nat} {vs : List Val} (h : Fit tab (n + 2) 26 vs) : ∃ s : Span,vs = [.int .i64 s.lo,.int .i64 s.hi] := by
 obtain ⟨x,y,h⟩ := LN tab_26 h; exact ⟨⟨x,y⟩,h⟩
theorem W2 {n : Nat} {vs : List Val} (h : Fit tab (n + 2) 139 vs) : ∃ x : Pt,vs = cPt x := by
 obtain ⟨x,y,h⟩ := LN tab_139 h; exact ⟨⟨x,y⟩,h⟩
theorem Sa {n : Nat} {vs : List Val} (h : Fit tab (n + 2) 66 vs) : ∃ x : StepT,vs = cStep x := by
 obtain ⟨x,y,h⟩ := LN tab_66 h; exact ⟨⟨x,y⟩,h⟩
theorem UR {n : Nat} {vs : List Val} (h : Fit tab (n + 3) 136 vs) : ∃ x : Cpl,vs = cCpl x := by
 obtain ⟨hl,hq⟩ := Ck tab_136 h
 match vs,hl with
 | [a,b,c,d,e,f],_ =>
  obtain ⟨fi,e0,h0⟩ := hq (0,3) (by simp)
  rw [tab_3] at e0; cases e0
  obtain ⟨fi,e1,h1⟩ := hq (1,26) (by simp)
  rw [tab_26] at e1; cases e1
  obtain ⟨fi,e2,h2⟩ := hq (3,26) (by simp)
  rw [tab_26] at e2; cases e2
  obtain ⟨fi,e3,h3⟩ := hq (5,3) (by simp)
  rw [tab_3] at e3; cases e3
  obtain ⟨x0,h0⟩ := Gw h0
  obtain ⟨x1,h1⟩ := Eo h1
  obtain ⟨x2,h2⟩ := Eo h2
  obtain ⟨x3,h3⟩ := Gw h3
  simp at h0 h1 h2 h3
  obtain ⟨h1,h1'⟩ := h1
  obtain ⟨h2,h2'⟩ := h2
  exact ⟨⟨x0,x1,x2,x3⟩,by rw [h0,h1,h1',h2,h2',h3]; rfl⟩
theorem Ur {n : Nat} {vs : List Val} (h : Fit tab (n + 3) 126 vs) : ∃ x : RowT,vs = cRow x := by
 obtain ⟨hl,hq⟩ := Ck tab_126 h
 match vs,hl with
 | [a,b],_ =>
  obtain ⟨fi,e0,h0⟩ := hq (0,75) (by simp)
  rw [tab_75] at e0; cases e0
  obtain ⟨fi,e1,h1⟩ := hq (1,3) (by simp)
  rw [tab_3] at e1; cases e1
  obtain ⟨x0,h0⟩ := RZ tab_75 h0
  obtain ⟨x1,h1⟩ := Gw h1
  simp at h0 h1
  exact ⟨⟨x0,x1⟩,by rw [h0,h1]; rfl⟩
theorem TR {n : Nat} {vs : List Val} (h : Fit tab (n + 3) 22 vs) : ∃ l : List Pt,vs = [.lst 2 (l.map cPt)] := El tab_22 tab_139 h fun es he => W2 he
theorem Ui {n : Nat} {vs : List Val} (h : Fit tab (n + 5) 28 vs) : ∃ r : RunT,vs = A7 r := by
 obtain ⟨hl,hq⟩ := Ck tab_28 h
 match vs,hl with
 | [a,b,c,d,e,f],_ =>
  obtain ⟨fi,e0,h0⟩ := hq (0,3) (by simp)
  rw [tab_3] at e0; cases e0
  obtain ⟨fi,e1,h1⟩ := hq (1,22) (by simp)
  rw [tab_22] at e1; cases e1
  obtain ⟨fi,e2,h2⟩ := hq (2,23) (by simp)
  rw [tab_23] at e2; cases e2
  obtain ⟨fi,e3,h3⟩ := hq (3,24) (by simp)
  rw [tab_24] at e3; cases e3
  obtain ⟨fi,e4,h4⟩ := hq (4,26) (by simp)
  rw [tab_26] at e4; cases e4
  obtain ⟨x0,h0⟩ := Gw h0
  obtain ⟨x1,h1⟩ := TR h1
  obtain ⟨x2,h2⟩ := El tab_23 tab_136 h2 fun es he => UR he
  obtain ⟨x3,h3⟩ := El tab_24 tab_126 h3 fun es he => Ur he
  obtain ⟨x4,h4⟩ := Eo h4
  simp at h0 h1 h2 h3 h4
  obtain ⟨h4,h4'⟩ := h4
  exact ⟨⟨x0,x1,x2,x3,x4⟩,by rw [h0,h1,h2,h3,h4,h4']; rfl⟩
theorem Q1 {n : Nat} {vs : List Val} (h : Fit tab (n + 5) 31 vs) : ∃ u : RulesT,vs = A3 u := by
 obtain ⟨hl,hq⟩ := Ck tab_31 h
 match vs,hl with
 | [a,b,c,d,e,f],_ =>
  obtain ⟨fi,e0,h0⟩ := hq (0,29) (by simp)
  rw [tab_29] at e0; cases e0
  obtain ⟨fi,e1,h1⟩ := hq (1,3) (by simp)
  rw [tab_3] at e1; cases e1
  obtain ⟨fi,e2,h2⟩ := hq (2,3) (by simp)
  rw [tab_3] at e2; cases e2
  obtain ⟨fi,e3,h3⟩ := hq (3,26) (by simp)
  rw [tab_26] at e3; cases e3
  obtain ⟨fi,e4,h4⟩ := hq (5,3) (by simp)
  rw [tab_3] at e4; cases e4
  obtain ⟨x0,h0⟩ := El tab_29 tab_66 h0 fun es he => Sa he
  obtain ⟨x1,h1⟩ := Gw h1
  obtain ⟨x2,h2⟩ := Gw h2
  obtain ⟨x3,h3⟩ := Eo h3
  obtain ⟨x4,h4⟩ := Gw h4
  simp at h0 h1 h2 h3 h4
  obtain ⟨h3,h3'⟩ := h3
  exact ⟨⟨x0,x1,x2,x3,x4⟩,by rw [h0,h1,h2,h3,h3',h4]; rfl⟩
theorem arg_byte {a : Val} (h : UD tab 8 5 a) : ∃ m,a = .int .u8 m ∧ 0 ≤ m ∧ m ≤ 255 := by
 obtain ⟨ti,cs,e,h,_,rfl⟩ := h
 obtain ⟨m,rfl,hw⟩ := Ju tab_5 h
 rw [tab_5] at e; cases e
 simp [Lit.wf,IntKind.min,IntKind.max,IntKind.signed,IntKind.bits] at hw
 exact ⟨m,rfl,by omega,by omega⟩
theorem Rg {n : Nat} {vs : List Val} (h : Fit tab (n + 3) 70 vs) : ∃ x : NoteT,vs = cNote x ∧ 0 ≤ x.kind ∧ x.kind ≤ 255 := by
 obtain ⟨hl,hq⟩ := Ck tab_70 h
 match vs,hl with
 | [a,b,c,d,e],_ =>
  obtain ⟨fi,e0,h0⟩ := hq (0,3) (by simp)
  rw [tab_3] at e0; cases e0
  obtain ⟨fi,e1,h1⟩ := hq (1,5) (by simp)
  rw [tab_5] at e1; cases e1
  obtain ⟨fi,e2,h2⟩ := hq (2,3) (by simp)
  rw [tab_3] at e2; cases e2
  obtain ⟨fi,e3,h3⟩ := hq (3,26) (by simp)
  rw [tab_26] at e3; cases e3
  obtain ⟨x0,h0⟩ := Gw h0
  obtain ⟨x1,h1,hw⟩ := Ju tab_5 h1
  obtain ⟨x2,h2⟩ := Gw h2
  obtain ⟨x3,h3⟩ := Eo h3
  simp [Lit.wf,IntKind.min,IntKind.max,IntKind.signed,IntKind.bits] at hw
  simp at h0 h1 h2 h3
  obtain ⟨h3,h3'⟩ := h3
  exact ⟨⟨x0,x1,x2,x3⟩,by rw [h0,h1,h2,h3,h3']; rfl,by simp only; omega,by simp only; omega⟩
theorem Km {α : Type} {c : α → List Val} {p : α → Prop} : ∀ {xss : List (List Val)},(∀ es ∈ xss,∃ x,es = c x ∧ p x) → ∃ l : List α,xss = l.map c ∧ ∀ x ∈ l,p x
 | [],_ => ⟨[],rfl,fun x h => by simp at h⟩
 | es :: xss,h => by
  obtain ⟨x,rfl,hp⟩ := h es (by simp)
  obtain ⟨l,rfl,hl⟩ := Km fun es he => h es (List.mem_cons_of_mem _ he)
  exact ⟨x :: l,rfl,fun y hy => by rcases List.mem_cons.1 hy with rfl | hy; exact hp; exact hl y hy⟩
theorem Oz {T : Tab} {n : Nat} {t e sz : Nat} {vs : List Val} {b b2 s1 : Nat} {z z2 : Val} {p p2 : Bool} {k2 : TK} {α : Type} {c : α → List Val} {q : α → Prop} (ht : T t = some ⟨.slice e,s1,b,z,p⟩)
  (he : T e = some ⟨k2,sz,b2,z2,p2⟩) (h : Fit T (n + 1) t vs) (hc : ∀ es,Fit T n e es → ∃ x,es = c x ∧ q x) : ∃ l : List α,vs = [.lst sz (l.map c)] ∧ ∀ x ∈ l,q x := by
 simp only [Fit,ht] at h
 obtain ⟨sz',xss,rfl,hs,_,hx⟩ := h
 rw [he] at hs
 cases hs
 obtain ⟨l,rfl,hq⟩ := Km (c := c) fun es hes => hc es (hx es hes).2
 exact ⟨l,rfl,hq⟩
theorem Q4 {T : Tab} {n : Nat} {t sz m e : Nat} {vs : List Val} {b : Nat} {z : Val} {p : Bool} (ht : T t = some ⟨.array m e,sz,b,z,p⟩) (h : Fit T (n + 1) t vs) :
  vs.length = sz ∧ ∀ i,i < m → ∃ fi,T e = some fi ∧ Fit T n e ((vs.drop (i * fi.sz)).take fi.sz) := by
 simp only [Fit,ht] at h
 exact h
theorem R0 {n : Nat} {vs : List Val} (h : Fit tab (n + 2) 32 vs) : ∃ a b c d e g : Int,vs = [.int .i64 a,.int .i64 b,.int .i64 c,.int .i64 d,.int .i64 e,.int .i64 g] := by
 obtain ⟨hl,hq⟩ := Q4 tab_32 h
 match vs,hl with
 | [a,b,c,d,e,g],_ =>
  have q := fun i hi => hq i hi
  have one : ∀ i v,i < 6 → ([a,b,c,d,e,g] : List Val)[i]? = some v → ∃ m,v = .int .i64 m := by
   intro i v hi hv
   obtain ⟨fi,ef,hf⟩ := q i hi
   rw [tab_3] at ef; cases ef
   obtain ⟨m,hm⟩ := Gw hf
   refine ⟨m,?_⟩
   have : ((([a,b,c,d,e,g] : List Val).drop (i * 1)).take 1)[0]? = some (.int .i64 m) := by rw [hm]; rfl
   rw [List.getElem?_take,if_pos (by decide),List.getElem?_drop,Nat.mul_one,Nat.add_zero,hv] at this
   exact Option.some.inj this
  obtain ⟨m0,rfl⟩ := one 0 a (by decide) rfl
  obtain ⟨m1,rfl⟩ := one 1 b (by decide) rfl
  obtain ⟨m2,rfl⟩ := one 2 c (by decide) rfl
  obtain ⟨m3,rfl⟩ := one 3 d (by decide) rfl
  obtain ⟨m4,rfl⟩ := one 4 e (by decide) rfl
  obtain ⟨m5,rfl⟩ := one 5 g (by decide) rfl
  exact ⟨m0,m1,m2,m3,m4,m5,rfl⟩
def IA (t : TestT) : Prop := ∀ n ∈ t.notes,0 ≤ n.kind ∧ n.kind ≤ 255
set_option maxHeartbeats 2000000 in
theorem R2 {n : Nat} {vs : List Val} (h : Fit tab (n + 6) 35 vs) : ∃ t : TestT,vs = A2 t ∧ IA t := by
 obtain ⟨hl,hq⟩ := Ck tab_35 h
 have cut : ∀ (vs : List Val),vs.length = 23 → vs = vs.take 1 ++ ((vs.drop 1).take 6 ++ ((vs.drop 7).take 6 ++ ((vs.drop 13).take 2 ++ ((vs.drop 15).take 1 ++ ((vs.drop 16).take 6 ++ (vs.drop 22).take 1))))) := by
  intro vs hl
  have d : ∀ (a k : Nat),vs.drop a = (vs.drop a).take k ++ vs.drop (a + k) := fun a k => by rw [← List.drop_drop,List.take_append_drop]
  have e : (vs.drop 22).take 1 = vs.drop 22 := List.take_of_length_le (by rw [List.length_drop]; omega)
  rw [e,← d 16 6,← d 15 1,← d 13 2,← d 7 6,← d 1 6]
  exact (List.take_append_drop 1 vs).symm
 obtain ⟨fi,e0,h0⟩ := hq (0,3) (by simp)
 rw [tab_3] at e0; cases e0
 obtain ⟨fi,e1,h1⟩ := hq (1,28) (by simp)
 rw [tab_28] at e1; cases e1
 obtain ⟨fi,e2,h2⟩ := hq (7,31) (by simp)
 rw [tab_31] at e2; cases e2
 obtain ⟨fi,e3,h3⟩ := hq (13,26) (by simp)
 rw [tab_26] at e3; cases e3
 obtain ⟨fi,e4,h4⟩ := hq (15,3) (by simp)
 rw [tab_3] at e4; cases e4
 obtain ⟨fi,e5,h5⟩ := hq (16,32) (by simp)
 rw [tab_32] at e5; cases e5
 obtain ⟨fi,e6,h6⟩ := hq (22,33) (by simp)
 rw [tab_33] at e6; cases e6
 obtain ⟨x0,h0⟩ := Gw h0
 obtain ⟨x1,h1⟩ := Ui h1
 obtain ⟨x2,h2⟩ := Q1 h2
 obtain ⟨x3,h3⟩ := Eo h3
 obtain ⟨x4,h4⟩ := Gw h4
 obtain ⟨l0,l1,l2,l3,l4,l5,h5⟩ := R0 h5
 obtain ⟨x6,h6,hu⟩ := Oz tab_33 tab_70 h6 fun es he => Rg he
 simp only [List.drop_zero] at h0
 refine ⟨⟨x0,x1,x2,x3,x4,l0,l1,l2,l3,l4,l5,x6⟩,?_,hu⟩
 rw [cut vs hl,h0,h1,h2,h3,h4,h5,h6]
 rfl
theorem arg_test {a : Val} (h : UD tab 8 35 a) : ∃ t : TestT,a = A4 t ∧ IA t := by
 obtain ⟨ti,cs,e,h,_,rfl⟩ := h
 obtain ⟨l,rfl,hu⟩ := R2 h
 rw [tab_35] at e; cases e; exact ⟨l,rfl,hu⟩
end Cp
namespace Cp
open Go Go.Proofs
set_option maxRecDepth 10000
set_option maxHeartbeats 2000000
structure TestG (t : TestT) : Prop where
 sm : RunSm t.run
 steps : t.rules.steps.length ≤ 10
 notes : t.notes.length ≤ 80
 tb : TestB t
theorem Vp {t : TestT} (h : FD t = false) (hu : IA t) : TestG t := by
 unfold FD at h
 rw [Bool.or_eq_false_iff,decide_eq_false_iff_not] at h
 obtain ⟨h1,h2⟩ := Ro h.1
 exact ⟨h1,h2,by omega,h1.b,⟨by omega⟩,by omega,hu⟩
theorem byteL_c8 : ∀ {l : List Int},byteL (l.map c8) = some l
 | [] => rfl
 | a :: l => by simp only [List.map_cons,c8,byteL,byteL_c8 (l := l)]
end Cp
namespace Cp
open Go Go.Proofs
set_option maxRecDepth 100000
set_option maxHeartbeats 2000000
def exRows : List RowT := List.replicate 21 ⟨[500],0⟩ ++ [⟨[560],0⟩] ++ List.replicate 3 ⟨[500],0⟩
def exRun : RunT := ⟨0,[⟨0,500⟩,⟨60,500⟩],[⟨0,⟨-1,0⟩,⟨0,0⟩,0⟩],exRows,⟨0,0⟩⟩
def exRules : RulesT := ⟨[],60,1,⟨0,0⟩,1⟩
def Ew (a k v o : Int) : NoteT := ⟨a,k,v,⟨-o,o⟩⟩
def exNotes : List NoteT := [Ew 600 5 150 10,Ew 900 5 175 10,Ew 1000 4 0 0,Ew 1200 5 195 10,Ew 1260 4 1 0,Ew 1500 1 60 0,Ew 1500 2 5 0,Ew 1500 3 4 0,Ew 1500 6 100 0]
def exT : TestT := ⟨4,exRun,exRules,⟨0,30⟩,1500,100,10,6,0,180,140,exNotes⟩
def exV : Val := .agg ((A2 exT).set 7 .nils)
theorem test_run : PureC Tryz.prog 55 [] exV := U9 (n := 400) tabOK mix look_ok (by rfl) (by kernel_rfl) (by kernel_rfl)
theorem VR.agg_set {G : Gh} {w : World} {cs : List Val} {i n : Nat} {x : Value} (h : VR G w (.agg (cs.set i .nils)) x) (hc : cs[i]? = some (.lst n [])) : VR G w (.agg cs) x := by
 cases h with
 | agg _ xs hs hcl hv =>
  have hi : i < cs.length := (List.getElem?_eq_some_iff.1 hc).1
  refine .agg _ xs (by simpa using hs) (fun j v hj => ?_) (fun j v hj => ?_)
  ·by_cases hji : i = j
   ·subst hji; rw [hc] at hj; cases hj; rfl
   ·exact hcl j v (by rw [List.getElem?_set,if_neg hji]; exact hj)
  ·by_cases hji : i = j
   ·subst hji
    rw [hc] at hj; cases hj
    exact (hv i .nils (by rw [List.getElem?_set,if_pos rfl,if_pos hi])).nils_lst _
   ·exact hv j v (by rw [List.getElem?_set,if_neg hji]; exact hj)
theorem test_ok : PureC Tryz.prog 55 [] (A4 exT) := PureC.weak test_run (by kernel_rfl) fun G w x h => VR.agg_set (n := 2) h (by kernel_rfl)
theorem exB : TestB exT := ⟨⟨by decide,by decide,by decide,by decide⟩,⟨by decide⟩,by decide,by decide⟩
theorem ex_first : GG exT 3 = .tup [Ab ⟨0,⟨571,1200⟩⟩,.int .i64 0] := by kernel_rfl
theorem ex_fails5 : Gu exT 5 = .tup [Ab ⟨0,⟨571,1200⟩⟩,.int .i64 0] := by kernel_rfl
theorem ex_fails3 : Gu exT 3 = .tup [Ab ⟨2,⟨0,0⟩⟩,.int .i64 0] := by kernel_rfl
theorem ex_class1 : E5 exT 1 = .tup [A9 ⟨20,20⟩,.int .i64 0] := by kernel_rfl
theorem ex_class2 : E5 exT 2 = .tup [A9 ⟨15,20⟩,.int .i64 0] := by kernel_rfl
theorem ex_class3 : E5 exT 3 = .tup [A9 ⟨5,15⟩,.int .i64 0] := by kernel_rfl
theorem ex_stops1 : Iu exT 1 = .tup [.lst 1 [[.int .u8 7],[.int .u8 8]],.int .i64 0] := by kernel_rfl
theorem ex_stops2 : Iu exT 2 = .tup [.lst 1 [[.int .u8 4]],.int .i64 0] := by kernel_rfl
theorem ex_stops3 : Iu exT 3 = .tup [.lst 1 [[.int .u8 5]],.int .i64 0] := by kernel_rfl
end Cp
namespace Cp
open Go
end Cp
namespace Cp
open Go Go.Proofs
set_option maxRecDepth 10000
set_option maxHeartbeats 4000000
def c32 (m : Int) : List Val := [.int .u32 m]
@[go_sem] theorem aC {l : List Int} : noidss (l.map c32) = true := Bi fun _ => rfl
def chI (l : List Int) (i : Int) : Int := if l.length = 0 then 0 else (l[(i.tmod l.length).toNat]?).getD 0
def By (l : List Int) : Prop := ∀ m ∈ l,0 ≤ m ∧ m ≤ 4294967295
theorem Jx {l : List Int} (hl : By l) (i : Int) : 0 ≤ chI l i ∧ chI l i ≤ 4294967295 := by
 unfold chI
 split
 ·omega
 ·cases hq : l[(i.tmod l.length).toNat]? with
  | none => simp
  | some x => exact hl x (List.mem_of_getElem? hq)
end Cp
namespace Cp
open Go Go.Proofs
set_option maxRecDepth 10000
set_option maxHeartbeats 2000000
theorem KJ (lo hi : Int) : PureC Tryz.prog 26 [.int .i64 lo,.int .i64 hi] (A9 ⟨lo,hi⟩) := by
 refine A6 (fn := Tryz.f26) tabOK (by kernel_rfl) rfl (by kernel_rfl) (by simp [Tryz.f26]) (by simp [noids,noid,noidss,go_sem,A9]) (by first | rfl | simp [noids,noid,noidss,go_sem,A9]) ?_
 intro X hX0 hXs
 repeat' (first | with_reducible (first | (refine sk ?_; intro K hK) | intro (ep : Nat → Nat) | apply_assumption -exfalso -symm only [*]) | ((with_reducible first | refine rg (h := ?_) | refine nx ?_); try simp (disch := omega) only [A9,go_sem,simprocAttr]) | ((with_reducible refine fe ?_); refine ⟨_,(by simp only [Tryz.f26,A9,go_sem,simprocAttr]; rfl),?_⟩; rfl) | fail)
theorem Lq (c h lo hi : Int) (hc : 0 ≤ c ∧ c ≤ 255) (hf : Gu exT c = .tup [Ab ⟨h,⟨lo,hi⟩⟩,.int .i64 0]) : PureC Tryz.prog 56 [.int .u8 c,.int .u8 h,.int .i64 lo,.int .i64 hi] (.bool true) := by
 have h1 := Qy exT exB c hc
 have ht := test_ok
 rw [hf] at h1
 have hls := KJ lo hi
 generalize A4 exT = tv at *
 simp only [A9,Ab,Ai] at h1 hls
 refine A6 (fn := Tryz.f56) tabOK (by kernel_rfl) rfl (by kernel_rfl) (by simp [Tryz.f56]) (by simp [noids,noid,noidss,go_sem]) (by first | rfl | simp [noids,noid,noidss,go_sem]) ?_
 intro X hX0 hXs
 repeat' (first | with_reducible (first | (refine sk ?_; intro K hK) | intro (ep : Nat → Nat) | apply_assumption -exfalso -symm only [*]) | ((first | (with_reducible first | refine rg (h := ?_) | refine nx ?_) | refine pK (ht) ?_ | refine pK (h1) ?_ | refine pK (hls) ?_); try simp (disch := omega) only [A9,Ab,Ai,go_sem,simprocAttr]) | ((with_reducible refine fe ?_); refine ⟨_,(by simp only [Tryz.f56,A9,Ab,Ai,go_sem,simprocAttr]; rfl),?_⟩; rfl) | fail)
theorem Fq (l lo hi : Int) (st : List Int) (hl : 0 ≤ l ∧ l ≤ 255) (hc : E5 exT l = .tup [A9 ⟨lo,hi⟩,.int .i64 0]) (hs : Iu exT l = .tup [.lst 1 (st.map c8),.int .i64 0]) :
  PureC Tryz.prog 57 [.int .u8 l,.int .i64 lo,.int .i64 hi,.str (Gb st)] (.bool true) := by
 have h1 := Lt exT exB l hl
 have h2 := QE exT exB l hl
 have ht := test_ok
 have hby := @byteL_c8 st
 rw [hc] at h1
 rw [hs] at h2
 have hls := KJ lo hi
 generalize A4 exT = tv at *
 simp only [A9] at h1 hls
 refine A6 (fn := Tryz.f57) tabOK (by kernel_rfl) rfl (by kernel_rfl) (by simp [Tryz.f57]) (by simp [noids,noid,noidss,go_sem]) (by first | rfl | simp [noids,noid,noidss,go_sem]) ?_
 intro X hX0 hXs
 repeat' (first | with_reducible (first | (refine sk ?_; intro K hK) | intro (ep : Nat → Nat) | apply_assumption -exfalso -symm only [*]) | ((first | (with_reducible first | refine rg (h := ?_) | refine nx ?_) | refine pK (ht) ?_ | refine pK (h1) ?_ | refine pK (h2) ?_ | refine pK (hls) ?_); try simp (disch := omega) only [A9,hby,go_sem,simprocAttr]) | ((with_reducible refine fe ?_); refine ⟨_,(by simp only [Tryz.f57,A9,hby,go_sem,simprocAttr]; rfl),?_⟩; rfl) | fail)
theorem alive_ok : PureC Tryz.prog 19 [] (.bool true) := by
 have h1 := Lp exT exB 3 (by decide)
 rw [ex_first] at h1
 have ht := test_ok
 have f5 := Lq 5 0 571 1200 (by decide) ex_fails5
 have f3 := Lq 3 2 0 0 (by decide) ex_fails3
 have c1 := Fq 1 20 20 [7,8] (by decide) ex_class1 ex_stops1
 have c2 := Fq 2 15 20 [4] (by decide) ex_class2 ex_stops2
 have c3 := Fq 3 5 15 [5] (by decide) ex_class3 ex_stops3
 have e1 : Gb [7,8] = { data := #[7,8] } := by decide +kernel
 have e2 : Gb [4] = { data := #[4] } := by decide +kernel
 have e3 : Gb [5] = { data := #[5] } := by decide +kernel
 rw [e1] at c1
 rw [e2] at c2
 rw [e3] at c3
 have hls := KJ 571 1200
 generalize A4 exT = tv at *
 simp only [A9,Ab,Ai] at h1 hls
 refine A6 (fn := Tryz.f19) tabOK (by kernel_rfl) rfl (by kernel_rfl) (by simp [Tryz.f19]) (by simp [noids,noid,noidss,go_sem]) (by first | rfl | simp [noids,noid,noidss,go_sem]) ?_
 intro X hX0 hXs
 repeat' (first | with_reducible (first | (refine sk ?_; intro K hK) | intro (ep : Nat → Nat) | apply_assumption -exfalso -symm only [*]) | ((first | (with_reducible first | refine rg (h := ?_) | refine nx ?_) | refine pK (ht) ?_ | refine pK (h1) ?_ | refine pK (f5) ?_ | refine pK (f3) ?_ | refine pK (c1) ?_ | refine pK (c2) ?_ | refine pK (c3) ?_ | refine pK (hls) ?_); try simp (disch := omega) only [A9,Ab,Ai,go_sem,simprocAttr]) | ((with_reducible refine fe ?_); refine ⟨_,(by simp only [Tryz.f19,A9,Ab,Ai,go_sem,simprocAttr]; rfl),?_⟩; rfl) | fail)
theorem Qq (t : TestT) (hu : IA t) : PureC Tryz.prog 20 [A4 t] (.bool (!FD t && decide (Ao t = 0))) := by
 have hg := Oc t
 cases hgr : FD t with
 | true =>
  rw [hgr] at hg
  simp only [A4,A2] at hg
  refine A6 (fn := Tryz.f20) tabOK (by kernel_rfl) rfl (by kernel_rfl) (by simp [Tryz.f20]) (by simp [noids,noid,noidss,go_sem,A4,A2]) (by first | rfl | simp [noids,noid,noidss,go_sem,A4,A2]) ?_
  intro X hX0 hXs
  repeat' (first | with_reducible (first | (refine sk ?_; intro K hK) | apply_assumption -exfalso -symm only [*]) | ((first | (with_reducible first | refine rg (h := ?_) | refine nx ?_) | refine pK (hg) ?_); try simp (disch := omega) only [A4,A2,go_sem,simprocAttr]) | ((with_reducible refine fe ?_); refine ⟨_,(by simp only [Tryz.f20,A4,A2,go_sem,simprocAttr]; rfl),?_⟩; rfl) | fail)
 | false =>
  have hck := OO t (Vp hgr hu).tb
  rw [hgr] at hg
  simp only [A4,A2] at hg hck
  generalize Ao t = k at *
  refine A6 (fn := Tryz.f20) tabOK (by kernel_rfl) rfl (by kernel_rfl) (by simp [Tryz.f20]) (by simp [noids,noid,noidss,go_sem,A4,A2]) (by first | rfl | simp [noids,noid,noidss,go_sem,A4,A2]) ?_
  intro X hX0 hXs
  repeat' (first | with_reducible (first | (refine sk ?_; intro K hK) | apply_assumption -exfalso -symm only [*]) | ((first | (with_reducible first | refine rg (h := ?_) | refine nx ?_) | refine pK (hg) ?_ | refine pK (hck) ?_); try simp (disch := omega) only [A4,A2,go_sem,simprocAttr]) | ((with_reducible refine fe ?_); refine ⟨_,(by simp only [Tryz.f20,A4,A2,go_sem,simprocAttr]; rfl),?_⟩; rfl) | fail)
theorem PV {t : TestT} (hu : IA t) (h : (!FD t && decide (Ao t = 0)) = true) : TestG t ∧ TestF t ∧ Ao t = 0 := by
 rw [Bool.and_eq_true,Bool.not_eq_true',decide_eq_true_eq] at h
 exact ⟨Vp h.1 hu,RG h.2,h.2⟩
def Ue (n : Int) : Int := 1 + n.tmod 3
theorem Sd {n : Int} (h : 0 ≤ n) : ∃ k : Nat,Ue n = (k : Int) ∧ 1 ≤ k ∧ k ≤ 3 := by
 have h1 : 0 ≤ n.tmod 3 := Int.tmod_nonneg _ h
 have h2 : n.tmod 3 < 3 := Int.tmod_lt_of_pos _ (by decide)
 exact ⟨(1 + n.tmod 3).toNat,by unfold Ue; omega,by omega,by omega⟩
theorem LP (n : Int) (h : 0 ≤ n ∧ n ≤ 255) : PureC Tryz.prog 21 [.int .u8 n] (.int .u8 (Ue n)) := by
 have h1 : 0 ≤ n.tmod 3 := Int.tmod_nonneg _ h.1
 have h2 : n.tmod 3 < 3 := Int.tmod_lt_of_pos _ (by decide)
 unfold Ue
 have hw : IntKind.u8.wrap (1 + n.tmod 3) = 1 + n.tmod 3 := IntWalk.u8_in _ (by omega)
 have hw2 : IntKind.u8.wrap (n.tmod 3) = n.tmod 3 := IntWalk.u8_in _ (by omega)
 refine A6 (fn := Tryz.f21) tabOK (by kernel_rfl) rfl (by kernel_rfl) (by simp [Tryz.f21]) (by simp [noids,noid,noidss,go_sem]) (by first | rfl | simp [noids,noid,noidss,go_sem]) ?_
 intro X hX0 hXs
 repeat' (first | with_reducible (first | (refine sk ?_; intro K hK) | apply_assumption -exfalso -symm only [*]) | ((with_reducible first | refine rg (h := ?_) | refine nx ?_); try simp (disch := omega) only [hw,hw2,go_sem,simprocAttr]) | ((with_reducible refine fe ?_); refine ⟨_,(by simp only [Tryz.f21,hw,hw2,go_sem,simprocAttr]; rfl),?_⟩; rfl) | fail)
theorem GB (l : List Int) (hby : By l) (i : Int) (hi : 0 ≤ i) : PureC Tryz.prog 28 [.lst 1 (l.map c32),.int .i64 i] (.int .i64 (chI l i)) := by
 by_cases h0 : l.length = 0
 ·have hnil : l = [] := List.eq_nil_of_length_eq_zero h0
  subst hnil
  refine A6 (fn := Tryz.f28) tabOK (by kernel_rfl) rfl (by kernel_rfl) (by simp [Tryz.f28]) (by simp [noids,noid,noidss,go_sem]) (by first | rfl | simp [noids,noid,noidss,go_sem]) ?_
  intro X hX0 hXs
  repeat' (first | with_reducible (first | (refine sk ?_; intro K hK) | apply_assumption -exfalso -symm only [*]) | ((with_reducible first | refine rg (h := ?_) | refine nx ?_); try simp (disch := omega) only [go_sem,simprocAttr]) | ((with_reducible refine' cE ?hv ?_ ?_); (case hv => rfl); all_goals (intro hc; (try simp only [go_sem,simprocAttr] at hc))) | ((with_reducible refine fe ?_); refine ⟨_,(by simp only [Tryz.f28,go_sem,simprocAttr]; rfl),?_⟩; rfl) | fail)
 ·have hz : ¬ (l.length : Int) = 0 := by omega
  have hpos : (0 : Int) < (l.length : Int) := by clear hi; omega
  have h1 : 0 ≤ i.tmod l.length := Int.tmod_nonneg _ hi
  have h2 : i.tmod l.length < l.length := Int.tmod_lt_of_pos _ hpos
  obtain ⟨j,hj⟩ : ∃ j : Nat,i.tmod l.length = j := ⟨(i.tmod l.length).toNat,(Int.toNat_of_nonneg h1).symm⟩
  obtain ⟨x,hx⟩ : ∃ x,l[j]? = some x := ⟨_,List.getElem?_eq_getElem (by rw [hj] at h2; exact Int.ofNat_lt.1 h2)⟩
  have hv : chI l i = x := by unfold chI; rw [if_neg h0,hj,Int.toNat_natCast,hx]; rfl
  have hxb := hby x (List.mem_of_getElem? hx)
  rw [hv]
  refine A6 (fn := Tryz.f28) tabOK (by kernel_rfl) rfl (by kernel_rfl) (by simp [Tryz.f28]) (by simp [noids,noid,noidss,go_sem]) (by first | rfl | simp [noids,noid,noidss,go_sem]) ?_
  intro X hX0 hXs
  repeat' (first | with_reducible (first | (refine sk ?_; intro K hK) | apply_assumption -exfalso -symm only [*]) | ((with_reducible first | refine rg (h := ?_) | refine nx ?_); try simp (disch := omega) only [hz,hj,hx,c32,go_sem,simprocAttr]) | ((with_reducible refine' cE ?hv ?_ ?_); (case hv => rfl); all_goals (intro hc; (try simp only [go_sem,simprocAttr] at hc))) | ((with_reducible refine fe ?_); refine ⟨_,(by simp only [Tryz.f28,hz,hj,hx,c32,go_sem,simprocAttr]; rfl),?_⟩; rfl) | fail)
theorem NQ (t : TestT) (hF : TestF t) (hb : TestB t) (k : Nat) (hk : k < 6) :
  PureC Tryz.prog 23 [A4 t,.int .u8 ((k + 1 : Nat) : Int)] (.tup [.int .i64 (frC t k),.int .i64 (toC t k),.bool (!(Cq t k).isSome)]) := by
 have hN := hF.notes
 have hf := hF.fin
 have hl := hb.notes
 have hall := NU hN k
 refine A6 (fn := Tryz.f23) tabOK (by kernel_rfl) rfl (by kernel_rfl) (by simp [Tryz.f23]) (by simp [noids,noid,noidss,go_sem,A4,A2]) (by first | rfl | simp [noids,noid,noidss,go_sem,A4,A2]) ?_
 intro X hX0 hXs
 repeat' (first | with_reducible (first | (refine sk ?_; intro K hK) | apply_assumption -exfalso -symm only [*]) | ((with_reducible refine rg (h := ?_)); try simp (disch := omega) only [A4,A2,go_sem,simprocAttr]) | fail)
 refine An tabOK t.notes.length (fun i f H => (f 1 = .int .u8 ((k + 1 : Nat) : Int) ∧ f 2 = .pim (A2 t) ∧ f 12 = .lst 5 (t.notes.map cNote)) ∧ f 4 = .int .i64 (CM t k (t.notes.take i)).1 ∧ f 5 = .int .i64 (CM t k (t.notes.take i)).2.1 ∧ f 6 = .bool (!(CM t k (t.notes.take i)).2.2)) (by omega) (by rw [hXs]; decide) (by decide) (by (first | rfl | (simp only [go_sem,simprocAttr]; done) | (simp only [go_sem,simprocAttr]; rfl))) (by (first | rfl | (simp only [go_sem,simprocAttr]; done) | (simp only [go_sem,simprocAttr]; rfl)))
  ⟨by (and_intros <;> first | rfl | (simp only [A2,go_sem,simprocAttr]; done) | (simp only [A2,go_sem,simprocAttr]; rfl)),by (first | rfl | (simp only [CM,List.take_zero,List.foldl_nil,go_sem,simprocAttr]; done) | (simp only [CM,List.take_zero,List.foldl_nil,go_sem,simprocAttr]; rfl)),by (first | rfl | (simp only [CM,List.take_zero,List.foldl_nil,go_sem,simprocAttr]; done) | (simp only [CM,List.take_zero,List.foldl_nil,go_sem,simprocAttr]; rfl)),by (first | rfl | (simp only [CM,List.take_zero,List.foldl_nil,Bool.not_false,go_sem,simprocAttr]; done) | (simp only [CM,List.take_zero,List.foldl_nil,Bool.not_false,go_sem,simprocAttr]; rfl))⟩ ?_ ?_
 ·rintro i f H hi h14 h13 ⟨⟨h1,h2,h12⟩,h4,h5,h6⟩
  obtain ⟨n,hn⟩ : ∃ x,t.notes[i]? = some x := ⟨_,List.getElem?_eq_getElem hi⟩
  have hsn := L6 (c := k) hn
  have hna := FJ hn
  have hnb := FS hN n (List.mem_of_getElem? hn)
  have hns := LA hN n (List.mem_of_getElem? hn)
  rw [hsn]
  clear hsn hall
  generalize CM t k (t.notes.take i) = s at *
  obtain ⟨lo,hi',fl⟩ := s
  simp only at h4 h5 h6
  refine B6 [] ?_
  have k8 : Cc H [] 8 = none := rfl
  generalize Cc H [] = H2 at *
  simp only [cNote] at hna
  by_cases hkd : n.kind = ((k + 1 : Nat) : Int)
  ·have c1 := KB t n hnb.2 k hk hkd
   have c2 := J3 t n hnb.2 k hk hkd
   simp only [A4,A2,Av,cNote,hkd] at c1 c2 hna
   simp only [BV,Ev,CN,hkd,decide_true,Bool.true_and,decide_eq_true_eq]
   by_cases hA : n.val - n.off.lo ≤ Dd t k <;> by_cases hC : Dd t k < n.val - n.off.hi
   all_goals
    simp only [hA,hC,decide_true,decide_false] at c1 c2
    simp only [hA,hC,if_true,if_false,decide_true,decide_false,Bool.or_true,Bool.or_false]
    repeat' (first | with_reducible (first | (refine sk ?_; intro K hK) | intro (ep : Nat → Nat) | apply_assumption -exfalso -symm only [*]) | ((first | (with_reducible first | refine rg (h := ?_) | refine nx ?_) | refine pK (c1) ?_ | refine pK (c2) ?_); try simp (disch := omega) only [h1,h2,h4,h5,h6,h12,h13,h14,hna,k8,A2,Av,cNote,go_sem,simprocAttr]) | ((with_reducible refine' cE ?hv ?_ ?_); (case hv => rfl); all_goals (intro hc; (try simp only [go_sem,simprocAttr] at hc); try (exfalso; omega))) | fail)
   all_goals exact ⟨by (first | rfl | (simp only [h4,go_sem,simprocAttr]; done) | (simp only [h4,go_sem,simprocAttr]; rfl)),by (first | rfl | (simp only [h5,go_sem,simprocAttr]; done) | (simp only [h5,go_sem,simprocAttr]; rfl)),by (first | rfl | (simp only [h6,go_sem,simprocAttr]; done) | (simp only [h6,go_sem,simprocAttr]; rfl))⟩
  ·simp only [BV,Ev,CN,decide_eq_false hkd,Bool.false_and,Bool.or_false,Bool.false_eq_true,if_false]
   repeat' (first | with_reducible (first | (refine sk ?_; intro K hK) | intro (ep : Nat → Nat) | apply_assumption -exfalso -symm only [*]) | ((with_reducible first | refine rg (h := ?_) | refine nx ?_); try simp (disch := omega) only [h1,h2,h4,h5,h6,h12,h13,h14,hna,hkd,k8,A2,go_sem,simprocAttr]) | ((with_reducible refine' cE ?hv ?_ ?_); (case hv => rfl); all_goals (intro hc; (try simp only [go_sem,simprocAttr] at hc))) | fail)
 ·rintro f H h14 h13 ⟨⟨h1,h2,h12⟩,h4,h5,h6⟩
  rw [List.take_of_length_le (Nat.le_refl _),hall] at h4 h5 h6
  repeat' (first | with_reducible (first | (refine sk ?_; intro K hK) | apply_assumption -exfalso -symm only [*]) | ((with_reducible first | refine rg (h := ?_) | refine nx ?_); try simp (disch := omega) only [h4,h5,h6,go_sem,simprocAttr]) | ((with_reducible refine fe ?_); refine ⟨_,(by simp only [Tryz.f23,h4,h5,h6,go_sem,simprocAttr]; rfl),?_⟩; rfl) | fail)
theorem Uc (a : Nat → Int) {k : Nat} (hk : k < 6) : List.drop (k * 1) [Val.int .i64 (a 0),.int .i64 (a 1),.int .i64 (a 2),.int .i64 (a 3),.int .i64 (a 4),.int .i64 (a 5)] = .int .i64 (a k) :: List.drop (k + 1) [Val.int .i64 (a 0),.int .i64 (a 1),.int .i64 (a 2),.int .i64 (a 3),.int .i64 (a 4),.int .i64 (a 5)] := by
 match k,hk with
 | 0,_ => rfl
 | 1,_ => rfl
 | 2,_ => rfl
 | 3,_ => rfl
 | 4,_ => rfl
 | 5,_ => rfl
def cAt (a : Nat → Int) : List Val := [.int .i64 (a 0),.int .i64 (a 1),.int .i64 (a 2),.int .i64 (a 3),.int .i64 (a 4),.int .i64 (a 5)]
theorem PN (l : Nat) (hl : l ≤ 3) (a : Nat → Int) (fast : Int) (ha : ∀ c,c < 6 → 0 ≤ a c ∧ a c ≤ nvr) (hf : -120 ≤ fast ∧ fast ≤ 120) :
  PureC Tryz.prog 24 [.int .u8 (l : Int),.agg (cAt a),.int .i64 fast] (.int .i64 (DR a fast (2 * l))) := by
 have h2l : (2 : Int) * (l : Int) = ((2 * l : Nat) : Int) := by omega
 refine A6 (fn := Tryz.f24) tabOK (by kernel_rfl) rfl (by kernel_rfl) (by simp [Tryz.f24]) (by simp [noids,noid,noidss,go_sem,cAt]) (by first | rfl | simp [noids,noid,noidss,go_sem,cAt]) ?_
 intro X hX0 hXs
 repeat' (first | with_reducible (first | (refine sk ?_; intro K hK) | apply_assumption -exfalso -symm only [*]) | ((with_reducible refine rg (h := ?_)); try simp (disch := omega) only [h2l,go_sem,simprocAttr]) | fail)
 refine An tabOK (2 * l) (fun i f H => (f 2 = .int .i64 fast ∧ f 4 = .pim (cAt a)) ∧ f 7 = .int .i64 (DR a fast i)) (by omega) (by rw [hXs]; decide) (by decide) (by (first | rfl | (simp only [go_sem,simprocAttr]; done) | (simp only [go_sem,simprocAttr]; rfl))) (by (first | rfl | (simp only [go_sem,simprocAttr]; done) | (simp only [go_sem,simprocAttr]; rfl)))
  ⟨by (and_intros <;> first | rfl | (simp only [cAt,go_sem,simprocAttr]; done) | (simp only [cAt,go_sem,simprocAttr]; rfl)),by (first | rfl | (simp only [go_sem,simprocAttr]; done) | (simp only [go_sem,simprocAttr]; rfl))⟩ ?_ ?_
 ·rintro i f H hi h12 h11 ⟨⟨h2,h4⟩,h7⟩
  have hd := Uc a (k := i) (by omega)
  have hai := ha i (by omega)
  rw [Lg]
  unfold Jq
  generalize DR a fast i = x at *
  refine B6 [] ?_
  unfold nvr at *
  by_cases hn : a i = 1073741824
  ·rw [if_pos hn]
   have h6 : i < 6 := by omega
   repeat' (first | with_reducible (first | (refine sk ?_; intro K hK) | apply_assumption -exfalso -symm only [*]) | ((with_reducible first | refine rg (h := ?_) | refine nx ?_); try simp (disch := omega) only [h2,h4,h7,h11,h12,hd,hn,h6,cAt,go_sem,simprocAttr]) | ((with_reducible refine' cE ?hv ?_ ?_); (case hv => rfl); all_goals (intro hc; (try simp only [go_sem,simprocAttr] at hc))) | fail)
  ·rw [if_neg hn]
   have h6 : i < 6 := by omega
   repeat' (first | with_reducible (first | (refine sk ?_; intro K hK) | apply_assumption -exfalso -symm only [*]) | ((with_reducible refine rg (h := ?_)); try simp (disch := omega) only [h2,h4,h7,h11,h12,hd,hn,h6,cAt,go_sem,simprocAttr]) | ((with_reducible refine' cE ?hv ?_ ?_); (case hv => rfl); all_goals (intro hc; (try simp only [go_sem,simprocAttr] at hc))) | fail)
 ·rintro f H h12 h11 ⟨⟨h2,h4⟩,h7⟩
  repeat' (first | with_reducible (first | (refine sk ?_; intro K hK) | apply_assumption -exfalso -symm only [*]) | ((with_reducible first | refine rg (h := ?_) | refine nx ?_); try simp (disch := omega) only [h7,go_sem,simprocAttr]) | ((with_reducible refine fe ?_); refine ⟨_,(by simp only [Tryz.f24,h7,go_sem,simprocAttr]; rfl),?_⟩; rfl) | fail)
theorem ML (first e mins : Int) : PureC Tryz.prog 27 [.int .i64 first,.int .i64 e,.int .i64 mins] (.int .i64 (RS first e mins)) := by
 refine A6 (fn := Tryz.f27) tabOK (by kernel_rfl) rfl (by kernel_rfl) (by simp [Tryz.f27]) (by simp [noids,noid,noidss,go_sem]) (by first | rfl | simp [noids,noid,noidss,go_sem]) ?_
 intro X hX0 hXs
 repeat' (first | with_reducible (first | (refine sk ?_; intro K hK) | apply_assumption -exfalso -symm only [*]) | ((first | (with_reducible refine rg (h := ?_)) | refine pK (r2classes_ok) ?_); try simp (disch := omega) only [go_sem,simprocAttr]) | fail)
 refine An tabOK 7 (fun i f H => (f 0 = .int .i64 first ∧ f 1 = .int .i64 e ∧ f 2 = .int .i64 mins ∧ f 10 = .lst 1 (BM clsL)) ∧ f 7 = .int .i64 (I6 (LO first e mins) (clsL.take i) 0)) (by decide) (by rw [hXs]; decide) (by decide) (by (first | rfl | (simp only [go_sem,simprocAttr]; done) | (simp only [go_sem,simprocAttr]; rfl))) (by (first | rfl | (simp only [BM,clsL,List.length_cons,List.length_nil,go_sem,simprocAttr]; done) | (simp only [BM,clsL,List.length_cons,List.length_nil,go_sem,simprocAttr]; rfl)))
  ⟨by (and_intros <;> first | rfl | (simp only [go_sem,simprocAttr]; done) | (simp only [go_sem,simprocAttr]; rfl)),by (first | rfl | (simp only [go_sem,simprocAttr]; done) | (simp only [go_sem,simprocAttr]; rfl))⟩ ?_ ?_
 ·rintro i f H hi h12 h11 ⟨⟨h0,h1,h2,h10⟩,h7⟩
  obtain ⟨x,hx⟩ : ∃ x,clsL[i]? = some x := ⟨_,List.getElem?_eq_getElem hi⟩
  have hxa := LK hx
  have hxb := PH (List.mem_of_getElem? hx)
  rw [Bp hx,Oa]
  generalize I6 (LO first e mins) (clsL.take i) 0 = y at *
  refine B6 [] ?_
  unfold LO
  by_cases q1 : 60 * x < first
  ·by_cases q2 : 60 * x ≤ e
   ·by_cases q3 : x ≤ mins
    ·simp only [q1,q2,q3,decide_true,Bool.and_self,if_true]
     repeat' (first | with_reducible (first | (refine sk ?_; intro K hK) | apply_assumption -exfalso -symm only [*]) | ((with_reducible refine rg (h := ?_)); try simp (disch := omega) only [h0,h1,h2,h7,h10,h11,h12,hxa,q1,q2,q3,go_sem,simprocAttr]) | ((with_reducible refine' cE ?hv ?_ ?_); (case hv => rfl); all_goals (intro hc; (try simp only [go_sem,simprocAttr] at hc))) | fail)
    ·simp only [q1,q2,q3,decide_true,decide_false,Bool.and_false,Bool.false_eq_true,if_false]
     repeat' (first | with_reducible (first | (refine sk ?_; intro K hK) | apply_assumption -exfalso -symm only [*]) | ((with_reducible first | refine rg (h := ?_) | refine nx ?_); try simp (disch := omega) only [h0,h1,h2,h7,h10,h11,h12,hxa,q1,q2,q3,go_sem,simprocAttr]) | ((with_reducible refine' cE ?hv ?_ ?_); (case hv => rfl); all_goals (intro hc; (try simp only [go_sem,simprocAttr] at hc))) | fail)
   ·simp only [q1,q2,decide_true,decide_false,Bool.and_false,Bool.false_and,Bool.false_eq_true,if_false]
    repeat' (first | with_reducible (first | (refine sk ?_; intro K hK) | apply_assumption -exfalso -symm only [*]) | ((with_reducible first | refine rg (h := ?_) | refine nx ?_); try simp (disch := omega) only [h0,h1,h2,h7,h10,h11,h12,hxa,q1,q2,go_sem,simprocAttr]) | ((with_reducible refine' cE ?hv ?_ ?_); (case hv => rfl); all_goals (intro hc; (try simp only [go_sem,simprocAttr] at hc))) | fail)
  ·simp only [q1,decide_false,Bool.false_and,Bool.false_eq_true,if_false]
   repeat' (first | with_reducible (first | (refine sk ?_; intro K hK) | apply_assumption -exfalso -symm only [*]) | ((with_reducible first | refine rg (h := ?_) | refine nx ?_); try simp (disch := omega) only [h0,h1,h2,h7,h10,h11,h12,hxa,q1,go_sem,simprocAttr]) | ((with_reducible refine' cE ?hv ?_ ?_); (case hv => rfl); all_goals (intro hc; (try simp only [go_sem,simprocAttr] at hc))) | fail)
 ·rintro f H h12 h11 ⟨⟨h0,h1,h2,h10⟩,h7⟩
  rw [show clsL.take 7 = clsL from rfl] at h7
  repeat' (first | with_reducible (first | (refine sk ?_; intro K hK) | apply_assumption -exfalso -symm only [*]) | ((with_reducible first | refine rg (h := ?_) | refine nx ?_); try simp (disch := omega) only [h7,go_sem,simprocAttr]) | ((with_reducible refine fe ?_); refine ⟨_,(by simp only [Tryz.f27,h7,go_sem,simprocAttr]; rfl),?_⟩; rfl) | fail)
  all_goals rfl
end Cp
namespace Cp
open Go Go.Proofs
set_option maxRecDepth 10000
set_option maxHeartbeats 4000000
def aT (t : TestT) (by' : List Int) (c : Nat) : Int :=
 if frC t c ≤ toC t c ∧ ((Cq t c).isSome = true ∨ (chI by' (2 * c)).tmod 2 = 0) then frC t c + (chI by' (2 * c + 1)).tmod (toC t c - frC t c + 1) else nvr
theorem Sm {t : TestT} (hF : TestF t) {by' : List Int} (hb : By by') : Sb t (aT t by') := by
 intro c hc
 have hs := hF.sure c hc
 unfold aT
 split
 ·rename_i h
  have h0 := (Jx hb (2 * c + 1)).1
  have h1 : 0 ≤ (chI by' (2 * c + 1)).tmod (toC t c - frC t c + 1) := Int.tmod_nonneg _ h0
  have h2 : (chI by' (2 * c + 1)).tmod (toC t c - frC t c + 1) < toC t c - frC t c + 1 := Int.tmod_lt_of_pos _ (by omega)
  exact .inr (by omega)
 ·rename_i h
  refine .inl ⟨rfl,fun hs' => h ⟨hs hs',.inl hs'⟩⟩
theorem X9 {t : TestT} (hF : TestF t) {by' : List Int} (hb : By by') (c : Nat) (hc : c < 6) : 0 ≤ aT t by' c ∧ aT t by' c ≤ nvr := by
 have h1 := hF.fr c
 have h2 := hF.to c
 rcases Sm hF hb c hc with ⟨h,_⟩ | h
 ·rw [h]; unfold nvr; omega
 ·unfold nvr; omega
@[go_sem] theorem bU {a : Nat → Int} : (cAt a).length = 6 := rfl
@[go_sem] theorem ZW {a : Nat → Int} : (cAt a).take 6 = cAt a := rfl
@[go_sem] theorem Yn {a : Nat → Int} : noids (cAt a) = true := rfl
theorem UZ {k : Nat} (hk : k < 6) (a : Nat → Int) (x : Int) : Al (cAt a) (0 + k * 1) [.int .i64 x] = cAt (fun c => if c = k then x else a c) := by
 match k,hk with
 | 0,_ => rfl
 | 1,_ => rfl
 | 2,_ => rfl
 | 3,_ => rfl
 | 4,_ => rfl
 | 5,_ => rfl
theorem Q6 {a b : Nat → Int} (h : ∀ c,c < 6 → a c = b c) : cAt a = cAt b := by
 unfold cAt
 rw [h 0 (by decide),h 1 (by decide),h 2 (by decide),h 3 (by decide),h 4 (by decide),h 5 (by decide)]
theorem Alike.step {a b : Nat → Int} {i : Nat} (h : ∀ c,c < i → b c = a c) {b' : Nat → Int} (hi : b' i = a i) (ho : ∀ c,¬ c = i → b' c = b c) : ∀ c,c < i + 1 → b' c = a c := fun c hc => by
 by_cases e : c = i
 ·subst e; exact hi
 ·rw [ho c e]; exact h c (by omega)
theorem Ua {t : TestT} {k : Nat} (hF : TestF t) (hc : Ao t = 0) (hk : 1 ≤ k ∧ k ≤ 3) : GG t k = .tup [Ab (AC t k),.int .i64 0] ∧ E5 t k = .tup [A9 ⟨BC t k,Oi t k⟩,.int .i64 0] := by
 unfold GG E5
 rw [if_pos hc,if_pos hc,if_pos (by omega),if_pos (by omega),Int.toNat_natCast]
 exact ⟨rfl,rfl⟩
theorem true_law (t : TestT) (hu : IA t) (n : Int) (hn0 : 0 ≤ n) (hn1 : n ≤ 255) (by' : List Int) (hby : By by') : PureC Tryz.prog 10 [A4 t,.int .u8 n,.lst 1 (by'.map c32)] (.bool true) := by
 have hr := Qq t hu
 simp only [A4,A2] at hr
 by_cases hrd : (!FD t && decide (Ao t = 0)) = true
 ·rw [hrd] at hr
  obtain ⟨hG,hF,hc0⟩ := PV hu hrd
  obtain ⟨k,hk,hk3⟩ := Sd hn0
  have hle := LP n ⟨hn0,hn1⟩
  rw [hk] at hle
  obtain ⟨e1,e2⟩ := Ua hF hc0 hk3
  have j1 := Lp t hG.tb k (by omega)
  have j2 := Lt t hG.tb k (by omega)
  have j3 := QH t.run t.rules hG.tb.run hG.tb.rules
  rw [e1] at j1
  rw [e2] at j2
  have hcn : Kf t.run t.rules = .tup [.int .i64 (Ki t),.int .i64 0] := by unfold Kf; rw [if_pos hF.check]; rfl
  rw [hcn] at j3
  simp only [A4,A2,Ab,Ai,A9,A8,A7,A1,A3] at j1 j2 j3
  refine A6 (fn := Tryz.f10) tabOK (by kernel_rfl) rfl (by kernel_rfl) (by simp [Tryz.f10]) (by simp [noids,noid,noidss,go_sem,A4,A2]) (by first | rfl | simp [noids,noid,noidss,go_sem,A4,A2]) ?_
  intro X hX0 hXs
  have hfin := hF.fin
  have hck := hF.clock
  have hmay := Sm hF hby
  have hbd := X9 hF hby
  repeat' (first | with_reducible (first | ((fail_if_success (refine DL (id := 13) ?_)); refine sk ?_; intro K hK) | intro (ep : Nat → Nat) | apply_assumption -exfalso -symm only [*]) | ((first | (with_reducible first | refine rg (h := ?_) | refine nx ?_) | refine pK (alive_ok) ?_ | refine pK (hr) ?_ | refine pK (hle) ?_ | refine pK (j1) ?_ | refine pK (j2) ?_ | refine pK (j3) ?_); try simp (disch := omega) only [A4,A2,Ab,Ai,A9,A8,A7,A1,A3,go_sem,simprocAttr]) | ((with_reducible refine' cE ?hv ?_ ?_); (case hv => rfl); all_goals (intro hc; (try simp only [go_sem,simprocAttr] at hc))) | fail)
  have hcut : ∀ f H,(f 2 = .lst 1 (by'.map c32) ∧ f 3 = .pim (A2 t) ∧ f 7 = .bool true ∧ f 8 = .int .u8 (k : Int) ∧ f 13 = .int .i64 (Ki t)) ∧ (∃ e9 e11 e15,f 9 = .ptr 9 e9 3 0 0 ∧ f 11 = .ptr 11 e11 2 0 0 ∧ f 15 = .ptr 15 e15 6 0 0 ∧ H 9 = some (e9,.arr 3 [Ai (AC t k)]) ∧ H 11 = some (e11,.arr 2 [[.int .i64 (BC t k),.int .i64 (Oi t k)]]) ∧ H 15 = some (e15,.arr 6 [cAt (aT t by')])) → K f H := by
   rintro f H ⟨⟨h2,h3,h7,h8,h13⟩,e9,e11,e15,h9,h11,h15,H9,H11,H15⟩
   refine hK f H ?_
   clear hK hr hle
   have hc12 := GB by' hby 12 (by decide)
   have hb12 := Jx hby 12
   have hz : ¬ t.clock.hi - t.clock.lo + 1 = 0 := by omega
   have g1 : 0 ≤ (chI by' 12).tmod (t.clock.hi - t.clock.lo + 1) := Int.tmod_nonneg _ hb12.1
   have g2 : (chI by' 12).tmod (t.clock.hi - t.clock.lo + 1) < t.clock.hi - t.clock.lo + 1 := Int.tmod_lt_of_pos _ (by omega)
   obtain ⟨y,hy⟩ : ∃ y,(chI by' 12).tmod (t.clock.hi - t.clock.lo + 1) = y := ⟨_,rfl⟩
   rw [hy] at g1 g2
   obtain ⟨fast,hfa⟩ : ∃ fast,t.clock.lo + y = fast := ⟨_,rfl⟩
   have hfb : t.clock.lo ≤ fast ∧ fast ≤ t.clock.hi := by omega
   have htr := PN k hk3.2 (aT t by') fast hbd (by omega)
   obtain ⟨t1,t2⟩ := QW hF hk3.2 hmay hfb
   obtain ⟨c1,c2⟩ := OQ hF hk3.2 hmay hfb
   have hre := ML (DR (aT t by') fast (2 * k)) (t.fin - fast) (Ki t)
   have hsg := I4 (p := Nq t k) J7
   have hsd : grt (Nq t k) clsL 0 = BC t k := rfl
   rw [hsd] at hsg
   have hkp : 0 < BC t k → PureC Tryz.prog 25 [A8 t.run,A1 t.rules,.int .i64 (BC t k)] (.tup [.int .u8 2,.int .i64 (CF (Cb t.run t.rules) (BC t k)).2,.int .i64 0]) := fun hp => by
    rcases hsg with ⟨q,_⟩ | ⟨q1,q2,_⟩
    ·omega
    ·have hb := Eg q1
     simp only [Nq,EE,Bool.and_eq_true,decide_eq_true_eq] at q2
     have hkn := q2.2.2
     have hk0 := P6 t.run t.rules hG.tb.run hG.tb.rules (BC t k)
     unfold Bb at hkn
     split at hkn
     ·omega
     ·rw [MC,if_pos hF.check,if_pos (by omega),hkn] at hk0
      exact hk0
   generalize RS (DR (aT t by') fast (2 * k)) (t.fin - fast) (Ki t) = is at *
   generalize DR (aT t by') fast (2 * k) = x at *
   generalize (CF (Cb t.run t.rules) (BC t k)).2 = km at *
   generalize BC t k = sx at *
   generalize Oi t k = sy at *
   generalize Ki t = cnt at *
   have hFh : (AC t k).held = 0 ∨ (AC t k).held = 1 ∨ (AC t k).held = 2 := by
    rcases FL (AV t (2 * k)) with q | q | q
    ·exact .inl q
    ·exact .inr (.inl q)
    ·exact .inr (.inr (by show (EW (AV t (2 * k))).held = 2; rw [q]))
   generalize AC t k = F at *
   clear hmay hbd hsg hsd hcn e1 e2
   unfold nvr at t1 t2
   simp only [A8,A7,A1,A3] at hkp
   by_cases hx : x = 1073741824
   ·have hn0 := t1 hx
    clear t1 t2
    subst hx
    by_cases hp : 0 < sx
    ·have hkq := hkp hp
     repeat' (first | with_reducible (first | (refine sk ?_; intro K hK) | apply_assumption -exfalso -symm only [*]) | ((first | (with_reducible first | refine rg (h := ?_) | refine nx ?_) | refine pK (hc12) ?_ | refine pK (htr) ?_ | refine pK (hkq) ?_ | refine pK (hre) ?_); try simp (disch := omega) only [h2,h3,h7,h8,h9,h11,h13,h15,H9,H11,H15,hz,hy,hfa,hn0,hp,c1,c2,A2,Ai,A8,A7,A1,A3,go_sem,simprocAttr]) | ((with_reducible refine' cE ?hv ?_ ?_); (case hv => rfl); all_goals (intro hc; (try simp only [go_sem,simprocAttr] at hc))) | ((with_reducible refine fe ?_); refine ⟨_,(by simp only [Tryz.f10,h2,h3,h7,h8,h9,h11,h13,h15,H9,H11,H15,hz,hy,hfa,hn0,hp,c1,c2,A2,Ai,A8,A7,A1,A3,go_sem,simprocAttr]; rfl),?_⟩; rfl) | fail)
    ·repeat' (first | with_reducible (first | (refine sk ?_; intro K hK) | apply_assumption -exfalso -symm only [*]) | ((first | (with_reducible first | refine rg (h := ?_) | refine nx ?_) | refine pK (hc12) ?_ | refine pK (htr) ?_ | refine pK (hre) ?_); try simp (disch := omega) only [h2,h3,h7,h8,h9,h11,h13,h15,H9,H11,H15,hz,hy,hfa,hn0,hp,c1,c2,A2,Ai,A8,A7,A1,A3,go_sem,simprocAttr]) | ((with_reducible refine' cE ?hv ?_ ?_); (case hv => rfl); all_goals (intro hc; (try simp only [go_sem,simprocAttr] at hc))) | ((with_reducible refine fe ?_); refine ⟨_,(by simp only [Tryz.f10,h2,h3,h7,h8,h9,h11,h13,h15,H9,H11,H15,hz,hy,hfa,hn0,hp,c1,c2,A2,Ai,A8,A7,A1,A3,go_sem,simprocAttr]; rfl),?_⟩; rfl) | fail)
   ·obtain ⟨hx1,hn2,hl1,hl2⟩ := t2 hx
    have hl1' : ¬ x < F.at1.lo := by omega
    have hl2' : ¬ F.at1.hi < x := by omega
    by_cases hp : 0 < sx
    ·have hkq := hkp hp
     repeat' (first | with_reducible (first | (refine sk ?_; intro K hK) | apply_assumption -exfalso -symm only [*]) | ((first | (with_reducible first | refine rg (h := ?_) | refine nx ?_) | refine pK (hc12) ?_ | refine pK (htr) ?_ | refine pK (hkq) ?_ | refine pK (hre) ?_); try simp (disch := omega) only [h2,h3,h7,h8,h9,h11,h13,h15,H9,H11,H15,hz,hy,hfa,hx,hn2,hl1',hl2',hp,c1,c2,A2,Ai,A8,A7,A1,A3,go_sem,simprocAttr]) | ((with_reducible refine' cE ?hv ?_ ?_); (case hv => rfl); all_goals (intro hc; (try simp only [go_sem,simprocAttr] at hc))) | ((with_reducible refine fe ?_); refine ⟨_,(by simp only [Tryz.f10,h2,h3,h7,h8,h9,h11,h13,h15,H9,H11,H15,hz,hy,hfa,hx,hn2,hl1',hl2',hp,c1,c2,A2,Ai,A8,A7,A1,A3,go_sem,simprocAttr]; rfl),?_⟩; rfl) | fail)
    ·repeat' (first | with_reducible (first | (refine sk ?_; intro K hK) | apply_assumption -exfalso -symm only [*]) | ((first | (with_reducible first | refine rg (h := ?_) | refine nx ?_) | refine pK (hc12) ?_ | refine pK (htr) ?_ | refine pK (hre) ?_); try simp (disch := omega) only [h2,h3,h7,h8,h9,h11,h13,h15,H9,H11,H15,hz,hy,hfa,hx,hn2,hl1',hl2',hp,c1,c2,A2,Ai,A8,A7,A1,A3,go_sem,simprocAttr]) | ((with_reducible refine' cE ?hv ?_ ?_); (case hv => rfl); all_goals (intro hc; (try simp only [go_sem,simprocAttr] at hc))) | ((with_reducible refine fe ?_); refine ⟨_,(by simp only [Tryz.f10,h2,h3,h7,h8,h9,h11,h13,h15,H9,H11,H15,hz,hy,hfa,hx,hn2,hl1',hl2',hp,c1,c2,A2,Ai,A8,A7,A1,A3,go_sem,simprocAttr]; rfl),?_⟩; rfl) | fail)
  clear hK
  have hcutE : ∃ _ : Unit,_ := ⟨(),hcut⟩
  clear hcut
  repeat' (first | with_reducible (first | (refine sk ?_; intro K hK) | apply_assumption -exfalso -symm only [*]) | ((with_reducible refine rg (h := ?_)); try simp (disch := omega) only [go_sem,simprocAttr]) | fail)
  refine Ak (AP (fun m f H => ∃ i : Nat,m = 6 - i ∧ i ≤ 6 ∧ (f 2 = .lst 1 (by'.map c32) ∧ f 3 = .pim (A2 t) ∧ f 7 = .bool true ∧ f 8 = .int .u8 (k : Int) ∧ f 13 = .int .i64 (Ki t) ∧ f 65 = .int .i64 (i : Int)) ∧ ∃ e9 e11 e15 b,f 9 = .ptr 9 e9 3 0 0 ∧ f 11 = .ptr 11 e11 2 0 0 ∧ f 15 = .ptr 15 e15 6 0 0 ∧ H 9 = some (e9,.arr 3 [Ai (AC t k)]) ∧ H 11 = some (e11,.arr 2 [[.int .i64 (BC t k),.int .i64 (Oi t k)]]) ∧ H 15 = some (e15,.arr 6 [cAt b]) ∧ ∀ c,c < i → b c = aT t by' c) 6
   ⟨0,rfl,Nat.zero_le _,by (and_intros <;> first | rfl | (simp only [A2,go_sem,simprocAttr]; done) | (simp only [A2,go_sem,simprocAttr]; rfl)),_,_,_,fun _ => 0,by (first | rfl | (simp only [go_sem,simprocAttr]; done) | (simp only [go_sem,simprocAttr]; rfl)),by (first | rfl | (simp only [go_sem,simprocAttr]; done) | (simp only [go_sem,simprocAttr]; rfl)),by (first | rfl | (simp only [go_sem,simprocAttr]; done) | (simp only [go_sem,simprocAttr]; rfl)),by (first | rfl | (simp only [Ai,go_sem,simprocAttr]; done) | (simp only [Ai,go_sem,simprocAttr]; rfl)),by (first | rfl | (simp only [go_sem,simprocAttr]; done) | (simp only [go_sem,simprocAttr]; rfl)),by (first | rfl | (simp only [go_sem,simprocAttr]; done) | (simp only [go_sem,simprocAttr]; rfl)),fun c hc => by omega⟩ ?_)
  clear j1 j2 j3 hr hle
  rintro m f H ⟨i,rfl,hi,⟨h2,h3,h7,h8,h13,h65⟩,e9,e11,e15,b,h9,h11,h15,H9,H11,H15,hab⟩
  by_cases hlt : i < 6
  ·clear hcutE
   have hse := NQ t hF hG.tb i hlt
   have hw : IntKind.u8.wrap ((i + 1 : Nat) : Int) = ((i + 1 : Nat) : Int) := IntWalk.u8_in _ (by omega)
   have hsp := UZ hlt
   have hb5 : 0 + i * 1 ≤ 5 := by omega
   have hst := fun b' => Alike.step (b' := b') hab
   have hc1 := GB by' hby ((2 * i : Nat) : Int) (by omega)
   have hc2 := GB by' hby ((2 * i + 1 : Nat) : Int) (by omega)
   have hb1 := Jx hby ((2 * i : Nat) : Int)
   have hb2 := Jx hby ((2 * i + 1 : Nat) : Int)
   have hfr := hF.fr i
   have hto := hF.to i
   have haT : aT t by' i = if frC t i ≤ toC t i ∧ ((Cq t i).isSome = true ∨ (chI by' ((2 * i : Nat) : Int)).tmod 2 = 0) then frC t i + (chI by' ((2 * i + 1 : Nat) : Int)).tmod (toC t i - frC t i + 1) else nvr := rfl
   have h2i : 2 * (i : Int) = ((2 * i : Nat) : Int) := by omega
   simp only [A4,A2] at hse
   refine B6 [9,11,15] ?_
   change Cc H [9,11,15] 9 = _ at H9
   change Cc H [9,11,15] 11 = _ at H11
   change Cc H [9,11,15] 15 = _ at H15
   generalize Cc H [9,11,15] = H2 at *
   clear hmay hbd hab
   generalize frC t i = lo at *
   generalize toC t i = hi9 at *
   generalize (Cq t i).isSome = sure at *
   generalize chI by' ((2 * i : Nat) : Int) = x1 at *
   generalize chI by' ((2 * i + 1 : Nat) : Int) = x2 at *
   by_cases hle2 : lo ≤ hi9
   ·have hz : ¬ hi9 - lo + 1 = 0 := by omega
    have g1 : 0 ≤ x2.tmod (hi9 - lo + 1) := Int.tmod_nonneg _ hb2.1
    have g2 : x2.tmod (hi9 - lo + 1) < hi9 - lo + 1 := Int.tmod_lt_of_pos _ (by omega)
    obtain ⟨y,hy⟩ : ∃ y,x2.tmod (hi9 - lo + 1) = y := ⟨_,rfl⟩
    rw [hy] at haT g1 g2
    cases sure with
    | true =>
     rw [if_pos ⟨hle2,.inl rfl⟩] at haT
     repeat' (first | with_reducible (first | (refine sk ?_; intro K hK) | refine bk ?_ | apply_assumption -exfalso -symm only [*]) | ((first | (with_reducible first | refine rg (h := ?_) | refine nx ?_) | refine pK (hse) ?_ | refine pK (hc2) ?_); try simp (disch := omega) only [h2,h3,h7,h8,h9,h11,h13,h15,h65,H9,H11,H15,hlt,hw,hsp,hb5,hle2,hz,hy,h2i,A2,go_sem,simprocAttr]) | ((with_reducible refine' cE ?hv ?_ ?_); (case hv => rfl); all_goals (intro hc; (try simp only [go_sem,simprocAttr] at hc); try (exfalso; omega))) | fail)
     exact ⟨6 - (i + 1),by omega,i + 1,rfl,by omega,rfl,e9,e11,e15,_,by (first | rfl | (simp only [h9,go_sem,simprocAttr]; done) | (simp only [h9,go_sem,simprocAttr]; rfl)),by (first | rfl | (simp only [h11,go_sem,simprocAttr]; done) | (simp only [h11,go_sem,simprocAttr]; rfl)),by (first | rfl | (simp only [h15,go_sem,simprocAttr]; done) | (simp only [h15,go_sem,simprocAttr]; rfl)),by (first | rfl | (simp only [H9,go_sem,simprocAttr]; done) | (simp only [H9,go_sem,simprocAttr]; rfl)),by (first | rfl | (simp only [H11,go_sem,simprocAttr]; done) | (simp only [H11,go_sem,simprocAttr]; rfl)),by (first | rfl | (simp only [H15,go_sem,simprocAttr]; done) | (simp only [H15,go_sem,simprocAttr]; rfl)),hst _ (by simp only [if_true]; exact haT.symm) (fun c h => by simp only [if_neg h])⟩
    | false =>
     by_cases hx1 : x1.tmod 2 = 0
     ·rw [if_pos ⟨hle2,.inr hx1⟩] at haT
      repeat' (first | with_reducible (first | (refine sk ?_; intro K hK) | refine bk ?_ | apply_assumption -exfalso -symm only [*]) | ((first | (with_reducible first | refine rg (h := ?_) | refine nx ?_) | refine pK (hse) ?_ | refine pK (hc1) ?_ | refine pK (hc2) ?_); try simp (disch := omega) only [h2,h3,h7,h8,h9,h11,h13,h15,h65,H9,H11,H15,hlt,hw,hsp,hb5,hle2,hz,hy,hx1,h2i,A2,go_sem,simprocAttr]) | ((with_reducible refine' cE ?hv ?_ ?_); (case hv => rfl); all_goals (intro hc; (try simp only [go_sem,simprocAttr] at hc); try (exfalso; omega))) | fail)
      exact ⟨6 - (i + 1),by omega,i + 1,rfl,by omega,rfl,e9,e11,e15,_,by (first | rfl | (simp only [h9,go_sem,simprocAttr]; done) | (simp only [h9,go_sem,simprocAttr]; rfl)),by (first | rfl | (simp only [h11,go_sem,simprocAttr]; done) | (simp only [h11,go_sem,simprocAttr]; rfl)),by (first | rfl | (simp only [h15,go_sem,simprocAttr]; done) | (simp only [h15,go_sem,simprocAttr]; rfl)),by (first | rfl | (simp only [H9,go_sem,simprocAttr]; done) | (simp only [H9,go_sem,simprocAttr]; rfl)),by (first | rfl | (simp only [H11,go_sem,simprocAttr]; done) | (simp only [H11,go_sem,simprocAttr]; rfl)),by (first | rfl | (simp only [H15,go_sem,simprocAttr]; done) | (simp only [H15,go_sem,simprocAttr]; rfl)),hst _ (by simp only [if_true]; exact haT.symm) (fun c h => by simp only [if_neg h])⟩
     ·rw [if_neg (by rintro ⟨_,h | h⟩; cases h; exact hx1 h)] at haT
      unfold nvr at haT
      repeat' (first | with_reducible (first | (refine sk ?_; intro K hK) | refine bk ?_ | apply_assumption -exfalso -symm only [*]) | ((first | (with_reducible first | refine rg (h := ?_) | refine nx ?_) | refine pK (hse) ?_ | refine pK (hc1) ?_); try simp (disch := omega) only [h2,h3,h7,h8,h9,h11,h13,h15,h65,H9,H11,H15,hlt,hw,hsp,hb5,hle2,hx1,h2i,A2,go_sem,simprocAttr]) | ((with_reducible refine' cE ?hv ?_ ?_); (case hv => rfl); all_goals (intro hc; (try simp only [go_sem,simprocAttr] at hc); try (exfalso; omega))) | fail)
      exact ⟨6 - (i + 1),by omega,i + 1,rfl,by omega,rfl,e9,e11,e15,_,by (first | rfl | (simp only [h9,go_sem,simprocAttr]; done) | (simp only [h9,go_sem,simprocAttr]; rfl)),by (first | rfl | (simp only [h11,go_sem,simprocAttr]; done) | (simp only [h11,go_sem,simprocAttr]; rfl)),by (first | rfl | (simp only [h15,go_sem,simprocAttr]; done) | (simp only [h15,go_sem,simprocAttr]; rfl)),by (first | rfl | (simp only [H9,go_sem,simprocAttr]; done) | (simp only [H9,go_sem,simprocAttr]; rfl)),by (first | rfl | (simp only [H11,go_sem,simprocAttr]; done) | (simp only [H11,go_sem,simprocAttr]; rfl)),by (first | rfl | (simp only [H15,go_sem,simprocAttr]; done) | (simp only [H15,go_sem,simprocAttr]; rfl)),hst _ (by simp only [if_true]; exact haT.symm) (fun c h => by simp only [if_neg h])⟩
   ·rw [if_neg (fun h => hle2 h.1)] at haT
    unfold nvr at haT
    repeat' (first | with_reducible (first | (refine sk ?_; intro K hK) | refine bk ?_ | apply_assumption -exfalso -symm only [*]) | ((first | (with_reducible first | refine rg (h := ?_) | refine nx ?_) | refine pK (hse) ?_); try simp (disch := omega) only [h2,h3,h7,h8,h9,h11,h13,h15,h65,H9,H11,H15,hlt,hw,hsp,hb5,hle2,h2i,A2,go_sem,simprocAttr]) | ((with_reducible refine' cE ?hv ?_ ?_); (case hv => rfl); all_goals (intro hc; (try simp only [go_sem,simprocAttr] at hc); try (exfalso; omega))) | fail)
    exact ⟨6 - (i + 1),by omega,i + 1,rfl,by omega,rfl,e9,e11,e15,_,by (first | rfl | (simp only [h9,go_sem,simprocAttr]; done) | (simp only [h9,go_sem,simprocAttr]; rfl)),by (first | rfl | (simp only [h11,go_sem,simprocAttr]; done) | (simp only [h11,go_sem,simprocAttr]; rfl)),by (first | rfl | (simp only [h15,go_sem,simprocAttr]; done) | (simp only [h15,go_sem,simprocAttr]; rfl)),by (first | rfl | (simp only [H9,go_sem,simprocAttr]; done) | (simp only [H9,go_sem,simprocAttr]; rfl)),by (first | rfl | (simp only [H11,go_sem,simprocAttr]; done) | (simp only [H11,go_sem,simprocAttr]; rfl)),by (first | rfl | (simp only [H15,go_sem,simprocAttr]; done) | (simp only [H15,go_sem,simprocAttr]; rfl)),hst _ (by simp only [if_true]; exact haT.symm) (fun c h => by simp only [if_neg h])⟩
  ·obtain rfl : i = 6 := by omega
   have hca : cAt b = cAt (aT t by') := Q6 hab
   rw [hca] at H15
   clear hmay hbd hab
   repeat' (first | with_reducible (first | (refine sk ?_; intro K hK) | apply_assumption -exfalso -symm only [*]) | ((with_reducible first | refine rg (h := ?_) | refine nx ?_); try simp (disch := omega) only [h2,h3,h7,h8,h9,h11,h13,h15,h65,go_sem,simprocAttr]) | ((with_reducible refine' cE ?hv ?_ ?_); (case hv => rfl); all_goals (intro hc; (try simp only [go_sem,simprocAttr] at hc))) | fail)
   obtain ⟨_,hcut⟩ := hcutE
   exact hcut _ _ ⟨⟨by (first | rfl | (simp only [h2,go_sem,simprocAttr]; done) | (simp only [h2,go_sem,simprocAttr]; rfl)),by (first | rfl | (simp only [h3,go_sem,simprocAttr]; done) | (simp only [h3,go_sem,simprocAttr]; rfl)),by (first | rfl | (simp only [h7,go_sem,simprocAttr]; done) | (simp only [h7,go_sem,simprocAttr]; rfl)),by (first | rfl | (simp only [h8,go_sem,simprocAttr]; done) | (simp only [h8,go_sem,simprocAttr]; rfl)),by (first | rfl | (simp only [h13,go_sem,simprocAttr]; done) | (simp only [h13,go_sem,simprocAttr]; rfl))⟩,e9,e11,e15,by (first | rfl | (simp only [h9,go_sem,simprocAttr]; done) | (simp only [h9,go_sem,simprocAttr]; rfl)),by (first | rfl | (simp only [h11,go_sem,simprocAttr]; done) | (simp only [h11,go_sem,simprocAttr]; rfl)),by (first | rfl | (simp only [h15,go_sem,simprocAttr]; done) | (simp only [h15,go_sem,simprocAttr]; rfl)),H9,H11,H15⟩
 ·simp only [Bool.not_eq_true] at hrd
  rw [hrd] at hr
  refine A6 (fn := Tryz.f10) tabOK (by kernel_rfl) rfl (by kernel_rfl) (by simp [Tryz.f10]) (by simp [noids,noid,noidss,go_sem,A4,A2]) (by first | rfl | simp [noids,noid,noidss,go_sem,A4,A2]) ?_
  intro X hX0 hXs
  repeat' (first | with_reducible (first | (refine sk ?_; intro K hK) | apply_assumption -exfalso -symm only [*]) | ((first | (with_reducible first | refine rg (h := ?_) | refine nx ?_) | refine pK (alive_ok) ?_ | refine pK (hr) ?_); try simp (disch := omega) only [A4,A2,go_sem,simprocAttr]) | ((with_reducible refine' cE ?hv ?_ ?_); (case hv => rfl); all_goals (intro hc; (try simp only [go_sem,simprocAttr] at hc))) | ((with_reducible refine fe ?_); refine ⟨_,(by simp only [Tryz.f10,A4,A2,go_sem,simprocAttr]; rfl),?_⟩; rfl) | fail)
end Cp
namespace Cp
open Go
theorem arg_by {a : Val} (h : UD tab 8 63 a) : ∃ l : List Int,a = .lst 1 (l.map c32) ∧ By l := by
 obtain ⟨ti,cs,e,h,_,rfl⟩ := h
 have hk : ∀ n,Fit tab (n + 1) 63 cs → ∃ sz xss,cs = [.lst sz xss] ∧ (tab 122).map (·.sz) = some sz ∧ xss.length ≤ maxLen ∧ ∀ es ∈ xss,es.length = sz ∧ Fit tab n 122 es := fun n h => by
  simp only [Fit,tab_63] at h; exact h
 obtain ⟨sz,xss,rfl,hs,_,hx⟩ := hk 7 h
 rw [tab_122] at hs; cases hs
 obtain ⟨l,rfl,hl⟩ := Km (c := c32) (p := fun m => 0 ≤ m ∧ m ≤ 4294967295) fun es hes => by
  obtain ⟨m,rfl,hw⟩ := Ju tab_122 (hx es hes).2
  simp [Lit.wf,IntKind.min,IntKind.max,IntKind.signed,IntKind.bits] at hw
  exact ⟨m,rfl,by omega,by omega⟩
 rw [tab_63] at e; cases e; exact ⟨l,rfl,hl⟩
end Cp
namespace Cp
open Go Go.Proofs
set_option maxRecDepth 100000
theorem LD {W : World} {fuel : Nat} {v : Value} {cs : List Value} {b : UInt8} {r : List UInt8} {q : List MemPlace} {f0 : FuncId} (hl : cs.length = 1) (hv : cs = [v])
  (hone : ((List.range Tryz.prog.funcs.size).filter fun f => (Tryz.prog.funcs[f]?).any (·.name.toUTF8.data.toList == b :: r)) = [f0])
  (h : DataW.trod (funcToken Tryz.prog) Tryz.prog W 0 (fun _ => true) true fuel 165 cs = some (.agg [.held (b :: r)],q)) : v = .func (.func f0) #[] #[] := by
 subst hv
 obtain ⟨xs,m,rfl,e1,_,hxl,hf⟩ := DataW.trod_struct Tryz.underlying165 h
 simp only [Prod.mk.injEq,DataW.agg.injEq] at e1
 have h0 : DataW.trod (funcToken Tryz.prog) Tryz.prog W 0 (fun _ => true) true m 164 (([v].drop 0).take (Tryz.prog.cellsOf 164)) = xs[0]? := hf 0 _ rfl
 have hc1 : Tryz.prog.cellsOf 164 = 1 := by kernel_rfl
 rw [hc1] at h0
 match xs,hxl with
 | [x],_ =>
  obtain ⟨x1,x2⟩ := x
  simp only [List.map_cons,List.map_nil,List.cons.injEq,and_true] at e1
  simp only [List.drop_zero,List.take_succ_cons,List.take_zero,List.getElem?_cons_zero] at h0
  rw [← e1.1] at h0
  exact func_of_trod Tryz.underlying164 hone h0
def showsD : DataW Unit := .agg [.agg [.iface "func" (.lit (.string [99,111,116,116,111,110,112,97,100,47,99,108,97,115,115,46,115,104,111,119,115,36,49]))],.agg [.iface "func" (.lit (.string [99,111,116,116,111,110,112,97,100,47,99,108,97,115,115,46,115,104,111,119,115,36,50]))]]
theorem glb_ok {W : World} (h : laidMetH Tryz.prog [("cottonpad/class.shows",.iface "func table" showsD)] W) : RK W := by
 obtain ⟨g,t,cs,fuel,p,e1,e2,e3,e4⟩ := h.funcs (n := "cottonpad/class.shows") (d := showsD) (List.mem_singleton.2 rfl)
 have hg : Tryz.prog.globalNamed "cottonpad/class.shows" = some 0 := by kernel_rfl
 obtain rfl : 0 = g := Option.some.inj (hg.symm.trans e1)
 have ht : (Tryz.prog.globals[0]?).map (·.type) = some 166 := by kernel_rfl
 obtain rfl : 166 = t := Option.some.inj (ht.symm.trans e2)
 have hcell := fun i => World.var?_cell e1 e3 i
 obtain ⟨xs,m,rfl,x1,hl,hxl,hf⟩ := DataW.trod_array Tryz.underlying166 e4
 have hc1 : Tryz.prog.cellsOf 165 = 1 := by kernel_rfl
 have hc2 : Tryz.prog.cellsOf 166 = 2 := by kernel_rfl
 rw [hc2] at hl
 obtain ⟨cs⟩ := cs
 match cs,hl,xs,hxl with
 | [v0,v1],_,[y0,y1],_ =>
  have h0 := hf 0 (by decide)
  have h1 := hf 1 (by decide)
  simp only [hc1,Nat.zero_mul,Nat.one_mul,List.drop_zero,List.drop_succ_cons,List.take_succ_cons,List.take_zero,List.getElem?_cons_zero,List.getElem?_cons_succ] at h0 h1
  obtain ⟨y0,z0⟩ := y0
  obtain ⟨y1,z1⟩ := y1
  simp only [Prod.mk.injEq,List.map_cons,List.map_nil] at x1
  have hx := x1.1
  have hd : showsD.funcsOut = .agg [.agg [.held [99,111,116,116,111,110,112,97,100,47,99,108,97,115,115,46,115,104,111,119,115,36,49]],.agg [.held [99,111,116,116,111,110,112,97,100,47,99,108,97,115,115,46,115,104,111,119,115,36,50]]] := by kernel_rfl
  rw [hd] at hx
  simp only [DataW.agg.injEq,List.cons.injEq,and_true] at hx
  rw [← hx.1] at h0
  rw [← hx.2] at h1
  have r0 := LD (f0 := 160) rfl rfl (by kernel_rfl) h0
  have r1 := LD (f0 := 161) rfl rfl (by kernel_rfl) h1
  subst r0 r1
  have c0 := hcell 0
  have c1 := hcell 1
  intro g cs hge
  unfold GE at hge
  split at hge
  ·rename_i h0; subst h0
   cases hge
   refine .pim _ 0 0 (fun j => if j = 0 then .func (.func 160) #[] #[] else .func (.func 161) #[] #[]) (OZ c0) (fun j v hj => ?_) (fun j v hj => ?_) (fun j v hj => ?_)
   ·match j,hj with
    | 0,hj => simpa using c0
    | 1,hj => simpa using c1
    | j + 2,hj => simp at hj
   ·match j,hj with
    | 0,hj => cases hj; rfl
    | 1,hj => cases hj; rfl
    | j + 2,hj => simp at hj
   ·match j,hj with
    | 0,hj => cases hj; exact .fn _ _ _ rfl (fun i v h => by simp at h)
    | 1,hj => cases hj; exact .fn _ _ _ rfl (fun i v h => by simp at h)
    | j + 2,hj => simp at hj
  ·cases hge
end Cp
