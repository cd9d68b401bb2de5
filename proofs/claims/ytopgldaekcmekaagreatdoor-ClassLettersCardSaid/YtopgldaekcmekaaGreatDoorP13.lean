/- Rules,facts and contracts that the statement's proof leans on. Conditions: none. -/
import Derived.Test.YtopgldaekcmekaaGreatDoorRows
import Derived.LaidMore
import Derived.LaidHandle
import Derived.OpenShut
import Derived.FnData
import Derived.Test.YtopgldaekcmekaaGreatDoorP12
set_option linter.unusedVariables false
set_option linter.unusedSimpArgs false
set_option linter.unusedSectionVars false
namespace Cp
open Go
theorem Pb {α : Type} {c : α → List Val} : ∀ {xss : List (List Val)},(∀ es ∈ xss,∃ x,es = c x) → ∃ l : List α,xss = l.map c
 | [],_ => ⟨[],rfl⟩
 | es :: xss,h => by
  obtain ⟨x,rfl⟩ := h es (by simp)
  obtain ⟨l,rfl⟩ := Pb fun es he => h es (List.mem_cons_of_mem _ he)
  exact ⟨x :: l,rfl⟩
theorem Eo {T : Tab} {n : Nat} {t e sz : Nat} {vs : List Val} {b b2 s1 : Nat} {z z2 : Val} {p p2 : Bool} {k2 : TK} {α : Type} {c : α → List Val} (ht : T t = some ⟨.slice e,s1,b,z,p⟩)
  (he : T e = some ⟨k2,sz,b2,z2,p2⟩) (h : Fit T (n + 1) t vs) (hc : ∀ es,Fit T n e es → ∃ x,es = c x) : ∃ l : List α,vs = [.lst sz (l.map c)] := by
 simp only [Fit,ht] at h
 obtain ⟨sz',xss,rfl,hs,_,hx⟩ := h
 rw [he] at hs
 cases hs
 obtain ⟨l,rfl⟩ := Pb (c := c) fun es hes => hc es (hx es hes).2
 exact ⟨l,rfl⟩
theorem Cm {T : Tab} {n : Nat} {t sz : Nat} {vs : List Val} {b : Nat} {z : Val} {p : Bool} {fs : List (Nat × Nat)} (ht : T t = some ⟨.struct fs,sz,b,z,p⟩) (h : Fit T (n + 1) t vs) :
  vs.length = sz ∧ ∀ q ∈ fs,∃ fi,T q.2 = some fi ∧ Fit T n q.2 ((vs.drop q.1).take fi.sz) := by
 simp only [Fit,ht] at h
 exact h
theorem P2 {T : Tab} {n : Nat} {t : Nat} {vs : List Val} {s b : Nat} {z : Val} {p : Bool} {k : IntKind} (ht : T t = some ⟨.int k,s,b,z,p⟩) (h : Fit T (n + 1) t vs) : ∃ m,vs = [.int k m] ∧ (Lit.int k m).wf = true := by
 simp only [Fit,ht] at h
 exact h
theorem GG {n : Nat} {vs : List Val} (h : Fit tab (n + 1) 3 vs) : ∃ m,vs = [.int .i64 m] := by
 obtain ⟨m,h,_⟩ := P2 tab_3 h; exact ⟨m,h⟩
theorem Rm {n : Nat} {vs : List Val} {t b s1 : Nat} {z : Val} {p : Bool} (ht : tab t = some ⟨.slice 3,s1,b,z,p⟩) (h : Fit tab (n + 2) t vs) : ∃ l : List Int,vs = [.lst 1 (Cv l)] := by
 obtain ⟨l,rfl⟩ := Eo (c := fun m : Int => [Val.int .i64 m]) ht tab_3 h fun es he => GG he
 exact ⟨l,rfl⟩
theorem Mo {n : Nat} {vs : List Val} {t b : Nat} {z : Val} {p : Bool} (ht : tab t = some ⟨.struct [(0,3),(1,3)],2,b,z,p⟩) (h : Fit tab (n + 2) t vs) : ∃ x y : Int,vs = [.int .i64 x,.int .i64 y] := by
 obtain ⟨hl,hq⟩ := Cm ht h
 match vs,hl with
 | [a,b],_ =>
  obtain ⟨fi,e,h0⟩ := hq (0,3) (by simp)
  rw [tab_3] at e; cases e
  obtain ⟨fi,e,h1⟩ := hq (1,3) (by simp)
  rw [tab_3] at e; cases e
  obtain ⟨x,hx⟩ := GG h0
  obtain ⟨y,hy⟩ := GG h1
  simp at hx hy
  exact ⟨x,y,by rw [hx,hy]⟩
theorem Ex {n : Nat} {vs : List Val} (h : Fit tab (n + 2) 26 vs) : ∃ s : Span,vs = [.int .i64 s.lo,.int .i64 s.hi] := by
 obtain ⟨x,y,h⟩ := Mo tab_26 h; exact ⟨⟨x,y⟩,h⟩
theorem WY {n : Nat} {vs : List Val} (h : Fit tab (n + 2) 139 vs) : ∃ x : Pt,vs = cPt x := by
 obtain ⟨x,y,h⟩ := Mo tab_139 h; exact ⟨⟨x,y⟩,h⟩
theorem Rn {n : Nat} {vs : List Val} (h : Fit tab (n + 2) 66 vs) : ∃ x : StepT,vs = cStep x := by
 obtain ⟨x,y,h⟩ := Mo tab_66 h; exact ⟨⟨x,y⟩,h⟩
theorem Uq {n : Nat} {vs : List Val} (h : Fit tab (n + 3) 136 vs) : ∃ x : Cpl,vs = cCpl x := by
 obtain ⟨hl,hq⟩ := Cm tab_136 h
 match vs,hl with
 | [a,b,c,d,e,f],_ =>
  obtain ⟨fi,e0,h0⟩ := hq (0,3) (by simp)
  rw [tab_3] at e0; cases e0
  obtain ⟨fi,e1,h1⟩ := hq (1,26) (by simp)
  rw [tab_26] at e1; cases e1
  obtain ⟨fi,e2,h2⟩ := hq (3,26) (by simp)
  rw [tab_26] at e2; cases e2
  obtain ⟨fi,e3,h3⟩ := hq (5,3) (by simp)
  rw [tab_3] at e3; cases e3
  obtain ⟨x0,h0⟩ := GG h0
  obtain ⟨x1,h1⟩ := Ex h1
  obtain ⟨x2,h2⟩ := Ex h2
  obtain ⟨x3,h3⟩ := GG h3
  simp at h0 h1 h2 h3
  obtain ⟨h1,h1'⟩ := h1
  obtain ⟨h2,h2'⟩ := h2
  exact ⟨⟨x0,x1,x2,x3⟩,by rw [h0,h1,h1',h2,h2',h3]; rfl⟩
theorem Tg {n : Nat} {vs : List Val} (h : Fit tab (n + 3) 126 vs) : ∃ x : RowT,vs = cRow x := by
 obtain ⟨hl,hq⟩ := Cm tab_126 h
 match vs,hl with
 | [a,b],_ =>
  obtain ⟨fi,e0,h0⟩ := hq (0,75) (by simp)
  rw [tab_75] at e0; cases e0
  obtain ⟨fi,e1,h1⟩ := hq (1,3) (by simp)
  rw [tab_3] at e1; cases e1
  obtain ⟨x0,h0⟩ := Rm tab_75 h0
  obtain ⟨x1,h1⟩ := GG h1
  simp at h0 h1
  exact ⟨⟨x0,x1⟩,by rw [h0,h1]; rfl⟩
theorem Tu {n : Nat} {vs : List Val} (h : Fit tab (n + 3) 22 vs) : ∃ l : List Pt,vs = [.lst 2 (l.map cPt)] := Eo tab_22 tab_139 h fun es he => WY he
theorem Uc {n : Nat} {vs : List Val} (h : Fit tab (n + 5) 28 vs) : ∃ r : RunT,vs = A7 r := by
 obtain ⟨hl,hq⟩ := Cm tab_28 h
 match vs,hl with
 | [a,b,c,d,e,f],_ =>
  obtain ⟨fi,e0,h0⟩ := hq (0,3) (by simp)
  rw [tab_3] at e0; cases e0
  obtain ⟨fi,e1,h1⟩ := hq (1,22) (by simp)
  rw [tab_22] at e1; cases e1
  obtain ⟨fi,e2,h2⟩ := hq (2,23) (by simp)
  rw [tab_23] at e2; cases e2
  obtain ⟨fi,e3,h3⟩ := hq (3,24) (by simp)
  rw [tab_24] at e3; cases e3
  obtain ⟨fi,e4,h4⟩ := hq (4,26) (by simp)
  rw [tab_26] at e4; cases e4
  obtain ⟨x0,h0⟩ := GG h0
  obtain ⟨x1,h1⟩ := Tu h1
  obtain ⟨x2,h2⟩ := Eo tab_23 tab_136 h2 fun es he => Uq he
  obtain ⟨x3,h3⟩ := Eo tab_24 tab_126 h3 fun es he => Tg he
  obtain ⟨x4,h4⟩ := Ex h4
  simp at h0 h1 h2 h3 h4
  obtain ⟨h4,h4'⟩ := h4
  exact ⟨⟨x0,x1,x2,x3,x4⟩,by rw [h0,h1,h2,h3,h4,h4']; rfl⟩
theorem QA {n : Nat} {vs : List Val} (h : Fit tab (n + 5) 31 vs) : ∃ u : RulesT,vs = A5 u := by
 obtain ⟨hl,hq⟩ := Cm tab_31 h
 match vs,hl with
 | [a,b,c,d,e,f],_ =>
  obtain ⟨fi,e0,h0⟩ := hq (0,29) (by simp)
  rw [tab_29] at e0; cases e0
  obtain ⟨fi,e1,h1⟩ := hq (1,3) (by simp)
  rw [tab_3] at e1; cases e1
  obtain ⟨fi,e2,h2⟩ := hq (2,3) (by simp)
  rw [tab_3] at e2; cases e2
  obtain ⟨fi,e3,h3⟩ := hq (3,26) (by simp)
  rw [tab_26] at e3; cases e3
  obtain ⟨fi,e4,h4⟩ := hq (5,3) (by simp)
  rw [tab_3] at e4; cases e4
  obtain ⟨x0,h0⟩ := Eo tab_29 tab_66 h0 fun es he => Rn he
  obtain ⟨x1,h1⟩ := GG h1
  obtain ⟨x2,h2⟩ := GG h2
  obtain ⟨x3,h3⟩ := Ex h3
  obtain ⟨x4,h4⟩ := GG h4
  simp at h0 h1 h2 h3 h4
  obtain ⟨h3,h3'⟩ := h3
  exact ⟨⟨x0,x1,x2,x3,x4⟩,by rw [h0,h1,h2,h3,h3',h4]; rfl⟩
theorem RH {n : Nat} {vs : List Val} (h : Fit tab (n + 3) 70 vs) : ∃ x : NoteT,vs = cNote x ∧ 0 ≤ x.kind ∧ x.kind ≤ 255 := by
 obtain ⟨hl,hq⟩ := Cm tab_70 h
 match vs,hl with
 | [a,b,c,d,e],_ =>
  obtain ⟨fi,e0,h0⟩ := hq (0,3) (by simp)
  rw [tab_3] at e0; cases e0
  obtain ⟨fi,e1,h1⟩ := hq (1,5) (by simp)
  rw [tab_5] at e1; cases e1
  obtain ⟨fi,e2,h2⟩ := hq (2,3) (by simp)
  rw [tab_3] at e2; cases e2
  obtain ⟨fi,e3,h3⟩ := hq (3,26) (by simp)
  rw [tab_26] at e3; cases e3
  obtain ⟨x0,h0⟩ := GG h0
  obtain ⟨x1,h1,hw⟩ := P2 tab_5 h1
  obtain ⟨x2,h2⟩ := GG h2
  obtain ⟨x3,h3⟩ := Ex h3
  simp [Lit.wf,IntKind.min,IntKind.max,IntKind.signed,IntKind.bits] at hw
  simp at h0 h1 h2 h3
  obtain ⟨h3,h3'⟩ := h3
  exact ⟨⟨x0,x1,x2,x3⟩,by rw [h0,h1,h2,h3,h3']; rfl,by simp only; omega,by simp only; omega⟩
theorem NL {α : Type} {c : α → List Val} {p : α → Prop} : ∀ {xss : List (List Val)},(∀ es ∈ xss,∃ x,es = c x ∧ p x) → ∃ l : List α,xss = l.map c ∧ ∀ x ∈ l,p x
 | [],_ => ⟨[],rfl,fun x h => by simp at h⟩
 | es :: xss,h => by
  obtain ⟨x,rfl,hp⟩ := h es (by simp)
  obtain ⟨l,rfl,hl⟩ := NL fun es he => h es (List.mem_cons_of_mem _ he)
  exact ⟨x :: l,rfl,fun y hy => by rcases List.mem_cons.1 hy with rfl | hy; exact hp; exact hl y hy⟩
theorem Ou {T : Tab} {n : Nat} {t e sz : Nat} {vs : List Val} {b b2 s1 : Nat} {z z2 : Val} {p p2 : Bool} {k2 : TK} {α : Type} {c : α → List Val} {q : α → Prop} (ht : T t = some ⟨.slice e,s1,b,z,p⟩)
  (he : T e = some ⟨k2,sz,b2,z2,p2⟩) (h : Fit T (n + 1) t vs) (hc : ∀ es,Fit T n e es → ∃ x,es = c x ∧ q x) : ∃ l : List α,vs = [.lst sz (l.map c)] ∧ ∀ x ∈ l,q x := by
 simp only [Fit,ht] at h
 obtain ⟨sz',xss,rfl,hs,_,hx⟩ := h
 rw [he] at hs
 cases hs
 obtain ⟨l,rfl,hq⟩ := NL (c := c) fun es hes => hc es (hx es hes).2
 exact ⟨l,rfl,hq⟩
theorem Q8 {T : Tab} {n : Nat} {t sz m e : Nat} {vs : List Val} {b : Nat} {z : Val} {p : Bool} (ht : T t = some ⟨.array m e,sz,b,z,p⟩) (h : Fit T (n + 1) t vs) :
  vs.length = sz ∧ ∀ i,i < m → ∃ fi,T e = some fi ∧ Fit T n e ((vs.drop (i * fi.sz)).take fi.sz) := by
 simp only [Fit,ht] at h
 exact h
theorem SN {n : Nat} {vs : List Val} (h : Fit tab (n + 2) 32 vs) : ∃ a b c d e g : Int,vs = [.int .i64 a,.int .i64 b,.int .i64 c,.int .i64 d,.int .i64 e,.int .i64 g] := by
 obtain ⟨hl,hq⟩ := Q8 tab_32 h
 match vs,hl with
 | [a,b,c,d,e,g],_ =>
  have q := fun i hi => hq i hi
  have one : ∀ i v,i < 6 → ([a,b,c,d,e,g] : List Val)[i]? = some v → ∃ m,v = .int .i64 m := by
   intro i v hi hv
   obtain ⟨fi,ef,hf⟩ := q i hi
   rw [tab_3] at ef; cases ef
   obtain ⟨m,hm⟩ := GG hf
   refine ⟨m,?_⟩
   have : ((([a,b,c,d,e,g] : List Val).drop (i * 1)).take 1)[0]? = some (.int .i64 m) := by rw [hm]; rfl
   rw [List.getElem?_take,if_pos (by decide),List.getElem?_drop,Nat.mul_one,Nat.add_zero,hv] at this
   exact Option.some.inj this
  obtain ⟨m0,rfl⟩ := one 0 a (by decide) rfl
  obtain ⟨m1,rfl⟩ := one 1 b (by decide) rfl
  obtain ⟨m2,rfl⟩ := one 2 c (by decide) rfl
  obtain ⟨m3,rfl⟩ := one 3 d (by decide) rfl
  obtain ⟨m4,rfl⟩ := one 4 e (by decide) rfl
  obtain ⟨m5,rfl⟩ := one 5 g (by decide) rfl
  exact ⟨m0,m1,m2,m3,m4,m5,rfl⟩
def IU (t : TestT) : Prop := ∀ n ∈ t.notes,0 ≤ n.kind ∧ n.kind ≤ 255
set_option maxHeartbeats 2000000 in
theorem Sp {n : Nat} {vs : List Val} (h : Fit tab (n + 6) 35 vs) : ∃ t : TestT,vs = A2 t ∧ IU t := by
 obtain ⟨hl,hq⟩ := Cm tab_35 h
 have cut : ∀ (vs : List Val),vs.length = 23 → vs = vs.take 1 ++ ((vs.drop 1).take 6 ++ ((vs.drop 7).take 6 ++ ((vs.drop 13).take 2 ++ ((vs.drop 15).take 1 ++ ((vs.drop 16).take 6 ++ (vs.drop 22).take 1))))) := by
  intro vs hl
  have d : ∀ (a k : Nat),vs.drop a = (vs.drop a).take k ++ vs.drop (a + k) := fun a k => by rw [← List.drop_drop,List.take_append_drop]
  have e : (vs.drop 22).take 1 = vs.drop 22 := List.take_of_length_le (by rw [List.length_drop]; omega)
  rw [e,← d 16 6,← d 15 1,← d 13 2,← d 7 6,← d 1 6]
  exact (List.take_append_drop 1 vs).symm
 obtain ⟨fi,e0,h0⟩ := hq (0,3) (by simp)
 rw [tab_3] at e0; cases e0
 obtain ⟨fi,e1,h1⟩ := hq (1,28) (by simp)
 rw [tab_28] at e1; cases e1
 obtain ⟨fi,e2,h2⟩ := hq (7,31) (by simp)
 rw [tab_31] at e2; cases e2
 obtain ⟨fi,e3,h3⟩ := hq (13,26) (by simp)
 rw [tab_26] at e3; cases e3
 obtain ⟨fi,e4,h4⟩ := hq (15,3) (by simp)
 rw [tab_3] at e4; cases e4
 obtain ⟨fi,e5,h5⟩ := hq (16,32) (by simp)
 rw [tab_32] at e5; cases e5
 obtain ⟨fi,e6,h6⟩ := hq (22,33) (by simp)
 rw [tab_33] at e6; cases e6
 obtain ⟨x0,h0⟩ := GG h0
 obtain ⟨x1,h1⟩ := Uc h1
 obtain ⟨x2,h2⟩ := QA h2
 obtain ⟨x3,h3⟩ := Ex h3
 obtain ⟨x4,h4⟩ := GG h4
 obtain ⟨l0,l1,l2,l3,l4,l5,h5⟩ := SN h5
 obtain ⟨x6,h6,hu⟩ := Ou tab_33 tab_70 h6 fun es he => RH he
 simp only [List.drop_zero] at h0
 refine ⟨⟨x0,x1,x2,x3,x4,l0,l1,l2,l3,l4,l5,x6⟩,?_,hu⟩
 rw [cut vs hl,h0,h1,h2,h3,h4,h5,h6]
 rfl
theorem arg_test {a : Val} (h : aR tab 8 35 a) : ∃ t : TestT,a = A3 t ∧ IU t := by
 obtain ⟨ti,cs,e,h,_,rfl⟩ := h
 obtain ⟨l,rfl,hu⟩ := Sp h
 rw [tab_35] at e; cases e; exact ⟨l,rfl,hu⟩
end Cp
namespace Cp
open Go Go.Proofs
set_option maxRecDepth 10000
set_option maxHeartbeats 2000000
structure TestG (t : TestT) : Prop where
 sm : RunSm t.run
 steps : t.rules.steps.length ≤ 10
 notes : t.notes.length ≤ 80
 tb : TestB t
theorem Vf {t : TestT} (h : Fu t = false) (hu : IU t) : TestG t := by
 unfold Fu at h
 rw [Bool.or_eq_false_iff,decide_eq_false_iff_not] at h
 obtain ⟨h1,h2⟩ := Sz h.1
 exact ⟨h1,h2,by omega,h1.b,⟨by omega⟩,by omega,hu⟩
theorem byteL_c8 : ∀ {l : List Int},byteL (l.map c8) = some l
 | [] => rfl
 | a :: l => by simp only [List.map_cons,c8,byteL,byteL_c8 (l := l)]
end Cp
namespace Cp
open Go Go.Proofs
set_option maxRecDepth 100000
set_option maxHeartbeats 2000000
def exRows : List RowT := List.replicate 21 ⟨[500],0⟩ ++ [⟨[560],0⟩] ++ List.replicate 3 ⟨[500],0⟩
def exRun : RunT := ⟨0,[⟨0,500⟩,⟨60,500⟩],[⟨0,⟨-1,0⟩,⟨0,0⟩,0⟩],exRows,⟨0,0⟩⟩
def exRules : RulesT := ⟨[],60,1,⟨0,0⟩,1⟩
def F1 (a k v o : Int) : NoteT := ⟨a,k,v,⟨-o,o⟩⟩
def exNotes : List NoteT := [F1 600 5 150 10,F1 900 5 175 10,F1 1000 4 0 0,F1 1200 5 195 10,F1 1260 4 1 0,F1 1500 1 60 0,F1 1500 2 5 0,F1 1500 3 4 0,F1 1500 6 100 0]
def exT : TestT := ⟨4,exRun,exRules,⟨0,30⟩,1500,100,10,6,0,180,140,exNotes⟩
def exV : Val := .agg ((A2 exT).set 7 .nils)
theorem test_run : PureC Tryz.prog 55 [] exV := Uh (n := 400) tabOK mix look_ok (by rfl) (by kernel_rfl) (by kernel_rfl)
theorem VR.agg_set {G : Gh} {w : World} {cs : List Val} {i n : Nat} {x : Value} (h : VR G w (.agg (cs.set i .nils)) x) (hc : cs[i]? = some (.lst n [])) : VR G w (.agg cs) x := by
 cases h with
 | agg _ xs hs hcl hv =>
  have hi : i < cs.length := (List.getElem?_eq_some_iff.1 hc).1
  refine .agg _ xs (by simpa using hs) (fun j v hj => ?_) (fun j v hj => ?_)
  ·by_cases hji : i = j
   ·subst hji; rw [hc] at hj; cases hj; rfl
   ·exact hcl j v (by rw [List.getElem?_set,if_neg hji]; exact hj)
  ·by_cases hji : i = j
   ·subst hji
    rw [hc] at hj; cases hj
    exact (hv i .nils (by rw [List.getElem?_set,if_pos rfl,if_pos hi])).nils_lst _
   ·exact hv j v (by rw [List.getElem?_set,if_neg hji]; exact hj)
theorem test_ok : PureC Tryz.prog 55 [] (A3 exT) := PureC.weak test_run (by kernel_rfl) fun G w x h => VR.agg_set (n := 2) h (by kernel_rfl)
theorem exB : TestB exT := ⟨⟨by decide,by decide,by decide,by decide⟩,⟨by decide⟩,by decide,by decide⟩
theorem ex_first : GH exT 3 = .tup [Ac ⟨0,⟨571,1200⟩⟩,.int .i64 0] := by kernel_rfl
theorem ex_fails5 : EF exT 5 = .tup [Ac ⟨0,⟨571,1200⟩⟩,.int .i64 0] := by kernel_rfl
theorem ex_fails3 : EF exT 3 = .tup [Ac ⟨2,⟨0,0⟩⟩,.int .i64 0] := by kernel_rfl
theorem ex_class1 : Eh exT 1 = .tup [A6 ⟨20,20⟩,.int .i64 0] := by kernel_rfl
theorem ex_class2 : Eh exT 2 = .tup [A6 ⟨15,20⟩,.int .i64 0] := by kernel_rfl
theorem ex_class3 : Eh exT 3 = .tup [A6 ⟨5,15⟩,.int .i64 0] := by kernel_rfl
theorem ex_stops1 : IR exT 1 = .tup [.lst 1 [[.int .u8 7],[.int .u8 8]],.int .i64 0] := by kernel_rfl
theorem ex_stops2 : IR exT 2 = .tup [.lst 1 [[.int .u8 4]],.int .i64 0] := by kernel_rfl
theorem ex_stops3 : IR exT 3 = .tup [.lst 1 [[.int .u8 5]],.int .i64 0] := by kernel_rfl
end Cp
namespace Cp
open Go
def DD (t : TestT) (c : Nat) : Int := if toC t c < frC t c then nvr else frC t c
def LS (t : TestT) (c : Nat) : Int := if (BV t c).isSome = true then toC t c else nvr
def Mc (t : TestT) (x : Int) (c : Nat) : Int := if (BV t c).isSome = true then min x (toC t c) else x
def Ql (t : TestT) (n : Nat) : Int := (List.range n).foldl (Mc t) nvr
theorem Q0 {t : TestT} {n : Nat} : Ql t (n + 1) = Mc t (Ql t n) n := by
 unfold Ql; rw [List.range_succ,List.foldl_append]; rfl
theorem Lp {t : TestT} (hF : TestF t) : ∀ (n : Nat),(Ql t n = nvr ∧ ∀ c,c < n → ¬ (BV t c).isSome = true) ∨ (Ql t n < nvr ∧ ∃ c,c < n ∧ (BV t c).isSome = true)
 | 0 => .inl ⟨rfl,fun c h => by omega⟩
 | n + 1 => by
  have ih := Lp hF n
  have hn := hF.to n
  rw [Q0]
  unfold Mc
  by_cases h : (BV t n).isSome = true
  ·rw [if_pos h]
   exact .inr ⟨by unfold nvr at *; omega,n,by omega,h⟩
  ·rw [if_neg h]
   rcases ih with ⟨h1,h2⟩ | ⟨h1,c,h2,h3⟩
   ·exact .inl ⟨h1,fun c hc => by
     by_cases hcn : c = n
     ·subst hcn; exact h
     ·exact h2 c (by omega)⟩
   ·exact .inr ⟨h1,c,by omega,h3⟩
theorem FQ {t : TestT} (hF : TestF t) {c : Nat} : DD t c ≠ nvr ↔ ¬ toC t c < frC t c := by
 have := hF.fr c
 unfold DD
 split
 ·rename_i h; exact ⟨fun q => absurd rfl q,fun q => absurd h q⟩
 ·rename_i h; exact ⟨fun _ => h,fun _ => by unfold nvr; omega⟩
theorem Ik {t : TestT} (hF : TestF t) {c : Nat} : LS t c ≠ nvr ↔ (BV t c).isSome = true := by
 have := hF.to c
 unfold LS
 split
 ·rename_i h; exact ⟨fun _ => h,fun _ => by unfold nvr; omega⟩
 ·rename_i h; exact ⟨fun q => absurd rfl q,fun q => absurd q h⟩
theorem Nf {t : TestT} (hF : TestF t) {l : Nat} (hl : l ≤ 3) :
  ((Aa t l).held = 2 ↔ Ck (DD t) t.clock.hi (2 * l) = nvr) ∧ ((Aa t l).held = 0 ↔ Ql t (2 * l) ≠ nvr) ∧ (Ck (DD t) t.clock.hi (2 * l) ≠ nvr → (Aa t l).at1.lo = Ck (DD t) t.clock.hi (2 * l)) ∧
  ((Aa t l).held = 0 ↔ Ck (LS t) t.clock.lo (2 * l) ≠ nvr) ∧ (Ck (LS t) t.clock.lo (2 * l) ≠ nvr → (Aa t l).at1.hi = Ck (LS t) t.clock.lo (2 * l)) := by
 have hck := hF.clock
 have hL := Cb hF l
 have heq : ∀ c,¬ toC t c < frC t c → DD t c = frC t c := fun c h => by unfold DD; rw [if_neg h]
 have hlq : ∀ c,(BV t c).isSome = true → LS t c = toC t c := fun c h => by unfold LS; rw [if_pos h]
 obtain ⟨a1,a2⟩ := FT (a := DD t) (fast := t.clock.hi) (2 * l) fun c hc h => by
  have h' := (FQ hF).1 h
  have := hF.fr c
  rw [heq c h']; unfold nvr; omega
 obtain ⟨b1,b2⟩ := FT (a := LS t) (fast := t.clock.lo) (2 * l) fun c hc h => by
  have h' := (Ik hF).1 h
  have := hF.to c
  rw [hlq c h']; unfold nvr; omega
 have hsu := Lp hF (2 * l)
 have hz : (Aa t l).held = 0 ↔ ∃ c,c < 2 * l ∧ (BV t c).isSome = true := by
  rw [hL.sure]
  constructor
  ·rintro ⟨f,hm,h0⟩
   obtain ⟨c,hc,rfl⟩ := Ai.1 hm
   exact ⟨c,hc,(C5 hF (by omega)).1 h0⟩
  ·rintro ⟨c,hc,h⟩
   exact ⟨_,Ai.2 ⟨c,hc,rfl⟩,(C5 hF (by omega)).2 h⟩
 have hz2 : (Aa t l).held = 0 ↔ Ck (LS t) t.clock.lo (2 * l) ≠ nvr := by
  rw [hz]
  constructor
  ·rintro ⟨c,hc,h⟩ e
   rcases b1 with ⟨_,q⟩ | ⟨q,_⟩
   ·exact (Ik hF).2 h (q c hc)
   ·omega
  ·intro e
   rcases b1 with ⟨q,_⟩ | ⟨_,c,hc,hx,_⟩
   ·exact absurd q e
   ·exact ⟨c,hc,(Ik hF).1 hx⟩
 have h2 : (Aa t l).held = 2 ↔ Ck (DD t) t.clock.hi (2 * l) = nvr := by
  constructor
  ·intro h
   rcases a1 with ⟨q,_⟩ | ⟨_,c,hc,hx,_⟩
   ·exact q
   ·exfalso
    have hn := (FQ hF).1 hx
    have := hL.some fun q => hn (Bf.1 (q _ (Ai.2 ⟨c,hc,rfl⟩)))
    omega
  ·intro e
   rcases a1 with ⟨_,q⟩ | ⟨q,_⟩
   ·rw [hL.none fun f hm => by
     obtain ⟨c,hc,rfl⟩ := Ai.1 hm
     refine Bf.2 (Classical.byContradiction fun h => ?_)
     exact (FQ hF).2 h (q c hc)]
   ·omega
 refine ⟨h2,?_,fun h => ?_,hz2,fun h => ?_⟩
 ·rw [hz]
  constructor
  ·rintro ⟨c,hc,h⟩ e
   rcases hsu with ⟨_,q⟩ | ⟨q,_⟩
   ·exact q c hc h
   ·omega
  ·intro e
   rcases hsu with ⟨q,_⟩ | ⟨_,q⟩
   ·exact absurd q e
   ·exact q
 ·rcases a1 with ⟨q,_⟩ | ⟨_,c,hc,hx,e⟩
  ·exact absurd q h
  ·have hn := (FQ hF).1 hx
   have hm : Ah t c ∈ AB t (2 * l) := Ai.2 ⟨c,hc,rfl⟩
   have hn2 : ¬ (Ah t c).held = 2 := fun h => hn (Bf.1 h)
   have q1 := hL.lo1 _ hm hn2
   obtain ⟨f,hfm,hf2,hfe⟩ := hL.lo2 fun q => hn2 (q _ hm)
   obtain ⟨d,hd,rfl⟩ := Ai.1 hfm
   have hdn : ¬ toC t d < frC t d := fun h => hf2 (Bf.2 h)
   have q2 := a2 d hd ((FQ hF).2 hdn)
   rw [BS hn] at q1
   rw [BS hdn] at hfe
   rw [heq _ hn] at e
   rw [heq _ hdn] at q2
   simp only at q1 hfe
   omega
 ·rcases b1 with ⟨q,_⟩ | ⟨_,c,hc,hx,e⟩
  ·exact absurd q h
  ·have hs := (Ik hF).1 hx
   have hm : Ah t c ∈ AB t (2 * l) := Ai.2 ⟨c,hc,rfl⟩
   have h0 := (C5 hF (c := c) (by omega)).2 hs
   have q1 := hL.hi1 _ hm h0
   obtain ⟨f,hfm,hf0,hfe⟩ := hL.hi2 (hz2.2 h)
   obtain ⟨d,hd,rfl⟩ := Ai.1 hfm
   have hds := (C5 hF (c := d) (by omega)).1 hf0
   have hcn : ¬ toC t c < frC t c := fun h => by have := Bf.2 h; omega
   have hdn : ¬ toC t d < frC t d := fun h => by have := Bf.2 h; omega
   have q2 := b2 d hd ((Ik hF).2 hds)
   rw [BS hcn] at q1
   rw [BS hdn] at hfe
   rw [hlq _ hs] at e
   rw [hlq _ hds] at q2
   simp only at q1 hfe
   omega
end Cp
namespace Cp
open Go Go.Proofs
set_option maxRecDepth 10000
set_option maxHeartbeats 4000000
def c32 (m : Int) : List Val := [.int .u32 m]
@[go_sem] theorem Zx {l : List Int} : noidss (l.map c32) = true := Bl fun _ => rfl
def chI (l : List Int) (i : Int) : Int := if l.length = 0 then 0 else (l[(i.tmod l.length).toNat]?).getD 0
def By (l : List Int) : Prop := ∀ m ∈ l,0 ≤ m ∧ m ≤ 4294967295
theorem UZ {l : List Int} (hl : By l) (i : Int) : 0 ≤ chI l i ∧ chI l i ≤ 4294967295 := by
 unfold chI
 split
 ·omega
 ·cases hq : l[(i.tmod l.length).toNat]? with
  | none => simp
  | some x => exact hl x (List.mem_of_getElem? hq)
end Cp
namespace Cp
open Go Go.Proofs
set_option maxRecDepth 10000
set_option maxHeartbeats 2000000
theorem JH (lo hi : Int) : PureC Tryz.prog 26 [.int .i64 lo,.int .i64 hi] (A6 ⟨lo,hi⟩) := by
 refine A8 (fn := Tryz.f26) tabOK (by kernel_rfl) rfl (by kernel_rfl) (by simp [Tryz.f26]) (by simp [noids,noid,noidss,go_sem,A6]) (by first | rfl | simp [noids,noid,noidss,go_sem,A6]) ?_
 intro X hX0 hXs
 repeat' (first | with_reducible (first | (refine sk ?_; intro K hK) | intro (ep : Nat → Nat) | apply_assumption -exfalso -symm only [*]) | ((with_reducible first | refine rg (h := ?_) | refine nx ?_); try simp (disch := omega) only [A6,go_sem,simprocAttr]) | ((with_reducible refine fe ?_); refine ⟨_,(by simp only [Tryz.f26,A6,go_sem,simprocAttr]; rfl),?_⟩; rfl) | fail)
theorem Lt (c h lo hi : Int) (hc : 0 ≤ c ∧ c ≤ 255) (hf : EF exT c = .tup [Ac ⟨h,⟨lo,hi⟩⟩,.int .i64 0]) : PureC Tryz.prog 56 [.int .u8 c,.int .u8 h,.int .i64 lo,.int .i64 hi] (.bool true) := by
 have h1 := LC exT exB c hc
 have ht := test_ok
 rw [hf] at h1
 have hls := JH lo hi
 generalize A3 exT = tv at *
 simp only [A6,Ac,Ag] at h1 hls
 refine A8 (fn := Tryz.f56) tabOK (by kernel_rfl) rfl (by kernel_rfl) (by simp [Tryz.f56]) (by simp [noids,noid,noidss,go_sem]) (by first | rfl | simp [noids,noid,noidss,go_sem]) ?_
 intro X hX0 hXs
 repeat' (first | with_reducible (first | (refine sk ?_; intro K hK) | intro (ep : Nat → Nat) | apply_assumption -exfalso -symm only [*]) | ((first | (with_reducible first | refine rg (h := ?_) | refine nx ?_) | refine pK (ht) ?_ | refine pK (h1) ?_ | refine pK (hls) ?_); try simp (disch := omega) only [A6,Ac,Ag,go_sem,simprocAttr]) | ((with_reducible refine fe ?_); refine ⟨_,(by simp only [Tryz.f56,A6,Ac,Ag,go_sem,simprocAttr]; rfl),?_⟩; rfl) | fail)
theorem Fm (l lo hi : Int) (st : List Int) (hl : 0 ≤ l ∧ l ≤ 255) (hc : Eh exT l = .tup [A6 ⟨lo,hi⟩,.int .i64 0]) (hs : IR exT l = .tup [.lst 1 (st.map c8),.int .i64 0]) :
  PureC Tryz.prog 57 [.int .u8 l,.int .i64 lo,.int .i64 hi,.str (Gr st)] (.bool true) := by
 have h1 := Ly exT exB l hl
 have h2 := QK exT exB l hl
 have ht := test_ok
 have hby := @byteL_c8 st
 rw [hc] at h1
 rw [hs] at h2
 have hls := JH lo hi
 generalize A3 exT = tv at *
 simp only [A6] at h1 hls
 refine A8 (fn := Tryz.f57) tabOK (by kernel_rfl) rfl (by kernel_rfl) (by simp [Tryz.f57]) (by simp [noids,noid,noidss,go_sem]) (by first | rfl | simp [noids,noid,noidss,go_sem]) ?_
 intro X hX0 hXs
 repeat' (first | with_reducible (first | (refine sk ?_; intro K hK) | intro (ep : Nat → Nat) | apply_assumption -exfalso -symm only [*]) | ((first | (with_reducible first | refine rg (h := ?_) | refine nx ?_) | refine pK (ht) ?_ | refine pK (h1) ?_ | refine pK (h2) ?_ | refine pK (hls) ?_); try simp (disch := omega) only [A6,hby,go_sem,simprocAttr]) | ((with_reducible refine fe ?_); refine ⟨_,(by simp only [Tryz.f57,A6,hby,go_sem,simprocAttr]; rfl),?_⟩; rfl) | fail)
theorem alive_ok : PureC Tryz.prog 19 [] (.bool true) := by
 have h1 := Lc exT exB 3 (by decide)
 rw [ex_first] at h1
 have ht := test_ok
 have f5 := Lt 5 0 571 1200 (by decide) ex_fails5
 have f3 := Lt 3 2 0 0 (by decide) ex_fails3
 have c1 := Fm 1 20 20 [7,8] (by decide) ex_class1 ex_stops1
 have c2 := Fm 2 15 20 [4] (by decide) ex_class2 ex_stops2
 have c3 := Fm 3 5 15 [5] (by decide) ex_class3 ex_stops3
 have e1 : Gr [7,8] = { data := #[7,8] } := by decide +kernel
 have e2 : Gr [4] = { data := #[4] } := by decide +kernel
 have e3 : Gr [5] = { data := #[5] } := by decide +kernel
 rw [e1] at c1
 rw [e2] at c2
 rw [e3] at c3
 have hls := JH 571 1200
 generalize A3 exT = tv at *
 simp only [A6,Ac,Ag] at h1 hls
 refine A8 (fn := Tryz.f19) tabOK (by kernel_rfl) rfl (by kernel_rfl) (by simp [Tryz.f19]) (by simp [noids,noid,noidss,go_sem]) (by first | rfl | simp [noids,noid,noidss,go_sem]) ?_
 intro X hX0 hXs
 repeat' (first | with_reducible (first | (refine sk ?_; intro K hK) | intro (ep : Nat → Nat) | apply_assumption -exfalso -symm only [*]) | ((first | (with_reducible first | refine rg (h := ?_) | refine nx ?_) | refine pK (ht) ?_ | refine pK (h1) ?_ | refine pK (f5) ?_ | refine pK (f3) ?_ | refine pK (c1) ?_ | refine pK (c2) ?_ | refine pK (c3) ?_ | refine pK (hls) ?_); try simp (disch := omega) only [A6,Ac,Ag,go_sem,simprocAttr]) | ((with_reducible refine fe ?_); refine ⟨_,(by simp only [Tryz.f19,A6,Ac,Ag,go_sem,simprocAttr]; rfl),?_⟩; rfl) | fail)
theorem PX (t : TestT) (hu : IU t) : PureC Tryz.prog 20 [A3 t] (.bool (!Fu t && decide (Ap t = 0))) := by
 have hg := OK t
 cases hgr : Fu t with
 | true =>
  rw [hgr] at hg
  simp only [A3,A2] at hg
  refine A8 (fn := Tryz.f20) tabOK (by kernel_rfl) rfl (by kernel_rfl) (by simp [Tryz.f20]) (by simp [noids,noid,noidss,go_sem,A3,A2]) (by first | rfl | simp [noids,noid,noidss,go_sem,A3,A2]) ?_
  intro X hX0 hXs
  repeat' (first | with_reducible (first | (refine sk ?_; intro K hK) | apply_assumption -exfalso -symm only [*]) | ((first | (with_reducible first | refine rg (h := ?_) | refine nx ?_) | refine pK (hg) ?_); try simp (disch := omega) only [A3,A2,go_sem,simprocAttr]) | ((with_reducible refine fe ?_); refine ⟨_,(by simp only [Tryz.f20,A3,A2,go_sem,simprocAttr]; rfl),?_⟩; rfl) | fail)
 | false =>
  have hck := O5 t (Vf hgr hu).tb
  rw [hgr] at hg
  simp only [A3,A2] at hg hck
  generalize Ap t = k at *
  refine A8 (fn := Tryz.f20) tabOK (by kernel_rfl) rfl (by kernel_rfl) (by simp [Tryz.f20]) (by simp [noids,noid,noidss,go_sem,A3,A2]) (by first | rfl | simp [noids,noid,noidss,go_sem,A3,A2]) ?_
  intro X hX0 hXs
  repeat' (first | with_reducible (first | (refine sk ?_; intro K hK) | apply_assumption -exfalso -symm only [*]) | ((first | (with_reducible first | refine rg (h := ?_) | refine nx ?_) | refine pK (hg) ?_ | refine pK (hck) ?_); try simp (disch := omega) only [A3,A2,go_sem,simprocAttr]) | ((with_reducible refine fe ?_); refine ⟨_,(by simp only [Tryz.f20,A3,A2,go_sem,simprocAttr]; rfl),?_⟩; rfl) | fail)
theorem QL {t : TestT} (hu : IU t) (h : (!Fu t && decide (Ap t = 0)) = true) : TestG t ∧ TestF t ∧ Ap t = 0 := by
 rw [Bool.and_eq_true,Bool.not_eq_true',decide_eq_true_eq] at h
 exact ⟨Vf h.1 hu,Rs h.2,h.2⟩
def cAt (a : Nat → Int) : List Val := [.int .i64 (a 0),.int .i64 (a 1),.int .i64 (a 2),.int .i64 (a 3),.int .i64 (a 4),.int .i64 (a 5)]
end Cp
namespace Cp
open Go Go.Proofs
set_option maxRecDepth 10000
set_option maxHeartbeats 4000000
def aT (t : TestT) (by' : List Int) (c : Nat) : Int :=
 if frC t c ≤ toC t c ∧ ((BV t c).isSome = true ∨ (chI by' (2 * c)).tmod 2 = 0) then frC t c + (chI by' (2 * c + 1)).tmod (toC t c - frC t c + 1) else nvr
theorem WI {t : TestT} (hF : TestF t) {by' : List Int} (hb : By by') : SV t (aT t by') := by
 intro c hc
 have hs := hF.sure c hc
 unfold aT
 split
 ·rename_i h
  have h0 := (UZ hb (2 * c + 1)).1
  have h1 : 0 ≤ (chI by' (2 * c + 1)).tmod (toC t c - frC t c + 1) := Int.tmod_nonneg _ h0
  have h2 : (chI by' (2 * c + 1)).tmod (toC t c - frC t c + 1) < toC t c - frC t c + 1 := Int.tmod_lt_of_pos _ (by omega)
  exact .inr (by omega)
 ·rename_i h
  refine .inl ⟨rfl,fun hs' => h ⟨hs hs',.inl hs'⟩⟩
@[go_sem] theorem dn {a : Nat → Int} : (cAt a).length = 6 := rfl
@[go_sem] theorem aZ {a : Nat → Int} : (cAt a).take 6 = cAt a := rfl
@[go_sem] theorem Yj {a : Nat → Int} : noids (cAt a) = true := rfl
theorem U1 {t : TestT} {k : Nat} (hF : TestF t) (hc : Ap t = 0) (hk : 1 ≤ k ∧ k ≤ 3) : GH t k = .tup [Ac (Aa t k),.int .i64 0] ∧ Eh t k = .tup [A6 ⟨BB t k,IK t k⟩,.int .i64 0] := by
 unfold GH Eh
 rw [if_pos hc,if_pos hc,if_pos (by omega),if_pos (by omega),Int.toNat_natCast]
 exact ⟨rfl,rfl⟩
end Cp
namespace Cp
open Go
section
variable {r : RunT} {u : RulesT} {n : Nat}
end
end Cp
namespace Cp
end Cp
namespace Cp
open Go
def VJ (a b : Brc) : Prop := a.m = b.m ∧ a.kind = b.kind ∧ a.cpl = b.cpl
instance {a b : Brc} : Decidable (VJ a b) := by unfold VJ; infer_instance
end Cp
namespace Cp
open Go
end Cp
namespace Cp
end Cp
namespace Cp
open Go
structure Nar (t t' : TestT) : Prop where
 fin : t'.fin = t.fin
 known : ∀ c,AR t c ≤ AR t' c ∧ AR t' c ≤ AR t c
 clo : t.clock.lo ≤ t'.clock.lo
 chi : t'.clock.hi ≤ t.clock.hi
 fr : ∀ k,k < 6 → frC t k ≤ frC t' k
 to : ∀ k,k < 6 → toC t' k ≤ toC t k
 sure : ∀ k,k < 6 → (BV t k).isSome = true → (BV t' k).isSome = true
theorem Kp {t t' : TestT} (hF : TestF t) (hF' : TestF t') (h : Nar t t') {k : Nat} (hk : k < 6) :
  ((Ah t k).held ≠ 1 → (Ah t' k).held = (Ah t k).held) ∧ ((Ah t' k).held = 2 ∨ (¬ (Ah t k).held = 2 ∧ (Ah t k).at1.lo ≤ (Ah t' k).at1.lo ∧ (Ah t' k).at1.hi ≤ (Ah t k).at1.hi)) := by
 have h1 := h.fr k hk
 have h2 := h.to k hk
 have h3 := h.clo
 have h4 := h.chi
 have z := C5 hF hk
 have z' := C5 hF' hk
 have w := Bf (t := t) (c := k)
 have w' := Bf (t := t') (c := k)
 have b := CP t k
 constructor
 ·intro hne
  rcases b with b | b | b
  ·rw [b]; exact z'.2 (h.sure k hk (z.1 b))
  ·exact absurd b hne
  ·rw [b]; rw [w']; have := w.1 b; omega
 ·by_cases hx : toC t' k < frC t' k
  ·exact .inl (w'.2 hx)
  ·have hx2 : ¬ toC t k < frC t k := by omega
   refine .inr ⟨fun q => hx2 (w.1 q),?_⟩
   rw [BS hx,BS hx2]
   simp only
   omega
theorem Oe {t t' : TestT} (hF : TestF t) (hF' : TestF t') (h : Nar t t') {l : Nat} (hl : l ≤ 3) :
  ((Aa t l).held = 2 → (Aa t' l).held = 2) ∧ ((Aa t' l).held = 2 ∨ (Aa t l).at1.lo ≤ (Aa t' l).at1.lo) ∧ ((Aa t l).held = 0 → (Aa t' l).held = 0 ∧ (Aa t' l).at1.hi ≤ (Aa t l).at1.hi) := by
 have hL := Cb hF l
 have hL' := Cb hF' l
 have hall : (Aa t l).held = 2 → (Aa t' l).held = 2 := fun h2 => by
  rw [hL'.none fun f hf => by
   obtain ⟨c,hc,rfl⟩ := Ai.1 hf
   have hh : (Ah t c).held = 2 := Classical.byContradiction fun q => by
    have := hL.some fun r => q (r _ (Ai.2 ⟨c,hc,rfl⟩))
    omega
   have := (Kp hF hF' h (k := c) (by omega)).1 (by omega)
   omega]
 refine ⟨hall,?_,fun h0 => ?_⟩
 ·by_cases hA : ∀ f ∈ AB t' (2 * l),f.held = 2
  ·exact .inl (by rw [hL'.none hA])
  ·refine .inr ?_
   obtain ⟨f,hf,hf2,hfe⟩ := hL'.lo2 hA
   obtain ⟨c,hc,rfl⟩ := Ai.1 hf
   rcases (Kp hF hF' h (k := c) (by omega)).2 with q | ⟨q1,q2,q3⟩
   ·exact absurd q hf2
   ·have := hL.lo1 _ (Ai.2 ⟨c,hc,rfl⟩) q1
    omega
 ·obtain ⟨f,hf,hf0,hfe⟩ := hL.hi2 h0
  obtain ⟨c,hc,rfl⟩ := Ai.1 hf
  obtain ⟨n1,n2⟩ := Kp hF hF' h (k := c) (by omega)
  have h0' := n1 (by omega)
  rw [hf0] at h0'
  have hm := (Ai (t := t') (n := 2 * l)).2 ⟨c,hc,rfl⟩
  refine ⟨hL'.sure.2 ⟨_,hm,h0'⟩,?_⟩
  have := hL'.hi1 _ hm h0'
  rcases n2 with q | ⟨_,_,q⟩
  ·omega
  ·omega
theorem Yz {t t' : TestT} (hF : TestF t) (hF' : TestF t') (h : Nar t t') {l : Nat} (hl : l ≤ 3) : BB t l ≤ BB t' l ∧ IK t' l ≤ IK t l := by
 obtain ⟨n1,n2,n3⟩ := Oe hF hF' h hl
 have hc1 := h.clo
 have hc2 := h.chi
 have hfn := h.fin
 have hb' : (Aa t' l).held = 0 ∨ (Aa t' l).held = 1 ∨ (Aa t' l).held = 2 := by
  rcases Dt (AB t' (2 * l)) with q | q | q
  ·exact .inl q
  ·exact .inr (.inl q)
  ·exact .inr (.inr (by show (Ev (AB t' (2 * l))).held = 2; rw [q]))
 constructor
 ·refine J0 D6 D6 fun c hc hs => ?_
  have hk := h.known c
  simp only [Pn,Ek,Bool.and_eq_true,Bool.or_eq_true,decide_eq_true_eq] at hs ⊢
  refine ⟨?_,by omega,by omega⟩
  rcases hs.1 with q | q
  ·exact .inl (n1 q)
  ·rcases n2 with r | r
   ·exact .inl r
   ·exact .inr (by omega)
 ·refine J0 DC DC fun c hc hs => ?_
  have hk := h.known c
  simp only [UI,Gi,Bool.and_eq_true,Bool.or_eq_true,decide_eq_true_eq,Bool.not_eq_true',decide_eq_false_iff_not] at hs ⊢
  refine ⟨?_,by omega,by omega⟩
  by_cases h0 : (Aa t l).held = 0
  ·obtain ⟨q1,q2⟩ := n3 h0
   refine .inr ?_
   rcases hs.1 with r | r
   ·exact absurd q1 r
   ·omega
  ·exact .inl h0
theorem JO {fs fs' : List FailT} {F F' : FailT} (h : FirstOf fs F) (h' : FirstOf fs' F') (hs : ∀ f ∈ fs,f ∈ fs') (hb : F'.held = 0 ∨ F'.held = 1 ∨ F'.held = 2) :
  F'.held ≤ F.held ∧ (¬ F.held = 2 → F'.at1.lo ≤ F.at1.lo) ∧ (F.held = 0 → F'.at1.hi ≤ F.at1.hi) ∧ (¬ F'.held = 0 → ¬ F.held = 0) ∧ (F'.held = 2 → F.held = 2) := by
 have h0 : F.held = 0 → F'.held = 0 := fun q => by
  obtain ⟨f,a,b⟩ := h.sure.1 q
  exact h'.sure.2 ⟨f,hs f a,b⟩
 have h2 : F'.held = 2 → F.held = 2 := fun q => by
  rw [h.none fun f hf => Classical.byContradiction fun r => by
   have := h'.some fun w => r (w f (hs f hf))
   omega]
 have hF : (∀ f ∈ fs,f.held = 2) ∧ F.held = 2 ∨ F.held = 0 ∨ F.held = 1 := by
  by_cases hA : ∀ f ∈ fs,f.held = 2
  ·exact .inl ⟨hA,by rw [h.none hA]⟩
  ·exact .inr (h.some hA)
 refine ⟨?_,fun q => ?_,fun q => ?_,fun q r => q (h0 r),h2⟩
 ·rcases hF with q | q | q
  ·omega
  ·have := h0 q; omega
  ·by_cases r : F'.held = 2
   ·have := h2 r; omega
   ·omega
 ·obtain ⟨f,a,b,c⟩ := h.lo2 fun w => q (by rw [h.none w])
  have := h'.lo1 f (hs f a) b
  omega
 ·obtain ⟨f,a,b,c⟩ := h.hi2 q
  have := h'.hi1 f (hs f a) b
  omega
theorem OE {t : TestT} (hF : TestF t) {l l' : Nat} (hl : l ≤ l') : BB t l' ≤ BB t l ∧ IK t l' ≤ IK t l := by
 have hL := Cb hF l
 have hL' := Cb hF l'
 have hb' : (Aa t l').held = 0 ∨ (Aa t l').held = 1 ∨ (Aa t l').held = 2 := by
  rcases Dt (AB t (2 * l')) with q | q | q
  ·exact .inl q
  ·exact .inr (.inl q)
  ·exact .inr (.inr (by show (Ev (AB t (2 * l'))).held = 2; rw [q]))
 obtain ⟨m1,m2,m3,m4,m5⟩ := JO hL hL' (fun f hf => by
  obtain ⟨c,hc,rfl⟩ := Ai.1 hf
  exact Ai.2 ⟨c,by omega,rfl⟩) hb'
 constructor
 ·refine J0 D6 D6 fun c hc hs => ?_
  simp only [Pn,Ek,Bool.and_eq_true,Bool.or_eq_true,decide_eq_true_eq] at hs ⊢
  refine ⟨?_,hs.2⟩
  rcases hs.1 with q | q
  ·exact .inl (m5 q)
  ·by_cases r : (Aa t l).held = 2
   ·exact .inl r
   ·exact .inr (by have := m2 r; omega)
 ·refine J0 DC DC fun c hc hs => ?_
  simp only [UI,Gi,Bool.and_eq_true,Bool.or_eq_true,decide_eq_true_eq,Bool.not_eq_true',decide_eq_false_iff_not] at hs ⊢
  refine ⟨?_,hs.2⟩
  by_cases h0 : (Aa t l).held = 0
  ·rcases hs.1 with q | q
   ·exact absurd h0 (m4 q)
   ·exact .inr (by have := m3 h0; omega)
  ·exact .inl h0
end Cp
namespace Cp
open Go Go.Proofs
set_option maxRecDepth 10000
set_option maxHeartbeats 4000000
def Eu (t : TestT) : Nat → Int
 | 0 => 2
 | n + 1 => min (Eu t n) (Ah t n).held
theorem Lz (t : TestT) : ∀ n : Nat,(Eu t n = 0 ∨ Eu t n = 1 ∨ Eu t n = 2) ∧ (∀ c,c < n → Eu t n ≤ (Ah t c).held) ∧ (Eu t n = 2 ∨ ∃ c,c < n ∧ Eu t n = (Ah t c).held)
 | 0 => ⟨.inr (.inr rfl),fun c h => by omega,.inl rfl⟩
 | n + 1 => by
  obtain ⟨a,b,d⟩ := Lz t n
  have hn := CP t n
  have e : Eu t (n + 1) = min (Eu t n) (Ah t n).held := rfl
  refine ⟨by clear b d; omega,fun c hc => ?_,?_⟩
  ·by_cases h : c = n
   ·subst h; clear b d; omega
   ·have := b c (by omega); clear b d; omega
  ·by_cases h : (Ah t n).held ≤ Eu t n
   ·exact .inr ⟨n,by omega,by clear b d; omega⟩
   ·rcases d with d | ⟨c,d1,d2⟩
    ·exact .inl (by clear b; omega)
    ·exact .inr ⟨c,by omega,by clear b; omega⟩
theorem Dj (t : TestT) (l : Nat) : (Aa t l).held = 0 ∨ (Aa t l).held = 1 ∨ Aa t l = ⟨2,⟨0,0⟩⟩ := Dt (AB t (2 * l))
theorem TC {t : TestT} (hF : TestF t) (l : Nat) : Eu t (2 * l) = (Aa t l).held := by
 have hL := Cb hF l
 obtain ⟨a,b,d⟩ := Lz t (2 * l)
 have h0 : (Aa t l).held = 0 → Eu t (2 * l) = 0 := fun q => by
  obtain ⟨f,hf,h0⟩ := hL.sure.1 q
  obtain ⟨c,hc,rfl⟩ := Ai.1 hf
  have := b c hc
  clear b d hL; omega
 have h0' : Eu t (2 * l) = 0 → (Aa t l).held = 0 := fun q => by
  rcases d with d | ⟨c,d1,d2⟩
  ·omega
  ·exact hL.sure.2 ⟨_,Ai.2 ⟨c,d1,rfl⟩,by omega⟩
 have h2 : (Aa t l).held = 2 → Eu t (2 * l) = 2 := fun q => by
  rcases d with d | ⟨c,d1,d2⟩
  ·exact d
  ·have hm : Ah t c ∈ AB t (2 * l) := Ai.2 ⟨c,d1,rfl⟩
   by_cases r : (Ah t c).held = 2
   ·omega
   ·have := hL.some fun w => r (w _ hm)
    omega
 have h2' : Eu t (2 * l) = 2 → (Aa t l).held = 2 := fun q => by
  rw [hL.none fun f hf => ?_]
  obtain ⟨c,hc,rfl⟩ := Ai.1 hf
  have h1 := b c hc
  have := CP t c
  clear b d hL; omega
 rcases Dj t l with q | q | q
 ·rw [h0 q,q]
 ·rcases a with a | a | a
  ·have := h0' a; omega
  ·omega
  ·have := h2' a; omega
 ·have q : (Aa t l).held = 2 := by rw [q]
  rw [h2 q,q]
theorem Se {t : TestT} (hF : TestF t) {l : Nat} (hl : l ≤ 3) : BB t l ≤ IK t l := by
 obtain ⟨a,b⟩ := Oq hF hl (WI hF (by' := []) (fun m h => by cases h)) ⟨Int.le_refl _,hF.clock.2.1⟩
 exact Int.le_trans a b
theorem Mk {t : TestT} (hF : TestF t) (l : Nat) :
  (Aa t (l + 1)).held ≤ (Aa t l).held ∧ (¬ (Aa t l).held = 2 → (Aa t (l + 1)).at1.lo ≤ (Aa t l).at1.lo) ∧ ((Aa t l).held = 0 → (Aa t (l + 1)).at1.hi ≤ (Aa t l).at1.hi) := by
 have hb : (Aa t (l + 1)).held = 0 ∨ (Aa t (l + 1)).held = 1 ∨ (Aa t (l + 1)).held = 2 := by
  rcases Dj t (l + 1) with q | q | q
  ·exact .inl q
  ·exact .inr (.inl q)
  ·exact .inr (.inr (by rw [q]))
 obtain ⟨a,b,c,-,-⟩ := JO (Cb hF l) (Cb hF (l + 1)) (fun f hf => by
  obtain ⟨c,hc,rfl⟩ := Ai.1 hf
  exact Ai.2 ⟨c,by omega,rfl⟩) hb
 exact ⟨a,b,c⟩
theorem QD {t : TestT} {c : Nat} : ((Ah t c).held = 2 → DD t c = nvr) ∧ (TestF t → ¬ (Ah t c).held = 2 → ¬ DD t c = nvr ∧ (Ah t c).at1.lo = DD t c - t.clock.hi) := by
 refine ⟨fun h => ?_,fun hF h => ?_⟩
 ·have := Bf.1 h
  unfold DD; rw [if_pos this]
 ·have h' : ¬ toC t c < frC t c := fun q => h (Bf.2 q)
  refine ⟨(FQ hF).2 h',?_⟩
  rw [BS h']
  unfold DD; rw [if_neg h']
theorem Tp {t : TestT} {k : Nat} (hc : Ap t = 0) (hk : k < 6) : EF t ((k + 1 : Nat) : Int) = .tup [Ac (Ah t k),.int .i64 0] := by
 unfold EF
 rw [if_pos hc,if_pos (by omega),show (((k + 1 : Nat) : Int) - 1).toNat = k by omega]
theorem letters_law (t : TestT) (hu : IU t) : PureC Tryz.prog 8 [A3 t] (.bool true) := by
 have hr := PX t hu
 simp only [A3,A2] at hr
 by_cases hrd : (!Fu t && decide (Ap t = 0)) = true
 ·rw [hrd] at hr
  obtain ⟨hG,hF,hc0⟩ := QL hu hrd
  refine A8 (fn := Tryz.f8) tabOK (by kernel_rfl) rfl (by kernel_rfl) (by simp [Tryz.f8]) (by simp [noids,noid,noidss,go_sem,A3,A2]) (by first | rfl | simp [noids,noid,noidss,go_sem,A3,A2]) ?_
  intro X hX0 hXs
  repeat' (first | with_reducible (first | ((fail_if_success (refine Di (id := 8) ?_)); refine sk ?_; intro K hK) | intro (ep : Nat → Nat) | apply_assumption -exfalso -symm only [*]) | ((first | (with_reducible first | refine rg (h := ?_) | refine nx ?_) | refine pK (alive_ok) ?_ | refine pK (hr) ?_); try simp (disch := omega) only [A3,A2,go_sem,simprocAttr]) | ((with_reducible refine' cE ?hv ?_ ?_); (case hv => rfl); all_goals (intro hc; (try simp only [go_sem,simprocAttr] at hc))) | fail)
  have hcut : ∀ f H,f 3 = .bool true → K f H := by
   rintro f H h3
   refine hK f H ?_
   clear hK
   repeat' (first | with_reducible (first | (refine sk ?_; intro K hK) | apply_assumption -exfalso -symm only [*]) | ((with_reducible first | refine rg (h := ?_) | refine nx ?_); try simp (disch := omega) only [h3,go_sem,simprocAttr]) | ((with_reducible refine fe ?_); refine ⟨_,(by simp only [Tryz.f8,h3,go_sem,simprocAttr]; rfl),?_⟩; rfl) | fail)
  clear hK
  have hcutE : ∃ _ : Unit,_ := ⟨(),hcut⟩
  clear hcut
  repeat' (first | with_reducible (first | (refine sk ?_; intro K hK) | apply_assumption -exfalso -symm only [*]) | ((with_reducible refine rg (h := ?_)); try simp (disch := omega) only [go_sem,simprocAttr]) | fail)
  refine An (AK (fun m f H => ∃ i : Nat,m = 3 - i ∧ i ≤ 3 ∧ (f 1 = .pim (A2 t) ∧ f 3 = .bool true ∧ f 6 = .int .u8 ((i + 1 : Nat) : Int)) ∧ ∃ e4 e5 B x y,f 4 = .ptr 4 e4 3 0 0 ∧ f 5 = .ptr 5 e5 2 0 0 ∧ H 4 = some (e4,.arr 3 [Ag B]) ∧ H 5 = some (e5,.arr 2 [[.int .i64 x,.int .i64 y]]) ∧ (1 ≤ i → B = Aa t i ∧ x = BB t i ∧ y = IK t i)) 3
   ⟨0,rfl,Nat.zero_le _,by (and_intros <;> first | rfl | (simp only [A2,go_sem,simprocAttr]; done) | (simp only [A2,go_sem,simprocAttr]; rfl)),_,_,⟨0,⟨0,0⟩⟩,0,0,by (first | rfl | (simp only [go_sem,simprocAttr]; done) | (simp only [go_sem,simprocAttr]; rfl)),by (first | rfl | (simp only [go_sem,simprocAttr]; done) | (simp only [go_sem,simprocAttr]; rfl)),by (first | rfl | (simp only [Ag,go_sem,simprocAttr]; done) | (simp only [Ag,go_sem,simprocAttr]; rfl)),by (first | rfl | (simp only [go_sem,simprocAttr]; done) | (simp only [go_sem,simprocAttr]; rfl)),fun h => by omega⟩ ?_)
  rintro m f H ⟨i,rfl,hi,⟨h1,h3,h6⟩,e4,e5,B,x,y,h4,h5,H4,H5,hB⟩
  refine Bn [4,5] ?_
  change BQ H [4,5] 4 = _ at H4
  change BQ H [4,5] 5 = _ at H5
  have k7 : BQ H [4,5] 7 = none := rfl
  have k9 : BQ H [4,5] 9 = none := rfl
  generalize BQ H [4,5] = H2 at *
  by_cases hlt : i < 3
  ·clear hcutE
   obtain ⟨e1,e2⟩ := U1 hF hc0 (k := i + 1) (by omega)
   have j1 := Lc t hG.tb ((i + 1 : Nat) : Int) (by omega)
   have j2 := Ly t hG.tb ((i + 1 : Nat) : Int) (by omega)
   rw [e1] at j1
   rw [e2] at j2
   clear e1 e2
   obtain ⟨q1,-,q3,-,-⟩ := Nf hF (l := i + 1) (by omega)
   have hhel := TC hF (i + 1)
   have hsm : ¬ IK t (i + 1) < BB t (i + 1) := Int.not_lt.2 (Se hF (by omega))
   obtain ⟨d1,d2,d3⟩ := Mk hF i
   obtain ⟨d4,d5⟩ := OE hF (show i ≤ i + 1 by omega)
   have hF2 := Dj t (i + 1)
   have hB2 := Dj t i
   generalize hFF : Aa t (i + 1) = F at *
   generalize hsx : BB t (i + 1) = sx at *
   generalize hsy : IK t (i + 1) = sy at *
   simp only [A3,A2,A6,Ac,Ag] at j1 j2
   have h2k : 2 * ((i + 1 : Nat) : Int) = ((2 * (i + 1) : Nat) : Int) := by omega
   have hw : IntKind.u8.wrap ((i + 1 + 1 : Nat) : Int) = ((i + 1 + 1 : Nat) : Int) := IntWalk.u8_in _ (by omega)
   have hw2 : IntKind.u8.wrap ((2 * (i + 1) : Nat) : Int) = ((2 * (i + 1) : Nat) : Int) := IntWalk.u8_in _ (by omega)
   have hi3 : ((i + 1 : Nat) : Int) ≤ 3 := by omega
   repeat' (first | with_reducible (first | ((fail_if_success (refine Di (id := 16) ?_)); refine sk ?_; intro K hK) | refine bk ?_ | intro (ep : Nat → Nat) | apply_assumption -exfalso -symm only [*]) | ((first | (with_reducible first | refine rg (h := ?_) | refine nx ?_) | refine pK (j1) ?_ | refine pK (j2) ?_); try simp (disch := omega) only [h1,h3,h4,h5,h6,H4,H5,k7,k9,hsm,hi3,A2,go_sem,simprocAttr]) | ((with_reducible refine' cE ?hv ?_ ?_); (case hv => rfl); all_goals (intro hc; (try simp only [go_sem,simprocAttr] at hc))) | fail)
   have hcut : ∀ f H,(f 1 = .pim (A2 t) ∧ f 3 = .bool true ∧ f 6 = .int .u8 ((i + 1 : Nat) : Int) ∧ f 11 = .int .i64 (Ck (DD t) t.clock.hi (2 * (i + 1))) ∧ f 12 = .int .u8 (Eu t (2 * (i + 1)))) ∧ (∃ e4 e5 e7 e9,f 4 = .ptr 4 e4 3 0 0 ∧ f 5 = .ptr 5 e5 2 0 0 ∧ f 7 = .ptr 7 e7 3 0 0 ∧ f 9 = .ptr 9 e9 2 0 0 ∧ H 4 = some (e4,.arr 3 [Ag B]) ∧ H 5 = some (e5,.arr 2 [[.int .i64 x,.int .i64 y]]) ∧ H 7 = some (e7,.arr 3 [Ag F]) ∧ H 9 = some (e9,.arr 2 [[.int .i64 sx,.int .i64 sy]])) → K f H := by
    clear h1 h3 h4 h5 h6 H4 H5 j1 j2 hsm
    rintro f H ⟨⟨h1,h3,h6,h11,h12⟩,e4,e5,e7,e9,h4,h5,h7,h9,H4,H5,H7,H9⟩
    refine hK f H ?_
    clear hK
    rw [hhel] at h12
    generalize Ck (DD t) t.clock.hi (2 * (i + 1)) = lo at *
    by_cases hi0 : i = 0
    ·subst hi0
     clear hB d1 d2 d3 d4 d5 hB2 hlt hi
     have hi1 : ((1 : Int) < ((0 + 1 : Nat) : Int)) = False := by decide
     by_cases hF3 : F.held = 2
     ·obtain rfl : F = ⟨2,⟨0,0⟩⟩ := by rcases hF2 with q | q | q; omega; omega; exact q
      repeat' (first | with_reducible (first | (refine sk ?_; intro K hK) | apply_assumption -exfalso -symm only [*]) | ((with_reducible first | refine rg (h := ?_) | refine rgS [4,5] (h := ?_) | refine nx ?_); try simp (disch := omega) only [h1,h3,h4,h5,h6,h7,h9,h11,h12,H4,H5,H7,H9,hi1,beq_self_eq_true,Ag,go_sem,simprocAttr]) | ((with_reducible refine' cE ?hv ?_ ?_); (case hv => rfl); all_goals (intro hc; (try simp only [go_sem,simprocAttr] at hc))) | fail)
      exact ⟨3 - (0 + 1),by omega,0 + 1,rfl,by omega,by (and_intros <;> first | rfl | (simp only [h1,h3,hw,go_sem,simprocAttr]; done) | (simp only [h1,h3,hw,go_sem,simprocAttr]; rfl)),e4,e5,_,_,_,by (first | rfl | (simp only [h4,go_sem,simprocAttr]; done) | (simp only [h4,go_sem,simprocAttr]; rfl)),by (first | rfl | (simp only [h5,go_sem,simprocAttr]; done) | (simp only [h5,go_sem,simprocAttr]; rfl)),by (first | rfl | (simp only [go_sem,simprocAttr]; done) | (simp only [go_sem,simprocAttr]; rfl)),by (first | rfl | (simp only [go_sem,simprocAttr]; done) | (simp only [go_sem,simprocAttr]; rfl)),fun _ => ⟨hFF.symm,hsx.symm,hsy.symm⟩⟩
     ·have hlo := q3 fun q => hF3 (q1.2 q)
      clear hF2 q1 q3
      repeat' (first | with_reducible (first | (refine sk ?_; intro K hK) | apply_assumption -exfalso -symm only [*]) | ((with_reducible first | refine rg (h := ?_) | refine rgS [4,5] (h := ?_) | refine nx ?_); try simp (disch := omega) only [h1,h3,h4,h5,h6,h7,h9,h11,h12,H4,H5,H7,H9,hi1,hF3,hlo,beq_self_eq_true,Ag,go_sem,simprocAttr]) | ((with_reducible refine' cE ?hv ?_ ?_); (case hv => rfl); all_goals (intro hc; (try simp only [go_sem,simprocAttr] at hc))) | fail)
      exact ⟨3 - (0 + 1),by omega,0 + 1,rfl,by omega,by (and_intros <;> first | rfl | (simp only [h1,h3,hw,go_sem,simprocAttr]; done) | (simp only [h1,h3,hw,go_sem,simprocAttr]; rfl)),e4,e5,F,_,_,by (first | rfl | (simp only [h4,go_sem,simprocAttr]; done) | (simp only [h4,go_sem,simprocAttr]; rfl)),by (first | rfl | (simp only [h5,go_sem,simprocAttr]; done) | (simp only [h5,go_sem,simprocAttr]; rfl)),by (first | rfl | (simp only [hlo,Ag,go_sem,simprocAttr]; done) | (simp only [hlo,Ag,go_sem,simprocAttr]; rfl)),by (first | rfl | (simp only [go_sem,simprocAttr]; done) | (simp only [go_sem,simprocAttr]; rfl)),fun _ => ⟨hFF.symm,hsx.symm,hsy.symm⟩⟩
    ·obtain ⟨rfl,rfl,rfl⟩ := hB (by omega)
     clear hB
     have hi1 : ((1 : Int) < ((i + 1 : Nat) : Int)) = True := eq_true (by omega)
     generalize Aa t i = B at *
     generalize BB t i = x at *
     generalize IK t i = y at *
     have n4 : ¬ x < sx := by omega
     have n5 : ¬ y < sy := by omega
     clear d4 d5
     by_cases hF3 : F.held = 2
     ·obtain rfl : F = ⟨2,⟨0,0⟩⟩ := by rcases hF2 with q | q | q; omega; omega; exact q
      obtain rfl : B = ⟨2,⟨0,0⟩⟩ := by
       have d1 : (2 : Int) ≤ B.held := d1
       rcases hB2 with q | q | q; omega; omega; exact q
      clear hF2 hB2 d1 d2 d3 q1 q3
      repeat' (first | with_reducible (first | (refine sk ?_; intro K hK) | apply_assumption -exfalso -symm only [*]) | ((with_reducible first | refine rg (h := ?_) | refine rgS [4,5] (h := ?_) | refine nx ?_); try simp (disch := omega) only [h1,h3,h4,h5,h6,h7,h9,h11,h12,H4,H5,H7,H9,hi1,n4,n5,beq_self_eq_true,Ag,go_sem,simprocAttr]) | ((with_reducible refine' cE ?hv ?_ ?_); (case hv => rfl); all_goals (intro hc; (try simp only [go_sem,simprocAttr] at hc))) | fail)
      exact ⟨3 - (i + 1),by omega,i + 1,rfl,by omega,by (and_intros <;> first | rfl | (simp only [h1,h3,hw,go_sem,simprocAttr]; done) | (simp only [h1,h3,hw,go_sem,simprocAttr]; rfl)),e4,e5,_,_,_,by (first | rfl | (simp only [h4,go_sem,simprocAttr]; done) | (simp only [h4,go_sem,simprocAttr]; rfl)),by (first | rfl | (simp only [h5,go_sem,simprocAttr]; done) | (simp only [h5,go_sem,simprocAttr]; rfl)),by (first | rfl | (simp only [Ag,go_sem,simprocAttr]; done) | (simp only [Ag,go_sem,simprocAttr]; rfl)),by (first | rfl | (simp only [go_sem,simprocAttr]; done) | (simp only [go_sem,simprocAttr]; rfl)),fun _ => ⟨hFF.symm,hsx.symm,hsy.symm⟩⟩
     ·have hlo := q3 fun q => hF3 (q1.2 q)
      have n1 : ¬ B.held < F.held := by omega
      clear hF2 q1 q3 d1
      rcases hB2 with q | q | q
      ·rw [q] at n1 d2 d3
       have n2 : ¬ B.at1.lo < F.at1.lo := by have := d2 (by decide); omega
       have n3 : ¬ B.at1.hi < F.at1.hi := by have := d3 rfl; omega
       rw [hlo] at n2
       clear d2 d3
       repeat' (first | with_reducible (first | (refine sk ?_; intro K hK) | apply_assumption -exfalso -symm only [*]) | ((with_reducible first | refine rg (h := ?_) | refine rgS [4,5] (h := ?_) | refine nx ?_); try simp (disch := omega) only [h1,h3,h4,h5,h6,h7,h9,h11,h12,H4,H5,H7,H9,hi1,n4,n5,beq_self_eq_true,Ag,q,n1,n2,n3,hF3,hlo,go_sem,simprocAttr]) | ((with_reducible refine' cE ?hv ?_ ?_); (case hv => rfl); all_goals (intro hc; (try simp only [go_sem,simprocAttr] at hc))) | fail)
       exact ⟨3 - (i + 1),by omega,i + 1,rfl,by omega,by (and_intros <;> first | rfl | (simp only [h1,h3,hw,go_sem,simprocAttr]; done) | (simp only [h1,h3,hw,go_sem,simprocAttr]; rfl)),e4,e5,F,_,_,by (first | rfl | (simp only [h4,go_sem,simprocAttr]; done) | (simp only [h4,go_sem,simprocAttr]; rfl)),by (first | rfl | (simp only [h5,go_sem,simprocAttr]; done) | (simp only [h5,go_sem,simprocAttr]; rfl)),by (first | rfl | (simp only [hlo,Ag,go_sem,simprocAttr]; done) | (simp only [hlo,Ag,go_sem,simprocAttr]; rfl)),by (first | rfl | (simp only [go_sem,simprocAttr]; done) | (simp only [go_sem,simprocAttr]; rfl)),fun _ => ⟨hFF.symm,hsx.symm,hsy.symm⟩⟩
      ·rw [q] at n1 d2
       have n2 : ¬ B.at1.lo < F.at1.lo := by have := d2 (by decide); omega
       rw [hlo] at n2
       clear d2 d3
       repeat' (first | with_reducible (first | (refine sk ?_; intro K hK) | apply_assumption -exfalso -symm only [*]) | ((with_reducible first | refine rg (h := ?_) | refine rgS [4,5] (h := ?_) | refine nx ?_); try simp (disch := omega) only [h1,h3,h4,h5,h6,h7,h9,h11,h12,H4,H5,H7,H9,hi1,n4,n5,beq_self_eq_true,Ag,q,n1,n2,hF3,hlo,go_sem,simprocAttr]) | ((with_reducible refine' cE ?hv ?_ ?_); (case hv => rfl); all_goals (intro hc; (try simp only [go_sem,simprocAttr] at hc))) | fail)
       exact ⟨3 - (i + 1),by omega,i + 1,rfl,by omega,by (and_intros <;> first | rfl | (simp only [h1,h3,hw,go_sem,simprocAttr]; done) | (simp only [h1,h3,hw,go_sem,simprocAttr]; rfl)),e4,e5,F,_,_,by (first | rfl | (simp only [h4,go_sem,simprocAttr]; done) | (simp only [h4,go_sem,simprocAttr]; rfl)),by (first | rfl | (simp only [h5,go_sem,simprocAttr]; done) | (simp only [h5,go_sem,simprocAttr]; rfl)),by (first | rfl | (simp only [hlo,Ag,go_sem,simprocAttr]; done) | (simp only [hlo,Ag,go_sem,simprocAttr]; rfl)),by (first | rfl | (simp only [go_sem,simprocAttr]; done) | (simp only [go_sem,simprocAttr]; rfl)),fun _ => ⟨hFF.symm,hsx.symm,hsy.symm⟩⟩
      ·subst q
       have n1 : ¬ (2 : Int) < F.held := n1
       clear d2 d3
       repeat' (first | with_reducible (first | (refine sk ?_; intro K hK) | apply_assumption -exfalso -symm only [*]) | ((with_reducible first | refine rg (h := ?_) | refine rgS [4,5] (h := ?_) | refine nx ?_); try simp (disch := omega) only [h1,h3,h4,h5,h6,h7,h9,h11,h12,H4,H5,H7,H9,hi1,n4,n5,beq_self_eq_true,Ag,n1,hF3,hlo,go_sem,simprocAttr]) | ((with_reducible refine' cE ?hv ?_ ?_); (case hv => rfl); all_goals (intro hc; (try simp only [go_sem,simprocAttr] at hc))) | fail)
       exact ⟨3 - (i + 1),by omega,i + 1,rfl,by omega,by (and_intros <;> first | rfl | (simp only [h1,h3,hw,go_sem,simprocAttr]; done) | (simp only [h1,h3,hw,go_sem,simprocAttr]; rfl)),e4,e5,F,_,_,by (first | rfl | (simp only [h4,go_sem,simprocAttr]; done) | (simp only [h4,go_sem,simprocAttr]; rfl)),by (first | rfl | (simp only [h5,go_sem,simprocAttr]; done) | (simp only [h5,go_sem,simprocAttr]; rfl)),by (first | rfl | (simp only [hlo,Ag,go_sem,simprocAttr]; done) | (simp only [hlo,Ag,go_sem,simprocAttr]; rfl)),by (first | rfl | (simp only [go_sem,simprocAttr]; done) | (simp only [go_sem,simprocAttr]; rfl)),fun _ => ⟨hFF.symm,hsx.symm,hsy.symm⟩⟩
   clear hK d1 d2 d3 d4 d5 hF2 hB2 q1 q3 hB j1 j2 hsm hhel
   have hcutE : ∃ _ : Unit,_ := ⟨(),hcut⟩
   clear hcut hFF hsx hsy
   repeat' (first | with_reducible (first | (refine sk ?_; intro K hK) | apply_assumption -exfalso -symm only [*]) | ((with_reducible refine rg (h := ?_)); try simp (disch := omega) only [go_sem,simprocAttr]) | fail)
   refine An (AK (fun m f H => ∃ j : Nat,m = 2 * (i + 1) - j ∧ j ≤ 2 * (i + 1) ∧ (f 1 = .pim (A2 t) ∧ f 3 = .bool true ∧ f 6 = .int .u8 ((i + 1 : Nat) : Int) ∧ f 13 = .int .u8 ((j + 1 : Nat) : Int)) ∧ (f 11 = .int .i64 (Ck (DD t) t.clock.hi j) ∧ f 12 = .int .u8 (Eu t j)) ∧ ∃ e4 e5 e7 e9,f 4 = .ptr 4 e4 3 0 0 ∧ f 5 = .ptr 5 e5 2 0 0 ∧ f 7 = .ptr 7 e7 3 0 0 ∧ f 9 = .ptr 9 e9 2 0 0 ∧ H 4 = some (e4,.arr 3 [Ag B]) ∧ H 5 = some (e5,.arr 2 [[.int .i64 x,.int .i64 y]]) ∧ H 7 = some (e7,.arr 3 [Ag F]) ∧ H 9 = some (e9,.arr 2 [[.int .i64 sx,.int .i64 sy]])) (2 * (i + 1))
    ⟨0,rfl,Nat.zero_le _,by (and_intros <;> first | rfl | (simp only [h1,h3,h6,A2,go_sem,simprocAttr]; done) | (simp only [h1,h3,h6,A2,go_sem,simprocAttr]; rfl)),by and_intros <;> rfl,e4,e5,_,_,by (first | rfl | (simp only [h4,go_sem,simprocAttr]; done) | (simp only [h4,go_sem,simprocAttr]; rfl)),by (first | rfl | (simp only [h5,go_sem,simprocAttr]; done) | (simp only [h5,go_sem,simprocAttr]; rfl)),by (first | rfl | (simp only [go_sem,simprocAttr]; done) | (simp only [go_sem,simprocAttr]; rfl)),by (first | rfl | (simp only [go_sem,simprocAttr]; done) | (simp only [go_sem,simprocAttr]; rfl)),by (first | rfl | (simp only [H4,go_sem,simprocAttr]; done) | (simp only [H4,go_sem,simprocAttr]; rfl)),by (first | rfl | (simp only [H5,go_sem,simprocAttr]; done) | (simp only [H5,go_sem,simprocAttr]; rfl)),by (first | rfl | (simp only [Ag,go_sem,simprocAttr]; done) | (simp only [Ag,go_sem,simprocAttr]; rfl)),by (first | rfl | (simp only [go_sem,simprocAttr]; done) | (simp only [go_sem,simprocAttr]; rfl))⟩ ?_)
   clear h1 h3 h4 h5 h6 H4 H5 k7 k9
   rintro m f H ⟨j,rfl,hj,⟨h1,h3,h6,h13⟩,⟨h11,h12⟩,e4,e5,e7,e9,h4,h5,h7,h9,H4,H5,H7,H9⟩
   refine Bn [4,5,7,9] ?_
   change BQ H [4,5,7,9] 4 = _ at H4
   change BQ H [4,5,7,9] 5 = _ at H5
   change BQ H [4,5,7,9] 7 = _ at H7
   change BQ H [4,5,7,9] 9 = _ at H9
   have k14 : BQ H [4,5,7,9] 14 = none := rfl
   generalize BQ H [4,5,7,9] = H3 at *
   by_cases hjl : j < 2 * (i + 1)
   ·clear hcutE
    have j1 := LC t hG.tb ((j + 1 : Nat) : Int) (by omega)
    rw [Tp hc0 (by omega)] at j1
    have hts : Ck (DD t) t.clock.hi (j + 1) = if DD t j = nvr then Ck (DD t) t.clock.hi j else min (Ck (DD t) t.clock.hi j) (DD t j - t.clock.hi) := Lb
    have hhs : Eu t (j + 1) = min (Eu t j) (Ah t j).held := rfl
    have hw1 : IntKind.u8.wrap ((j + 1 + 1 : Nat) : Int) = ((j + 1 + 1 : Nat) : Int) := IntWalk.u8_in _ (by omega)
    have hjc : ((j + 1 : Nat) : Int) ≤ ((2 * (i + 1) : Nat) : Int) := by omega
    obtain ⟨r1,r2⟩ := @QD t j
    have r2 := r2 hF
    generalize Ah t j = z at *
    generalize Ck (DD t) t.clock.hi j = tm at *
    generalize Eu t j = hm at *
    simp only [A3,A2,Ac,Ag] at j1
    by_cases hz : z.held = 2
    ·rw [if_pos (r1 hz)] at hts
     clear r1 r2
     repeat' (first | with_reducible (first | (refine sk ?_; intro K hK) | refine bk ?_ | intro (ep : Nat → Nat) | apply_assumption -exfalso -symm only [*]) | ((first | (with_reducible first | refine rg (h := ?_) | refine nx ?_) | refine pK (j1) ?_); try simp (disch := omega) only [h1,h3,h4,h5,h6,h7,h9,h11,h12,h13,H4,H5,H7,H9,k14,h2k,hw1,hw2,hjc,hz,A2,go_sem,simprocAttr]) | ((with_reducible refine' cE ?hv ?_ ?_); (case hv => rfl); all_goals (intro hc; (try simp only [go_sem,simprocAttr] at hc))) | fail)
     exact ⟨2 * (i + 1) - (j + 1),by omega,j + 1,rfl,by omega,by (and_intros <;> first | rfl | (simp only [h1,h3,h6,hw1,go_sem,simprocAttr]; done) | (simp only [h1,h3,h6,hw1,go_sem,simprocAttr]; rfl)),by rw [hts,hhs]; (and_intros <;> first | rfl | (simp only [h11,hz,go_sem,simprocAttr]; done) | (simp only [h11,hz,go_sem,simprocAttr]; rfl)),e4,e5,e7,e9,by (first | rfl | (simp only [h4,go_sem,simprocAttr]; done) | (simp only [h4,go_sem,simprocAttr]; rfl)),by (first | rfl | (simp only [h5,go_sem,simprocAttr]; done) | (simp only [h5,go_sem,simprocAttr]; rfl)),by (first | rfl | (simp only [h7,go_sem,simprocAttr]; done) | (simp only [h7,go_sem,simprocAttr]; rfl)),by (first | rfl | (simp only [h9,go_sem,simprocAttr]; done) | (simp only [h9,go_sem,simprocAttr]; rfl)),by (first | rfl | (simp only [H4,go_sem,simprocAttr]; done) | (simp only [H4,go_sem,simprocAttr]; rfl)),by (first | rfl | (simp only [H5,go_sem,simprocAttr]; done) | (simp only [H5,go_sem,simprocAttr]; rfl)),by (first | rfl | (simp only [H7,go_sem,simprocAttr]; done) | (simp only [H7,go_sem,simprocAttr]; rfl)),by (first | rfl | (simp only [H9,go_sem,simprocAttr]; done) | (simp only [H9,go_sem,simprocAttr]; rfl))⟩
    ·obtain ⟨r3,r4⟩ := r2 hz
     rw [if_neg r3,← r4] at hts
     clear r1 r2
     repeat' (first | with_reducible (first | (refine sk ?_; intro K hK) | refine bk ?_ | intro (ep : Nat → Nat) | apply_assumption -exfalso -symm only [*]) | ((first | (with_reducible first | refine rg (h := ?_) | refine nx ?_) | refine pK (j1) ?_); try simp (disch := omega) only [h1,h3,h4,h5,h6,h7,h9,h11,h12,h13,H4,H5,H7,H9,k14,h2k,hw1,hw2,hjc,hz,A2,go_sem,simprocAttr]) | ((with_reducible refine' cE ?hv ?_ ?_); (case hv => rfl); all_goals (intro hc; (try simp only [go_sem,simprocAttr] at hc))) | fail)
     exact ⟨2 * (i + 1) - (j + 1),by omega,j + 1,rfl,by omega,by (and_intros <;> first | rfl | (simp only [h1,h3,h6,hw1,go_sem,simprocAttr]; done) | (simp only [h1,h3,h6,hw1,go_sem,simprocAttr]; rfl)),by rw [hts,hhs]; (and_intros <;> first | rfl | (simp only [h11,go_sem,simprocAttr]; done) | (simp only [h11,go_sem,simprocAttr]; rfl)),e4,e5,e7,e9,by (first | rfl | (simp only [h4,go_sem,simprocAttr]; done) | (simp only [h4,go_sem,simprocAttr]; rfl)),by (first | rfl | (simp only [h5,go_sem,simprocAttr]; done) | (simp only [h5,go_sem,simprocAttr]; rfl)),by (first | rfl | (simp only [h7,go_sem,simprocAttr]; done) | (simp only [h7,go_sem,simprocAttr]; rfl)),by (first | rfl | (simp only [h9,go_sem,simprocAttr]; done) | (simp only [h9,go_sem,simprocAttr]; rfl)),by (first | rfl | (simp only [H4,go_sem,simprocAttr]; done) | (simp only [H4,go_sem,simprocAttr]; rfl)),by (first | rfl | (simp only [H5,go_sem,simprocAttr]; done) | (simp only [H5,go_sem,simprocAttr]; rfl)),by (first | rfl | (simp only [H7,go_sem,simprocAttr]; done) | (simp only [H7,go_sem,simprocAttr]; rfl)),by (first | rfl | (simp only [H9,go_sem,simprocAttr]; done) | (simp only [H9,go_sem,simprocAttr]; rfl))⟩
   ·obtain rfl : j = 2 * (i + 1) := by omega
    have hjc : ¬ ((2 * (i + 1) + 1 : Nat) : Int) ≤ ((2 * (i + 1) : Nat) : Int) := by omega
    repeat' (first | with_reducible (first | (refine sk ?_; intro K hK) | apply_assumption -exfalso -symm only [*]) | ((with_reducible first | refine rg (h := ?_) | refine nx ?_); try simp (disch := omega) only [h1,h3,h4,h5,h6,h7,h9,h11,h12,h13,H4,H5,H7,H9,h2k,hw2,hjc,go_sem,simprocAttr]) | ((with_reducible refine' cE ?hv ?_ ?_); (case hv => rfl); all_goals (intro hc; (try simp only [go_sem,simprocAttr] at hc))) | fail)
    obtain ⟨_,hcut⟩ := hcutE
    exact hcut _ _ ⟨⟨by (first | rfl | (simp only [h1,go_sem,simprocAttr]; done) | (simp only [h1,go_sem,simprocAttr]; rfl)),by (first | rfl | (simp only [h3,go_sem,simprocAttr]; done) | (simp only [h3,go_sem,simprocAttr]; rfl)),by (first | rfl | (simp only [h6,go_sem,simprocAttr]; done) | (simp only [h6,go_sem,simprocAttr]; rfl)),by (first | rfl | (simp only [h11,go_sem,simprocAttr]; done) | (simp only [h11,go_sem,simprocAttr]; rfl)),by (first | rfl | (simp only [h12,go_sem,simprocAttr]; done) | (simp only [h12,go_sem,simprocAttr]; rfl))⟩,e4,e5,e7,e9,by (first | rfl | (simp only [h4,go_sem,simprocAttr]; done) | (simp only [h4,go_sem,simprocAttr]; rfl)),by (first | rfl | (simp only [h5,go_sem,simprocAttr]; done) | (simp only [h5,go_sem,simprocAttr]; rfl)),by (first | rfl | (simp only [h7,go_sem,simprocAttr]; done) | (simp only [h7,go_sem,simprocAttr]; rfl)),by (first | rfl | (simp only [h9,go_sem,simprocAttr]; done) | (simp only [h9,go_sem,simprocAttr]; rfl)),H4,H5,H7,H9⟩
  ·obtain rfl : i = 3 := by omega
   repeat' (first | with_reducible (first | (refine sk ?_; intro K hK) | apply_assumption -exfalso -symm only [*]) | ((with_reducible first | refine rg (h := ?_) | refine nx ?_); try simp (disch := omega) only [h1,h3,h4,h5,h6,go_sem,simprocAttr]) | ((with_reducible refine' cE ?hv ?_ ?_); (case hv => rfl); all_goals (intro hc; (try simp only [go_sem,simprocAttr] at hc))) | fail)
   obtain ⟨_,hcut⟩ := hcutE
   exact hcut _ _ (by (first | rfl | (simp only [h3,go_sem,simprocAttr]; done) | (simp only [h3,go_sem,simprocAttr]; rfl)))
 ·simp only [Bool.not_eq_true] at hrd
  rw [hrd] at hr
  refine A8 (fn := Tryz.f8) tabOK (by kernel_rfl) rfl (by kernel_rfl) (by simp [Tryz.f8]) (by simp [noids,noid,noidss,go_sem,A3,A2]) (by first | rfl | simp [noids,noid,noidss,go_sem,A3,A2]) ?_
  intro X hX0 hXs
  repeat' (first | with_reducible (first | (refine sk ?_; intro K hK) | apply_assumption -exfalso -symm only [*]) | ((first | (with_reducible first | refine rg (h := ?_) | refine nx ?_) | refine pK (alive_ok) ?_ | refine pK (hr) ?_); try simp (disch := omega) only [A3,A2,go_sem,simprocAttr]) | ((with_reducible refine' cE ?hv ?_ ?_); (case hv => rfl); all_goals (intro hc; (try simp only [go_sem,simprocAttr] at hc))) | ((with_reducible refine fe ?_); refine ⟨_,(by simp only [Tryz.f8,A3,A2,go_sem,simprocAttr]; rfl),?_⟩; rfl) | fail)
end Cp
namespace Cp
open Go Go.Proofs
set_option maxRecDepth 100000
theorem Lv {W : World} {fuel : Nat} {v : Value} {cs : List Value} {b : UInt8} {r : List UInt8} {q : List MemPlace} {f0 : FuncId} (hl : cs.length = 1) (hv : cs = [v])
  (hone : ((List.range Tryz.prog.funcs.size).filter fun f => (Tryz.prog.funcs[f]?).any (·.name.toUTF8.data.toList == b :: r)) = [f0])
  (h : DataW.trod (funcToken Tryz.prog) Tryz.prog W 0 (fun _ => true) true fuel 165 cs = some (.agg [.held (b :: r)],q)) : v = .func (.func f0) #[] #[] := by
 subst hv
 obtain ⟨xs,m,rfl,e1,_,hxl,hf⟩ := DataW.trod_struct Tryz.underlying165 h
 simp only [Prod.mk.injEq,DataW.agg.injEq] at e1
 have h0 : DataW.trod (funcToken Tryz.prog) Tryz.prog W 0 (fun _ => true) true m 164 (([v].drop 0).take (Tryz.prog.cellsOf 164)) = xs[0]? := hf 0 _ rfl
 have hc1 : Tryz.prog.cellsOf 164 = 1 := by kernel_rfl
 rw [hc1] at h0
 match xs,hxl with
 | [x],_ =>
  obtain ⟨x1,x2⟩ := x
  simp only [List.map_cons,List.map_nil,List.cons.injEq,and_true] at e1
  simp only [List.drop_zero,List.take_succ_cons,List.take_zero,List.getElem?_cons_zero] at h0
  rw [← e1.1] at h0
  exact func_of_trod Tryz.underlying164 hone h0
def showsD : DataW Unit := .agg [.agg [.iface "func" (.lit (.string [99,111,116,116,111,110,112,97,100,47,99,108,97,115,115,46,115,104,111,119,115,36,49]))],.agg [.iface "func" (.lit (.string [99,111,116,116,111,110,112,97,100,47,99,108,97,115,115,46,115,104,111,119,115,36,50]))]]
theorem glb_ok {W : World} (h : laidMetH Tryz.prog [("cottonpad/class.shows",.iface "func table" showsD)] W) : SB W := by
 obtain ⟨g,t,cs,fuel,p,e1,e2,e3,e4⟩ := h.funcs (n := "cottonpad/class.shows") (d := showsD) (List.mem_singleton.2 rfl)
 have hg : Tryz.prog.globalNamed "cottonpad/class.shows" = some 0 := by kernel_rfl
 obtain rfl : 0 = g := Option.some.inj (hg.symm.trans e1)
 have ht : (Tryz.prog.globals[0]?).map (·.type) = some 166 := by kernel_rfl
 obtain rfl : 166 = t := Option.some.inj (ht.symm.trans e2)
 have hcell := fun i => World.var?_cell e1 e3 i
 obtain ⟨xs,m,rfl,x1,hl,hxl,hf⟩ := DataW.trod_array Tryz.underlying166 e4
 have hc1 : Tryz.prog.cellsOf 165 = 1 := by kernel_rfl
 have hc2 : Tryz.prog.cellsOf 166 = 2 := by kernel_rfl
 rw [hc2] at hl
 obtain ⟨cs⟩ := cs
 match cs,hl,xs,hxl with
 | [v0,v1],_,[y0,y1],_ =>
  have h0 := hf 0 (by decide)
  have h1 := hf 1 (by decide)
  simp only [hc1,Nat.zero_mul,Nat.one_mul,List.drop_zero,List.drop_succ_cons,List.take_succ_cons,List.take_zero,List.getElem?_cons_zero,List.getElem?_cons_succ] at h0 h1
  obtain ⟨y0,z0⟩ := y0
  obtain ⟨y1,z1⟩ := y1
  simp only [Prod.mk.injEq,List.map_cons,List.map_nil] at x1
  have hx := x1.1
  have hd : showsD.funcsOut = .agg [.agg [.held [99,111,116,116,111,110,112,97,100,47,99,108,97,115,115,46,115,104,111,119,115,36,49]],.agg [.held [99,111,116,116,111,110,112,97,100,47,99,108,97,115,115,46,115,104,111,119,115,36,50]]] := by kernel_rfl
  rw [hd] at hx
  simp only [DataW.agg.injEq,List.cons.injEq,and_true] at hx
  rw [← hx.1] at h0
  rw [← hx.2] at h1
  have r0 := Lv (f0 := 160) rfl rfl (by kernel_rfl) h0
  have r1 := Lv (f0 := 161) rfl rfl (by kernel_rfl) h1
  subst r0 r1
  have c0 := hcell 0
  have c1 := hcell 1
  intro g cs hge
  unfold GE at hge
  split at hge
  ·rename_i h0; subst h0
   cases hge
   refine .pim _ 0 0 (fun j => if j = 0 then .func (.func 160) #[] #[] else .func (.func 161) #[] #[]) (OW c0) (fun j v hj => ?_) (fun j v hj => ?_) (fun j v hj => ?_)
   ·match j,hj with
    | 0,hj => simpa using c0
    | 1,hj => simpa using c1
    | j + 2,hj => simp at hj
   ·match j,hj with
    | 0,hj => cases hj; rfl
    | 1,hj => cases hj; rfl
    | j + 2,hj => simp at hj
   ·match j,hj with
    | 0,hj => cases hj; exact .fn _ _ _ rfl (fun i v h => by simp at h)
    | 1,hj => cases hj; exact .fn _ _ _ rfl (fun i v h => by simp at h)
    | j + 2,hj => simp at hj
  ·cases hge
end Cp
