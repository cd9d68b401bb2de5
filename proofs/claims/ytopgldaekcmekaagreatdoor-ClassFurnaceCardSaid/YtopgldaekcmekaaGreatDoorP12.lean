/- Rules,facts and contracts that the statement's proof leans on. Conditions: none. -/
import Derived.Test.YtopgldaekcmekaaGreatDoorP11
set_option linter.unusedVariables false
set_option linter.unusedSimpArgs false
set_option linter.unusedSectionVars false
namespace Cp
open Go Go.Proofs
set_option maxRecDepth 10000
def Qf (l : List Brc) : Val := if l = [] then .nils else .lst 4 (l.map cBrc)
theorem Uf (r : RunT) (hF : RunF r) (u : RulesT) (hU : RulesF u) (k i : Nat) (hk : k + 1 ≤ r.rows.length) (hi : i < 4) : ∃ g,chkV[i]? = some [.int .u8 ((i + 1 : Nat) : Int),.fn g []] ∧
  ∀ H0,Et H0 1000 100 → BB Tryz.prog g [.pim (Ae r r.rows.length),A1 u,.int .i64 ((k + 1 : Nat) : Int),.agg (I5 r (k + 1))] H0 (SA H0 (D3 r u k i)) := by
 have hrl := hF.rows
 have hdeg := fun m => PE (l := r.curve) hF.curve (m := m)
 have hcb := Gu hF hdeg (k + 1) hk
 match i,hi with
 | 0,_ => exact ⟨_,rfl,fun H0 _ => Ux r hF u k hk _ _ _ _ H0⟩
 | 1,_ => exact ⟨_,rfl,fun H0 _ => Um u hU _ k _ _ _ _ (by omega) (by omega) (by omega) H0⟩
 | 2,_ => exact ⟨_,rfl,fun H0 hroom => U6 r hF u hU k hk (hdeg _ (by omega) (by omega)) _ _ _ H0 hroom⟩
 | 3,_ => exact ⟨_,rfl,fun H0 _ => Ub r hF u hU k hk _ rfl H0⟩
def LJ (r : RunT) (u : RulesT) (e5 e6 ey : Nat) (L : AObj) (k : Nat) (H : Hp) : Prop :=
 H 5 = some (e5,.arr 1 [[.pim (Ae r r.rows.length)]]) ∧ H 100 = some (ey,L) ∧ Et H 1000 100 ∧ ∃ l : List Brc,l.Perm (Ct r u k) ∧ AllL e6 l H
theorem TU (r : RunT) (hF : RunF r) (u : RulesT) (hU : RulesF u) : PureC Tryz.prog 60 [A7 r,A1 u] (Qf (C9 r u)) := by
 have hrl := hF.rows
 have hcl := hF.cpls
 have hnn : noids (Ae r r.rows.length) = true := noids_still Df
 have hnv : noid (Qf (C9 r u)) = true := by
  unfold Qf; split
  ·rfl
  ·simp only [noid,Le]
 refine Lu (fn := Tryz.f60) tabOK (by kernel_rfl) rfl (by kernel_rfl) (by simp [Tryz.f60]) (by simp [noids,noid,noidss,go_sem,A7,A6,A1,A3]) hnv ?_
 intro X hX0 hXs hXr
 repeat' (first | with_reducible (first | (refine sk ?_; intro K hK) | intro (ep : Nat → Nat) | apply_assumption -exfalso -symm only [*]) | ((first | (with_reducible refine rg (h := ?_)) | refine pK (UO r hF) ?_ | refine pK (Oc (Ae r r.rows.length) hnn) ?_); try simp (disch := omega) only [A7,A6,A1,A3,hnn,go_sem,simprocAttr]) | fail)
 have hXs0 : X.sz = 60 := hXs
 refine Aj ?_
 refine GG 100 (by simp only [go_sem,simprocAttr]; rfl) hXr fun ey => ?_
 generalize hf0 : (upd _ _ _ : Fr) = f0
 generalize hH : (upd (upd (upd none0 _ _) _ _) _ _ : Hp) = HH
 obtain ⟨e5,e6,g3,g5,g6,G5,G6,G0⟩ : ∃ e5 e6,f0 3 = .pim (A3 u) ∧ f0 5 = .ptr 5 e5 1 0 0 ∧ f0 6 = .ptr 6 e6 1 0 0 ∧ HH 5 = some (e5,.arr 1 [[.pim (Ae r r.rows.length)]]) ∧ HH 6 = some (e6,.arr 1 [[.nils]]) ∧ ∀ j,7 ≤ j → HH j = none := by
  refine ⟨_,_,by rw [← hf0]; rfl,by rw [← hf0]; rfl,by rw [← hf0]; rfl,by rw [← hH]; rfl,by rw [← hH]; rfl,fun j hj => ?_⟩
  rw [← hH,A0 _ _ (by omega),A0 _ _ (by omega),A0 _ _ (by omega)]; rfl
 clear hf0 hH hXs
 generalize hL : AObj.loop _ _ _ _ _ _ = L
 refine ⟨fun v H' => LJ r u e5 e6 ey L r.rows.length H',NL r hF _ 100 ey (LJ r u e5 e6 ey L) ?_ ?_ ?_,?_⟩
 ·exact ⟨by rw [A0 _ _ (by decide),G5],A5 _ _ _,fun d hd => by rw [A0 _ _ (by omega)]; exact G0 _ (by omega),[],.refl _,.inl ⟨rfl,by rw [A0 _ _ (by decide),G6]⟩⟩
 ·rintro k H H' ⟨q1,q2,q3,l,q4,q5⟩ h
  exact ⟨by rw [h _ (by omega),q1],by rw [h _ (by omega),q2],fun d hd => by rw [h _ (by omega)]; exact q3 d hd,l,q4,q5.same (h _ (by omega)) (h _ (by omega))⟩
 ·rintro k Hs hk ⟨q1,q2,q3,l,q4,q5⟩
  subst hL
  refine ⟨_,_,_,_,_,q2,rfl,fun t ht => ?_,fun X1 b h10 h1s h1r => ?_⟩
  ·rw [GZ,hXs0]
   have ht' : t = 18 ∨ t = 19 := by simpa using ht
   rcases ht' with rfl | rfl <;> decide
  have hXs : X1.sz = 60 := by rw [h1s,GZ,hXs0]
  show AW _ _ _ _ _ (upd (upd (Cm (frL f0 X.sz)) 18 (.int .i64 ((k + 1 : Nat) : Int))) 19 (.agg (I5 r (k + 1)))) Hs
  have k3 : Cm (frL f0 X.sz) 3 = .pim (A3 u) := by rw [DG,hXs0,if_pos (by decide),g3]
  have k5 : Cm (frL f0 X.sz) 5 = .ptr 5 e5 1 0 0 := by rw [DG,hXs0,if_pos (by decide),g5]
  have k6 : Cm (frL f0 X.sz) 6 = .ptr 6 e6 1 0 0 := by rw [DG,hXs0,if_pos (by decide),g6]
  generalize Cm (frL f0 X.sz) = f1 at k3 k5 k6
  refine Ar 308 fun H1 g8 hs1 => ?_
  have hs1' : ∀ j,¬ j = 308 → H1 j = Hs j := hs1
  repeat' (first | with_reducible (first | (refine sk ?_; intro K hK) | intro (ep : Nat → Nat) | apply_assumption -exfalso -symm only [*]) | ((with_reducible refine rg (md := { base := 300,own := [33,55],imp := [32] }) (h := ?_)); try simp (disch := omega) only [k3,k5,k6,g8,I5,go_sem,simprocAttr]) | fail)
  refine ⟨rfl,_,_,_,_,_,by rw [A0 _ _ (by decide),A0 _ _ (by decide),hs1 _ (by decide),q2],?_⟩
  generalize hHs : (upd (upd (upd H1 _ _) _ _) 100 _ : Hp) = HB
  generalize hfB : (upd _ _ _ : Fr) = fB
  obtain ⟨e8,b8,b7,b3,b5,b6,B8,B5,B100,Broom,BA,Bsame⟩ : ∃ e8,fB 8 = .ptr 308 e8 4 0 0 ∧ fB 7 = .int .i64 ((k + 1 : Nat) : Int) ∧ fB 3 = .pim (A3 u) ∧ fB 5 = .ptr 5 e5 1 0 0 ∧ fB 6 = .ptr 6 e6 1 0 0 ∧ HB 308 = some (e8,.arr 4 [I5 r (k + 1)]) ∧ HB 5 = some (e5,.arr 1 [[.pim (Ae r r.rows.length)]]) ∧ HB 100 = _ ∧ Et HB 1000 100 ∧ AllL e6 l HB ∧ (∀ j,200 ≤ j → j < 300 → HB j = Hs j) := by
   refine ⟨_,by rw [← hfB]; rfl,by rw [← hfB]; rfl,by rw [← hfB]; simp only [k3,go_sem,simprocAttr],by rw [← hfB]; simp only [k5,go_sem,simprocAttr],by rw [← hfB]; simp only [k6,go_sem,simprocAttr],by rw [← hHs]; rfl,?_,by rw [← hHs,A5],fun d hd => ?_,q5.same ?_ ?_,fun j h1 h2 => ?_⟩
   ·rw [← hHs,A0 _ _ (by decide),A0 _ _ (by decide),A0 _ _ (by decide),hs1 _ (by decide),q1]
   ·rw [← hHs,A0 _ _ (by omega),A0 _ _ (by omega),A0 _ _ (by omega),hs1 _ (by omega)]; exact q3 d hd
   ·rw [← hHs,A0 _ _ (by decide),A0 _ _ (by decide),A0 _ _ (by decide),hs1 _ (by decide)]
   ·rw [← hHs,A0 _ _ (by decide),A0 _ _ (by decide),A0 _ _ (by decide),hs1 _ (by decide)]
   ·rw [← hHs,A0 _ _ (by omega),A0 _ _ (by omega),A0 _ _ (by omega),hs1 _ (by omega)]
  generalize hLB : (some (ey,AObj.loop _ _ _ _ _ _) : Option (Nat × AObj)) = LB at B100
  clear hHs hfB q1 q3 q5 hs1 hs1' g8 k3 k5 k6
  repeat' (first | with_reducible (first | (refine sk ?_; intro K hK) | refine bk ?_ | apply_assumption -exfalso -symm only [*]) | ((first | (with_reducible refine rg (md := { base := 300,own := [33,55],imp := [32] }) (h := ?_)) | refine pK (checks_ok) ?_); try simp (disch := omega) only [b3,b5,b6,b7,b8,I5,go_sem,simprocAttr]) | fail)
  refine An tabOK 4 (fun i f H => (f 3 = .pim (A3 u) ∧ f 5 = .ptr 5 e5 1 0 0 ∧ f 6 = .ptr 6 e6 1 0 0 ∧ f 7 = .int .i64 ((k + 1 : Nat) : Int) ∧ f 8 = .ptr 308 e8 4 0 0 ∧ f 20 = .lst 2 chkV) ∧ H 308 = some (e8,.arr 4 [I5 r (k + 1)]) ∧ H 5 = some (e5,.arr 1 [[.pim (Ae r r.rows.length)]]) ∧ H 100 = LB ∧ Et H 1000 100 ∧ (∀ j,200 ≤ j → j < 300 → H j = Hs j) ∧
    ∃ l,l.Perm (Ct r u k ++ FT r u k i) ∧ AllL e6 l H)
   (by omega) (by rw [hXs]; decide) (by decide) (by (first | rfl | (simp only [go_sem,simprocAttr]; done) | (simp only [go_sem,simprocAttr]; rfl))) (by (first | rfl | (simp only [chkV,go_sem,simprocAttr]; done) | (simp only [chkV,go_sem,simprocAttr]; rfl))) ⟨by (and_intros <;> first | rfl | (simp only [b3,b5,b6,b7,b8,chkV,go_sem,simprocAttr]; done) | (simp only [b3,b5,b6,b7,b8,chkV,go_sem,simprocAttr]; rfl)),B8,B5,B100,Broom,Bsame,l,by simpa [FT] using q4,BA⟩ ?_ ?_
  ·rintro i f H hi h22 h21 ⟨⟨h3,h5,h6,h7,h8,h20⟩,H8,H5,H100,Hroom,Hsame,l,hl,hA⟩
   obtain ⟨g,hcv,hcall⟩ := Uf r hF u hU k i (by omega) hi
   refine Ar 310 fun H1 g10 hs1 => ?_
   refine Ar 333 fun H2 g33 hs2 => ?_
   have hs : ∀ j,¬ j = 310 → ¬ j = 333 → H2 j = H j := fun j h1 h2 => by rw [hs2 _ h2,hs1 _ h1]
   have g10' : H2 310 = none := by rw [hs2 _ (by decide),g10]
   have H8' := (hs 308 (by decide) (by decide)).trans H8
   have H5' := (hs 5 (by decide) (by decide)).trans H5
   have Hroom' : Et H2 1000 100 := fun d hd => by rw [hs _ (by omega) (by omega)]; exact Hroom d hd
   simp only [I5] at H8'
   simp only [I5,A1,A3] at hcall
   repeat' (first | with_reducible (first | (refine sk ?_; intro K hK) | intro (ep : Nat → Nat) | apply_assumption -exfalso -symm only [*]) | ((with_reducible refine rg (md := { base := 300,own := [33,55],imp := [32] }) (h := ?_)); try simp (disch := omega) only [h3,h5,h6,h7,h8,h20,h21,h22,H8',H5',g10',hcv,A3,go_sem,simprocAttr]) | fail)
   refine Kx (hcall _ fun d hd => by rw [A0 _ _ (by omega),A0 _ _ (by omega)]; exact Hroom' d hd) ?_
   rintro v H3 ⟨hlow,es,hperm,hres⟩
   have hlow' : ∀ j,j < 400 → ¬ j = 310 → ¬ j = 333 → H3 j = H j := fun j h1 h2 h3 => by rw [hlow _ h1,A0 _ _ h2,A0 _ _ h2,hs _ h2 h3]
   have g33' : H3 333 = none := by rw [hlow _ (by decide),A0 _ _ (by decide),A0 _ _ (by decide),g33]
   have w10 := (hlow 310 (by decide)).trans (A5 _ _ _)
   have hkn : V5 es := fun p hp => Ug p (hperm.mem_iff.1 hp)
   have hel : es.length ≤ 8 := by rw [hperm.length_eq]; exact Rk hF
   have hb1 := FK (u := u) hF k
   have hb2 := RS (u := u) (k := k) hF (i := i) (by omega)
   have hll := hl.length_eq
   rw [List.length_append] at hll
   have hll0 : l.length ≤ 1000 := by omega
   have hB2 : ∀ l' : List Brc,l'.Perm (Ct r u k ++ FT r u k i ++ toB ((k + 1 : Nat) : Int) ((i + 1 : Nat) : Int) es) → l'.Perm (Ct r u k ++ FT r u k (i + 1)) := fun l' h => by
    refine h.trans ?_
    rw [List.append_assoc]
    exact .append_left _ (.append_left _ (My hperm))
   have c8 := (hlow' 308 (by decide) (by decide) (by decide)).trans H8
   have c5 := (hlow' 5 (by decide) (by decide) (by decide)).trans H5
   have c100 := (hlow' 100 (by decide) (by decide) (by decide)).trans H100
   have cA := hA.same (hlow' 6 (by decide) (by decide) (by decide)) (hlow' 355 (by decide) (by decide) (by decide))
   have csame : ∀ j,200 ≤ j → j < 300 → H3 j = Hs j := fun j h1 h2 => by rw [hlow' j (by omega) (by omega) (by omega)]; exact Hsame j h1 h2
   clear hs hs1 hs2 g10 g10' g33 H8' H5' Hroom' hlow hlow' hcall H8 H5 H100 hA Hsame Hroom
   rcases hres with ⟨rfl,rfl⟩ | ⟨km,em,ver,hkm1,hkm2,rfl,hmap⟩
   ·simp only [g33',go_sem,simprocAttr]
    repeat' (first | with_reducible (first | intro (ep : Nat → Nat) | apply_assumption -exfalso -symm only [*]) | fail)
    refine RM 400 fun H4 hlt4 hge4 => ?_
    generalize hfC : (upd _ _ _ : Fr) = fC
    obtain ⟨e33,t33,t3,t5,t6,t7,t8,t20,t21,t22,T33⟩ : ∃ e33,fC 33 = .itr 333 e33 ∧ fC 3 = .pim (A3 u) ∧ fC 5 = .ptr 5 e5 1 0 0 ∧ fC 6 = .ptr 6 e6 1 0 0 ∧ fC 7 = .int .i64 ((k + 1 : Nat) : Int) ∧ fC 8 = .ptr 308 e8 4 0 0 ∧ fC 20 = .lst 2 chkV ∧ fC 21 = .int .i64 (4 : Nat) ∧ fC 22 = .int .i64 i ∧ H4 333 = some (e33,.nit) :=
     ⟨_,by rw [← hfC]; rfl,by rw [← hfC]; simp only [h3,go_sem,simprocAttr],by rw [← hfC]; simp only [h5,go_sem,simprocAttr],by rw [← hfC]; simp only [h6,go_sem,simprocAttr],by rw [← hfC]; simp only [h7,go_sem,simprocAttr],by rw [← hfC]; simp only [h8,go_sem,simprocAttr],by rw [← hfC]; simp only [h20,go_sem,simprocAttr],by rw [← hfC]; simp only [h21,go_sem,simprocAttr],by rw [← hfC]; simp only [h22,go_sem,simprocAttr],by rw [hlt4 _ (by decide),A5]⟩
    have d8 := (hlt4 308 (by decide)).trans ((A0 _ _ (by decide)).trans c8)
    have d5 := (hlt4 5 (by decide)).trans ((A0 _ _ (by decide)).trans c5)
    have d100 := (hlt4 100 (by decide)).trans ((A0 _ _ (by decide)).trans c100)
    have dA := cA.same ((hlt4 6 (by decide)).trans (A0 _ _ (by decide))) ((hlt4 355 (by decide)).trans (A0 _ _ (by decide)))
    have dsame : ∀ j,200 ≤ j → j < 300 → H4 j = Hs j := fun j h1 h2 => by rw [hlt4 j (by omega),A0 _ _ (by omega)]; exact csame j h1 h2
    clear hfC hlt4
    refine Aj (AJ (fun n f1 H1 => n = 0 ∧ f1 = fC ∧ H1 = H4) 0 ⟨rfl,rfl,rfl⟩ ?_)
    rintro n f1 H1' ⟨rfl,rfl,rfl⟩
    repeat' (first | with_reducible (first | (refine sk ?_; intro K hK) | apply_assumption -exfalso -symm only [*]) | ((with_reducible first | refine E2 (id := 10) tabOK { base := 300,own := [33,55],imp := [32] } [] [] (by rw [hXs]; decide +kernel) ?_ | refine nx ?_); try simp (disch := omega) only [t33,T33,go_sem,simprocAttr]) | ((with_reducible refine' cE ?hv ?_ ?_); (case hv => rfl); all_goals (intro hc; (try simp only [go_sem,simprocAttr] at hc))) | fail)
    exact ⟨t22,t21,⟨t3,t5,t6,t7,t8,t20⟩,d8,d5,d100,fun d hd => hge4 _ (by omega),dsame,l,hB2 l (by simpa [toB] using hl),dA⟩
   ·have n333 : ¬ km = 333 := by omega
    simp only [g33',hmap,n333,go_sem,simprocAttr]
    repeat' (first | with_reducible (first | intro (ep : Nat → Nat) | apply_assumption -exfalso -symm only [*]) | fail)
    refine RM 500 fun H4 hlt4 hge4 => ?_
    generalize hfC : (upd _ _ _ : Fr) = fC
    obtain ⟨e33,e10,t33,t10,t3,t5,t6,t7,t8,t20,t21,t22,T33,d10⟩ : ∃ e33 e10,fC 33 = .itr 333 e33 ∧ fC 10 = .ptr 310 e10 2 0 0 ∧ fC 3 = .pim (A3 u) ∧ fC 5 = .ptr 5 e5 1 0 0 ∧ fC 6 = .ptr 6 e6 1 0 0 ∧ fC 7 = .int .i64 ((k + 1 : Nat) : Int) ∧ fC 8 = .ptr 308 e8 4 0 0 ∧ fC 20 = .lst 2 chkV ∧ fC 21 = .int .i64 (4 : Nat) ∧ fC 22 = .int .i64 i ∧ H4 333 = some (e33,.itr km em ver (List.range es.length) none) ∧ H4 310 = some (e10,.arr 2 [[.int .u8 ((i + 1 : Nat) : Int),.fn g []]]) :=
     ⟨_,_,by rw [← hfC]; rfl,by rw [← hfC]; rfl,by rw [← hfC]; simp only [h3,go_sem,simprocAttr],by rw [← hfC]; simp only [h5,go_sem,simprocAttr],by rw [← hfC]; simp only [h6,go_sem,simprocAttr],by rw [← hfC]; simp only [h7,go_sem,simprocAttr],by rw [← hfC]; simp only [h8,go_sem,simprocAttr],by rw [← hfC]; simp only [h20,go_sem,simprocAttr],by rw [← hfC]; simp only [h21,go_sem,simprocAttr],by rw [← hfC]; simp only [h22,go_sem,simprocAttr],by rw [hlt4 _ (by decide),A5],by rw [hlt4 _ (by decide),A0 _ _ (by decide),w10]⟩
    have d8 := (hlt4 308 (by decide)).trans ((A0 _ _ (by decide)).trans c8)
    have d5 := (hlt4 5 (by decide)).trans ((A0 _ _ (by decide)).trans c5)
    have d100 := (hlt4 100 (by decide)).trans ((A0 _ _ (by decide)).trans c100)
    have dmap := (hlt4 km (by omega)).trans ((A0 _ _ n333).trans hmap)
    have dA := cA.same ((hlt4 6 (by decide)).trans (A0 _ _ (by decide))) ((hlt4 355 (by decide)).trans (A0 _ _ (by decide)))
    have dsame : ∀ j,200 ≤ j → j < 300 → H4 j = Hs j := fun j h1 h2 => by rw [hlt4 j (by omega),A0 _ _ (by omega)]; exact csame j h1 h2
    have droom : Et H4 1000 100 := fun d hd => hge4 _ (by omega)
    clear hfC hlt4 hge4 c8 c5 c100 cA csame w10 g33' hmap h3 h5 h6 h7 h8 h20 h21 h22
    have n6 : ¬ km = 6 := by omega
    have n313 : ¬ km = 313 := by omega
    have n355 : ¬ km = 355 := by omega
    refine Aj (AJ (fun n f H => ∃ left : List Nat,n = left.length ∧ (∀ p ∈ left,p < es.length) ∧ (f 10 = .ptr 310 e10 2 0 0 ∧ f 3 = .pim (A3 u) ∧ f 5 = .ptr 5 e5 1 0 0 ∧ f 6 = .ptr 6 e6 1 0 0 ∧ f 7 = .int .i64 ((k + 1 : Nat) : Int) ∧ f 8 = .ptr 308 e8 4 0 0 ∧ f 20 = .lst 2 chkV ∧ f 21 = .int .i64 (4 : Nat) ∧ f 22 = .int .i64 i) ∧
      H 310 = some (e10,.arr 2 [[.int .u8 ((i + 1 : Nat) : Int),.fn g []]]) ∧ H 308 = some (e8,.arr 4 [I5 r (k + 1)]) ∧ H 5 = some (e5,.arr 1 [[.pim (Ae r r.rows.length)]]) ∧ H 100 = LB ∧ H km = some (em,.map ver (CF .i64 es)) ∧ Et H 1000 100 ∧ (∀ j,200 ≤ j → j < 300 → H j = Hs j) ∧
      ∃ l cur,(l ++ toB ((k + 1 : Nat) : Int) ((i + 1 : Nat) : Int) (lfE es left)).Perm (Ct r u k ++ FT r u k i ++ toB ((k + 1 : Nat) : Int) ((i + 1 : Nat) : Int) es) ∧ AllL e6 l H ∧ f 33 = .itr 333 e33 ∧ H 333 = some (e33,.itr km em ver left cur)) es.length
     ⟨List.range es.length,by simp,by simp,⟨t10,t3,t5,t6,t7,t8,t20,t21,t22⟩,d10,d8,d5,d100,dmap,droom,dsame,l,none,by rw [Tk]; exact hl.append_right _,dA,t33,T33⟩ ?_)
    clear t10 t3 t5 t6 t7 t8 t20 t21 t22 d10 d8 d5 d100 dmap droom dsame dA t33 T33 hl
    rintro n f H ⟨left,rfl,hmem,⟨t10,t3,t5,t6,t7,t8,t20,t21,t22⟩,d10,d8,d5,d100,dmap,droom,dsame,l,cur,hl,hA,t33,T33⟩
    repeat' (first | with_reducible (refine sk ?_; intro K hK) | ((with_reducible refine E2 (id := 10) tabOK { base := 300,own := [33,55],imp := [32] } [] [] (by rw [hXs]; decide +kernel) ?_); try simp (disch := omega) only [t33,T33,dmap,go_sem,simprocAttr]) | fail)
    refine ⟨fun hlz => ?_,fun p hp a v hav => ?_⟩
    ·subst hlz
     repeat' (first | with_reducible (first | (refine sk ?_; intro K hK) | apply_assumption -exfalso -symm only [*]) | ((with_reducible refine nx ?_); try simp (disch := omega) only [t33,T33,dmap,go_sem,simprocAttr]) | ((with_reducible refine' cE ?hv ?_ ?_); (case hv => rfl); all_goals (intro hc; (try simp only [go_sem,simprocAttr] at hc))) | fail)
     exact ⟨t22,t21,⟨t3,t5,t6,t7,t8,t20⟩,d8,d5,d100,droom,dsame,l,hB2 l (by simpa [lfE,toB] using hl),hA⟩
    ·obtain ⟨cp,hcp⟩ : ∃ x,es[p]? = some x := ⟨_,List.getElem?_eq_getElem (hmem p hp)⟩
     obtain ⟨kv,hkv,hk0,hk255⟩ := hkn cp (List.mem_of_getElem? hcp)
     obtain ⟨c,v2⟩ := cp
     simp only at hkv
     subst hkv
     have htk := S9 (m := ((k + 1 : Nat) : Int)) (q := ((i + 1 : Nat) : Int)) hp hcp hl
     have hle := List.length_erase_of_mem hp
     have hpos := List.length_pos_of_mem hp
     rw [hcp] at hav
     simp only [Option.map_some,Option.some.injEq,Prod.mk.injEq] at hav
     obtain ⟨rfl,rfl⟩ := hav
     have hl0 := hl
     refine hK _ _ ?_
     refine Ar 313 fun H5 g13 hs5 => ?_
     have x333 := (hs5 333 (by decide)).trans (A5 _ _ _)
     have x310 := (hs5 310 (by decide)).trans ((A0 _ _ (by decide)).trans d10)
     have x308 := (hs5 308 (by decide)).trans ((A0 _ _ (by decide)).trans d8)
     have x5 := (hs5 5 (by decide)).trans ((A0 _ _ (by decide)).trans d5)
     have x100 := (hs5 100 (by decide)).trans ((A0 _ _ (by decide)).trans d100)
     have xmap := (hs5 km n313).trans ((A0 _ _ n333).trans dmap)
     have xroom : Et H5 1000 100 := fun d hd => by rw [hs5 _ (by omega),A0 _ _ (by omega)]; exact droom d hd
     have xsame : ∀ j,200 ≤ j → j < 300 → H5 j = Hs j := fun j h1 h2 => by rw [hs5 _ (by omega),A0 _ _ (by omega)]; exact dsame j h1 h2
     have xA := hA.same ((hs5 6 (by decide)).trans (A0 _ _ (by decide))) ((hs5 355 (by decide)).trans (A0 _ _ (by decide)))
     clear hs5 d10 d8 d5 d100 dmap droom dsame hA T33 hl
     have hlb : l.length + 1 ≤ 1073741824 := by
      have := hl0.length_eq
      simp only [List.length_append] at this
      have h3 : (toB ((k + 1 : Nat) : Int) ((i + 1 : Nat) : Int) es).length ≤ 8 := Nat.le_trans (Pa _) hel
      omega
     rcases xA with ⟨rfl,x6⟩ | ⟨hlne,ea,x6,x355⟩
     ·repeat' (first | with_reducible (first | (refine sk ?_; intro K hK) | refine bk ?_ | apply_assumption -exfalso -symm only [*]) | ((with_reducible first | refine E2 (id := 11) tabOK { base := 300,own := [33,55],imp := [32] } [] [] (by rw [hXs]; decide +kernel) ?_ | refine nx ?_); try simp (disch := omega) only [t33,t10,t7,t6,x333,x310,xmap,x6,hcp,g13,go_sem,simprocAttr]) | ((with_reducible refine' cE ?hv ?_ ?_); (case hv => rfl); all_goals (intro hc; (try simp only [go_sem,simprocAttr] at hc))) | fail)
      refine ⟨_,_,rfl,?_⟩
      repeat' (first | with_reducible (first | (refine sk ?_; intro K hK) | intro (ep : Nat → Nat) | apply_assumption -exfalso -symm only [*]) | ((with_reducible first | refine rg (md := { base := 300,own := [33,55],imp := [32] }) (h := ?_) | refine nx ?_); try simp (disch := omega) only [t33,t10,t7,t6,x333,x310,xmap,x6,hcp,g13,n6,n313,n355,kn,go_sem,simprocAttr]) | ((with_reducible refine' cE ?hv ?_ ?_); (case hv => rfl); all_goals (intro hc; (try simp only [go_sem,simprocAttr] at hc))) | fail)
      ·exact ⟨(left.erase p).length,by omega,left.erase p,rfl,fun q hq => hmem q (List.mem_of_mem_erase hq),⟨t3,t5,t8,t20,t21,t22⟩,x308,x5,x100,fun d hd => by rw [A0 _ _ (by omega),A0 _ _ (by omega),A0 _ _ (by omega),A0 _ _ (by omega)]; exact xroom d hd,fun j h1 h2 => by rw [if_neg (by omega),if_neg (by omega),if_neg (by omega),if_neg (by omega)]; exact xsame j h1 h2,[⟨((k + 1 : Nat) : Int),((i + 1 : Nat) : Int),c,kv⟩],some p,by have h := htk; rw [EV,if_neg (by simpa using hc)] at h; exact h,.inr ⟨by simp,_,rfl,rfl⟩,rfl⟩
      ·exact ⟨(left.erase p).length,by omega,left.erase p,rfl,fun q hq => hmem q (List.mem_of_mem_erase hq),⟨t3,t5,t8,t20,t21,t22⟩,x308,x5,x100,fun d hd => by rw [A0 _ _ (by omega),A0 _ _ (by omega)]; exact xroom d hd,fun j h1 h2 => by rw [if_neg (by omega),if_neg (by omega)]; exact xsame j h1 h2,[],some p,by have h := htk; rw [EV,if_pos (by simpa using hc),List.append_nil] at h; exact h,.inl ⟨rfl,by rw [A0 _ _ (by decide),A0 _ _ (by decide)]; exact x6⟩,rfl⟩
     ·repeat' (first | with_reducible (first | (refine sk ?_; intro K hK) | refine bk ?_ | apply_assumption -exfalso -symm only [*]) | ((with_reducible first | refine E2 (id := 11) tabOK { base := 300,own := [33,55],imp := [32] } [] [] (by rw [hXs]; decide +kernel) ?_ | refine nx ?_); try simp (disch := omega) only [t33,t10,t7,t6,x333,x310,xmap,x6,x355,hcp,g13,go_sem,simprocAttr]) | ((with_reducible refine' cE ?hv ?_ ?_); (case hv => rfl); all_goals (intro hc; (try simp only [go_sem,simprocAttr] at hc))) | fail)
      refine ⟨_,_,rfl,?_⟩
      repeat' (first | with_reducible (first | (refine sk ?_; intro K hK) | intro (ep : Nat → Nat) | apply_assumption -exfalso -symm only [*]) | ((with_reducible first | refine rg (md := { base := 300,own := [33,55],imp := [32] }) (h := ?_) | refine nx ?_); try simp (disch := omega) only [t33,t10,t7,t6,x333,x310,xmap,x6,x355,hcp,g13,hlb,n6,n313,n355,kn,go_sem,simprocAttr]) | ((with_reducible refine' cE ?hv ?_ ?_); (case hv => rfl); all_goals (intro hc; (try simp only [go_sem,simprocAttr] at hc))) | fail)
      ·exact ⟨(left.erase p).length,by omega,left.erase p,rfl,fun q hq => hmem q (List.mem_of_mem_erase hq),⟨t3,t5,t8,t20,t21,t22⟩,x308,x5,x100,fun d hd => by rw [A0 _ _ (by omega),A0 _ _ (by omega),A0 _ _ (by omega),A0 _ _ (by omega)]; exact xroom d hd,fun j h1 h2 => by rw [if_neg (by omega),if_neg (by omega),if_neg (by omega),if_neg (by omega)]; exact xsame j h1 h2,l ++ [⟨((k + 1 : Nat) : Int),((i + 1 : Nat) : Int),c,kv⟩],some p,by have h := htk; rw [EV,if_neg (by simpa using hc)] at h; exact h,.inr ⟨by simp,_,by rw [List.length_append]; rfl,by rw [List.map_append]; rfl⟩,rfl⟩
      ·exact ⟨(left.erase p).length,by omega,left.erase p,rfl,fun q hq => hmem q (List.mem_of_mem_erase hq),⟨t3,t5,t8,t20,t21,t22⟩,x308,x5,x100,fun d hd => by rw [A0 _ _ (by omega),A0 _ _ (by omega)]; exact xroom d hd,fun j h1 h2 => by rw [if_neg (by omega),if_neg (by omega)]; exact xsame j h1 h2,l,some p,by have h := htk; rw [EV,if_pos (by simpa using hc),List.append_nil] at h; exact h,.inr ⟨hlne,_,by rw [A0 _ _ (by decide),A0 _ _ (by decide)]; exact x6,by rw [A0 _ _ (by decide),A0 _ _ (by decide)]; exact x355⟩,rfl⟩
  ·rintro f H h22 h21 ⟨⟨h3,h5,h6,h7,h8,h20⟩,H8,H5,H100,Hroom,Hsame,l,hl,hA⟩
   refine ⟨_,_,_,_,_,_,by rw [H100,← hLB],?_⟩
   refine ⟨rfl,⟨by rw [A0 _ _ (by decide),H5],A5 _ _ _,fun d hd => by rw [A0 _ _ (by omega)]; exact Hroom d hd,l,?_,hA.same (A0 _ _ (by decide)) (A0 _ _ (by decide))⟩,fun j h1 h2 => by rw [A0 _ _ (by omega)]; exact Hsame j h1 h2⟩
   rw [MW] at hl
   exact hl
 ·rintro v H' ⟨p5,p100,proom,l,hl,hA⟩
  subst hL
  refine ⟨_,_,_,_,_,_,p100,by simp,?_⟩
  have hXs : X.sz = 60 := hXs0
  have hA' : AllL e6 l (upd H' 100 none) := hA.same (A0 _ _ (by decide)) (A0 _ _ (by decide))
  generalize upd H' 100 none = H2 at hA'
  clear hA p5 p100 proom
  have hkd : ∀ b ∈ l,0 ≤ b.kind ∧ b.kind ≤ 255 := fun b hb => Om (hl.mem_iff.1 hb)
  rcases hA' with ⟨rfl,x6⟩ | ⟨hlne,ea,x6,x355⟩
  ·have hS : C9 r u = [] := hl.symm.eq_nil
   rw [hS]
   repeat' (first | with_reducible (first | (refine sk ?_; intro K hK) | apply_assumption -exfalso -symm only [*]) | ((with_reducible refine rg (md := { base := 0,own := [],imp := [58] }) (h := ?_)); try simp (disch := omega) only [g6,x6,go_sem,simprocAttr]) | refine iK (TJ _ _) ?_ | fail)
   rintro v H3 rfl
   simp only [go_sem,simprocAttr]
   repeat' (first | with_reducible (first | (refine sk ?_; intro K hK) | apply_assumption -exfalso -symm only [*]) | ((with_reducible first | refine rg (md := { base := 0,own := [],imp := [58] }) (h := ?_) | refine nx ?_); try simp (disch := omega) only [g6,x6,go_sem,simprocAttr]) | ((with_reducible refine fe ?_); refine ⟨_,(by simp only [Tryz.f60,g6,x6,go_sem,simprocAttr]; rfl),?_⟩; (try simp only [g6,x6,go_sem,simprocAttr,seval])) | fail)
   rw [Qf,if_pos hS]
  ·have hlen := hl.length_eq
   have hb := FK (u := u) hF r.rows.length
   repeat' (first | with_reducible (first | (refine sk ?_; intro K hK) | apply_assumption -exfalso -symm only [*]) | ((with_reducible refine rg (md := { base := 0,own := [],imp := [58] }) (h := ?_)); try simp (disch := omega) only [g6,x6,go_sem,simprocAttr]) | refine iK (Xp _ 355 ea l.length l hkd x355 rfl (by omega)) ?_ | fail)
   rintro v H3 ⟨l',hp,hs,rfl⟩
   have hS : l' = C9 r u := sorted_uniq _ _ (hp.trans hl) (EZ hF) hs
   have hne : C9 r u ≠ [] := fun e => by
    rw [← hS] at e; subst e; exact hlne hp.symm.eq_nil
   have hll : l.length = (C9 r u).length := by rw [← hS]; exact hp.length_eq.symm
   rw [hll] at x6
   subst hS
   simp only [go_sem,simprocAttr]
   repeat' (first | with_reducible (first | (refine sk ?_; intro K hK) | apply_assumption -exfalso -symm only [*]) | ((with_reducible first | refine rg (md := { base := 0,own := [],imp := [58] }) (h := ?_) | refine nx ?_); try simp (disch := omega) only [g6,x6,x355,go_sem,simprocAttr]) | fail)
   refine M1 355 (Or.inl rfl) (by simp only [go_sem,simprocAttr]; rfl) ⟨_,(by simp only [Tryz.f60,go_sem,simprocAttr]; rfl),?_⟩
   rw [Qf,if_neg hne]
   simp only [go_sem,simprocAttr]
end Cp
namespace Cp
open Go Go.Proofs
set_option maxRecDepth 10000
set_option maxHeartbeats 4000000
end Cp
namespace Cp
open Go Go.Proofs
set_option maxRecDepth 10000
set_option maxHeartbeats 4000000
theorem RC {r : RunT} {u : RulesT} (h : Az r u = 0) : CB r = true ∧ Bn u = true := by
 unfold Az at h
 split at h
 ·split at h
  ·rename_i h1 h2; exact ⟨h1,h2⟩
  ·omega
 ·omega
theorem Kg (r : RunT) (hF : RunF r) (u : RulesT) (hU : RulesF u) : PureC Tryz.prog 60 [A7 r,A1 u] (.lst 4 ((C9 r u).map cBrc)) := by
 refine (TU r hF u hU).weak (by simp only [noid,Le]) fun G w x h => ?_
 unfold Qf at h
 split at h
 ·rename_i he; rw [he]; exact h.nils_lst _
 ·exact h
def JL (r : RunT) (u : RulesT) : Val := if Az r u = 0 then .tup [.int .i64 (EG (C9 r u) r.rows.length),.int .i64 0] else .tup [.int .i64 0,.int .i64 (Az r u)]
theorem Xd {r : RunT} {u : RulesT} {b : Brc} (h : b ∈ C9 r u) : 1 ≤ b.m ∧ b.m ≤ r.rows.length := by
 obtain ⟨j,h1,h2,h3⟩ := Ei h
 obtain ⟨h4,_⟩ := FB h3
 omega
theorem Qp (r : RunT) (u : RulesT) (hb : RunB r) (hu : RulesB u) : PureC Tryz.prog 34 [A7 r,A1 u] (JL r u) := by
 by_cases hc0 : Az r u = 0
 ·obtain ⟨h1,h2⟩ := RC hc0
  have hF := CS h1
  have hrl := hF.rows
  rw [JL,if_pos hc0]
  cases hl : C9 r u with
  | nil =>
   have hlk := Kg r hF u (Fe h2)
   rw [hl] at hlk
   refine A8 (fn := Tryz.f34) tabOK (by kernel_rfl) rfl (by kernel_rfl) (by simp [Tryz.f34]) (by simp [noids,noid,noidss,go_sem,A7,A6,A1,A3]) (by first | rfl | simp [noids,noid,noidss,go_sem,A7,A6,A1,A3]) ?_
   intro X hX0 hXs
   repeat' (first | with_reducible (first | (refine sk ?_; intro K hK) | apply_assumption -exfalso -symm only [*]) | ((first | (with_reducible first | refine rg (h := ?_) | refine nx ?_) | refine pK (BL r u hb hu) ?_ | refine pK (hlk) ?_); try simp (disch := omega) only [A7,A6,A1,A3,hc0,go_sem,simprocAttr]) | ((with_reducible refine' cE ?hv ?_ ?_); (case hv => rfl); all_goals (intro hc; (try simp only [go_sem,simprocAttr] at hc))) | ((with_reducible refine fe ?_); refine ⟨_,(by simp only [Tryz.f34,A7,A6,A1,A3,hc0,go_sem,simprocAttr]; rfl),?_⟩; rfl) | fail)
   try rfl
  | cons b l =>
   have hbm := Xd (r := r) (u := u) (b := b) (by rw [hl]; simp)
   have hlk := Kg r hF u (Fe h2)
   rw [hl] at hlk
   have hpos : (0 : Int) < ((l.length + 1 : Nat) : Int) := by omega
   refine A8 (fn := Tryz.f34) tabOK (by kernel_rfl) rfl (by kernel_rfl) (by simp [Tryz.f34]) (by simp [noids,noid,noidss,go_sem,A7,A6,A1,A3]) (by first | rfl | simp [noids,noid,noidss,go_sem,A7,A6,A1,A3]) ?_
   intro X hX0 hXs
   repeat' (first | with_reducible (first | (refine sk ?_; intro K hK) | apply_assumption -exfalso -symm only [*]) | ((first | (with_reducible first | refine rg (h := ?_) | refine nx ?_) | refine pK (BL r u hb hu) ?_ | refine pK (hlk) ?_); try simp (disch := omega) only [A7,A6,A1,A3,hc0,cBrc,hpos,go_sem,simprocAttr]) | ((with_reducible refine' cE ?hv ?_ ?_); (case hv => rfl); all_goals (intro hc; (try simp only [go_sem,simprocAttr] at hc))) | ((with_reducible refine fe ?_); refine ⟨_,(by simp only [Tryz.f34,A7,A6,A1,A3,hc0,cBrc,hpos,go_sem,simprocAttr]; rfl),?_⟩; rfl) | fail)
   try rfl
 ·rw [JL,if_neg hc0]
  refine A8 (fn := Tryz.f34) tabOK (by kernel_rfl) rfl (by kernel_rfl) (by simp [Tryz.f34]) (by simp [noids,noid,noidss,go_sem,A7,A6,A1,A3]) (by first | rfl | simp [noids,noid,noidss,go_sem,A7,A6,A1,A3]) ?_
  intro X hX0 hXs
  repeat' (first | with_reducible (first | (refine sk ?_; intro K hK) | apply_assumption -exfalso -symm only [*]) | ((first | (with_reducible first | refine rg (h := ?_) | refine nx ?_) | refine pK (BL r u hb hu) ?_); try simp (disch := omega) only [A7,A6,A1,A3,hc0,go_sem,simprocAttr]) | ((with_reducible refine' cE ?hv ?_ ?_); (case hv => rfl); all_goals (intro hc; (try simp only [go_sem,simprocAttr] at hc))) | ((with_reducible refine fe ?_); refine ⟨_,(by simp only [Tryz.f34,A7,A6,A1,A3,hc0,go_sem,simprocAttr]; rfl),?_⟩; rfl) | fail)
end Cp
namespace Cp
open Go Go.Proofs
set_option maxRecDepth 10000
set_option maxHeartbeats 4000000
theorem Mx (xs : List Brc) (hx : xs.length ≤ 4611686018427387904) (g : FuncId) (caps : List Val) (hcp : noids caps = true) (p : Brc → Bool) (hp : ∀ x ∈ xs,PureC Tryz.prog g (.agg (cBrc x) :: caps) (.bool (p x))) :
  PureC Tryz.prog 61 [.lst 4 (xs.map cBrc),.fn g caps] (.int .i64 (Av p xs 0)) := by
 simp only [cBrc] at hp
 refine A8 (fn := Tryz.f61) tabOK (by kernel_rfl) rfl (by kernel_rfl) (by simp [Tryz.f61]) (by simp [noids,noid,noidss,go_sem,hcp]) (by first | rfl | simp [noids,noid,noidss,go_sem,hcp]) ?_
 intro X hX0 hXs
 repeat' (first | with_reducible (first | (refine sk ?_; intro K hK) | apply_assumption -exfalso -symm only [*]) | ((with_reducible refine rg (h := ?_)); try simp (disch := omega) only [go_sem,simprocAttr]) | fail)
 refine An tabOK xs.length (fun k f H => f 0 = .lst 4 (xs.map cBrc) ∧ f 1 = .fn g caps ∧ H = none0 ∧ Av p xs 0 = Av p (xs.drop k) k) hx (by rw [hXs]; decide) (by decide) (by simp only [go_sem,simprocAttr]) (by simp only [go_sem,simprocAttr]) ⟨by simp only [go_sem,simprocAttr],by simp only [go_sem,simprocAttr],rfl,by simp⟩ ?_ ?_
 ·rintro k f H hk h8 h7 ⟨h0,h1,rfl,hr⟩
  obtain ⟨x,hx⟩ : ∃ x,xs[k]? = some x := ⟨_,List.getElem?_eq_getElem hk⟩
  repeat' (first | with_reducible (first | (refine sk ?_; intro K hK) | apply_assumption -exfalso -symm only [*]) | ((first | (with_reducible first | refine rg (h := ?_) | refine nx ?_) | refine pK (hp x (List.mem_of_getElem? hx)) ?_); try simp (disch := omega) only [h0,h1,h8,h7,hx,cBrc,go_sem,simprocAttr]) | ((with_reducible refine' cE ?hv ?_ ?_); (case hv => rfl); all_goals (intro hc)) | ((with_reducible refine fe ?_); refine ⟨_,(by simp only [Tryz.f61,h0,h1,h8,h7,hx,cBrc,go_sem,simprocAttr]; rfl),?_⟩; (try simp only [h0,h1,h8,h7,hx,cBrc,go_sem,simprocAttr,seval])) | fail)
  ·rw [hr,Ai hx]; simp [Av,hc]
  ·rw [hr,Ai hx]; simp [Av,hc]
 ·rintro f H h8 h7 ⟨h0,h1,rfl,hr⟩
  repeat' (first | with_reducible (first | (refine sk ?_; intro K hK) | apply_assumption -exfalso -symm only [*]) | ((with_reducible first | refine rg (h := ?_) | refine nx ?_); try simp (disch := omega) only [go_sem,simprocAttr]) | ((with_reducible refine fe ?_); refine ⟨_,(by simp only [Tryz.f61,go_sem,simprocAttr]; rfl),?_⟩; (try simp only [go_sem,simprocAttr,seval])) | fail)
  rw [hr]; simp [Av]
theorem S7 (b : Brc) : PureC Tryz.prog 62 [.agg (cBrc b)] (.bool (!p2 b)) := by
 refine A8 (fn := Tryz.f62) tabOK (by kernel_rfl) rfl (by kernel_rfl) (by simp [Tryz.f62]) (by simp [noids,noid,noidss,go_sem,cBrc]) (by first | rfl | simp [noids,noid,noidss,go_sem,cBrc]) ?_
 intro X hX0 hXs
 repeat' (first | with_reducible (first | (refine sk ?_; intro K hK) | apply_assumption -exfalso -symm only [*]) | ((with_reducible first | refine rg (h := ?_) | refine nx ?_); try simp (disch := omega) only [cBrc,go_sem,simprocAttr]) | ((with_reducible refine fe ?_); refine ⟨_,(by simp only [Tryz.f62,cBrc,go_sem,simprocAttr]; rfl),?_⟩; (try simp only [cBrc,go_sem,simprocAttr,seval])) | fail)
 simp [p2]
def OZ (r : RunT) (u : RulesT) (t : Int) : Val :=
 if Az r u = 0 then (if 0 ≤ t ∧ t ≤ r.rows.length then .tup [.int .u8 (Cd (C9 r u) t).1,.int .i64 (Cd (C9 r u) t).2,.int .i64 0] else .tup [.int .u8 0,.int .i64 0,.int .i64 2]) else .tup [.int .u8 0,.int .i64 0,.int .i64 (Az r u)]
theorem TW (r : RunT) (u : RulesT) (hb : RunB r) (hu : RulesB u) (t : Int) : PureC Tryz.prog 25 [A7 r,A1 u,.int .i64 t] (OZ r u t) := by
 by_cases hc0 : Az r u = 0
 ·obtain ⟨h1,h2⟩ := RC hc0
  have hF := CS h1
  have hrl := hF.rows
  rw [OZ,if_pos hc0]
  by_cases ht : 0 ≤ t ∧ t ≤ r.rows.length
  ·rw [if_pos ht]
   obtain ⟨l,hl⟩ : ∃ l,C9 r u = l := ⟨_,rfl⟩
   have hlk := Kg r hF u (Fe h2)
   have hll : l.length ≤ 1000 := by
    have := FK (u := u) hF r.rows.length
    have : (C9 r u).length ≤ 11 * r.rows.length := this
    rw [← hl]; omega
   rw [hl] at hlk ⊢
   have hix := Mx l (by omega) 62 [] rfl (fun b => !p2 b) (fun b _ => S7 b)
   rw [Kc] at hix
   have hfl : (l.takeWhile p2).length = C5 l := rfl
   rw [hfl] at hix
   by_cases hk : C5 l < l.length
   ·rw [if_pos hk,Int.zero_add] at hix
    obtain ⟨b,hbk⟩ : ∃ b,l[C5 l]? = some b := ⟨_,List.getElem?_eq_getElem hk⟩
    by_cases hbm : b.m ≤ t
    ·have hs : Cd l t = (0,b.m) := by unfold Cd; rw [hbk]; simp only; rw [if_pos hbm]
     rw [hs]
     refine A8 (fn := Tryz.f25) tabOK (by kernel_rfl) rfl (by kernel_rfl) (by simp [Tryz.f25]) (by simp [noids,noid,noidss,go_sem,A7,A6,A1,A3]) (by first | rfl | simp [noids,noid,noidss,go_sem,A7,A6,A1,A3]) ?_
     intro X hX0 hXs
     repeat' (first | with_reducible (first | (refine sk ?_; intro K hK) | apply_assumption -exfalso -symm only [*]) | ((first | (with_reducible first | refine rg (h := ?_) | refine nx ?_) | refine pK (BL r u hb hu) ?_ | refine pK (FU _ _ _) ?_ | refine pK (hlk) ?_ | refine pK (hix) ?_); try simp (disch := omega) only [A7,A6,A1,A3,hc0,ht.1,ht.2,hbk,hbm,cBrc,go_sem,simprocAttr]) | ((with_reducible refine' cE ?hv ?_ ?_); (case hv => rfl); all_goals (intro hc; (try simp only [go_sem,simprocAttr] at hc))) | ((with_reducible refine fe ?_); refine ⟨_,(by simp only [Tryz.f25,A7,A6,A1,A3,hc0,ht.1,ht.2,hbk,hbm,cBrc,go_sem,simprocAttr]; rfl),?_⟩; rfl) | fail)
    ·have hs : Cd l t = AE l t := by unfold Cd; rw [hbk]; simp only; rw [if_neg hbm]
     rw [hs]
     obtain ⟨a,hak⟩ : ∃ a,l[0]? = some a := ⟨_,List.getElem?_eq_getElem (by omega)⟩
     have hpos : (0 : Int) < (l.length : Int) := by omega
     by_cases ham : a.m ≤ t
     ·have hf : AE l t = (1,a.m) := by unfold AE; rw [hak]; simp only; rw [if_pos ham]
      rw [hf]
      refine A8 (fn := Tryz.f25) tabOK (by kernel_rfl) rfl (by kernel_rfl) (by simp [Tryz.f25]) (by simp [noids,noid,noidss,go_sem,A7,A6,A1,A3]) (by first | rfl | simp [noids,noid,noidss,go_sem,A7,A6,A1,A3]) ?_
      intro X hX0 hXs
      repeat' (first | with_reducible (first | (refine sk ?_; intro K hK) | apply_assumption -exfalso -symm only [*]) | ((first | (with_reducible first | refine rg (h := ?_) | refine nx ?_) | refine pK (BL r u hb hu) ?_ | refine pK (FU _ _ _) ?_ | refine pK (hlk) ?_ | refine pK (hix) ?_); try simp (disch := omega) only [A7,A6,A1,A3,hc0,ht.1,ht.2,hbk,hbm,hak,ham,hpos,cBrc,go_sem,simprocAttr]) | ((with_reducible refine' cE ?hv ?_ ?_); (case hv => rfl); all_goals (intro hc; (try simp only [go_sem,simprocAttr] at hc))) | ((with_reducible refine fe ?_); refine ⟨_,(by simp only [Tryz.f25,A7,A6,A1,A3,hc0,ht.1,ht.2,hbk,hbm,hak,ham,hpos,cBrc,go_sem,simprocAttr]; rfl),?_⟩; rfl) | fail)
     ·have hf : AE l t = (2,0) := by unfold AE; rw [hak]; simp only; rw [if_neg ham]
      rw [hf]
      refine A8 (fn := Tryz.f25) tabOK (by kernel_rfl) rfl (by kernel_rfl) (by simp [Tryz.f25]) (by simp [noids,noid,noidss,go_sem,A7,A6,A1,A3]) (by first | rfl | simp [noids,noid,noidss,go_sem,A7,A6,A1,A3]) ?_
      intro X hX0 hXs
      repeat' (first | with_reducible (first | (refine sk ?_; intro K hK) | apply_assumption -exfalso -symm only [*]) | ((first | (with_reducible first | refine rg (h := ?_) | refine nx ?_) | refine pK (BL r u hb hu) ?_ | refine pK (FU _ _ _) ?_ | refine pK (hlk) ?_ | refine pK (hix) ?_); try simp (disch := omega) only [A7,A6,A1,A3,hc0,ht.1,ht.2,hbk,hbm,hak,ham,hpos,cBrc,go_sem,simprocAttr]) | ((with_reducible refine' cE ?hv ?_ ?_); (case hv => rfl); all_goals (intro hc; (try simp only [go_sem,simprocAttr] at hc))) | ((with_reducible refine fe ?_); refine ⟨_,(by simp only [Tryz.f25,A7,A6,A1,A3,hc0,ht.1,ht.2,hbk,hbm,hak,ham,hpos,cBrc,go_sem,simprocAttr]; rfl),?_⟩; rfl) | fail)
   ·rw [if_neg hk] at hix
    have hs : Cd l t = AE l t := by unfold Cd; rw [List.getElem?_eq_none (by omega)]
    rw [hs]
    by_cases hpos : (0 : Int) < (l.length : Int)
    ·obtain ⟨a,hak⟩ : ∃ a,l[0]? = some a := ⟨_,List.getElem?_eq_getElem (by omega)⟩
     by_cases ham : a.m ≤ t
     ·have hf : AE l t = (1,a.m) := by unfold AE; rw [hak]; simp only; rw [if_pos ham]
      rw [hf]
      refine A8 (fn := Tryz.f25) tabOK (by kernel_rfl) rfl (by kernel_rfl) (by simp [Tryz.f25]) (by simp [noids,noid,noidss,go_sem,A7,A6,A1,A3]) (by first | rfl | simp [noids,noid,noidss,go_sem,A7,A6,A1,A3]) ?_
      intro X hX0 hXs
      repeat' (first | with_reducible (first | (refine sk ?_; intro K hK) | apply_assumption -exfalso -symm only [*]) | ((first | (with_reducible first | refine rg (h := ?_) | refine nx ?_) | refine pK (BL r u hb hu) ?_ | refine pK (FU _ _ _) ?_ | refine pK (hlk) ?_ | refine pK (hix) ?_); try simp (disch := omega) only [A7,A6,A1,A3,hc0,ht.1,ht.2,hak,ham,hpos,cBrc,go_sem,simprocAttr]) | ((with_reducible refine' cE ?hv ?_ ?_); (case hv => rfl); all_goals (intro hc; (try simp only [go_sem,simprocAttr] at hc))) | ((with_reducible refine fe ?_); refine ⟨_,(by simp only [Tryz.f25,A7,A6,A1,A3,hc0,ht.1,ht.2,hak,ham,hpos,cBrc,go_sem,simprocAttr]; rfl),?_⟩; rfl) | fail)
     ·have hf : AE l t = (2,0) := by unfold AE; rw [hak]; simp only; rw [if_neg ham]
      rw [hf]
      refine A8 (fn := Tryz.f25) tabOK (by kernel_rfl) rfl (by kernel_rfl) (by simp [Tryz.f25]) (by simp [noids,noid,noidss,go_sem,A7,A6,A1,A3]) (by first | rfl | simp [noids,noid,noidss,go_sem,A7,A6,A1,A3]) ?_
      intro X hX0 hXs
      repeat' (first | with_reducible (first | (refine sk ?_; intro K hK) | apply_assumption -exfalso -symm only [*]) | ((first | (with_reducible first | refine rg (h := ?_) | refine nx ?_) | refine pK (BL r u hb hu) ?_ | refine pK (FU _ _ _) ?_ | refine pK (hlk) ?_ | refine pK (hix) ?_); try simp (disch := omega) only [A7,A6,A1,A3,hc0,ht.1,ht.2,hak,ham,hpos,cBrc,go_sem,simprocAttr]) | ((with_reducible refine' cE ?hv ?_ ?_); (case hv => rfl); all_goals (intro hc; (try simp only [go_sem,simprocAttr] at hc))) | ((with_reducible refine fe ?_); refine ⟨_,(by simp only [Tryz.f25,A7,A6,A1,A3,hc0,ht.1,ht.2,hak,ham,hpos,cBrc,go_sem,simprocAttr]; rfl),?_⟩; rfl) | fail)
    ·have hf : AE l t = (2,0) := by unfold AE; rw [List.getElem?_eq_none (by omega)]
     rw [hf]
     refine A8 (fn := Tryz.f25) tabOK (by kernel_rfl) rfl (by kernel_rfl) (by simp [Tryz.f25]) (by simp [noids,noid,noidss,go_sem,A7,A6,A1,A3]) (by first | rfl | simp [noids,noid,noidss,go_sem,A7,A6,A1,A3]) ?_
     intro X hX0 hXs
     repeat' (first | with_reducible (first | (refine sk ?_; intro K hK) | apply_assumption -exfalso -symm only [*]) | ((first | (with_reducible first | refine rg (h := ?_) | refine nx ?_) | refine pK (BL r u hb hu) ?_ | refine pK (FU _ _ _) ?_ | refine pK (hlk) ?_ | refine pK (hix) ?_); try simp (disch := omega) only [A7,A6,A1,A3,hc0,ht.1,ht.2,hpos,cBrc,go_sem,simprocAttr]) | ((with_reducible refine' cE ?hv ?_ ?_); (case hv => rfl); all_goals (intro hc; (try simp only [go_sem,simprocAttr] at hc))) | ((with_reducible refine fe ?_); refine ⟨_,(by simp only [Tryz.f25,A7,A6,A1,A3,hc0,ht.1,ht.2,hpos,cBrc,go_sem,simprocAttr]; rfl),?_⟩; rfl) | fail)
  ·rw [if_neg ht]
   refine A8 (fn := Tryz.f25) tabOK (by kernel_rfl) rfl (by kernel_rfl) (by simp [Tryz.f25]) (by simp [noids,noid,noidss,go_sem,A7,A6,A1,A3]) (by first | rfl | simp [noids,noid,noidss,go_sem,A7,A6,A1,A3]) ?_
   intro X hX0 hXs
   repeat' (first | with_reducible (first | (refine sk ?_; intro K hK) | apply_assumption -exfalso -symm only [*]) | ((first | (with_reducible first | refine rg (h := ?_) | refine nx ?_) | refine pK (BL r u hb hu) ?_ | refine pK (FU _ _ _) ?_); try simp (disch := omega) only [A7,A6,A1,A3,hc0,go_sem,simprocAttr]) | ((with_reducible refine' cE ?hv ?_ ?_); (case hv => rfl); all_goals (intro hc; (try simp only [go_sem,simprocAttr] at hc); try (exfalso; omega))) | ((with_reducible refine fe ?_); refine ⟨_,(by simp only [Tryz.f25,A7,A6,A1,A3,hc0,go_sem,simprocAttr]; rfl),?_⟩; rfl) | fail)
 ·rw [OZ,if_neg hc0]
  refine A8 (fn := Tryz.f25) tabOK (by kernel_rfl) rfl (by kernel_rfl) (by simp [Tryz.f25]) (by simp [noids,noid,noidss,go_sem,A7,A6,A1,A3]) (by first | rfl | simp [noids,noid,noidss,go_sem,A7,A6,A1,A3]) ?_
  intro X hX0 hXs
  repeat' (first | with_reducible (first | (refine sk ?_; intro K hK) | apply_assumption -exfalso -symm only [*]) | ((first | (with_reducible first | refine rg (h := ?_) | refine nx ?_) | refine pK (BL r u hb hu) ?_); try simp (disch := omega) only [A7,A6,A1,A3,hc0,go_sem,simprocAttr]) | ((with_reducible refine' cE ?hv ?_ ?_); (case hv => rfl); all_goals (intro hc; (try simp only [go_sem,simprocAttr] at hc))) | ((with_reducible refine fe ?_); refine ⟨_,(by simp only [Tryz.f25,A7,A6,A1,A3,hc0,go_sem,simprocAttr]; rfl),?_⟩; rfl) | fail)
end Cp
namespace Cp
open Go Go.Proofs
set_option maxRecDepth 10000
set_option maxHeartbeats 1000000
theorem Q6 (H : Hp) : frzH (frzH H) = frzH H := by
 funext k
 unfold frzH
 cases H k with
 | none => rfl
 | some p => obtain ⟨e,o⟩ := p; cases o <;> rfl
theorem LookC.frz {P : Program} {fid : FuncId} {args : List Val} {H : Hp} {v : Val} (h : LookC P fid args H v) : LookC P fid args (frzH H) v :=
 ⟨h.1,h.2.1,fun G w xs hR hv => h.2.2 G w xs (by rw [Q6] at hR; exact hR) hv⟩
theorem classes_ok : PureC Tryz.prog 41 [] (.lst 1 (BO clsL)) := by
 refine A8 (fn := Tryz.f41) tabOK (by kernel_rfl) rfl (by kernel_rfl) (by simp [Tryz.f41]) (by simp [noids,noid,noidss,go_sem,clsL,BO]) (by first | rfl | simp [noids,noid,noidss,go_sem,clsL,BO]) ?_
 intro X hX0 hXs
 repeat' (first | with_reducible (first | (refine sk ?_; intro K hK) | apply_assumption -exfalso -symm only [*]) | ((with_reducible first | refine rg (h := ?_) | refine nx ?_); try simp (disch := omega) only [clsL,BO,go_sem,simprocAttr]) | ((with_reducible refine fe ?_); refine ⟨_,(by simp only [Tryz.f41,clsL,BO,go_sem,simprocAttr]; rfl),?_⟩; rfl) | fail)
theorem LN {l : List Int} {k : Nat} {x : Int} (h : l[k]? = some x) : (BO l)[k]? = some [.int .i64 x] := by rw [BO,List.getElem?_map,h]; rfl
def tw (p : Int → Bool) (l : List Int) : Bool := !(l.takeWhile p).isEmpty
theorem gm {p : Int → Bool} {x : Int} {l : List Int} (h : p x = true) : tw p (x :: l) = true := by simp [tw,List.takeWhile_cons,h]
theorem dF {p : Int → Bool} {x : Int} {l : List Int} (h : p x = false) : tw p (x :: l) = false := by simp [tw,List.takeWhile_cons,h]
theorem FZ (xs : List Int) (hx : xs.length ≤ 1000) (g : FuncId) (caps : List Val) (p : Int → Bool) (H : Hp) (hp : ∀ x ∈ xs,LookC Tryz.prog g (.int .i64 x :: caps) H (.bool (p x))) :
  LookC Tryz.prog 40 [.lst 1 (BO xs),.fn g caps] H (.tup [.int .i64 (grt p xs 0),.bool (tw p xs)]) := by
 refine Ds (fn := Tryz.f40) tabOK (by kernel_rfl) rfl (by kernel_rfl) (by simp [Tryz.f40]) rfl ?_
 intro X hX0 hXs
 have hil : (BO xs).length = xs.length := by simp [BO]
 repeat' (first | with_reducible (first | (refine sk ?_; intro K hK) | apply_assumption -exfalso -symm only [*]) | ((with_reducible refine rgL [] [18] (h := ?_)); try simp (disch := omega) only [hil,go_sem,simprocAttr]) | fail)
 refine An tabOK xs.length (fun k f H1 => (f 1 = .fn g caps ∧ f 10 = .lst 1 (BO xs) ∧ H1 = frzH H) ∧ ∃ b fd,f 6 = .int .i64 b ∧ f 7 = .bool fd ∧ grt p xs 0 = grt p (xs.drop k) b ∧ tw p xs = (fd || tw p (xs.drop k))) (by omega) (by rw [hXs]; decide) (by decide) (by (first | rfl | (simp only [go_sem,simprocAttr]; done) | (simp only [go_sem,simprocAttr]; rfl))) (by (first | rfl | (simp only [hil,go_sem,simprocAttr]; done) | (simp only [hil,go_sem,simprocAttr]; rfl)))
  ⟨⟨by (first | rfl | (simp only [go_sem,simprocAttr]; done) | (simp only [go_sem,simprocAttr]; rfl)),by (first | rfl | (simp only [go_sem,simprocAttr]; done) | (simp only [go_sem,simprocAttr]; rfl)),rfl⟩,0,false,by (first | rfl | (simp only [go_sem,simprocAttr]; done) | (simp only [go_sem,simprocAttr]; rfl)),by (first | rfl | (simp only [go_sem,simprocAttr]; done) | (simp only [go_sem,simprocAttr]; rfl)),rfl,rfl⟩ ?_ ?_
 ·rintro k f H1 hk h12 h11 ⟨⟨h1,h10,rfl⟩,b,fd,h6,h7,hg,hf⟩
  obtain ⟨x,hx⟩ : ∃ x,xs[k]? = some x := ⟨_,List.getElem?_eq_getElem hk⟩
  have hxa := LN hx
  have hpx := (hp x (List.mem_of_getElem? hx)).frz
  rw [Ai hx] at hg hf
  simp only [grt] at hg
  cases hb : p x with
  | true =>
   rw [hb] at hpx hg
   rw [gm hb] at hf
   simp only [if_true,Bool.or_true] at hg hf
   repeat' (first | with_reducible (first | (refine sk ?_; intro K hK) | apply_assumption -exfalso -symm only [*]) | ((first | (with_reducible first | refine rgL [] [18] (h := ?_) | refine nx ?_) | refine lK (hpx) ?_); try simp (disch := omega) only [h1,h6,h7,h10,h11,h12,hxa,go_sem,simprocAttr]) | ((with_reducible refine' cE ?hv ?_ ?_); (case hv => rfl); all_goals (intro hc; (try simp only [go_sem,simprocAttr] at hc))) | fail)
   exact ⟨x,true,rfl,rfl,hg,by rw [hf]; rfl⟩
  | false =>
   rw [hb] at hpx hg
   rw [dF hb] at hf
   simp only [Bool.false_eq_true,if_false,Bool.or_false] at hg hf
   repeat' (first | with_reducible (first | (refine sk ?_; intro K hK) | apply_assumption -exfalso -symm only [*]) | ((first | (with_reducible first | refine rgL [] [18] (h := ?_) | refine nx ?_) | refine lK (hpx) ?_); try simp (disch := omega) only [h1,h6,h7,h10,h11,h12,hxa,go_sem,simprocAttr]) | ((with_reducible refine' cE ?hv ?_ ?_); (case hv => rfl); all_goals (intro hc; (try simp only [go_sem,simprocAttr] at hc))) | ((with_reducible refine fe ?_); refine ⟨_,(by simp only [Tryz.f40,h1,h6,h7,h10,h11,h12,hxa,go_sem,simprocAttr]; rfl),?_⟩; (try simp only [h1,h6,h7,h10,h11,h12,hxa,go_sem,simprocAttr,seval])) | fail)
   rw [hg,hf]; exact ⟨rfl,rfl⟩
 ·rintro f H1 h12 h11 ⟨⟨h1,h10,rfl⟩,b,fd,h6,h7,hg,hf⟩
  rw [Bd (Nat.le_refl _)] at hg hf
  have e0 : tw p [] = false := rfl
  rw [e0] at hf
  simp only [grt,Bool.or_false] at hg hf
  repeat' (first | with_reducible (first | (refine sk ?_; intro K hK) | apply_assumption -exfalso -symm only [*]) | ((with_reducible first | refine rgL [] [18] (h := ?_) | refine nx ?_); try simp (disch := omega) only [h6,h7,go_sem,simprocAttr]) | ((with_reducible refine fe ?_); refine ⟨_,(by simp only [Tryz.f40,h6,h7,go_sem,simprocAttr]; rfl),?_⟩; (try simp only [h6,h7,go_sem,simprocAttr,seval])) | fail)
  rw [hg,hf]; exact ⟨rfl,rfl⟩
theorem E9 (t : TestT) (hF : TestF t) (hb : TestB t) (c : Int) (hc : 1 ≤ c ∧ c ≤ 60) (eb em ver : Nat) (m : List SeenT) (H : Hp) (hL : D4 t eb em ver m H) :
  LookC Tryz.prog 43 [.ptr 2204 eb 24 0 0,.int .i64 c] H (.int .u8 (AD t c)) := by
 have h4 := Em hL.1
 have hk := TW t.run t.rules hb.run hb.rules c
 have hrl := hF.rows
 refine Ds (fn := Tryz.f43) tabOK (by kernel_rfl) rfl (by kernel_rfl) (by simp [Tryz.f43]) rfl ?_
 intro X hX0 hXs
 unfold AD
 by_cases hlt : (t.run.rows.length : Int) < c
 ·rw [if_pos hlt]
  repeat' (first | with_reducible (first | (refine sk ?_; intro K hK) | apply_assumption -exfalso -symm only [*]) | ((with_reducible first | refine rg (md := { base := 2900,own := [] }) (h := ?_) | refine nx ?_); try simp (disch := omega) only [h4,Ap,A4,hlt,go_sem,simprocAttr]) | ((with_reducible refine' cE ?hv ?_ ?_); (case hv => rfl); all_goals (intro hc; (try simp only [go_sem,simprocAttr] at hc))) | ((with_reducible refine fe ?_); refine ⟨_,(by simp only [Tryz.f43,h4,Ap,A4,hlt,go_sem,simprocAttr]; rfl),?_⟩; rfl) | fail)
 ·rw [if_neg hlt]
  rw [OZ,if_pos hF.check,if_pos (by omega)] at hk
  simp only [A7,A6,A1,A3] at hk
  repeat' (first | with_reducible (first | (refine sk ?_; intro K hK) | apply_assumption -exfalso -symm only [*]) | ((first | (with_reducible first | refine rg (md := { base := 2900,own := [] }) (h := ?_) | refine nx ?_) | refine pK (hk) ?_); try simp (disch := omega) only [h4,Ap,A4,hlt,A7,A6,A1,A3,go_sem,simprocAttr]) | ((with_reducible refine' cE ?hv ?_ ?_); (case hv => rfl); all_goals (intro hc; (try simp only [go_sem,simprocAttr] at hc))) | ((with_reducible refine fe ?_); refine ⟨_,(by simp only [Tryz.f43,h4,Ap,A4,hlt,A7,A6,A1,A3,go_sem,simprocAttr]; rfl),?_⟩; rfl) | fail)
theorem Fv {t : TestT} {c : Int} : 0 ≤ AD t c ∧ AD t c ≤ 2 := by
 have := EC (t := t) (Int.le_refl c); omega
theorem OK (t : TestT) (hF : TestF t) (hb : TestB t) (F : FailT) (c : Int) (hc : 1 ≤ c ∧ c ≤ 60) (eb em ver : Nat) (m : List SeenT) (H : Hp) (hL : D4 t eb em ver m H) (kf ef : Nat) (hf : H kf = some (ef,.arr 3 [Aq F])) :
  LookC Tryz.prog 67 [.int .i64 c,.ptr kf ef 3 0 0,.pim [.ptr 2204 eb 24 0 0]] H (.bool (E8 t F c)) := by
 refine Ds (fn := Tryz.f67) tabOK (by kernel_rfl) rfl (by kernel_rfl) (by simp [Tryz.f67]) rfl ?_
 unfold E8
 have h4 := Em hL.1
 have h5 := Em hf
 have hkn := (E9 t hF hb c hc eb em ver m H hL).frz
 have hfin := hF.fin
 have hck := hF.clock
 have hkb := @Fv t c
 intro X hX0 hXs
 generalize AD t c = kn at *
 simp only [Ap,A4,Aq] at h4 h5
 by_cases h2 : F.held = 2
 ·by_cases h3 : 60 * c ≤ t.fin - t.clock.hi
  ·repeat' (first | with_reducible (first | (refine sk ?_; intro K hK) | apply_assumption -exfalso -symm only [*]) | ((first | (with_reducible first | refine rgL [] [36] (md := { base := 2950,own := [] }) (h := ?_) | refine nx ?_) | refine lK (hkn) ?_); try simp (disch := omega) only [h4,h5,h2,h3,go_sem,simprocAttr]) | ((with_reducible refine fe ?_); refine ⟨_,(by simp only [Tryz.f67,h4,h5,h2,h3,go_sem,simprocAttr]; rfl),?_⟩; rfl) | fail)
  ·repeat' (first | with_reducible (first | (refine sk ?_; intro K hK) | apply_assumption -exfalso -symm only [*]) | ((with_reducible first | refine rgL [] [36] (md := { base := 2950,own := [] }) (h := ?_) | refine nx ?_); try simp (disch := omega) only [h4,h5,h2,h3,go_sem,simprocAttr]) | ((with_reducible refine fe ?_); refine ⟨_,(by simp only [Tryz.f67,h4,h5,h2,h3,go_sem,simprocAttr]; rfl),?_⟩; rfl) | fail)
 ·by_cases hlo : 60 * c < F.at1.lo
  ·by_cases h3 : 60 * c ≤ t.fin - t.clock.hi
   ·repeat' (first | with_reducible (first | (refine sk ?_; intro K hK) | apply_assumption -exfalso -symm only [*]) | ((first | (with_reducible first | refine rgL [] [36] (md := { base := 2950,own := [] }) (h := ?_) | refine nx ?_) | refine lK (hkn) ?_); try simp (disch := omega) only [h4,h5,h2,hlo,h3,go_sem,simprocAttr]) | ((with_reducible refine fe ?_); refine ⟨_,(by simp only [Tryz.f67,h4,h5,h2,hlo,h3,go_sem,simprocAttr]; rfl),?_⟩; rfl) | fail)
   ·repeat' (first | with_reducible (first | (refine sk ?_; intro K hK) | apply_assumption -exfalso -symm only [*]) | ((with_reducible first | refine rgL [] [36] (md := { base := 2950,own := [] }) (h := ?_) | refine nx ?_); try simp (disch := omega) only [h4,h5,h2,hlo,h3,go_sem,simprocAttr]) | ((with_reducible refine fe ?_); refine ⟨_,(by simp only [Tryz.f67,h4,h5,h2,hlo,h3,go_sem,simprocAttr]; rfl),?_⟩; rfl) | fail)
  ·repeat' (first | with_reducible (first | (refine sk ?_; intro K hK) | apply_assumption -exfalso -symm only [*]) | ((with_reducible first | refine rgL [] [36] (md := { base := 2950,own := [] }) (h := ?_) | refine nx ?_); try simp (disch := omega) only [h4,h5,h2,hlo,go_sem,simprocAttr]) | ((with_reducible refine fe ?_); refine ⟨_,(by simp only [Tryz.f67,h4,h5,h2,hlo,go_sem,simprocAttr]; rfl),?_⟩; rfl) | fail)
theorem MQ (t : TestT) (hF : TestF t) (hb : TestB t) (F : FailT) (c : Int) (hc : 1 ≤ c ∧ c ≤ 60) (eb em ver : Nat) (m : List SeenT) (H : Hp) (hL : D4 t eb em ver m H) (kf ef : Nat) (hf : H kf = some (ef,.arr 3 [Aq F])) (kx ex : Nat) (hx : H kx = some (ex,.arr 1 [[.ptr 2204 eb 24 0 0]])) :
  LookC Tryz.prog 42 [.int .i64 c,.ptr kf ef 3 0 0,.ptr kx ex 1 0 0] H (.bool (Il t F c)) := by
 refine Ds (fn := Tryz.f42) tabOK (by kernel_rfl) rfl (by kernel_rfl) (by simp [Tryz.f42]) rfl ?_
 unfold Il
 have h6 := Em hx
 have h4 := Em hL.1
 have h5 := Em hf
 have hkn := (E9 t hF hb c hc eb em ver m H hL).frz
 have hfin := hF.fin
 have hck := hF.clock
 have hkb := @Fv t c
 intro X hX0 hXs
 generalize AD t c = kn at *
 simp only [Ap,A4,Aq] at h4 h5
 by_cases h2 : F.held = 0
 ·by_cases hlo : 60 * c < F.at1.hi
  ·by_cases h3 : 60 * c ≤ t.fin - t.clock.lo
   ·repeat' (first | with_reducible (first | (refine sk ?_; intro K hK) | apply_assumption -exfalso -symm only [*]) | ((first | (with_reducible first | refine rgL [] [36] (md := { base := 2950,own := [] }) (h := ?_) | refine nx ?_) | refine lK (hkn) ?_); try simp (disch := omega) only [h4,h5,h6,h2,hlo,h3,go_sem,simprocAttr]) | ((with_reducible refine fe ?_); refine ⟨_,(by simp only [Tryz.f42,h4,h5,h6,h2,hlo,h3,go_sem,simprocAttr]; rfl),?_⟩; rfl) | fail)
   ·repeat' (first | with_reducible (first | (refine sk ?_; intro K hK) | apply_assumption -exfalso -symm only [*]) | ((with_reducible first | refine rgL [] [36] (md := { base := 2950,own := [] }) (h := ?_) | refine nx ?_); try simp (disch := omega) only [h4,h5,h6,h2,hlo,h3,go_sem,simprocAttr]) | ((with_reducible refine fe ?_); refine ⟨_,(by simp only [Tryz.f42,h4,h5,h6,h2,hlo,h3,go_sem,simprocAttr]; rfl),?_⟩; rfl) | fail)
  ·repeat' (first | with_reducible (first | (refine sk ?_; intro K hK) | apply_assumption -exfalso -symm only [*]) | ((with_reducible first | refine rgL [] [36] (md := { base := 2950,own := [] }) (h := ?_) | refine nx ?_); try simp (disch := omega) only [h4,h5,h6,h2,hlo,go_sem,simprocAttr]) | ((with_reducible refine fe ?_); refine ⟨_,(by simp only [Tryz.f42,h4,h5,h6,h2,hlo,go_sem,simprocAttr]; rfl),?_⟩; rfl) | fail)
 ·by_cases h3 : 60 * c ≤ t.fin - t.clock.lo
  ·repeat' (first | with_reducible (first | (refine sk ?_; intro K hK) | apply_assumption -exfalso -symm only [*]) | ((first | (with_reducible first | refine rgL [] [36] (md := { base := 2950,own := [] }) (h := ?_) | refine nx ?_) | refine lK (hkn) ?_); try simp (disch := omega) only [h4,h5,h6,h2,h3,go_sem,simprocAttr]) | ((with_reducible refine fe ?_); refine ⟨_,(by simp only [Tryz.f42,h4,h5,h6,h2,h3,go_sem,simprocAttr]; rfl),?_⟩; rfl) | fail)
  ·repeat' (first | with_reducible (first | (refine sk ?_; intro K hK) | apply_assumption -exfalso -symm only [*]) | ((with_reducible first | refine rgL [] [36] (md := { base := 2950,own := [] }) (h := ?_) | refine nx ?_); try simp (disch := omega) only [h4,h5,h6,h2,h3,go_sem,simprocAttr]) | ((with_reducible refine fe ?_); refine ⟨_,(by simp only [Tryz.f42,h4,h5,h6,h2,h3,go_sem,simprocAttr]; rfl),?_⟩; rfl) | fail)
end Cp
namespace Cp
open Go
def Ca (s : Int) : Int := (clsL.find? fun c => decide (s < c)).getD 0
def KB (t : TestT) (next : Int) (c : Nat) : Bool := !decide ((AC t c).held = 2) && decide ((AC t c).at1.lo ≤ 60 * next)
def BI (t : TestT) (next : Int) (n : Nat) : List Int := ((List.range n).filter (KB t next)).map fun c => ((c + 1 : Nat) : Int)
def JO (t : TestT) (next : Int) : List Int := if t.fin - t.clock.hi < 60 * next then [7] else []
def RV (t : TestT) (next : Int) : List Int := if AD t next = 2 then [] else [8]
def IP (t : TestT) (l : Nat) : List Int := if Ca (BC t l) = 0 then [] else BI t (Ca (BC t l)) (2 * l) ++ JO t (Ca (BC t l)) ++ RV t (Ca (BC t l))
theorem Mu {t : TestT} {next : Int} {n : Nat} : BI t next (n + 1) = BI t next n ++ (if KB t next n = true then [((n + 1 : Nat) : Int)] else []) := by
 unfold BI
 rw [List.range_succ,List.filter_append,List.map_append]
 by_cases h : KB t next n = true <;> simp [h]
theorem JK {t : TestT} {next : Int} {n : Nat} : (BI t next n).length ≤ n := by
 unfold BI
 rw [List.length_map]
 have := List.length_filter_le (KB t next) (List.range n)
 rwa [List.length_range] at this
theorem Ng (s : Int) : (Ca s = 0 ∧ ∀ c ∈ clsL,c ≤ s) ∨ (Ca s ∈ clsL ∧ s < Ca s ∧ ∀ c ∈ clsL,s < c → Ca s ≤ c) := by
 have gen : ∀ (l : List Int),l.Pairwise (· ≤ ·) → ((l.find? fun c => decide (s < c)) = none ∧ ∀ c ∈ l,c ≤ s) ∨ ∃ x,(l.find? fun c => decide (s < c)) = some x ∧ x ∈ l ∧ s < x ∧ ∀ c ∈ l,s < c → x ≤ c := by
  intro l
  induction l with
  | nil => intro _; exact .inl ⟨rfl,by simp⟩
  | cons a l ih =>
   intro hs
   obtain ⟨s1,s2⟩ := List.pairwise_cons.1 hs
   rw [List.find?_cons]
   by_cases h : s < a
   ·rw [decide_eq_true h]
    refine .inr ⟨a,rfl,by simp,h,fun c hc _ => ?_⟩
    rcases List.mem_cons.1 hc with rfl | hc
    ·exact Int.le_refl _
    ·exact s1 c hc
   ·rw [decide_eq_false h]
    rcases ih s2 with ⟨q1,q2⟩ | ⟨x,q1,q2,q3,q4⟩
    ·refine .inl ⟨q1,fun c hc => ?_⟩
     rcases List.mem_cons.1 hc with rfl | hc
     ·omega
     ·exact q2 c hc
    ·refine .inr ⟨x,q1,by simp [q2],q3,fun c hc hlt => ?_⟩
     rcases List.mem_cons.1 hc with rfl | hc
     ·exact absurd hlt h
     ·exact q4 c hc hlt
 unfold Ca
 rcases gen clsL clsL_up with ⟨q1,q2⟩ | ⟨x,q1,q2⟩
 ·rw [q1]; exact .inl ⟨rfl,q2⟩
 ·rw [q1]; exact .inr q2
theorem PM (s : Int) : Ca s = 0 ∧ Av (fun c => decide (s < c)) clsL 0 = -1 ∨ ∃ k : Nat,k < 7 ∧ Av (fun c => decide (s < c)) clsL 0 = (k : Int) ∧ clsL[k]? = some (Ca s) ∧ Ca s ≠ 0 := by
 unfold Ca clsL
 simp only [Av,List.find?]
 by_cases h5 : s < 5
 ·exact .inr ⟨0,by decide,by simp [h5],by simp [h5],by simp [h5]⟩
 by_cases h10 : s < 10
 ·exact .inr ⟨1,by decide,by simp [h5,h10],by simp [h5,h10],by simp [h5,h10]⟩
 by_cases h15 : s < 15
 ·exact .inr ⟨2,by decide,by simp [h5,h10,h15],by simp [h5,h10,h15],by simp [h5,h10,h15]⟩
 by_cases h20 : s < 20
 ·exact .inr ⟨3,by decide,by simp [h5,h10,h15,h20],by simp [h5,h10,h15,h20],by simp [h5,h10,h15,h20]⟩
 by_cases h30 : s < 30
 ·exact .inr ⟨4,by decide,by simp [h5,h10,h15,h20,h30],by simp [h5,h10,h15,h20,h30],by simp [h5,h10,h15,h20,h30]⟩
 by_cases h45 : s < 45
 ·exact .inr ⟨5,by decide,by simp [h5,h10,h15,h20,h30,h45],by simp [h5,h10,h15,h20,h30,h45],by simp [h5,h10,h15,h20,h30,h45]⟩
 by_cases h60 : s < 60
 ·exact .inr ⟨6,by decide,by simp [h5,h10,h15,h20,h30,h45,h60],by simp [h5,h10,h15,h20,h30,h45,h60],by simp [h5,h10,h15,h20,h30,h45,h60]⟩
 exact .inl ⟨by simp [h5,h10,h15,h20,h30,h45,h60],by simp [h5,h10,h15,h20,h30,h45,h60]⟩
end Cp
namespace Cp
open Go Go.Proofs
set_option maxRecDepth 10000
set_option maxHeartbeats 1000000
theorem MF {F : FailT} (h : F.held = 0 ∨ F.held = 1 ∨ F = ⟨2,⟨0,0⟩⟩) : ∃ ty v fid,Bq F = .iface ty v ∧ NU Tryz.prog ty "cottonpad/class.told" fid ∧ PureC Tryz.prog fid [v] (Ab F) := by
 rcases h with h | h | rfl
 ·refine ⟨_,_,_,if_neg (by omega),meth_b,?_⟩
  have := Fq F.at1.lo F.at1.hi (decide (F.held = 0))
  simp only [h,decide_true,if_true] at this ⊢
  obtain ⟨a,b,c⟩ := F
  simp only at h; subst h
  exact this
 ·refine ⟨_,_,_,if_neg (by omega),meth_b,?_⟩
  have := Fq F.at1.lo F.at1.hi (decide (F.held = 0))
  obtain ⟨a,b,c⟩ := F
  simp only at h; subst h
  simpa using this
 ·exact ⟨_,_,_,if_pos rfl,meth_k,ktold_ok⟩
theorem Sn {c : Int} (h : c ∈ clsL) : 1 ≤ c ∧ c ≤ 60 := by have := GS h; omega
theorem Mq (t : TestT) (hF : TestF t) (hb : TestB t) (l : Nat) (hl : 1 ≤ l ∧ l ≤ 3) (eb em ver : Nat) (m : List SeenT) (hS : SeenM t 6 m) (H0 : Hp) (hL : D4 t eb em ver m H0) :
  BB Tryz.prog 44 [.ptr 2204 eb 24 0 0,.int .u8 (l : Int)] H0 fun v H' => v = .int .i64 (BC t l) ∧ ∀ j,j < 2440 → H' j = H0 j := by
 refine BP (fn := Tryz.f44) tabOK (by kernel_rfl) rfl (by kernel_rfl) (by simp [Tryz.f44]) ?_
 intro X hX0 hXs
 obtain ⟨ty,fv,fid,he,hm,hp⟩ := MF (IG (Bx t (2 * l)))
 have hle : B6 t l = K3 (Bx t (2 * l)) := rfl
 rw [← hle] at he hp
 have hsu : BC t l = grt (E8 t (B6 t l)) clsL 0 := rfl
 rw [hsu]
 have cl := Iw t hF.ok hF.rows.2 l hl eb em ver m hS
 generalize B6 t l = F at *
 refine Ar 2445 fun H1 g5 hs1 => ?_
 have hL1 : D4 t eb em ver m H1 := ⟨(hs1 2204 (by decide)).trans hL.1,(hs1 2202 (by decide)).trans hL.2⟩
 have hlo1 : ∃ _ : Unit,∀ j,j < 2440 → H1 j = H0 j := ⟨(),fun j hj => hs1 j (by omega)⟩
 clear hs1 hL hle hsu
 repeat' (first | with_reducible (first | (refine sk ?_; intro K hK) | apply_assumption -exfalso -symm only [*]) | ((with_reducible first | refine Ey (id := 1) tabOK { base := 2440,own := [],imp := [10] } [] [15] (by rw [hXs]; decide +kernel) ?_ | refine rgL [] [15] (md := { base := 2440,own := [],imp := [10] }) (h := ?_)); try simp (disch := omega) only [go_sem,simprocAttr]) | fail)
 refine iK (cl _ hL1) ?_
 rintro v H3 ⟨rfl,hlo⟩
 have g5' := (hlo 2445 (by decide)).trans g5
 have hL3 : D4 t eb em ver m H3 := ⟨(hlo 2204 (by decide)).trans hL1.1,(hlo 2202 (by decide)).trans hL1.2⟩
 have hlo3 : ∃ _ : Unit,∀ j,j < 2440 → H3 j = H0 j := by obtain ⟨_,h⟩ := hlo1; exact ⟨(),fun j hj => (hlo j (by omega)).trans (h j hj)⟩
 clear hlo hlo1 cl hL1 g5
 rw [he]
 simp only [go_sem,simprocAttr]
 refine ⟨_,hm,pK hp ?_⟩
 simp only [go_sem,simprocAttr,Ab,Aq,g5']
 repeat' (first | with_reducible (first | (refine sk ?_; intro K hK) | intro (ep : Nat → Nat) | apply_assumption -exfalso -symm only [*]) | ((first | (with_reducible refine rgL [] [15] (md := { base := 2440,own := [],imp := [10] }) (h := ?_)) | refine pK (classes_ok) ?_); try simp (disch := omega) only [Ab,Aq,g5',go_sem,simprocAttr]) | fail)
 refine lK (FZ clsL (by decide) _ _ (E8 t F) _ fun x hx => OK t hF hb F x (Sn hx) eb em ver m _ ⟨?_,?_⟩ _ _ ?_) ?_
 ·exact (A0 _ _ (by decide)).trans hL3.1
 ·exact (A0 _ _ (by decide)).trans hL3.2
 ·exact A5 _ _ _
 simp only [go_sem,simprocAttr]
 repeat' (first | with_reducible (first | (refine sk ?_; intro K hK) | apply_assumption -exfalso -symm only [*]) | ((with_reducible first | refine rgL [] [15] (md := { base := 2440,own := [],imp := [10] }) (h := ?_) | refine nx ?_); try simp (disch := omega) only [go_sem,simprocAttr]) | fail)
 refine AK (Or.inl rfl) (.refl _) (by simp only [Tryz.f44,go_sem,simprocAttr]; rfl) ?_
 obtain ⟨_,hlo3⟩ := hlo3
 exact ⟨rfl,fun j hj => by first | exact hlo3 j hj | (simp only [upd]; (repeat rw [if_neg (by omega)]); exact hlo3 j hj)⟩
end Cp
namespace Cp
open Go Go.Proofs
set_option maxRecDepth 10000
set_option maxHeartbeats 1000000
def E5 (t : TestT) (l : Int) : Val := if Ak t = 0 then (if 1 ≤ l ∧ l ≤ 3 then .tup [A9 ⟨BC t l.toNat,OI t l.toNat⟩,.int .i64 0] else .tup [A9 ⟨0,0⟩,.int .i64 2]) else .tup [A9 ⟨0,0⟩,.int .i64 (Ak t)]
theorem IR (t : TestT) (hb : TestB t) (l : Int) (hl : 0 ≤ l ∧ l ≤ 255) : PureC Tryz.prog 14 [A2 t,.int .u8 l] (E5 t l) := by
 have hnv : noid (E5 t l) = true := by unfold E5; (repeat' split) <;> rfl
 have ho := Fg t hb l hl
 simp only [A2,A4] at ho
 refine A8 (fn := Tryz.f14) tabOK (by kernel_rfl) rfl (by kernel_rfl) (by simp [Tryz.f14]) (by simp [noids,noid,noidss,go_sem,A2,A4,hnv]) (by first | rfl | simp [noids,noid,noidss,go_sem,A2,A4,hnv]) ?_
 intro X hX0 hXs
 unfold E5 at hnv ⊢
 by_cases h : Ak t = 0
 ·rw [if_pos h] at hnv ⊢
  have hF := P3 h
  by_cases hcr : 1 ≤ l ∧ l ≤ 3
  ·rw [if_pos hcr] at hnv ⊢
   obtain ⟨k,rfl⟩ : ∃ k : Nat,l = (k : Int) := ⟨l.toNat,by omega⟩
   have hk3 : 1 ≤ k ∧ k ≤ 3 := by omega
   rw [Int.toNat_natCast] at hnv ⊢
   obtain ⟨ty,fv,fid,he,hm,hp⟩ := MF (IG (Bx t (2 * k)))
   have hle : B6 t k = K3 (Bx t (2 * k)) := rfl
   rw [← hle] at he hp
   have hsu : OI t k = grt (Il t (B6 t k)) clsL 0 := rfl
   rw [hsu] at hnv ⊢
   have cs := fun eb em ver m hS H h => Mq t hF hb k hk3 eb em ver m hS H h
   generalize BC t k = sr at *
   have cl := fun eb em ver m hS H h => Iw t hF.ok hF.rows.2 k hk3 eb em ver m hS H h
   generalize B6 t k = F at *
   clear hsu hle
   repeat' (first | with_reducible (first | (refine sk ?_; intro K hK) | intro (ep : Nat → Nat) | apply_assumption -exfalso -symm only [*]) | ((with_reducible refine rgL [] [28] (md := { base := 0,own := [4],imp := [14,23,33] }) (h := ?_)); try simp (disch := omega) only [A2,A4,go_sem,simprocAttr]) | fail)
   refine iK (ho _) ?_
   rintro v H2 ⟨hlow,hv⟩
   rw [if_pos h,if_pos hcr] at hv
   obtain ⟨eb,em,ver,m,rfl,hTL,hS⟩ := hv
   have H24 := hlow 4 (by decide)
   have H26 := hlow 6 (by decide)
   have H28 := hlow 8 (by decide)
   clear hlow
   simp only [go_sem,simprocAttr] at H24 H26 H28
   simp only [go_sem,simprocAttr,H26]
   repeat' (first | with_reducible (first | (refine sk ?_; intro K hK) | intro (ep : Nat → Nat) | apply_assumption -exfalso -symm only [*]) | ((with_reducible first | refine Ey (id := 4) tabOK { base := 0,own := [4],imp := [14,23,33] } [] [28] (by rw [hXs]; decide +kernel) ?_ | refine rgL [] [28] (md := { base := 0,own := [4],imp := [14,23,33] }) (h := ?_) | refine nx ?_); try simp (disch := omega) only [H24,H26,go_sem,simprocAttr]) | ((with_reducible refine' cE ?hv ?_ ?_); (case hv => rfl); all_goals (intro hc; (try simp only [go_sem,simprocAttr] at hc))) | fail)
   refine iK (cl eb em ver m hS _ ⟨(A0 _ _ (by decide)).trans hTL.1,(A0 _ _ (by decide)).trans hTL.2⟩) ?_
   rintro v H3 ⟨rfl,hlo⟩
   have H34 := hlo 4 (by decide)
   have H36 := hlo 6 (by decide)
   have H38 := hlo 8 (by decide)
   have hTL3 : D4 t eb em ver m H3 := ⟨(hlo 2204 (by decide)).trans ((A0 _ _ (by decide)).trans hTL.1),(hlo 2202 (by decide)).trans ((A0 _ _ (by decide)).trans hTL.2)⟩
   clear hlo
   simp only [go_sem,simprocAttr,H24,H28] at H34 H36 H38
   rw [he]
   simp only [go_sem,simprocAttr]
   refine ⟨_,hm,pK hp ?_⟩
   simp only [go_sem,simprocAttr,Ab,Aq,H38]
   repeat' (first | with_reducible (first | (refine sk ?_; intro K hK) | intro (ep : Nat → Nat) | apply_assumption -exfalso -symm only [*]) | ((first | (with_reducible refine rgL [] [28] (md := { base := 0,own := [4],imp := [14,23,33] }) (h := ?_)) | refine pK (classes_ok) ?_); try simp (disch := omega) only [Ab,Aq,H34,H36,H38,go_sem,simprocAttr]) | fail)
   refine lK (FZ clsL (by decide) _ _ (Il t F) _ fun x hx => MQ t hF hb F x (Sn hx) eb em ver m _ ⟨?_,?_⟩ _ _ ?_ _ _ ?_) ?_
   ·exact (A0 _ _ (by decide)).trans hTL3.1
   ·exact (A0 _ _ (by decide)).trans hTL3.2
   ·exact A5 _ _ _
   ·exact (A0 _ _ (by decide)).trans H36
   simp only [go_sem,simprocAttr]
   repeat' (first | with_reducible (first | (refine sk ?_; intro K hK) | apply_assumption -exfalso -symm only [*]) | ((with_reducible refine rgL [] [28] (md := { base := 0,own := [4],imp := [14,23,33] }) (h := ?_)); try simp (disch := omega) only [H34,H36,H38,go_sem,simprocAttr]) | fail)
   refine iK (cs eb em ver m hS _ ⟨(A0 _ _ (by decide)).trans hTL3.1,(A0 _ _ (by decide)).trans hTL3.2⟩) ?_
   rintro v H5 ⟨rfl,hlo⟩
   have H54 := hlo 4 (by decide)
   simp only [go_sem,simprocAttr,H34] at H54
   clear hlo
   simp only [go_sem,simprocAttr,H54]
   repeat' (first | with_reducible apply_assumption -exfalso -symm only [*] | ((with_reducible refine nx ?_); try simp (disch := omega) only [A9,H54,go_sem,simprocAttr]) | ((with_reducible refine fe ?_); refine ⟨_,(by simp only [Tryz.f14,A9,H54,go_sem,simprocAttr]; rfl),?_⟩; rfl) | fail)
  ·rw [if_neg hcr] at hnv ⊢
   repeat' (first | with_reducible (first | (refine sk ?_; intro K hK) | intro (ep : Nat → Nat) | apply_assumption -exfalso -symm only [*]) | ((with_reducible refine rgL [] [28] (md := { base := 0,own := [4],imp := [14,23,33] }) (h := ?_)); try simp (disch := omega) only [A2,A4,go_sem,simprocAttr]) | fail)
   refine iK (ho _) ?_
   rintro v H2 ⟨hlow,hv⟩
   rw [if_pos h,if_neg hcr] at hv
   subst hv
   have H24 := hlow 4 (by decide)
   have H26 := hlow 6 (by decide)
   simp only [go_sem,simprocAttr] at H24 H26
   simp only [go_sem,simprocAttr,H26]
   repeat' (first | with_reducible (first | (refine sk ?_; intro K hK) | intro (ep : Nat → Nat) | apply_assumption -exfalso -symm only [*]) | ((with_reducible first | refine rgL [] [28] (md := { base := 0,own := [4],imp := [14,23,33] }) (h := ?_) | refine nx ?_); try simp (disch := omega) only [h,H24,H26,A9,go_sem,simprocAttr]) | ((with_reducible refine' cE ?hv ?_ ?_); (case hv => rfl); all_goals (intro hc; (try simp only [go_sem,simprocAttr] at hc))) | ((with_reducible refine fe ?_); refine ⟨_,(by simp only [Tryz.f14,h,H24,H26,A9,go_sem,simprocAttr]; rfl),?_⟩; rfl) | fail)
 ·rw [if_neg h] at hnv ⊢
  repeat' (first | with_reducible (first | (refine sk ?_; intro K hK) | intro (ep : Nat → Nat) | apply_assumption -exfalso -symm only [*]) | ((with_reducible refine rgL [] [28] (md := { base := 0,own := [4],imp := [14,23,33] }) (h := ?_)); try simp (disch := omega) only [A2,A4,go_sem,simprocAttr]) | fail)
  refine iK (ho _) ?_
  rintro v H2 ⟨hlow,hv⟩
  rw [if_neg h] at hv
  subst hv
  have H24 := hlow 4 (by decide)
  have H26 := hlow 6 (by decide)
  simp only [go_sem,simprocAttr] at H24 H26
  simp only [go_sem,simprocAttr,H26]
  repeat' (first | with_reducible (first | (refine sk ?_; intro K hK) | intro (ep : Nat → Nat) | apply_assumption -exfalso -symm only [*]) | ((with_reducible first | refine rgL [] [28] (md := { base := 0,own := [4],imp := [14,23,33] }) (h := ?_) | refine nx ?_); try simp (disch := omega) only [h,H24,H26,A9,go_sem,simprocAttr]) | ((with_reducible refine' cE ?hv ?_ ?_); (case hv => rfl); all_goals (intro hc; (try simp only [go_sem,simprocAttr] at hc))) | ((with_reducible refine fe ?_); refine ⟨_,(by simp only [Tryz.f14,h,H24,H26,A9,go_sem,simprocAttr]; rfl),?_⟩; rfl) | fail)
end Cp
namespace Cp
open Go
section
variable {P : Program} {T : Tab} {md : Me} {os : List Oper} {K : Fr → Hp → Prop} {f : Fr} {H : Hp} {d : Option Tmp} {ty : TypeId} {pos : String} {af : Array Edge} {g : Option (Nat × Bool)} {ss lk : List Nat}
@[go_sem] theorem QH {t u : TypeId} {x : Operand} {c : Bool} : Ag P T md os ss lk { dst := d,op := .typeAssert x t u c,type := ty,pos := pos,after := af,guard := g } K f H = Bm P T md os { dst := d,op := .typeAssert x t u c,type := ty,pos := pos,after := af,guard := g } K f H :=
 propext ⟨fun h => h.2,fun h => ⟨trivial,h⟩⟩
@[go_sem] theorem NW {t : TypeId} {x : Operand} : Ag P T md os ss lk { dst := d,op := .makeInterface t x,type := ty,pos := pos,after := af,guard := g } K f H = Bm P T md os { dst := d,op := .makeInterface t x,type := ty,pos := pos,after := af,guard := g } K f H :=
 propext ⟨fun h => h.2,fun h => ⟨trivial,h⟩⟩
end
section
variable {P : Program} {ro : Option Nat} {X : Cx} {Q : Exit → Fr → Hp → Prop} {f : Fr} {H : Hp} {c : Code}
theorem N7 (k' t : Nat) {k sz : Nat} {L : List (List Val)} (h : LstC k sz L (f t) H) (hk' : H k' = none) (hne : k ≠ k')
  (hc : ∀ f' H',LstC k' sz L (f' t) H' → (∀ j,¬ j = t → f' j = f j) → (∀ j,¬ j = k → ¬ j = k' → H' j = H j) → AW P ro X c Q f' H') : AW P ro X c Q f H := by
 rcases h with ⟨rfl,h⟩ | ⟨h0,ea,h,hk⟩
 ·exact hc f H (.inl ⟨rfl,h⟩) (fun _ _ => rfl) fun _ _ _ => rfl
 ·refine Rr k k' t h hk hk' hne fun e' => ?_
  exact hc _ _ (.inr ⟨h0,e',A5 _ _ _,A5 _ _ _⟩) (fun j hj => A0 _ _ hj) fun j hj hj' => (A0 _ _ hj').trans (A0 _ _ hj)
end
end Cp
namespace Cp
open Go Go.Proofs
set_option maxRecDepth 10000
set_option maxHeartbeats 1000000
def c8 (m : Int) : List Val := [.int .u8 m]
@[go_sem] theorem bW {l : List Int} : noidss (l.map c8) = true := Bg fun _ => rfl
@[go_sem] theorem gc {H : Hp} {n : Nat} {l : List Int} : ((l.map c8).map fun es => es.map (fzd H (n + 1))) = l.map c8 := CD (fun _ => rfl) l
def IM (t : TestT) (l : Int) : Val := if Ak t = 0 then (if 1 ≤ l ∧ l ≤ 3 then .tup [.lst 1 ((IP t l.toNat).map c8),.int .i64 0] else .tup [.lst 1 [],.int .i64 2]) else .tup [.lst 1 [],.int .i64 (Ak t)]
theorem Q4 (s c : Int) : PureC Tryz.prog 49 [.int .i64 c,.pim [.int .i64 s]] (.bool (decide (s < c))) := by
 refine A8 (fn := Tryz.f49) tabOK (by kernel_rfl) rfl (by kernel_rfl) (by simp [Tryz.f49]) (by simp [noids,noid,noidss,go_sem]) (by first | rfl | simp [noids,noid,noidss,go_sem]) ?_
 intro X hX0 hXs
 repeat' (first | with_reducible (first | (refine sk ?_; intro K hK) | apply_assumption -exfalso -symm only [*]) | ((with_reducible first | refine rg (h := ?_) | refine nx ?_); try simp (disch := omega) only [go_sem,simprocAttr]) | ((with_reducible refine fe ?_); refine ⟨_,(by simp only [Tryz.f49,go_sem,simprocAttr]; rfl),?_⟩; rfl) | fail)
theorem MU {t : TestT} {l : Nat} (h : Ca (BC t l) ≠ 0) : IP t l = BI t (Ca (BC t l)) (2 * l) ++ JO t (Ca (BC t l)) ++ RV t (Ca (BC t l)) := by
 unfold IP; rw [if_neg h]
theorem NJ {t : TestT} {l : Nat} (h : Ca (BC t l) = 0) : IP t l = [] := by
 unfold IP; rw [if_pos h]
theorem Qg {s : Int} (h : Ca s ≠ 0) : 1 ≤ Ca s ∧ Ca s ≤ 60 := by
 rcases Ng s with ⟨q,_⟩ | ⟨q,_⟩
 ·exact absurd q h
 ·exact Sn q
theorem Qa (t : TestT) (hb : TestB t) (l : Int) (hl : 0 ≤ l ∧ l ≤ 255) : PureC Tryz.prog 16 [A2 t,.int .u8 l] (IM t l) := by
 have ho := Fg t hb l hl
 simp only [A2,A4] at ho
 unfold IM
 by_cases h : Ak t = 0
 ·rw [if_pos h]
  have hF := P3 h
  by_cases hcr : 1 ≤ l ∧ l ≤ 3
  ·rw [if_pos hcr]
   obtain ⟨k,rfl⟩ : ∃ k : Nat,l = (k : Int) := ⟨l.toNat,by omega⟩
   have hk3 : 1 ≤ k ∧ k ≤ 3 := by omega
   rw [Int.toNat_natCast]
   have cs := fun eb em ver m hS H h => Mq t hF hb k hk3 eb em ver m hS H h
   have hix := PM (BC t k)
   have hnn := @NJ t k
   have hns := @MU t k
   have hnb := @Qg (BC t k)
   generalize IP t k = st at *
   generalize BC t k = sr at *
   have h2k : (2 : Int) * (k : Int) = ((2 * k : Nat) : Int) := by omega
   have ci := IY clsL (by decide) 49 [.pim [.int .i64 sr]] rfl (fun c => decide (sr < c)) (fun c _ => Q4 sr c)
   rcases hix with ⟨hn0,hi⟩ | ⟨j,hj,hi,hjx,hn0⟩
   ·rw [hnn hn0]
    rw [hi] at ci
    refine PureC.weak (v := .tup [.nils,.int .i64 0]) ?_ rfl fun G w x h => h.tup_nils
    refine A8 (fn := Tryz.f16) tabOK (by kernel_rfl) rfl (by kernel_rfl) (by simp [Tryz.f16]) (by simp [noids,noid,noidss,go_sem,A2,A4]) (by first | rfl | simp [noids,noid,noidss,go_sem,A2,A4]) ?_
    intro X hX0 hXs
    repeat' (first | with_reducible (first | (refine sk ?_; intro K hK) | apply_assumption -exfalso -symm only [*]) | ((with_reducible refine rgL [] [47,87] (md := { base := 0,own := [65,84,91],imp := [18,26] }) (h := ?_)); try simp (disch := omega) only [A2,A4,go_sem,simprocAttr]) | fail)
    refine iK (ho _) ?_
    rintro v H2 ⟨hlow,hv⟩
    rw [if_pos h,if_pos hcr] at hv
    obtain ⟨eb,em,ver,m,rfl,hTL,hS⟩ := hv
    have H28 := hlow 8 (by decide)
    clear hlow
    simp only [go_sem,simprocAttr] at H28 ⊢
    repeat' (first | with_reducible (first | (refine sk ?_; intro K hK) | apply_assumption -exfalso -symm only [*]) | ((with_reducible first | refine rgL [] [47,87] (md := { base := 0,own := [65,84,91],imp := [18,26] }) (h := ?_) | refine nx ?_); try simp (disch := omega) only [go_sem,simprocAttr]) | ((with_reducible refine' cE ?hv ?_ ?_); (case hv => rfl); all_goals (intro hc; (try simp only [go_sem,simprocAttr] at hc))) | fail)
    refine iK (cs eb em ver m hS _ hTL) ?_
    rintro v H3 ⟨rfl,hlo⟩
    have H38 := hlo 8 (by decide)
    clear hlo
    simp only [go_sem,simprocAttr,H28] at H38
    simp only [go_sem,simprocAttr,H38]
    repeat' (first | with_reducible (first | intro (ep : Nat → Nat) | apply_assumption -exfalso -symm only [*]) | fail)
    refine Ef 8 (by (first | rfl | (simp only [go_sem,simprocAttr]; done) | (simp only [go_sem,simprocAttr]; rfl))) ?_
    refine EU 8 8 (v := .pim [.int .i64 sr]) (by (first | rfl | (simp only [go_sem,simprocAttr]; done) | (simp only [go_sem,simprocAttr]; rfl))) ?_
    repeat' (first | with_reducible (first | (refine sk ?_; intro K hK) | apply_assumption -exfalso -symm only [*]) | ((first | (with_reducible first | refine rgL [] [47,87] (md := { base := 0,own := [65,84,91],imp := [18,26] }) (h := ?_) | refine nx ?_) | refine pK (classes_ok) ?_ | refine pK (ci) ?_); try simp (disch := omega) only [go_sem,simprocAttr]) | ((with_reducible refine' cE ?hv ?_ ?_); (case hv => rfl); all_goals (intro hc; (try simp only [go_sem,simprocAttr] at hc))) | ((with_reducible refine fe ?_); refine ⟨_,(by simp only [Tryz.f16,go_sem,simprocAttr]; rfl),?_⟩; rfl) | fail)
   ·have hns' := hns hn0
    have hnb' := hnb hn0
    have hja := LN hjx
    rw [hi] at ci
    generalize Ca sr = nx' at *
    have hcl := @JK t nx' (2 * k)
    clear hnn hns hnb hjx
    refine A8 (fn := Tryz.f16) tabOK (by kernel_rfl) rfl (by kernel_rfl) (by simp [Tryz.f16]) (by simp [noids,noid,noidss,go_sem,A2,A4]) (by first | rfl | simp [noids,noid,noidss,go_sem,A2,A4]) ?_
    intro X hX0 hXs
    repeat' (first | with_reducible (first | (refine sk ?_; intro K hK) | apply_assumption -exfalso -symm only [*]) | ((with_reducible refine rgL [] [47,87] (md := { base := 0,own := [65,84,91],imp := [18,26] }) (h := ?_)); try simp (disch := omega) only [A2,A4,go_sem,simprocAttr]) | fail)
    refine iK (ho _) ?_
    rintro v H2 ⟨hlow,hv⟩
    rw [if_pos h,if_pos hcr] at hv
    obtain ⟨eb,em,ver,m,rfl,hTL,hS⟩ := hv
    have H28 := hlow 8 (by decide)
    clear hlow
    simp only [go_sem,simprocAttr] at H28 ⊢
    repeat' (first | with_reducible (first | (refine sk ?_; intro K hK) | apply_assumption -exfalso -symm only [*]) | ((with_reducible first | refine rgL [] [47,87] (md := { base := 0,own := [65,84,91],imp := [18,26] }) (h := ?_) | refine nx ?_); try simp (disch := omega) only [go_sem,simprocAttr]) | ((with_reducible refine' cE ?hv ?_ ?_); (case hv => rfl); all_goals (intro hc; (try simp only [go_sem,simprocAttr] at hc))) | fail)
    refine iK (cs eb em ver m hS _ hTL) ?_
    rintro v H3 ⟨rfl,hlo⟩
    have H38 := hlo 8 (by decide)
    have hTL3 : D4 t eb em ver m H3 := ⟨(hlo 2204 (by decide)).trans hTL.1,(hlo 2202 (by decide)).trans hTL.2⟩
    clear hlo hTL
    simp only [go_sem,simprocAttr,H28] at H38
    simp only [go_sem,simprocAttr,H38]
    repeat' (first | with_reducible (first | intro (ep : Nat → Nat) | apply_assumption -exfalso -symm only [*]) | fail)
    refine Ef 8 (by (first | rfl | (simp only [go_sem,simprocAttr]; done) | (simp only [go_sem,simprocAttr]; rfl))) ?_
    refine EU 8 8 (v := .pim [.int .i64 sr]) (by (first | rfl | (simp only [go_sem,simprocAttr]; done) | (simp only [go_sem,simprocAttr]; rfl))) ?_
    refine Bo [2204,2202] ?_
    generalize hHq : (Cs _ _ : Hp) = H4
    have hTL4 : D4 t eb em ver m H4 := ⟨by rw [← hHq]; exact hTL3.1,by rw [← hHq]; exact hTL3.2⟩
    clear hHq hTL3 H38 H28
    repeat' (first | with_reducible (first | ((fail_if_success (refine DE (id := 10) ?_)); refine sk ?_; intro K hK) | apply_assumption -exfalso -symm only [*]) | ((first | (with_reducible first | refine rgL [] [47,87] (md := { base := 0,own := [65,84,91],imp := [18,26] }) (h := ?_) | refine nx ?_) | refine pK (classes_ok) ?_ | refine pK (ci) ?_); try simp (disch := omega) only [hja,go_sem,simprocAttr]) | ((with_reducible refine' cE ?hv ?_ ?_); (case hv => rfl); all_goals (intro hc; (try simp only [go_sem,simprocAttr] at hc); try (exfalso; omega))) | fail)
    have hfin := hF.fin
    have hck := hF.clock
    have hcut : ∀ f H,(f 6 = .ptr 2204 eb 24 0 0 ∧ f 10 = .int .i64 nx') ∧ D4 t eb em ver m H ∧ LstC 65 1 ((BI t nx' (2 * k)).map c8) (f 11) H → K f H := by
     rintro f H ⟨⟨h6,h10⟩,hT,hL⟩
     refine hK f H ?_
     clear hK hTL4 ci hja hc
     refine Bo [65,2204,2202] ?_
     have k84 : Cs H [65,2204,2202] 84 = none := rfl
     have kT : D4 t eb em ver m (Cs H [65,2204,2202]) := ⟨hT.1,hT.2⟩
     have kL : LstC 65 1 ((BI t nx' (2 * k)).map c8) (f 11) (Cs H [65,2204,2202]) := hL.same rfl
     generalize Cs H [65,2204,2202] = H5 at *
     clear hT hL
     refine N7 84 11 kL k84 (by decide) fun f6 H6 hL6 hf6 hH6 => ?_
     have g6 := (hf6 6 (by decide)).trans h6
     have g10 := (hf6 10 (by decide)).trans h10
     have hT6 : D4 t eb em ver m H6 := ⟨(hH6 2204 (by decide) (by decide)).trans kT.1,(hH6 2202 (by decide) (by decide)).trans kT.2⟩
     clear hf6 hH6 kL kT k84 h6 h10
     repeat' (first | with_reducible ((fail_if_success (refine DE (id := 17) ?_)); refine sk ?_; intro K hK) | fail)
     have hcut2 : ∀ f H,(f 6 = .ptr 2204 eb 24 0 0 ∧ f 10 = .int .i64 nx') ∧ D4 t eb em ver m H ∧ LstC 84 1 ((BI t nx' (2 * k) ++ JO t nx').map c8) (f 11) H → K f H := by
      clear g6 g10 hT6 hL6
      rintro f H ⟨⟨h6,h10⟩,hT,hL⟩
      refine hK f H ?_
      clear hK
      have hel : (JO t nx').length ≤ 1 := by unfold JO; split <;> simp
      refine Bo [84,2204,2202] ?_
      have k91 : Cs H [84,2204,2202] 91 = none := rfl
      have kT : D4 t eb em ver m (Cs H [84,2204,2202]) := ⟨hT.1,hT.2⟩
      have kL : LstC 84 1 ((BI t nx' (2 * k) ++ JO t nx').map c8) (f 11) (Cs H [84,2204,2202]) := hL.same rfl
      generalize Cs H [84,2204,2202] = H5 at *
      clear hT hL
      refine N7 91 11 kL k91 (by decide) fun f6 H6 hL6 hf6 hH6 => ?_
      have g6 := (hf6 6 (by decide)).trans h6
      have g10 := (hf6 10 (by decide)).trans h10
      have hT6 : D4 t eb em ver m H6 := ⟨(hH6 2204 (by decide) (by decide)).trans kT.1,(hH6 2202 (by decide) (by decide)).trans kT.2⟩
      clear hf6 hH6 kL kT k91 h6 h10
      have hfu := E9 t hF hb nx' hnb' eb em ver m
      have hkb := @Fv t nx'
      have hfl : RV t nx' = if AD t nx' = 2 then [] else [8] := rfl
      generalize AD t nx' = kn at *
      repeat' (first | with_reducible ((fail_if_success (refine DE (id := 19) ?_)); refine sk ?_; intro K hK) | fail)
      have hcut3 : ∀ f H,LstC 91 1 (st.map c8) (f 11) H → K f H := by
       clear g6 g10 hT6 hL6 hfu
       intro f H hL
       refine hK f H ?_
       clear hK
       have hz : ∀ H : Hp,((st.map c8).map fun es => es.map (fzd H 5)) = st.map c8 := fun H => CD (fun _ => rfl) _
       refine Mn (t := 11) hz hL fun f2 H2 h3 hf2 hH2 => ?_
       clear hf2 hH2 hL hz
       repeat' (first | with_reducible (first | (refine sk ?_; intro K hK) | apply_assumption -exfalso -symm only [*]) | ((with_reducible first | refine rgL [] [47,87] (md := { base := 0,own := [65,84,91],imp := [18,26] }) (h := ?_) | refine nx ?_); try simp (disch := omega) only [h3,go_sem,simprocAttr]) | ((with_reducible refine fe ?_); refine ⟨_,(by simp only [Tryz.f16,h3,go_sem,simprocAttr]; rfl),?_⟩; (try simp only [h3,go_sem,simprocAttr,seval])) | fail)
      clear hK
      have hcutE : ∃ _ : Unit,_ := ⟨(),hcut3⟩
      clear hcut3
      by_cases hk2 : kn = 2
      ·rw [if_pos hk2] at hfl
       have hst : st = BI t nx' (2 * k) ++ JO t nx' := by rw [hns',hfl,List.append_nil]
       clear hns'
       repeat' (first | with_reducible (first | (refine sk ?_; intro K hK) | apply_assumption -exfalso -symm only [*]) | ((first | (with_reducible first | refine rgL [] [47,87] (md := { base := 0,own := [65,84,91],imp := [18,26] }) (h := ?_) | refine nx ?_) | refine lK (hfu _ hT6) ?_); try simp (disch := omega) only [g6,g10,hk2,go_sem,simprocAttr]) | ((with_reducible refine' cE ?hv ?_ ?_); (case hv => rfl); all_goals (intro hc; (try simp only [go_sem,simprocAttr] at hc))) | fail)
       obtain ⟨_,hcut3⟩ := hcutE
       refine hcut3 _ _ ?_
       simp only [go_sem,simprocAttr]
       rw [hst]; exact hL6
      ·rw [if_neg hk2] at hfl
       have hst : st = (BI t nx' (2 * k) ++ JO t nx') ++ [8] := by rw [hns',hfl]
       clear hns'
       have hcl2 : (BI t nx' (2 * k) ++ JO t nx').length ≤ 2 * k + 1 := by rw [List.length_append]; omega
       generalize BI t nx' (2 * k) ++ JO t nx' = L at *
       rcases hL6 with ⟨hC,h11⟩ | ⟨hne,ea,h11,k91⟩
       ·refine Ar 91 fun H7 g91 hs3 => ?_
        have hT7 : D4 t eb em ver m H7 := ⟨(hs3 2204 (by decide)).trans hT6.1,(hs3 2202 (by decide)).trans hT6.2⟩
        clear hs3 hT6
        repeat' (first | with_reducible (first | (refine sk ?_; intro K hK) | intro (ep : Nat → Nat) | apply_assumption -exfalso -symm only [*]) | ((first | (with_reducible refine rgL [] [47,87] (md := { base := 0,own := [65,84,91],imp := [18,26] }) (h := ?_)) | refine lK (hfu _ hT7) ?_); try simp (disch := omega) only [g6,g10,h11,g91,hk2,go_sem,simprocAttr]) | ((with_reducible refine' cE ?hv ?_ ?_); (case hv => rfl); all_goals (intro hc; (try simp only [go_sem,simprocAttr] at hc))) | fail)
        obtain ⟨_,hcut3⟩ := hcutE
        refine hcut3 _ _ ?_
        rw [hst,List.map_append,hC]; exact .one (by (first | rfl | (simp only [c8,go_sem,simprocAttr]; done) | (simp only [c8,go_sem,simprocAttr]; rfl)))
       ·rw [List.length_map] at h11
        have hkb2 : L.length ≤ 1073741823 := by omega
        repeat' (first | with_reducible (first | (refine sk ?_; intro K hK) | intro (ep : Nat → Nat) | apply_assumption -exfalso -symm only [*]) | ((first | (with_reducible refine rgL [] [47,87] (md := { base := 0,own := [65,84,91],imp := [18,26] }) (h := ?_)) | refine lK (hfu _ hT6) ?_); try simp (disch := omega) only [g6,g10,h11,k91,hkb2,hk2,go_sem,simprocAttr]) | ((with_reducible refine' cE ?hv ?_ ?_); (case hv => rfl); all_goals (intro hc; (try simp only [go_sem,simprocAttr] at hc))) | fail)
        obtain ⟨_,hcut3⟩ := hcutE
        refine hcut3 _ _ ?_
        rw [hst,List.map_append,List.map_cons,List.map_nil,← List.length_map (f := c8)]; exact .snoc (by (first | rfl | (simp only [c8,go_sem,simprocAttr]; done) | (simp only [c8,go_sem,simprocAttr]; rfl)))
     clear hK
     have hcutE : ∃ _ : Unit,_ := ⟨(),hcut2⟩
     clear hcut2 hns'
     have g4 := hT6.1
     have hel : JO t nx' = if t.fin - t.clock.hi < 60 * nx' then [7] else [] := rfl
     by_cases hlt : t.fin - t.clock.hi < 60 * nx'
     ·rw [if_pos hlt] at hel
      rw [hel] at hcutE
      generalize BI t nx' (2 * k) = L at *
      rcases hL6 with ⟨hC,h11⟩ | ⟨hne,ea,h11,k84⟩
      ·refine Ar 84 fun H7 g84 hs3 => ?_
       have hT7 : D4 t eb em ver m H7 := ⟨(hs3 2204 (by decide)).trans hT6.1,(hs3 2202 (by decide)).trans hT6.2⟩
       have g5 := hT7.1
       clear hs3 hT6 g4
       repeat' (first | with_reducible (first | (refine sk ?_; intro K hK) | intro (ep : Nat → Nat) | apply_assumption -exfalso -symm only [*]) | ((with_reducible refine rgL [] [47,87] (md := { base := 0,own := [65,84,91],imp := [18,26] }) (h := ?_)); try simp (disch := omega) only [g6,g10,g5,h11,g84,hlt,Ap,A4,go_sem,simprocAttr]) | ((with_reducible refine' cE ?hv ?_ ?_); (case hv => rfl); all_goals (intro hc; (try simp only [go_sem,simprocAttr] at hc))) | fail)
       obtain ⟨_,hcut2⟩ := hcutE
       refine hcut2 _ _ ⟨by (and_intros <;> first | rfl | (simp only [g6,g10,go_sem,simprocAttr]; done) | (simp only [g6,g10,go_sem,simprocAttr]; rfl)),⟨(A0 _ _ (by decide)).trans hT7.1,(A0 _ _ (by decide)).trans hT7.2⟩,?_⟩
       rw [List.map_append,hC]; exact .one (by (first | rfl | (simp only [c8,go_sem,simprocAttr]; done) | (simp only [c8,go_sem,simprocAttr]; rfl)))
      ·rw [List.length_map] at h11
       have hkb2 : L.length ≤ 1073741823 := by omega
       repeat' (first | with_reducible (first | (refine sk ?_; intro K hK) | intro (ep : Nat → Nat) | apply_assumption -exfalso -symm only [*]) | ((with_reducible refine rgL [] [47,87] (md := { base := 0,own := [65,84,91],imp := [18,26] }) (h := ?_)); try simp (disch := omega) only [g6,g10,g4,h11,k84,hkb2,hlt,Ap,A4,go_sem,simprocAttr]) | ((with_reducible refine' cE ?hv ?_ ?_); (case hv => rfl); all_goals (intro hc; (try simp only [go_sem,simprocAttr] at hc))) | fail)
       obtain ⟨_,hcut2⟩ := hcutE
       refine hcut2 _ _ ⟨by (and_intros <;> first | rfl | (simp only [g6,g10,go_sem,simprocAttr]; done) | (simp only [g6,g10,go_sem,simprocAttr]; rfl)),⟨(A0 _ _ (by decide)).trans hT6.1,(A0 _ _ (by decide)).trans hT6.2⟩,?_⟩
       rw [List.map_append,List.map_cons,List.map_nil,← List.length_map (f := c8)]; exact .snoc (by (first | rfl | (simp only [c8,go_sem,simprocAttr]; done) | (simp only [c8,go_sem,simprocAttr]; rfl)))
     ·rw [if_neg hlt] at hel
      rw [hel] at hcutE
      repeat' (first | with_reducible (first | (refine sk ?_; intro K hK) | apply_assumption -exfalso -symm only [*]) | ((with_reducible first | refine rgL [] [47,87] (md := { base := 0,own := [65,84,91],imp := [18,26] }) (h := ?_) | refine nx ?_); try simp (disch := omega) only [g6,g10,g4,hlt,Ap,A4,go_sem,simprocAttr]) | ((with_reducible refine' cE ?hv ?_ ?_); (case hv => rfl); all_goals (intro hc; (try simp only [go_sem,simprocAttr] at hc))) | fail)
      obtain ⟨_,hcut2⟩ := hcutE
      refine hcut2 _ _ ⟨by (and_intros <;> first | rfl | (simp only [g6,g10,go_sem,simprocAttr]; done) | (simp only [g6,g10,go_sem,simprocAttr]; rfl)),hT6,?_⟩
      rw [List.append_nil]; simp only [go_sem,simprocAttr]; exact hL6
    clear hK
    have hcutE : ∃ _ : Unit,_ := ⟨(),hcut⟩
    clear hcut
    repeat' (first | with_reducible (first | (refine sk ?_; intro K hK) | apply_assumption -exfalso -symm only [*]) | ((with_reducible refine rgL [] [47,87] (md := { base := 0,own := [65,84,91],imp := [18,26] }) (h := ?_)); try simp (disch := omega) only [h2k,go_sem,simprocAttr]) | fail)
    refine An tabOK (2 * k) (fun i f H => (f 6 = .ptr 2204 eb 24 0 0 ∧ f 10 = .int .i64 nx') ∧ D4 t eb em ver m H ∧ LstC 65 1 ((BI t nx' i).map c8) (f 11) H) (by omega) (by rw [hXs]; decide) (by decide) (by (first | rfl | (simp only [go_sem,simprocAttr]; done) | (simp only [go_sem,simprocAttr]; rfl))) (by (first | rfl | (simp only [go_sem,simprocAttr]; done) | (simp only [go_sem,simprocAttr]; rfl)))
     ⟨by (and_intros <;> first | rfl | (simp only [go_sem,simprocAttr]; done) | (simp only [go_sem,simprocAttr]; rfl)),hTL4,.inl ⟨rfl,by (first | rfl | (simp only [go_sem,simprocAttr]; done) | (simp only [go_sem,simprocAttr]; rfl))⟩⟩ ?_ ?_
    ·clear hcutE hTL4 ci hja hns'
     rintro i f H hi39 h39 h38 ⟨⟨h6,h10⟩,hT,hL⟩
     have hw : IntKind.u8.wrap ((i + 1 : Nat) : Int) = ((i + 1 : Nat) : Int) := IntWalk.u8_in _ (by omega)
     have hsu := @Mu t nx' i
     have hcl3 := @JK t nx' i
     have cl := fun H h => DR t hF.ok hF.rows.2 i (by omega) eb em ver m hS H h
     have hsc : KB t nx' i = (!decide ((AC t i).held = 2) && decide ((AC t i).at1.lo ≤ 60 * nx')) := rfl
     refine Bo [65,2204,2202] ?_
     have k13 : Cs H [65,2204,2202] 13 = none := rfl
     have kT : D4 t eb em ver m (Cs H [65,2204,2202]) := ⟨hT.1,hT.2⟩
     have kL : LstC 65 1 ((BI t nx' i).map c8) (f 11) (Cs H [65,2204,2202]) := hL.same rfl
     generalize Cs H [65,2204,2202] = H5 at *
     clear hT hL
     rw [hsc] at hsu
     rw [hsu]
     clear hsu hsc
     generalize BI t nx' i = L at *
     by_cases hF2 : (AC t i).held = 2
     ·have he : Bq (AC t i) = .iface 133 (.agg []) := if_pos hF2
      rw [he] at cl
      simp only [hF2,decide_true,Bool.not_true,Bool.false_and,Bool.false_eq_true,if_false,List.append_nil]
      repeat' (first | with_reducible (first | (refine sk ?_; intro K hK) | intro (ep : Nat → Nat) | apply_assumption -exfalso -symm only [*]) | ((first | (with_reducible first | refine rgL [] [47,87] (md := { base := 0,own := [65,84,91],imp := [18,26] }) (h := ?_) | refine nx ?_) | refine lK (cl _ kT) ?_); try simp (disch := omega) only [h6,h10,h38,h39,hw,k13,go_sem,simprocAttr]) | ((with_reducible refine' cE ?hv ?_ ?_); (case hv => rfl); all_goals (intro hc; (try simp only [go_sem,simprocAttr] at hc))) | fail)
      exact ⟨⟨by (repeat rw [A0 _ _ (by decide)]); exact kT.1,by (repeat rw [A0 _ _ (by decide)]); exact kT.2⟩,kL.same (by (repeat rw [A0 _ _ (by decide)]))⟩
     ·have he : Bq (AC t i) = .iface 104 (.agg [.int .i64 (AC t i).at1.lo,.int .i64 (AC t i).at1.hi,.bool (decide ((AC t i).held = 0))]) := if_neg hF2
      rw [he] at cl
      simp only [decide_eq_false hF2,Bool.not_false,Bool.true_and]
      generalize (AC t i).at1.lo = lo at *
      generalize (AC t i).at1.hi = hi9 at *
      generalize (AC t i).held = hd at *
      by_cases hlo : lo ≤ 60 * nx'
      ·simp only [decide_eq_true hlo,if_true]
       rcases kL with ⟨hC,h11⟩ | ⟨hne,ea,h11,k65⟩
       ·refine Ar 65 fun H7 g65 hs3 => ?_
        have hT7 : D4 t eb em ver m H7 := ⟨(hs3 2204 (by decide)).trans kT.1,(hs3 2202 (by decide)).trans kT.2⟩
        have g13 := (hs3 13 (by decide)).trans k13
        clear hs3 kT k13
        repeat' (first | with_reducible (first | (refine sk ?_; intro K hK) | intro (ep : Nat → Nat) | apply_assumption -exfalso -symm only [*]) | ((first | (with_reducible refine rgL [] [47,87] (md := { base := 0,own := [65,84,91],imp := [18,26] }) (h := ?_)) | refine lK (cl _ hT7) ?_); try simp (disch := omega) only [h6,h10,h11,h38,h39,hw,g13,g65,hlo,go_sem,simprocAttr]) | ((with_reducible refine' cE ?hv ?_ ?_); (case hv => rfl); all_goals (intro hc; (try simp only [go_sem,simprocAttr] at hc))) | fail)
        exact ⟨⟨by (repeat rw [A0 _ _ (by decide)]); exact hT7.1,by (repeat rw [A0 _ _ (by decide)]); exact hT7.2⟩,by rw [List.map_append,hC]; exact .one (by (first | rfl | (simp only [c8,go_sem,simprocAttr]; done) | (simp only [c8,go_sem,simprocAttr]; rfl)))⟩
       ·rw [List.length_map] at h11
        have hkb2 : L.length ≤ 1073741823 := by omega
        repeat' (first | with_reducible (first | (refine sk ?_; intro K hK) | intro (ep : Nat → Nat) | apply_assumption -exfalso -symm only [*]) | ((first | (with_reducible refine rgL [] [47,87] (md := { base := 0,own := [65,84,91],imp := [18,26] }) (h := ?_)) | refine lK (cl _ kT) ?_); try simp (disch := omega) only [h6,h10,h11,h38,h39,hw,k13,k65,hkb2,hlo,go_sem,simprocAttr]) | ((with_reducible refine' cE ?hv ?_ ?_); (case hv => rfl); all_goals (intro hc; (try simp only [go_sem,simprocAttr] at hc))) | fail)
        exact ⟨⟨by (repeat rw [A0 _ _ (by decide)]); exact kT.1,by (repeat rw [A0 _ _ (by decide)]); exact kT.2⟩,by rw [List.map_append,List.map_cons,List.map_nil,← List.length_map (f := c8)]; exact .snoc (by (first | rfl | (simp only [c8,go_sem,simprocAttr]; done) | (simp only [c8,go_sem,simprocAttr]; rfl)))⟩
      ·simp only [decide_eq_false hlo,Bool.false_eq_true,if_false,List.append_nil]
       repeat' (first | with_reducible (first | (refine sk ?_; intro K hK) | intro (ep : Nat → Nat) | apply_assumption -exfalso -symm only [*]) | ((first | (with_reducible first | refine rgL [] [47,87] (md := { base := 0,own := [65,84,91],imp := [18,26] }) (h := ?_) | refine nx ?_) | refine lK (cl _ kT) ?_); try simp (disch := omega) only [h6,h10,h38,h39,hw,k13,hlo,go_sem,simprocAttr]) | ((with_reducible refine' cE ?hv ?_ ?_); (case hv => rfl); all_goals (intro hc; (try simp only [go_sem,simprocAttr] at hc))) | fail)
       exact ⟨⟨by (repeat rw [A0 _ _ (by decide)]); exact kT.1,by (repeat rw [A0 _ _ (by decide)]); exact kT.2⟩,kL.same (by (repeat rw [A0 _ _ (by decide)]))⟩
    ·rintro f H h39 h38 ⟨⟨h6,h10⟩,hT,hL⟩
     obtain ⟨_,hcut⟩ := hcutE
     repeat' (first | with_reducible apply_assumption -exfalso -symm only [*] | fail)
     exact ⟨by (and_intros <;> first | rfl | (simp only [h6,h10,go_sem,simprocAttr]; done) | (simp only [h6,h10,go_sem,simprocAttr]; rfl)),hT,hL⟩
  ·rw [if_neg hcr]
   refine PureC.weak (v := .tup [.nils,.int .i64 2]) ?_ rfl fun G w x h => h.tup_nils
   refine A8 (fn := Tryz.f16) tabOK (by kernel_rfl) rfl (by kernel_rfl) (by simp [Tryz.f16]) (by simp [noids,noid,noidss,go_sem,A2,A4]) (by first | rfl | simp [noids,noid,noidss,go_sem,A2,A4]) ?_
   intro X hX0 hXs
   repeat' (first | with_reducible (first | (refine sk ?_; intro K hK) | apply_assumption -exfalso -symm only [*]) | ((with_reducible refine rgL [] [47,87] (md := { base := 0,own := [65,84,91],imp := [18,26] }) (h := ?_)); try simp (disch := omega) only [A2,A4,go_sem,simprocAttr]) | fail)
   refine iK (ho _) ?_
   rintro v H2 ⟨hlow,hv⟩
   rw [if_pos h,if_neg hcr] at hv
   subst hv
   simp only [go_sem,simprocAttr]
   repeat' (first | with_reducible (first | (refine sk ?_; intro K hK) | apply_assumption -exfalso -symm only [*]) | ((with_reducible first | refine rgL [] [47,87] (md := { base := 0,own := [65,84,91],imp := [18,26] }) (h := ?_) | refine nx ?_); try simp (disch := omega) only [h,go_sem,simprocAttr]) | ((with_reducible refine' cE ?hv ?_ ?_); (case hv => rfl); all_goals (intro hc; (try simp only [go_sem,simprocAttr] at hc))) | ((with_reducible refine fe ?_); refine ⟨_,(by simp only [Tryz.f16,h,go_sem,simprocAttr]; rfl),?_⟩; rfl) | fail)
 ·rw [if_neg h]
  refine PureC.weak (v := .tup [.nils,.int .i64 (Ak t)]) ?_ rfl fun G w x h => h.tup_nils
  refine A8 (fn := Tryz.f16) tabOK (by kernel_rfl) rfl (by kernel_rfl) (by simp [Tryz.f16]) (by simp [noids,noid,noidss,go_sem,A2,A4]) (by first | rfl | simp [noids,noid,noidss,go_sem,A2,A4]) ?_
  intro X hX0 hXs
  repeat' (first | with_reducible (first | (refine sk ?_; intro K hK) | apply_assumption -exfalso -symm only [*]) | ((with_reducible refine rgL [] [47,87] (md := { base := 0,own := [65,84,91],imp := [18,26] }) (h := ?_)); try simp (disch := omega) only [A2,A4,go_sem,simprocAttr]) | fail)
  refine iK (ho _) ?_
  rintro v H2 ⟨hlow,hv⟩
  rw [if_neg h] at hv
  subst hv
  simp only [go_sem,simprocAttr]
  repeat' (first | with_reducible (first | (refine sk ?_; intro K hK) | apply_assumption -exfalso -symm only [*]) | ((with_reducible first | refine rgL [] [47,87] (md := { base := 0,own := [65,84,91],imp := [18,26] }) (h := ?_) | refine nx ?_); try simp (disch := omega) only [h,go_sem,simprocAttr]) | ((with_reducible refine' cE ?hv ?_ ?_); (case hv => rfl); all_goals (intro hc; (try simp only [go_sem,simprocAttr] at hc))) | ((with_reducible refine fe ?_); refine ⟨_,(by simp only [Tryz.f16,h,go_sem,simprocAttr]; rfl),?_⟩; rfl) | fail)
end Cp
namespace Cp
open Go Go.Proofs
set_option maxRecDepth 10000
set_option maxHeartbeats 1000000
theorem Qz (t : TestT) (hl : t.notes.length ≤ 100000) (hR : t.run.rows.length ≤ 60) (hkd : ∀ n ∈ t.notes,0 ≤ n.kind ∧ n.kind ≤ 255) : PureC Tryz.prog 29 [A2 t] (.bool (AQ t)) := by
 have bad : El t = false → false = AQ t := fun h => by rw [AQ,h]; rfl
 have hcs := Ie t.clock (-120) 120
 simp only [A9] at hcs
 simp only [El,decide_eq_false_iff_not] at bad
 refine A8 (fn := Tryz.f29) tabOK (by kernel_rfl) rfl (by kernel_rfl) (by simp [Tryz.f29]) (by simp [noids,noid,noidss,go_sem,A2,A4]) (by first | rfl | simp [noids,noid,noidss,go_sem,A2,A4]) ?_
 intro X hX0 hXs
 repeat' (first | with_reducible (first | (refine sk ?_; intro K hK) | apply_assumption -exfalso -symm only [*]) | ((first | (with_reducible first | refine rg (h := ?_) | refine nx ?_) | refine pK (CY _ _ _) ?_ | refine pK (hcs) ?_); try simp (disch := omega) only [A2,A4,go_sem,simprocAttr]) | ((with_reducible refine' cE ?hv ?_ ?_); (case hv => rfl); all_goals (intro hc; (try simp only [go_sem,simprocAttr] at hc))) | ((with_reducible refine Aa ?_ ?_) <;> intro hg <;> (try simp (disch := omega) only [hg,A2,A4,go_sem,simprocAttr]) <;> (try simp only [go_sem,simprocAttr] at hg) <;> (try (exfalso; omega))) | ((with_reducible refine fe ?_); refine ⟨_,(by simp only [Tryz.f29,A2,A4,go_sem,simprocAttr]; rfl),?_⟩; (try simp only [A2,A4,go_sem,simprocAttr,seval])) | fail)
 iterate 4 (first | exact bad (by omega) | omega)
 refine Aj (AJ (fun m f H => ∃ i : Nat,m = 6 - i ∧ i ≤ 6 ∧ (f 1 = .pim (A4 t) ∧ f 3 = .int .i64 (i : Int)) ∧ ∀ j,j < i → 0 ≤ Dl t j ∧ Dl t j ≤ 10000) 6
  ⟨0,rfl,Nat.zero_le _,by (and_intros <;> first | rfl | (simp only [A4,go_sem,simprocAttr]; done) | (simp only [A4,go_sem,simprocAttr]; rfl)),fun j hj => by omega⟩ ?_)
 rintro m f H ⟨i,rfl,hi,⟨h1,h3⟩,hlm⟩
 by_cases hlt : i < 6
 ·have hlim := Ml t hlt
  by_cases hg : 0 ≤ Dl t i ∧ Dl t i ≤ 10000
  ·repeat' (first | with_reducible (first | (refine sk ?_; intro K hK) | refine bk ?_ | apply_assumption -exfalso -symm only [*]) | ((first | (with_reducible first | refine rg (h := ?_) | refine nx ?_) | refine pK (CY _ _ _) ?_); try simp (disch := omega) only [h1,h3,hlim,hlt,hg,A4,go_sem,simprocAttr]) | ((with_reducible refine' cE ?hv ?_ ?_); (case hv => rfl); all_goals (intro hc; (try simp only [go_sem,simprocAttr] at hc); try (exfalso; omega))) | fail)
   exact ⟨6 - (i + 1),by omega,i + 1,rfl,by omega,rfl,fun j hj => by
    by_cases hji : j = i
    ·subst hji; exact hg
    ·exact hlm j (by omega)⟩
  ·have hb : false = AQ t := bad (by
    intro hh
    obtain ⟨-,-,-,⟨q0,q1,q2,q3,q4,q5⟩,-⟩ := hh
    refine hg ?_
    match i,hlt with
    | 0,_ => exact q0
    | 1,_ => exact q1
    | 2,_ => exact q2
    | 3,_ => exact q3
    | 4,_ => exact q4
    | 5,_ => exact q5)
   clear bad
   repeat' (first | with_reducible (first | (refine sk ?_; intro K hK) | refine bk ?_ | apply_assumption -exfalso -symm only [*]) | ((first | (with_reducible first | refine rg (h := ?_) | refine nx ?_) | refine pK (CY _ _ _) ?_); try simp (disch := omega) only [h1,h3,hlim,hlt,hg,A4,go_sem,simprocAttr]) | ((with_reducible refine' cE ?hv ?_ ?_); (case hv => rfl); all_goals (intro hc; (try simp only [go_sem,simprocAttr] at hc); try (exfalso; omega))) | ((with_reducible refine fe ?_); refine ⟨_,(by simp only [Tryz.f29,h1,h3,hlim,hlt,hg,A4,go_sem,simprocAttr]; rfl),?_⟩; (try simp only [h1,h3,hlim,hlt,hg,A4,go_sem,simprocAttr,seval])) | fail)
   all_goals exact hb
 ·obtain rfl : i = 6 := by omega
  have hh : El t = true := by
   have l0 := hlm 0 (by omega)
   have l1 := hlm 1 (by omega)
   have l2 := hlm 2 (by omega)
   have l3 := hlm 3 (by omega)
   have l4 := hlm 4 (by omega)
   have l5 := hlm 5 (by omega)
   simp only [Dl] at l0 l1 l2 l3 l4 l5
   simp only [El,decide_eq_true_eq]; omega
  have hT : AQ t = Ad t.fin 0 t.notes := by rw [AQ,hh,Bool.true_and]
  clear bad hlm hcs
  repeat' (first | with_reducible (first | (refine sk ?_; intro K hK) | apply_assumption -exfalso -symm only [*]) | ((with_reducible first | refine rg (h := ?_) | refine nx ?_); try simp (disch := omega) only [h1,h3,A4,go_sem,simprocAttr]) | ((with_reducible refine' cE ?hv ?_ ?_); (case hv => rfl); all_goals (intro hc; (try simp only [go_sem,simprocAttr] at hc))) | fail)
  refine Aj (AJ (fun m f H => ∃ i : Nat,m = t.notes.length - i ∧ i ≤ t.notes.length ∧ (f 1 = .pim (A4 t) ∧ f 4 = .int .i64 (i : Int)) ∧ ∃ last,0 ≤ last ∧ last ≤ 3600 ∧ (∀ j p,i = j + 1 → t.notes[j]? = some p → p.sec = last) ∧ (i = 0 → last = 0) ∧ Ad t.fin 0 t.notes = Ad t.fin last (t.notes.drop i)) t.notes.length
   ⟨0,rfl,Nat.zero_le _,by (and_intros <;> first | rfl | (simp only [h1,go_sem,simprocAttr]; done) | (simp only [h1,go_sem,simprocAttr]; rfl)),0,by omega,by omega,fun j p h => by omega,fun _ => rfl,rfl⟩ ?_)
  have hfin : t.fin ≤ 3600 := by
   simp only [El,decide_eq_true_eq] at hh; omega
  clear h1 h3
  rintro m f H ⟨i,rfl,hi,⟨h1,h4⟩,last,hl1,hl2,hp,h0,hr⟩
  by_cases hlt : i < t.notes.length
  ·obtain ⟨n,hn⟩ : ∃ x,t.notes[i]? = some x := ⟨_,List.getElem?_eq_getElem hlt⟩
   have hna := I0 hn
   have hkb := hkd n (List.mem_of_getElem? hn)
   have hcs := Ie n.off (-200) 200
   simp only [A9] at hcs
   rw [Ai hn] at hr
   simp only [Ad] at hr
   have bad : Cu last t.fin n = false → false = AQ t := fun h => by rw [hT,hr,h]; rfl
   have good : Cu last t.fin n = true → ∃ m',m' < t.notes.length - i ∧ ∃ i',m' = t.notes.length - i' ∧ i' ≤ t.notes.length ∧ Val.int .i64 ((i + 1 : Nat) : Int) = .int .i64 (i' : Int) ∧ ∃ last,0 ≤ last ∧ last ≤ 3600 ∧ (∀ j p,i' = j + 1 → t.notes[j]? = some p → p.sec = last) ∧ (i' = 0 → last = 0) ∧ Ad t.fin 0 t.notes = Ad t.fin last (t.notes.drop i') := fun h => by
    have hs := DA h
    refine ⟨t.notes.length - (i + 1),by omega,i + 1,rfl,by omega,rfl,n.sec,by omega,by omega,fun j p hj hp9 => ?_,fun h => by omega,by rw [hr,h,Bool.true_and]⟩
    have hji : j = i := by omega
    rw [hji,hn] at hp9; cases hp9; rfl
   simp only [cNote] at hna
   simp only [Cu,Ji,Bool.and_eq_false_iff,decide_eq_false_iff_not] at bad
   simp only [Cu,Ji,Bool.and_eq_true,decide_eq_true_eq] at good
   refine Bo [] ?_
   cases i with
   | zero =>
    have := h0 rfl
    subst this
    repeat' (first | with_reducible (first | (refine sk ?_; intro K hK) | refine bk ?_ | intro (ep : Nat → Nat) | apply_assumption -exfalso -symm only [*]) | ((first | (with_reducible first | refine rg (h := ?_) | refine nx ?_) | refine pK (CY _ _ _) ?_ | refine pK (hcs) ?_); try simp (disch := omega) only [h1,h4,hna,hlt,A4,go_sem,simprocAttr]) | ((with_reducible refine' cE ?hv ?_ ?_); (case hv => rfl); all_goals (intro hc; (try simp only [go_sem,simprocAttr] at hc); try (exfalso; omega))) | ((with_reducible refine Aa ?_ ?_) <;> intro hg <;> (try simp (disch := omega) only [hg,h1,h4,hna,hlt,A4,go_sem,simprocAttr]) <;> (try simp only [go_sem,simprocAttr] at hg) <;> (try (exfalso; omega))) | ((with_reducible refine fe ?_); refine ⟨_,(by simp only [Tryz.f29,h1,h4,hna,hlt,A4,go_sem,simprocAttr]; rfl),?_⟩; (try simp only [h1,h4,hna,hlt,A4,go_sem,simprocAttr,seval])) | fail)
    all_goals omega
   | succ j =>
    obtain ⟨p,hpj⟩ : ∃ x,t.notes[j]? = some x := ⟨_,List.getElem?_eq_getElem (by omega)⟩
    have hps := hp j p rfl hpj
    have hpa := I0 hpj
    simp only [cNote] at hpa
    have hjl : j < t.notes.length := by omega
    repeat' (first | with_reducible (first | (refine sk ?_; intro K hK) | refine bk ?_ | intro (ep : Nat → Nat) | apply_assumption -exfalso -symm only [*]) | ((first | (with_reducible first | refine rg (h := ?_) | refine nx ?_) | refine pK (CY _ _ _) ?_ | refine pK (hcs) ?_); try simp (disch := omega) only [h1,h4,hna,hlt,hpa,hjl,A4,go_sem,simprocAttr]) | ((with_reducible refine' cE ?hv ?_ ?_); (case hv => rfl); all_goals (intro hc; (try simp only [go_sem,simprocAttr] at hc); try (exfalso; omega))) | ((with_reducible refine Aa ?_ ?_) <;> intro hg <;> (try simp (disch := omega) only [hg,h1,h4,hna,hlt,hpa,hjl,A4,go_sem,simprocAttr]) <;> (try simp only [go_sem,simprocAttr] at hg) <;> (try (exfalso; omega))) | ((with_reducible refine fe ?_); refine ⟨_,(by simp only [Tryz.f29,h1,h4,hna,hlt,hpa,hjl,A4,go_sem,simprocAttr]; rfl),?_⟩; (try simp only [h1,h4,hna,hlt,hpa,hjl,A4,go_sem,simprocAttr,seval])) | fail)
    all_goals omega
  ·obtain rfl : i = t.notes.length := by omega
   have hOK : true = AQ t := by rw [hT,hr,Bd (Nat.le_refl _)]; rfl
   repeat' (first | with_reducible (first | (refine sk ?_; intro K hK) | apply_assumption -exfalso -symm only [*]) | ((with_reducible first | refine rg (h := ?_) | refine nx ?_); try simp (disch := omega) only [h1,h4,A4,go_sem,simprocAttr]) | ((with_reducible refine' cE ?hv ?_ ?_); (case hv => rfl); all_goals (intro hc; (try simp only [go_sem,simprocAttr] at hc); try (exfalso; omega))) | ((with_reducible refine fe ?_); refine ⟨_,(by simp only [Tryz.f29,h1,h4,A4,go_sem,simprocAttr]; rfl),?_⟩; (try simp only [h1,h4,A4,go_sem,simprocAttr,seval])) | fail)
   all_goals exact hOK
end Cp
namespace Cp
open Go Go.Proofs
set_option maxRecDepth 10000
set_option maxHeartbeats 1000000
theorem O0 (t : TestT) (hb : TestB t) : PureC Tryz.prog 45 [A2 t] (.int .i64 (Ak t)) := by
 have hnl := hb.notes
 have hck := PQ t.run t.rules hb.run hb.rules
 simp only [A7,A6,A1,A3] at hck
 unfold Ak
 by_cases hE : Az t.run t.rules = 0
 ·rw [if_pos hE]
  rw [hE] at hck
  have hR : t.run.rows.length ≤ 60 := by
   have h1 : CB t.run = true := by unfold Az at hE; split at hE <;> simp_all
   exact (CS h1).rows.2.1
  have hTs := Qz t hnl hR hb.kinds
  simp only [A2,A4] at hTs
  by_cases hT : AQ t = true
  ·rw [if_pos hT]
   rw [hT] at hTs
   simp only [AQ,El,Bool.and_eq_true,decide_eq_true_eq] at hT
   obtain ⟨hH,hN⟩ := hT
   have hse := fun k hk => LF t hnl hN (by omega) k hk
   simp only [RP hN,A2,A4] at hse
   obtain ⟨res,hres⟩ : ∃ res : Int,(if BT t = true then 21 else 0) = res := ⟨_,rfl⟩
   rw [hres]
   refine A8 (fn := Tryz.f45) tabOK (by kernel_rfl) rfl (by kernel_rfl) (by simp [Tryz.f45]) (by simp [noids,noid,noidss,go_sem,A2,A4]) (by first | rfl | simp [noids,noid,noidss,go_sem,A2,A4]) ?_
   intro X hX0 hXs
   repeat' (first | with_reducible (first | (refine sk ?_; intro K hK) | apply_assumption -exfalso -symm only [*]) | ((first | (with_reducible first | refine rg (h := ?_) | refine nx ?_) | refine pK (hck) ?_ | refine pK (hTs) ?_); try simp (disch := omega) only [A2,A4,A7,A6,A1,A3,go_sem,simprocAttr]) | ((with_reducible refine' cE ?hv ?_ ?_); (case hv => rfl); all_goals (intro hc; (try simp only [go_sem,simprocAttr] at hc))) | fail)
   refine Aj (AJ (fun m f H => ∃ i : Nat,m = 6 - i ∧ i ≤ 6 ∧ (f 1 = .pim (A4 t) ∧ f 4 = .int .u8 ((i + 1 : Nat) : Int)) ∧ ∀ c,c < i → Cc t c = false) 6
    ⟨0,rfl,Nat.zero_le _,by (and_intros <;> first | rfl | (simp only [A4,go_sem,simprocAttr]; done) | (simp only [A4,go_sem,simprocAttr]; rfl)),fun c hc => by omega⟩ ?_)
   clear hck hTs
   rintro m f H ⟨i,rfl,hi,⟨h1,h4⟩,hlm⟩
   by_cases hlt : i < 6
   ·have hs := hse i hlt
    have htw := MO i hN
    have hw : IntKind.u8.wrap ((i + 1 + 1 : Nat) : Int) = ((i + 1 + 1 : Nat) : Int) := IntWalk.u8_in _ (by omega)
    have r21 : Cc t i = true → 21 = res := fun h => by
     rw [← hres,if_pos]
     rw [BT,List.any_eq_true]
     exact ⟨i,by simpa using hlt,h⟩
    have hnx : Cc t i = false → ∀ c,c < i + 1 → Cc t c = false := fun h c hc => by
     by_cases hci : c = i
     ·subst hci; exact h
     ·exact hlm c (by omega)
    rw [htw] at r21 hnx
    clear hse hlm hres
    generalize frC t i = lo at *
    generalize toC t i = hi2 at *
    generalize (D6 t i).isSome = sure at *
    cases sure with
    | false =>
     repeat' (first | with_reducible (first | (refine sk ?_; intro K hK) | refine bk ?_ | apply_assumption -exfalso -symm only [*]) | ((first | (with_reducible first | refine rg (h := ?_) | refine nx ?_) | refine pK (hs) ?_); try simp (disch := omega) only [h1,h4,hw,A4,go_sem,simprocAttr]) | ((with_reducible refine' cE ?hv ?_ ?_); (case hv => rfl); all_goals (intro hc; (try simp only [go_sem,simprocAttr] at hc); try (exfalso; omega))) | fail)
     exact ⟨6 - (i + 1),by omega,i + 1,rfl,by omega,rfl,hnx (by simp)⟩
    | true =>
     by_cases hlo : hi2 < lo
     ·have := r21 (by simp [hlo])
      clear r21 hnx
      repeat' (first | with_reducible (first | (refine sk ?_; intro K hK) | refine bk ?_ | apply_assumption -exfalso -symm only [*]) | ((first | (with_reducible first | refine rg (h := ?_) | refine nx ?_) | refine pK (hs) ?_); try simp (disch := omega) only [h1,h4,hw,hlo,A4,go_sem,simprocAttr]) | ((with_reducible refine' cE ?hv ?_ ?_); (case hv => rfl); all_goals (intro hc; (try simp only [go_sem,simprocAttr] at hc); try (exfalso; omega))) | ((with_reducible refine fe ?_); refine ⟨_,(by simp only [Tryz.f45,h1,h4,hw,hlo,A4,go_sem,simprocAttr]; rfl),?_⟩; (try simp only [h1,h4,hw,hlo,A4,go_sem,simprocAttr,seval])) | fail)
     ·repeat' (first | with_reducible (first | (refine sk ?_; intro K hK) | refine bk ?_ | apply_assumption -exfalso -symm only [*]) | ((first | (with_reducible first | refine rg (h := ?_) | refine nx ?_) | refine pK (hs) ?_); try simp (disch := omega) only [h1,h4,hw,hlo,A4,go_sem,simprocAttr]) | ((with_reducible refine' cE ?hv ?_ ?_); (case hv => rfl); all_goals (intro hc; (try simp only [go_sem,simprocAttr] at hc); try (exfalso; omega))) | fail)
      exact ⟨6 - (i + 1),by omega,i + 1,rfl,by omega,rfl,hnx (by simp [hlo])⟩
   ·obtain rfl : i = 6 := by omega
    have h0 : 0 = res := by
     rw [← hres,if_neg]
     rw [BT,List.any_eq_true]
     rintro ⟨c,hc,h⟩
     rw [hlm c (by simpa using hc)] at h
     cases h
    clear hse hlm hres
    repeat' (first | with_reducible (first | (refine sk ?_; intro K hK) | apply_assumption -exfalso -symm only [*]) | ((with_reducible first | refine rg (h := ?_) | refine nx ?_); try simp (disch := omega) only [h1,h4,A4,go_sem,simprocAttr]) | ((with_reducible refine' cE ?hv ?_ ?_); (case hv => rfl); all_goals (intro hc; (try simp only [go_sem,simprocAttr] at hc))) | ((with_reducible refine fe ?_); refine ⟨_,(by simp only [Tryz.f45,h1,h4,A4,go_sem,simprocAttr]; rfl),?_⟩; (try simp only [h1,h4,A4,go_sem,simprocAttr,seval])) | fail)
    all_goals exact h0
  ·rw [if_neg hT]
   rw [Bool.eq_false_iff.2 hT] at hTs
   refine A8 (fn := Tryz.f45) tabOK (by kernel_rfl) rfl (by kernel_rfl) (by simp [Tryz.f45]) (by simp [noids,noid,noidss,go_sem,A2,A4]) (by first | rfl | simp [noids,noid,noidss,go_sem,A2,A4]) ?_
   intro X hX0 hXs
   repeat' (first | with_reducible (first | (refine sk ?_; intro K hK) | apply_assumption -exfalso -symm only [*]) | ((first | (with_reducible first | refine rg (h := ?_) | refine nx ?_) | refine pK (hck) ?_ | refine pK (hTs) ?_); try simp (disch := omega) only [A2,A4,A7,A6,A1,A3,go_sem,simprocAttr]) | ((with_reducible refine' cE ?hv ?_ ?_); (case hv => rfl); all_goals (intro hc; (try simp only [go_sem,simprocAttr] at hc))) | ((with_reducible refine fe ?_); refine ⟨_,(by simp only [Tryz.f45,A2,A4,A7,A6,A1,A3,go_sem,simprocAttr]; rfl),?_⟩; rfl) | fail)
 ·rw [if_neg hE]
  refine A8 (fn := Tryz.f45) tabOK (by kernel_rfl) rfl (by kernel_rfl) (by simp [Tryz.f45]) (by simp [noids,noid,noidss,go_sem,A2,A4]) (by first | rfl | simp [noids,noid,noidss,go_sem,A2,A4]) ?_
  intro X hX0 hXs
  repeat' (first | with_reducible (first | (refine sk ?_; intro K hK) | apply_assumption -exfalso -symm only [*]) | ((first | (with_reducible first | refine rg (h := ?_) | refine nx ?_) | refine pK (hck) ?_); try simp (disch := omega) only [A2,A4,A7,A6,A1,A3,hE,go_sem,simprocAttr]) | ((with_reducible refine' cE ?hv ?_ ?_); (case hv => rfl); all_goals (intro hc; (try simp only [go_sem,simprocAttr] at hc))) | ((with_reducible refine fe ?_); refine ⟨_,(by simp only [Tryz.f45,A2,A4,A7,A6,A1,A3,hE,go_sem,simprocAttr]; rfl),?_⟩; rfl) | fail)
end Cp
namespace Cp
open Go Go.Proofs
set_option maxRecDepth 10000
set_option maxHeartbeats 1000000
end Cp
namespace Cp
open Go Go.Proofs
set_option maxRecDepth 10000
set_option maxHeartbeats 1000000
end Cp
namespace Cp
open Go Go.Proofs
set_option maxRecDepth 10000
set_option maxHeartbeats 1000000
end Cp
namespace Cp
open Go Go.Proofs
set_option maxRecDepth 10000
set_option maxHeartbeats 1000000
def FA (t : TestT) : Bool := EB t.run t.rules || decide (80 < t.notes.length)
theorem Ob (t : TestT) : PureC Tryz.prog 12 [A2 t] (.bool (FA t)) := by
 have hg := RA t.run t.rules
 simp only [A7,A6,A1,A3] at hg
 unfold FA
 generalize EB t.run t.rules = g at *
 refine A8 (fn := Tryz.f12) tabOK (by kernel_rfl) rfl (by kernel_rfl) (by simp [Tryz.f12]) (by simp [noids,noid,noidss,go_sem,A2,A4]) (by first | rfl | simp [noids,noid,noidss,go_sem,A2,A4]) ?_
 intro X hX0 hXs
 cases g with
 | true =>
  repeat' (first | with_reducible (first | (refine sk ?_; intro K hK) | apply_assumption -exfalso -symm only [*]) | ((first | (with_reducible first | refine rg (h := ?_) | refine nx ?_) | refine pK (hg) ?_); try simp (disch := omega) only [A2,A4,A7,A6,A1,A3,go_sem,simprocAttr]) | ((with_reducible refine fe ?_); refine ⟨_,(by simp only [Tryz.f12,A2,A4,A7,A6,A1,A3,go_sem,simprocAttr]; rfl),?_⟩; rfl) | fail)
 | false =>
  repeat' (first | with_reducible (first | (refine sk ?_; intro K hK) | apply_assumption -exfalso -symm only [*]) | ((first | (with_reducible first | refine rg (h := ?_) | refine nx ?_) | refine pK (hg) ?_); try simp (disch := omega) only [A2,A4,A7,A6,A1,A3,go_sem,simprocAttr]) | ((with_reducible refine fe ?_); refine ⟨_,(by simp only [Tryz.f12,A2,A4,A7,A6,A1,A3,go_sem,simprocAttr]; rfl),?_⟩; (try simp only [A2,A4,A7,A6,A1,A3,go_sem,simprocAttr,seval])) | fail)
  rw [Bool.eq_iff_iff]; simp only [decide_eq_true_eq]; omega
theorem QC (t : TestT) (hr : RunSm t.run) (hu : t.rules.steps.length ≤ 1073741824) (hn : t.notes.length ≤ 1073741824) : PureC Tryz.prog 13 [A2 t] (A2 t) := by
 have h1 := T5 t.run hr
 have h2 := LT t.rules hu
 simp only [A7,A6,A1,A3] at h1 h2
 refine A8 (fn := Tryz.f13) tabOK (by kernel_rfl) rfl (by kernel_rfl) (by simp [Tryz.f13]) (by simp [noids,noid,noidss,go_sem,A2,A4]) (by first | rfl | simp [noids,noid,noidss,go_sem,A2,A4]) ?_
 intro X hX0 hXs
 repeat' (first | with_reducible (first | (refine sk ?_; intro K hK) | intro (ep : Nat → Nat) | apply_assumption -exfalso -symm only [*]) | ((first | (with_reducible first | refine rg (md := { base := 0,own := [1] }) (h := ?_) | refine nx ?_) | refine pK (h1) ?_ | refine pK (h2) ?_); try simp (disch := omega) only [A2,A4,A7,A6,A1,A3,hn,go_sem,simprocAttr]) | ((with_reducible refine fe ?_); refine ⟨_,(by simp only [Tryz.f13,A2,A4,A7,A6,A1,A3,hn,go_sem,simprocAttr]; rfl),?_⟩; (try simp only [A2,A4,A7,A6,A1,A3,hn,go_sem,simprocAttr,seval])) | fail)
end Cp
namespace Cp
open Go Go.Proofs
set_option maxRecDepth 10000
set_option maxHeartbeats 4000000
theorem r2classes_ok : PureC Tryz.prog 33 [] (.lst 1 (BO clsL)) := by
 refine A8 (fn := Tryz.f33) tabOK (by kernel_rfl) rfl (by kernel_rfl) (by simp [Tryz.f33]) (by simp [noids,noid,noidss,go_sem,clsL,BO]) (by first | rfl | simp [noids,noid,noidss,go_sem,clsL,BO]) ?_
 intro X hX0 hXs
 repeat' (first | with_reducible (first | (refine sk ?_; intro K hK) | apply_assumption -exfalso -symm only [*]) | ((with_reducible first | refine rg (h := ?_) | refine nx ?_); try simp (disch := omega) only [clsL,BO,go_sem,simprocAttr]) | ((with_reducible refine fe ?_); refine ⟨_,(by simp only [Tryz.f33,clsL,BO,go_sem,simprocAttr]; rfl),?_⟩; rfl) | fail)
end Cp
namespace Cp
open Go Go.Proofs
set_option maxRecDepth 10000
set_option maxHeartbeats 2000000
theorem O9 {p : Int → Bool} {l : List Int} {x b : Int} : I9 p (l ++ [x]) b = if p x = true then x else I9 p l b := by
 unfold I9; rw [List.foldl_append]; rfl
end Cp
namespace Cp
open Go Go.Proofs
set_option maxRecDepth 10000
set_option maxHeartbeats 2000000
end Cp
namespace Cp
open Go Go.Proofs
set_option maxRecDepth 10000
set_option maxHeartbeats 1000000
end Cp
namespace Cp
open Go
theorem OX {α : Type} {c : α → List Val} : ∀ {xss : List (List Val)},(∀ es ∈ xss,∃ x,es = c x) → ∃ l : List α,xss = l.map c
 | [],_ => ⟨[],rfl⟩
 | es :: xss,h => by
  obtain ⟨x,rfl⟩ := h es (by simp)
  obtain ⟨l,rfl⟩ := OX fun es he => h es (List.mem_cons_of_mem _ he)
  exact ⟨x :: l,rfl⟩
theorem Ep {T : Tab} {n : Nat} {t e sz : Nat} {vs : List Val} {b b2 s1 : Nat} {z z2 : Val} {p p2 : Bool} {k2 : TK} {α : Type} {c : α → List Val} (ht : T t = some ⟨.slice e,s1,b,z,p⟩)
  (he : T e = some ⟨k2,sz,b2,z2,p2⟩) (h : Fit T (n + 1) t vs) (hc : ∀ es,Fit T n e es → ∃ x,es = c x) : ∃ l : List α,vs = [.lst sz (l.map c)] := by
 simp only [Fit,ht] at h
 obtain ⟨sz',xss,rfl,hs,_,hx⟩ := h
 rw [he] at hs
 cases hs
 obtain ⟨l,rfl⟩ := OX (c := c) fun es hes => hc es (hx es hes).2
 exact ⟨l,rfl⟩
theorem Cl {T : Tab} {n : Nat} {t sz : Nat} {vs : List Val} {b : Nat} {z : Val} {p : Bool} {fs : List (Nat × Nat)} (ht : T t = some ⟨.struct fs,sz,b,z,p⟩) (h : Fit T (n + 1) t vs) :
  vs.length = sz ∧ ∀ q ∈ fs,∃ fi,T q.2 = some fi ∧ Fit T n q.2 ((vs.drop q.1).take fi.sz) := by
 simp only [Fit,ht] at h
 exact h
theorem M6 {T : Tab} {n : Nat} {t : Nat} {vs : List Val} {s b : Nat} {z : Val} {p : Bool} {k : IntKind} (ht : T t = some ⟨.int k,s,b,z,p⟩) (h : Fit T (n + 1) t vs) : ∃ m,vs = [.int k m] ∧ (Lit.int k m).wf = true := by
 simp only [Fit,ht] at h
 exact h
theorem Gj {n : Nat} {vs : List Val} (h : Fit tab (n + 1) 3 vs) : ∃ m,vs = [.int .i64 m] := by
 obtain ⟨m,h,_⟩ := M6 tab_3 h; exact ⟨m,h⟩
theorem Sf {n : Nat} {vs : List Val} {t b s1 : Nat} {z : Val} {p : Bool} (ht : tab t = some ⟨.slice 3,s1,b,z,p⟩) (h : Fit tab (n + 2) t vs) : ∃ l : List Int,vs = [.lst 1 (BO l)] := by
 obtain ⟨l,rfl⟩ := Ep (c := fun m : Int => [Val.int .i64 m]) ht tab_3 h fun es he => Gj he
 exact ⟨l,rfl⟩
theorem LG {n : Nat} {vs : List Val} {t b : Nat} {z : Val} {p : Bool} (ht : tab t = some ⟨.struct [(0,3),(1,3)],2,b,z,p⟩) (h : Fit tab (n + 2) t vs) : ∃ x y : Int,vs = [.int .i64 x,.int .i64 y] := by
 obtain ⟨hl,hq⟩ := Cl ht h
 match vs,hl with
 | [a,b],_ =>
  obtain ⟨fi,e,h0⟩ := hq (0,3) (by simp)
  rw [tab_3] at e; cases e
  obtain ⟨fi,e,h1⟩ := hq (1,3) (by simp)
  rw [tab_3] at e; cases e
  obtain ⟨x,hx⟩ := Gj h0
  obtain ⟨y,hy⟩ := Gj h1
  simp at hx hy
  exact ⟨x,y,by rw [hx,hy]⟩
theorem Ec {n : Nat} {vs : List Val} (h : Fit tab (n + 2) 26 vs) : ∃ s : Span,vs = [.int .i64 s.lo,.int .i64 s.hi] := by
 obtain ⟨x,y,h⟩ := LG tab_26 h; exact ⟨⟨x,y⟩,h⟩
theorem WN {n : Nat} {vs : List Val} (h : Fit tab (n + 2) 139 vs) : ∃ x : Pt,vs = cPt x := by
 obtain ⟨x,y,h⟩ := LG tab_139 h; exact ⟨⟨x,y⟩,h⟩
theorem QO {n : Nat} {vs : List Val} (h : Fit tab (n + 2) 66 vs) : ∃ x : StepT,vs = cStep x := by
 obtain ⟨x,y,h⟩ := LG tab_66 h; exact ⟨⟨x,y⟩,h⟩
theorem TQ {n : Nat} {vs : List Val} (h : Fit tab (n + 3) 136 vs) : ∃ x : Cpl,vs = cCpl x := by
 obtain ⟨hl,hq⟩ := Cl tab_136 h
 match vs,hl with
 | [a,b,c,d,e,f],_ =>
  obtain ⟨fi,e0,h0⟩ := hq (0,3) (by simp)
  rw [tab_3] at e0; cases e0
  obtain ⟨fi,e1,h1⟩ := hq (1,26) (by simp)
  rw [tab_26] at e1; cases e1
  obtain ⟨fi,e2,h2⟩ := hq (3,26) (by simp)
  rw [tab_26] at e2; cases e2
  obtain ⟨fi,e3,h3⟩ := hq (5,3) (by simp)
  rw [tab_3] at e3; cases e3
  obtain ⟨x0,h0⟩ := Gj h0
  obtain ⟨x1,h1⟩ := Ec h1
  obtain ⟨x2,h2⟩ := Ec h2
  obtain ⟨x3,h3⟩ := Gj h3
  simp at h0 h1 h2 h3
  obtain ⟨h1,h1'⟩ := h1
  obtain ⟨h2,h2'⟩ := h2
  exact ⟨⟨x0,x1,x2,x3⟩,by rw [h0,h1,h1',h2,h2',h3]; rfl⟩
theorem UG {n : Nat} {vs : List Val} (h : Fit tab (n + 3) 126 vs) : ∃ x : RowT,vs = cRow x := by
 obtain ⟨hl,hq⟩ := Cl tab_126 h
 match vs,hl with
 | [a,b],_ =>
  obtain ⟨fi,e0,h0⟩ := hq (0,75) (by simp)
  rw [tab_75] at e0; cases e0
  obtain ⟨fi,e1,h1⟩ := hq (1,3) (by simp)
  rw [tab_3] at e1; cases e1
  obtain ⟨x0,h0⟩ := Sf tab_75 h0
  obtain ⟨x1,h1⟩ := Gj h1
  simp at h0 h1
  exact ⟨⟨x0,x1⟩,by rw [h0,h1]; rfl⟩
theorem TH {n : Nat} {vs : List Val} (h : Fit tab (n + 3) 22 vs) : ∃ l : List Pt,vs = [.lst 2 (l.map cPt)] := Ep tab_22 tab_139 h fun es he => WN he
theorem UF {n : Nat} {vs : List Val} (h : Fit tab (n + 5) 28 vs) : ∃ r : RunT,vs = A6 r := by
 obtain ⟨hl,hq⟩ := Cl tab_28 h
 match vs,hl with
 | [a,b,c,d,e,f],_ =>
  obtain ⟨fi,e0,h0⟩ := hq (0,3) (by simp)
  rw [tab_3] at e0; cases e0
  obtain ⟨fi,e1,h1⟩ := hq (1,22) (by simp)
  rw [tab_22] at e1; cases e1
  obtain ⟨fi,e2,h2⟩ := hq (2,23) (by simp)
  rw [tab_23] at e2; cases e2
  obtain ⟨fi,e3,h3⟩ := hq (3,24) (by simp)
  rw [tab_24] at e3; cases e3
  obtain ⟨fi,e4,h4⟩ := hq (4,26) (by simp)
  rw [tab_26] at e4; cases e4
  obtain ⟨x0,h0⟩ := Gj h0
  obtain ⟨x1,h1⟩ := TH h1
  obtain ⟨x2,h2⟩ := Ep tab_23 tab_136 h2 fun es he => TQ he
  obtain ⟨x3,h3⟩ := Ep tab_24 tab_126 h3 fun es he => UG he
  obtain ⟨x4,h4⟩ := Ec h4
  simp at h0 h1 h2 h3 h4
  obtain ⟨h4,h4'⟩ := h4
  exact ⟨⟨x0,x1,x2,x3,x4⟩,by rw [h0,h1,h2,h3,h4,h4']; rfl⟩
theorem QE {n : Nat} {vs : List Val} (h : Fit tab (n + 5) 31 vs) : ∃ u : RulesT,vs = A3 u := by
 obtain ⟨hl,hq⟩ := Cl tab_31 h
 match vs,hl with
 | [a,b,c,d,e,f],_ =>
  obtain ⟨fi,e0,h0⟩ := hq (0,29) (by simp)
  rw [tab_29] at e0; cases e0
  obtain ⟨fi,e1,h1⟩ := hq (1,3) (by simp)
  rw [tab_3] at e1; cases e1
  obtain ⟨fi,e2,h2⟩ := hq (2,3) (by simp)
  rw [tab_3] at e2; cases e2
  obtain ⟨fi,e3,h3⟩ := hq (3,26) (by simp)
  rw [tab_26] at e3; cases e3
  obtain ⟨fi,e4,h4⟩ := hq (5,3) (by simp)
  rw [tab_3] at e4; cases e4
  obtain ⟨x0,h0⟩ := Ep tab_29 tab_66 h0 fun es he => QO he
  obtain ⟨x1,h1⟩ := Gj h1
  obtain ⟨x2,h2⟩ := Gj h2
  obtain ⟨x3,h3⟩ := Ec h3
  obtain ⟨x4,h4⟩ := Gj h4
  simp at h0 h1 h2 h3 h4
  obtain ⟨h3,h3'⟩ := h3
  exact ⟨⟨x0,x1,x2,x3,x4⟩,by rw [h0,h1,h2,h3,h3',h4]; rfl⟩
theorem arg_byte {a : Val} (h : VF tab 8 5 a) : ∃ m,a = .int .u8 m ∧ 0 ≤ m ∧ m ≤ 255 := by
 obtain ⟨ti,cs,e,h,_,rfl⟩ := h
 obtain ⟨m,rfl,hw⟩ := M6 tab_5 h
 rw [tab_5] at e; cases e
 simp [Lit.wf,IntKind.min,IntKind.max,IntKind.signed,IntKind.bits] at hw
 exact ⟨m,rfl,by omega,by omega⟩
theorem SI {n : Nat} {vs : List Val} (h : Fit tab (n + 3) 70 vs) : ∃ x : NoteT,vs = cNote x ∧ 0 ≤ x.kind ∧ x.kind ≤ 255 := by
 obtain ⟨hl,hq⟩ := Cl tab_70 h
 match vs,hl with
 | [a,b,c,d,e],_ =>
  obtain ⟨fi,e0,h0⟩ := hq (0,3) (by simp)
  rw [tab_3] at e0; cases e0
  obtain ⟨fi,e1,h1⟩ := hq (1,5) (by simp)
  rw [tab_5] at e1; cases e1
  obtain ⟨fi,e2,h2⟩ := hq (2,3) (by simp)
  rw [tab_3] at e2; cases e2
  obtain ⟨fi,e3,h3⟩ := hq (3,26) (by simp)
  rw [tab_26] at e3; cases e3
  obtain ⟨x0,h0⟩ := Gj h0
  obtain ⟨x1,h1,hw⟩ := M6 tab_5 h1
  obtain ⟨x2,h2⟩ := Gj h2
  obtain ⟨x3,h3⟩ := Ec h3
  simp [Lit.wf,IntKind.min,IntKind.max,IntKind.signed,IntKind.bits] at hw
  simp at h0 h1 h2 h3
  obtain ⟨h3,h3'⟩ := h3
  exact ⟨⟨x0,x1,x2,x3⟩,by rw [h0,h1,h2,h3,h3']; rfl,by simp only; omega,by simp only; omega⟩
theorem Mr {α : Type} {c : α → List Val} {p : α → Prop} : ∀ {xss : List (List Val)},(∀ es ∈ xss,∃ x,es = c x ∧ p x) → ∃ l : List α,xss = l.map c ∧ ∀ x ∈ l,p x
 | [],_ => ⟨[],rfl,fun x h => by simp at h⟩
 | es :: xss,h => by
  obtain ⟨x,rfl,hp⟩ := h es (by simp)
  obtain ⟨l,rfl,hl⟩ := Mr fun es he => h es (List.mem_cons_of_mem _ he)
  exact ⟨x :: l,rfl,fun y hy => by rcases List.mem_cons.1 hy with rfl | hy; exact hp; exact hl y hy⟩
theorem Oi {T : Tab} {n : Nat} {t e sz : Nat} {vs : List Val} {b b2 s1 : Nat} {z z2 : Val} {p p2 : Bool} {k2 : TK} {α : Type} {c : α → List Val} {q : α → Prop} (ht : T t = some ⟨.slice e,s1,b,z,p⟩)
  (he : T e = some ⟨k2,sz,b2,z2,p2⟩) (h : Fit T (n + 1) t vs) (hc : ∀ es,Fit T n e es → ∃ x,es = c x ∧ q x) : ∃ l : List α,vs = [.lst sz (l.map c)] ∧ ∀ x ∈ l,q x := by
 simp only [Fit,ht] at h
 obtain ⟨sz',xss,rfl,hs,_,hx⟩ := h
 rw [he] at hs
 cases hs
 obtain ⟨l,rfl,hq⟩ := Mr (c := c) fun es hes => hc es (hx es hes).2
 exact ⟨l,rfl,hq⟩
theorem Qo {T : Tab} {n : Nat} {t sz m e : Nat} {vs : List Val} {b : Nat} {z : Val} {p : Bool} (ht : T t = some ⟨.array m e,sz,b,z,p⟩) (h : Fit T (n + 1) t vs) :
  vs.length = sz ∧ ∀ i,i < m → ∃ fi,T e = some fi ∧ Fit T n e ((vs.drop (i * fi.sz)).take fi.sz) := by
 simp only [Fit,ht] at h
 exact h
theorem Su {n : Nat} {vs : List Val} (h : Fit tab (n + 2) 32 vs) : ∃ a b c d e g : Int,vs = [.int .i64 a,.int .i64 b,.int .i64 c,.int .i64 d,.int .i64 e,.int .i64 g] := by
 obtain ⟨hl,hq⟩ := Qo tab_32 h
 match vs,hl with
 | [a,b,c,d,e,g],_ =>
  have q := fun i hi => hq i hi
  have one : ∀ i v,i < 6 → ([a,b,c,d,e,g] : List Val)[i]? = some v → ∃ m,v = .int .i64 m := by
   intro i v hi hv
   obtain ⟨fi,ef,hf⟩ := q i hi
   rw [tab_3] at ef; cases ef
   obtain ⟨m,hm⟩ := Gj hf
   refine ⟨m,?_⟩
   have : ((([a,b,c,d,e,g] : List Val).drop (i * 1)).take 1)[0]? = some (.int .i64 m) := by rw [hm]; rfl
   rw [List.getElem?_take,if_pos (by decide),List.getElem?_drop,Nat.mul_one,Nat.add_zero,hv] at this
   exact Option.some.inj this
  obtain ⟨m0,rfl⟩ := one 0 a (by decide) rfl
  obtain ⟨m1,rfl⟩ := one 1 b (by decide) rfl
  obtain ⟨m2,rfl⟩ := one 2 c (by decide) rfl
  obtain ⟨m3,rfl⟩ := one 3 d (by decide) rfl
  obtain ⟨m4,rfl⟩ := one 4 e (by decide) rfl
  obtain ⟨m5,rfl⟩ := one 5 g (by decide) rfl
  exact ⟨m0,m1,m2,m3,m4,m5,rfl⟩
def Iu (t : TestT) : Prop := ∀ n ∈ t.notes,0 ≤ n.kind ∧ n.kind ≤ 255
set_option maxHeartbeats 2000000 in
theorem SH {n : Nat} {vs : List Val} (h : Fit tab (n + 6) 35 vs) : ∃ t : TestT,vs = A4 t ∧ Iu t := by
 obtain ⟨hl,hq⟩ := Cl tab_35 h
 have cut : ∀ (vs : List Val),vs.length = 23 → vs = vs.take 1 ++ ((vs.drop 1).take 6 ++ ((vs.drop 7).take 6 ++ ((vs.drop 13).take 2 ++ ((vs.drop 15).take 1 ++ ((vs.drop 16).take 6 ++ (vs.drop 22).take 1))))) := by
  intro vs hl
  have d : ∀ (a k : Nat),vs.drop a = (vs.drop a).take k ++ vs.drop (a + k) := fun a k => by rw [← List.drop_drop,List.take_append_drop]
  have e : (vs.drop 22).take 1 = vs.drop 22 := List.take_of_length_le (by rw [List.length_drop]; omega)
  rw [e,← d 16 6,← d 15 1,← d 13 2,← d 7 6,← d 1 6]
  exact (List.take_append_drop 1 vs).symm
 obtain ⟨fi,e0,h0⟩ := hq (0,3) (by simp)
 rw [tab_3] at e0; cases e0
 obtain ⟨fi,e1,h1⟩ := hq (1,28) (by simp)
 rw [tab_28] at e1; cases e1
 obtain ⟨fi,e2,h2⟩ := hq (7,31) (by simp)
 rw [tab_31] at e2; cases e2
 obtain ⟨fi,e3,h3⟩ := hq (13,26) (by simp)
 rw [tab_26] at e3; cases e3
 obtain ⟨fi,e4,h4⟩ := hq (15,3) (by simp)
 rw [tab_3] at e4; cases e4
 obtain ⟨fi,e5,h5⟩ := hq (16,32) (by simp)
 rw [tab_32] at e5; cases e5
 obtain ⟨fi,e6,h6⟩ := hq (22,33) (by simp)
 rw [tab_33] at e6; cases e6
 obtain ⟨x0,h0⟩ := Gj h0
 obtain ⟨x1,h1⟩ := UF h1
 obtain ⟨x2,h2⟩ := QE h2
 obtain ⟨x3,h3⟩ := Ec h3
 obtain ⟨x4,h4⟩ := Gj h4
 obtain ⟨l0,l1,l2,l3,l4,l5,h5⟩ := Su h5
 obtain ⟨x6,h6,hu⟩ := Oi tab_33 tab_70 h6 fun es he => SI he
 simp only [List.drop_zero] at h0
 refine ⟨⟨x0,x1,x2,x3,x4,l0,l1,l2,l3,l4,l5,x6⟩,?_,hu⟩
 rw [cut vs hl,h0,h1,h2,h3,h4,h5,h6]
 rfl
theorem arg_test {a : Val} (h : VF tab 8 35 a) : ∃ t : TestT,a = A2 t ∧ Iu t := by
 obtain ⟨ti,cs,e,h,_,rfl⟩ := h
 obtain ⟨l,rfl,hu⟩ := SH h
 rw [tab_35] at e; cases e; exact ⟨l,rfl,hu⟩
end Cp
namespace Cp
open Go Go.Proofs
set_option maxRecDepth 10000
set_option maxHeartbeats 2000000
structure TestG (t : TestT) : Prop where
 sm : RunSm t.run
 steps : t.rules.steps.length ≤ 10
 notes : t.notes.length ≤ 80
 tb : TestB t
theorem V7 {t : TestT} (h : FA t = false) (hu : Iu t) : TestG t := by
 unfold FA at h
 rw [Bool.or_eq_false_iff,decide_eq_false_iff_not] at h
 obtain ⟨h1,h2⟩ := QT h.1
 exact ⟨h1,h2,by omega,h1.b,⟨by omega⟩,by omega,hu⟩
theorem byteL_c8 : ∀ {l : List Int},byteL (l.map c8) = some l
 | [] => rfl
 | a :: l => by simp only [List.map_cons,c8,byteL,byteL_c8 (l := l)]
end Cp
namespace Cp
open Go Go.Proofs
set_option maxRecDepth 100000
set_option maxHeartbeats 2000000
def exRows : List RowT := List.replicate 21 ⟨[500],0⟩ ++ [⟨[560],0⟩] ++ List.replicate 3 ⟨[500],0⟩
def exRun : RunT := ⟨0,[⟨0,500⟩,⟨60,500⟩],[⟨0,⟨-1,0⟩,⟨0,0⟩,0⟩],exRows,⟨0,0⟩⟩
def exRules : RulesT := ⟨[],60,1,⟨0,0⟩,1⟩
def EK (a k v o : Int) : NoteT := ⟨a,k,v,⟨-o,o⟩⟩
def exNotes : List NoteT := [EK 600 5 150 10,EK 900 5 175 10,EK 1000 4 0 0,EK 1200 5 195 10,EK 1260 4 1 0,EK 1500 1 60 0,EK 1500 2 5 0,EK 1500 3 4 0,EK 1500 6 100 0]
def exT : TestT := ⟨4,exRun,exRules,⟨0,30⟩,1500,100,10,6,0,180,140,exNotes⟩
def exV : Val := .agg ((A4 exT).set 7 .nils)
theorem test_run : PureC Tryz.prog 55 [] exV := UB (n := 400) tabOK mix look_ok (by rfl) (by kernel_rfl) (by kernel_rfl)
theorem VR.agg_set {G : Gh} {w : World} {cs : List Val} {i n : Nat} {x : Value} (h : VR G w (.agg (cs.set i .nils)) x) (hc : cs[i]? = some (.lst n [])) : VR G w (.agg cs) x := by
 cases h with
 | agg _ xs hs hcl hv =>
  have hi : i < cs.length := (List.getElem?_eq_some_iff.1 hc).1
  refine .agg _ xs (by simpa using hs) (fun j v hj => ?_) (fun j v hj => ?_)
  ·by_cases hji : i = j
   ·subst hji; rw [hc] at hj; cases hj; rfl
   ·exact hcl j v (by rw [List.getElem?_set,if_neg hji]; exact hj)
  ·by_cases hji : i = j
   ·subst hji
    rw [hc] at hj; cases hj
    exact (hv i .nils (by rw [List.getElem?_set,if_pos rfl,if_pos hi])).nils_lst _
   ·exact hv j v (by rw [List.getElem?_set,if_neg hji]; exact hj)
theorem test_ok : PureC Tryz.prog 55 [] (A2 exT) := PureC.weak test_run (by kernel_rfl) fun G w x h => VR.agg_set (n := 2) h (by kernel_rfl)
theorem exB : TestB exT := ⟨⟨by decide,by decide,by decide,by decide⟩,⟨by decide⟩,by decide,by decide⟩
theorem ex_first : Gq exT 3 = .tup [Ab ⟨0,⟨571,1200⟩⟩,.int .i64 0] := by kernel_rfl
theorem ex_fails5 : Gr exT 5 = .tup [Ab ⟨0,⟨571,1200⟩⟩,.int .i64 0] := by kernel_rfl
theorem ex_fails3 : Gr exT 3 = .tup [Ab ⟨2,⟨0,0⟩⟩,.int .i64 0] := by kernel_rfl
theorem ex_class1 : E5 exT 1 = .tup [A9 ⟨20,20⟩,.int .i64 0] := by kernel_rfl
theorem ex_class2 : E5 exT 2 = .tup [A9 ⟨15,20⟩,.int .i64 0] := by kernel_rfl
theorem ex_class3 : E5 exT 3 = .tup [A9 ⟨5,15⟩,.int .i64 0] := by kernel_rfl
theorem ex_stops1 : IM exT 1 = .tup [.lst 1 [[.int .u8 7],[.int .u8 8]],.int .i64 0] := by kernel_rfl
theorem ex_stops2 : IM exT 2 = .tup [.lst 1 [[.int .u8 4]],.int .i64 0] := by kernel_rfl
theorem ex_stops3 : IM exT 3 = .tup [.lst 1 [[.int .u8 5]],.int .i64 0] := by kernel_rfl
end Cp
namespace Cp
open Go
end Cp
namespace Cp
open Go Go.Proofs
set_option maxRecDepth 10000
set_option maxHeartbeats 4000000
def c32 (m : Int) : List Val := [.int .u32 m]
@[go_sem] theorem ZA {l : List Int} : noidss (l.map c32) = true := Bg fun _ => rfl
end Cp
