/- Rules,facts and contracts that the statement's proof leans on. Conditions: none. -/
import Derived.Test.YtopgldaekcmekaaGreatDoorP9
set_option linter.unusedVariables false
set_option linter.unusedSimpArgs false
set_option linter.unusedSectionVars false
namespace Cp
open Go Go.Proofs
set_option maxRecDepth 10000
set_option maxHeartbeats 1000000
def Cl (t : TestT) : Bool := (List.range 6).any (CO t)
def Ap (t : TestT) : Int := if AV t.run t.rules = 0 then (if AZ t = true then (if Cl t = true then 21 else 0) else 20) else AV t.run t.rules
structure TestB (t : TestT) : Prop where
 run : RunB t.run
 rules : RulesB t.rules
 notes : t.notes.length ≤ 100000
 kinds : ∀ n ∈ t.notes,0 ≤ n.kind ∧ n.kind ≤ 255
def Au (t : TestT) (em : Nat) : List Val := A2 t ++ [.map 2202 em]
def JK (t : TestT) (H0 : Hp) (v : Val) (H' : Hp) : Prop :=
 (∀ j,j < 2100 → H' j = H0 j) ∧ if Ap t = 0 then ∃ eb em ver m,v = .tup [.ptr 2204 eb 24 0 0,.int .i64 0] ∧ H' 2204 = some (eb,.arr 24 [Au t em]) ∧ H' 2202 = some (em,.map ver (KT m)) ∧ SeenM t 6 m else v = .tup [.nilp,.int .i64 (Ap t)]
theorem Q6 {t : TestT} {H0 H : Hp} (hE : AV t.run t.rules = 0) (h : AZ t = false) (hl : ∀ j,j < 2100 → H j = H0 j) : JK t H0 (.tup [.nilp,.int .i64 20]) H := by
 have e : Ap t = 20 := by simp [Ap,hE,h]
 refine ⟨hl,?_⟩
 rw [if_neg (by omega),e]
theorem QI {t : TestT} {H0 H : Hp} (hE : AV t.run t.rules = 0) (h : AZ t = true) (ht : Cl t = true) (hl : ∀ j,j < 2100 → H j = H0 j) : JK t H0 (.tup [.nilp,.int .i64 21]) H := by
 have e : Ap t = 21 := by simp [Ap,hE,h,ht]
 refine ⟨hl,?_⟩
 rw [if_neg (by omega),e]
theorem SF {t : TestT} {H0 H : Hp} (hE : AV t.run t.rules = 0) (h : AZ t = true) (ht : Cl t = false) (hl : ∀ j,j < 2100 → H j = H0 j) {eb em ver : Nat} {m : List SeenT} (h1 : H 2204 = some (eb,.arr 24 [Au t em])) (h2 : H 2202 = some (em,.map ver (KT m))) (h3 : SeenM t 6 m) :
  JK t H0 (.tup [.ptr 2204 eb 24 0 0,.int .i64 0]) H := by
 have e : Ap t = 0 := by simp [Ap,hE,h,ht]
 refine ⟨hl,?_⟩
 rw [if_pos e]
 exact ⟨_,_,_,_,rfl,h1,h2,h3⟩
theorem BL {α : Type} {l : List α} {k : Nat} {x : α} (h : l[k]? = some x) : l.take (k + 1) = l.take k ++ [x] := by
 obtain ⟨hk,rfl⟩ := List.getElem?_eq_some_iff.1 h
 simp [List.take_add_one]
theorem IA {fin : Int} : ∀ {l : List NoteT} {last : Int},Ae fin last l = true → ∀ n ∈ l,(1 ≤ n.kind ∧ n.kind ≤ 6) ∧ (0 ≤ n.val ∧ n.val ≤ 10000) ∧ -200 ≤ n.off.lo ∧ n.off.lo ≤ n.off.hi ∧ n.off.hi ≤ 200
 | [],_,_,n,h => by cases h
 | x :: l,last,h,n,hn => by
  simp only [Ae,Cw,Jh,Bool.and_eq_true,decide_eq_true_eq] at h
  rcases List.mem_cons.1 hn with rfl | hn
  ·omega
  ·exact IA h.2 n hn
theorem LZ (t : TestT) {k : Nat} (hk : k < 6) (v : Val) : List.drop (k * 1) [Val.int .i64 t.l0,.int .i64 t.l1,.int .i64 t.l2,.int .i64 t.l3,.int .i64 t.l4,.int .i64 t.l5,v] = .int .i64 (DZ t k) :: List.drop (k + 1) [Val.int .i64 t.l0,.int .i64 t.l1,.int .i64 t.l2,.int .i64 t.l3,.int .i64 t.l4,.int .i64 t.l5,v] := by
 match k,hk with
 | 0,_ => rfl
 | 1,_ => rfl
 | 2,_ => rfl
 | 3,_ => rfl
 | 4,_ => rfl
 | 5,_ => rfl
def WN (t : TestT) (e8 e4 e2 ver : Nat) (m : List SeenT) (H : Hp) : Prop := H 2108 = some (e8,.arr 1 [[.ptr 2204 e4 24 0 0]]) ∧ H 2204 = some (e4,.arr 24 [Au t e2]) ∧ H 2202 = some (e2,.map ver (KT m))
def OJ (Hz : Hp) (t : TestT) (k e8 e10 e11 e4 e2 ey : Nat) (L0 : AObj) (j : Nat) (H : Hp) : Prop :=
 (∀ i,i < 2100 → H i = Hz i) ∧ H 2300 = some (ey,L0) ∧ H 2110 = some (e10,.arr 1 [[.int .i64 (k : Int)]]) ∧ H 2111 = some (e11,.arr 1 [[.int .u8 ((k + 1 : Nat) : Int)]]) ∧ ∃ ver m,WN t e8 e4 e2 ver m H ∧ SeenN t k (t.notes.take j) m
theorem OJ.upd {Hz : Hp} {t : TestT} {k e8 e10 e11 e4 e2 ey : Nat} {L0 : AObj} {j : Nat} {H H' : Hp} (h : OJ Hz t k e8 e10 e11 e4 e2 ey L0 j H) (q : Nat) (hq : 2400 ≤ q) (hs : ∀ i,¬ i = q → H' i = H i) : OJ Hz t k e8 e10 e11 e4 e2 ey L0 j H' := by
 obtain ⟨a,b,c,d,ver,m,⟨x,y,z⟩,w⟩ := h
 exact ⟨fun i hi => (hs i (by omega)).trans (a i hi),(hs _ (by omega)).trans b,(hs _ (by omega)).trans c,(hs _ (by omega)).trans d,ver,m,⟨(hs _ (by omega)).trans x,(hs _ (by omega)).trans y,(hs _ (by omega)).trans z⟩,w⟩
theorem MC (t : TestT) (hb : TestB t) (H0 : Hp) : BD Tryz.prog 64 [A3 t] H0 (JK t H0) := by
 have hnl := hb.notes
 have hck := CI t.run t.rules hb.run hb.rules
 have hcs := J6 t.clock (-120) 120
 simp only [A9,A7,A1,A5,A6] at hck hcs
 refine IQ (fn := Tryz.f64) tabOK (by kernel_rfl) rfl (by kernel_rfl) (by simp [Tryz.f64]) ?_
 intro X hX0 hXs hXr
 refine LN 2100 fun H1 hlow hnone => ?_
 clear hnone
 by_cases hE : AV t.run t.rules = 0
 ·have e20 := fun H => @Q6 t H0 H hE
  have e21 := fun H => @QI t H0 H hE
  have e0 := fun H => @SF t H0 H hE
  rw [hE] at hck
  have hR : t.run.rows.length ≤ 60 := by
   have h1 : CK t.run = true := by unfold AV at hE; split at hE <;> simp_all
   exact (Ew h1).rows.2.1
  have bad : Em t = false → AZ t = false := fun h => by rw [AZ,h]; rfl
  simp only [Em,decide_eq_false_iff_not] at bad
  obtain ⟨Qr,hQr⟩ : ∃ Q,JK t H0 = Q := ⟨_,rfl⟩
  rw [hQr] at e20 e21 e0 ⊢
  repeat' (first | with_reducible (first | (refine sk ?_; intro K hK) | refine bk ?_ | apply_assumption -exfalso -symm only [*]) | ((first | (with_reducible first | refine rg (md := { base := 2100,own := [102,104],imp := [113] }) (h := ?_) | refine nx ?_) | refine pK (hck) ?_ | refine pK (hcs) ?_ | refine pK (KA _ _ _) ?_ | refine pK (Zb _ _ _ _ _ _ _ _) ?_); try simp (disch := omega) only [A3,A2,A9,A7,A1,A5,go_sem,simprocAttr]) | ((with_reducible refine' cE ?hv ?_ ?_); (case hv => rfl); all_goals (intro hc; (try simp only [go_sem,simprocAttr] at hc))) | ((with_reducible refine Ab ?_ ?_) <;> intro hg <;> (try simp (disch := omega) only [hg,A3,A2,A9,A7,A1,A5,go_sem,simprocAttr]) <;> (try simp only [go_sem,simprocAttr] at hg) <;> (try (exfalso; omega))) | fail)
  iterate 5 (refine AM (Or.inl rfl) (.refl _) (by simp only [Tryz.f64,go_sem,simprocAttr]; rfl) ?_; simp only [go_sem,simprocAttr]; exact e20 _ (bad (by omega)) hlow)
  have hh : Em t = true := by simp only [Em,decide_eq_true_eq]; omega
  have hT : AZ t = Ae t.fin 0 t.notes := by rw [AZ,hh,Bool.true_and]
  have hfin : t.fin ≤ 3600 := by omega
  clear bad hck hcs
  refine Av tabOK t.notes.length (fun k f H => (f 1 = .pim (A2 t) ∧ f 63 = .lst 5 (t.notes.map cNote)) ∧ (∀ j,j < 2100 → H j = H0 j) ∧ ∃ last,f 5 = .int .i64 last ∧ 0 ≤ last ∧ last ≤ 3600 ∧ Ae t.fin 0 t.notes = Ae t.fin last (t.notes.drop k)) (by omega) (by rw [hXs]; decide) (by decide) (by (first | rfl | (simp only [go_sem,simprocAttr]; done) | (simp only [go_sem,simprocAttr]; rfl))) (by (first | rfl | (simp only [go_sem,simprocAttr]; done) | (simp only [go_sem,simprocAttr]; rfl)))
   ⟨by (and_intros <;> first | rfl | (simp only [A2,go_sem,simprocAttr]; done) | (simp only [A2,go_sem,simprocAttr]; rfl)),hlow,0,by (first | rfl | (simp only [go_sem,simprocAttr]; done) | (simp only [go_sem,simprocAttr]; rfl)),by omega,by omega,by simp⟩ ?_ ?_
  ·clear hlow
   rintro k f H hk h65 h64 ⟨⟨h1,h63⟩,hlow,last,h5,hl1,hl2,hr⟩
   obtain ⟨n,hn⟩ : ∃ x,t.notes[k]? = some x := ⟨_,List.getElem?_eq_getElem hk⟩
   have hna := Ih hn
   have hkb := hb.kinds n (List.mem_of_getElem? hn)
   rw [Am hn] at hr
   simp only [Ae] at hr
   have bad : Cw last t.fin n = false → AZ t = false := fun h => by rw [hT,hr,h]; rfl
   have hof := J6 n.off (-200) 200
   simp only [Cw,Jh,Bool.and_eq_false_iff,decide_eq_false_iff_not] at bad
   simp only [A6] at hof
   simp only [cNote] at hna
   refine LN 2100 fun H1 hlow1 hnone => ?_
   have hlow2 : ∀ j,j < 2100 → H1 j = H0 j := fun j hj => (hlow1 j hj).trans (hlow j hj)
   have g7 := hnone 2107 (by decide)
   clear hnone hlow1 hlow
   repeat' (first | with_reducible (first | (refine sk ?_; intro K hK) | intro (ep : Nat → Nat) | apply_assumption -exfalso -symm only [*]) | ((first | (with_reducible first | refine rg (md := { base := 2100,own := [102,104],imp := [113] }) (h := ?_) | refine nx ?_) | refine pK (KA _ _ _) ?_ | refine pK (hof) ?_); try simp (disch := omega) only [h1,h5,h63,h64,h65,hna,g7,A2,go_sem,simprocAttr]) | ((with_reducible refine' cE ?hv ?_ ?_); (case hv => rfl); all_goals (intro hc; (try simp only [go_sem,simprocAttr] at hc))) | ((with_reducible refine Ab ?_ ?_) <;> intro hg <;> (try simp (disch := omega) only [hg,h1,h5,h63,h64,h65,hna,g7,A2,go_sem,simprocAttr]) <;> (try simp only [go_sem,simprocAttr] at hg) <;> (try (exfalso; omega))) | fail)
   iterate 4 (refine AM (Or.inl rfl) (.refl _) (by simp only [Tryz.f64,go_sem,simprocAttr]; rfl) ?_; simp only [go_sem,simprocAttr]; exact e20 _ (bad (by omega)) (fun j hj => by (repeat rw [A0 _ _ (by omega)]); exact hlow2 j hj))
   have h' : Cw last t.fin n = true := by simp only [Cw,Jh,Bool.and_eq_true,decide_eq_true_eq]; omega
   refine ⟨fun j hj => by (repeat rw [if_neg (by omega)]); exact hlow2 j hj,n.sec,rfl,by omega,by omega,by rw [hr,h',Bool.true_and]⟩
  ·rintro f H h65 h64 ⟨⟨h1,h63⟩,hlow1,last,h5,hl1,hl2,hr⟩
   clear e20 hlow
   repeat' (first | with_reducible apply_assumption -exfalso -symm only [*] | fail)
   have hN : Ae t.fin 0 t.notes = true := by rw [hr,Bg (Nat.le_refl _)]; rfl
   have hOK : AZ t = true := by rw [hT,hN]
   refine LN 2100 fun H2 hlow2 hnone => ?_
   have hlow : ∀ j,j < 2100 → H2 j = H0 j := fun j hj => (hlow2 j hj).trans (hlow1 j hj)
   have g2 := hnone 2202 (by decide)
   have g4 := hnone 2204 (by decide)
   have g8 := hnone 2108 (by decide)
   clear hnone hlow1 hlow2 h65 h64 h63 h5 hr hl1 hl2
   repeat' (first | with_reducible (first | ((fail_if_success (refine Di (id := 16) ?_)); refine sk ?_; intro K hK) | intro (ep : Nat → Nat) | apply_assumption -exfalso -symm only [*]) | ((with_reducible first | refine rg (md := { base := 2100,own := [102,104],imp := [113] }) (h := ?_) | refine nx ?_); try simp (disch := omega) only [h1,g2,g4,g8,A2,go_sem,simprocAttr]) | fail)
   have hcut : ∀ f H,(f 9 = .bool (!Cl t) ∧ (∀ j,j < 2100 → H j = H0 j) ∧ (Cl t = false → ∃ e8 e4 e2 ver m,f 8 = .ptr 2108 e8 1 0 0 ∧ WN t e8 e4 e2 ver m H ∧ SeenM t 6 m)) → K f H := by
    clear hlow g2 g4 g8
    rintro f H ⟨h9,hlow,hS⟩
    refine hK f H ?_
    clear hK
    cases htw : Cl t with
    | false =>
     rw [htw] at h9
     obtain ⟨e8,e4,e2,ver,m,h8,⟨H8,H4,H2⟩,hS⟩ := hS htw
     repeat' (first | with_reducible (first | (refine sk ?_; intro K hK) | apply_assumption -exfalso -symm only [*]) | ((with_reducible first | refine rg (md := { base := 2100,own := [102,104],imp := [113] }) (h := ?_) | refine nx ?_); try simp (disch := omega) only [h8,h9,H8,H4,H2,go_sem,simprocAttr]) | ((with_reducible refine' cE ?hv ?_ ?_); (case hv => rfl); all_goals (intro hc; (try simp only [go_sem,simprocAttr] at hc))) | fail)
     refine AM (Or.inl rfl) (.refl _) (by simp only [Tryz.f64,go_sem,simprocAttr]; rfl) ?_
     simp only [go_sem,simprocAttr,H4]
     exact e0 _ hOK htw hlow H4 H2 hS
    | true =>
     rw [htw] at h9
     repeat' (first | with_reducible (first | (refine sk ?_; intro K hK) | apply_assumption -exfalso -symm only [*]) | ((with_reducible first | refine rg (md := { base := 2100,own := [102,104],imp := [113] }) (h := ?_) | refine nx ?_); try simp (disch := omega) only [h9,go_sem,simprocAttr]) | ((with_reducible refine' cE ?hv ?_ ?_); (case hv => rfl); all_goals (intro hc; (try simp only [go_sem,simprocAttr] at hc))) | fail)
     refine AM (Or.inl rfl) (.refl _) (by simp only [Tryz.f64,go_sem,simprocAttr]; rfl) ?_
     simp only [go_sem,simprocAttr]
     exact e21 _ hOK htw hlow
   clear hK e0 e21
   repeat' (first | with_reducible (first | (refine sk ?_; intro K hK) | apply_assumption -exfalso -symm only [*]) | ((with_reducible refine rg (md := { base := 2100,own := [102,104],imp := [113] }) (h := ?_)); try simp (disch := omega) only [h1,go_sem,simprocAttr]) | fail)
   refine An (AK (fun n f H => ∃ k : Nat,n = 6 - k ∧ k ≤ 6 ∧ (f 1 = .pim (A2 t) ∧ f 9 = .bool true ∧ f 105 = .int .i64 (k : Int)) ∧ (∀ j,j < 2100 → H j = H0 j) ∧ ∃ e8 e4 e2 ver m,f 8 = .ptr 2108 e8 1 0 0 ∧ WN t e8 e4 e2 ver m H ∧ SeenM t k m ∧ ∀ c,c < k → CO t c = false) 6
    ⟨0,rfl,by omega,by (and_intros <;> first | rfl | (simp only [h1,go_sem,simprocAttr]; done) | (simp only [h1,go_sem,simprocAttr]; rfl)),fun j hj => by (repeat rw [A0 _ _ (by omega)]); exact hlow j hj,_,_,_,_,[],by (first | rfl | (simp only [go_sem,simprocAttr]; done) | (simp only [go_sem,simprocAttr]; rfl)),⟨by (first | rfl | (simp only [go_sem,simprocAttr]; done) | (simp only [go_sem,simprocAttr]; rfl)),by (first | rfl | (simp only [A2,Au,go_sem,simprocAttr]; done) | (simp only [A2,Au,go_sem,simprocAttr]; rfl)),by (first | rfl | (simp only [go_sem,simprocAttr]; done) | (simp only [go_sem,simprocAttr]; rfl))⟩,⟨fun c hc => by omega,fun c hc => ⟨rfl,rfl⟩⟩,fun c hc => by omega⟩ ?_)
   clear h1 hlow g2 g4 g8
   rintro n f H ⟨k,rfl,hk,⟨h1,h9,h105⟩,hlow,e8,e4,e2,ver,m,h8,⟨H8,H4,H2⟩,hS,hT'⟩
   by_cases hlt : k < 6
   ·refine Aw 2110 fun H3 g10 hs1 => ?_
    refine Aw 2111 fun H5 g11 hs2 => ?_
    have hs : ∀ j,¬ j = 2110 → ¬ j = 2111 → H5 j = H j := fun j a b => (hs2 j b).trans (hs1 j a)
    have g10' : H5 2110 = none := (hs2 2110 (by decide)).trans g10
    have K8 := (hs 2108 (by decide) (by decide)).trans H8
    have K4 := (hs 2204 (by decide) (by decide)).trans H4
    have K2 := (hs 2202 (by decide) (by decide)).trans H2
    have hlow5 : ∀ j,j < 2100 → H5 j = H0 j := fun j hj => (hs j (by omega) (by omega)).trans (hlow j hj)
    have hw : IntKind.u8.wrap ((k + 1 : Nat) : Int) = ((k + 1 : Nat) : Int) := IntWalk.u8_in _ (by omega)
    have hcutE : ∃ _ : Unit,_ := ⟨(),hcut⟩
    clear hs1 hs2 hs H8 H4 H2 hlow g10 hcut
    repeat' (first | with_reducible (first | (refine sk ?_; intro K hK) | refine bk ?_ | intro (ep : Nat → Nat) | apply_assumption -exfalso -symm only [*]) | ((with_reducible first | refine rg (md := { base := 2100,own := [102,104],imp := [113] }) (h := ?_) | refine nx ?_); try simp (disch := omega) only [h1,h8,h9,h105,K8,g10',g11,hw,go_sem,simprocAttr]) | ((with_reducible refine' cE ?hv ?_ ?_); (case hv => rfl); all_goals (intro hc; (try simp only [go_sem,simprocAttr] at hc); try (exfalso; omega))) | fail)
    refine iK (bB 2204 e4 24 _ _) ?_
    rintro v H6 ⟨rfl,rfl⟩
    simp only [go_sem,simprocAttr]
    repeat' (first | with_reducible apply_assumption -exfalso -symm only [*] | fail)
    refine An ?_
    refine GV 2300 (by simp only [go_sem,simprocAttr]; rfl) hXr fun ey => ?_
    generalize hf0 : (upd _ _ _ : Fr) = f0
    generalize hH : (upd (upd (upd (upd H5 _ _) _ _) _ _) _ _ : Hp) = HH
    obtain ⟨e10,e11,k1,k8,k9,k10,k11,k105,G10,G11,Gs⟩ : ∃ e10 e11,f0 1 = .pim (A2 t) ∧ f0 8 = .ptr 2108 e8 1 0 0 ∧ f0 9 = .bool true ∧ f0 10 = .ptr 2110 e10 1 0 0 ∧ f0 11 = .ptr 2111 e11 1 0 0 ∧ f0 105 = .int .i64 (k : Int) ∧
      HH 2110 = some (e10,.arr 1 [[.int .i64 (k : Int)]]) ∧ HH 2111 = some (e11,.arr 1 [[.int .u8 ((k + 1 : Nat) : Int)]]) ∧ ∀ j,¬ j = 2110 → ¬ j = 2111 → HH j = H5 j := by
     refine ⟨_,_,by rw [← hf0]; simp only [go_sem,simprocAttr,h1],by rw [← hf0]; simp only [go_sem,simprocAttr,h8],by rw [← hf0]; simp only [go_sem,simprocAttr,h9],by rw [← hf0]; rfl,by rw [← hf0]; rfl,by rw [← hf0]; simp only [go_sem,simprocAttr,h105],by rw [← hH]; rfl,by rw [← hH]; rfl,fun j a b => ?_⟩
     rw [← hH,A0 _ _ b,A0 _ _ b,A0 _ _ a,A0 _ _ a]
    have G8 := (Gs 2108 (by decide) (by decide)).trans K8
    have G4 := (Gs 2204 (by decide) (by decide)).trans K4
    have G2 := (Gs 2202 (by decide) (by decide)).trans K2
    have Gl : ∀ j,j < 2100 → HH j = H0 j := fun j hj => (Gs j (by omega) (by omega)).trans (hlow5 j hj)
    have hXs0 : X.sz = 196 := hXs
    clear hf0 hH hXs Gs K8 K4 K2 g10' g11 hlow5 h1 h8 h9 h105
    generalize hL : AObj.loop _ _ _ _ _ _ = L0
    refine ⟨fun v H' => OJ H0 t k e8 e10 e11 e4 e2 ey L0 t.notes.length H',X0 t (.map 2202 e2) (by omega) ((k + 1 : Nat) : Int) 2204 e4 _ 2300 ey (OJ H0 t k e8 e10 e11 e4 e2 ey L0) ?_ ?_ ?_ ?_ ?_,?_⟩
    ·exact ⟨fun j hj => by rw [A0 _ _ (by omega),Gl j hj],A4 _ _ _,by rw [A0 _ _ (by decide),G10],by rw [A0 _ _ (by decide),G11],ver,m,⟨by rw [A0 _ _ (by decide),G8],by rw [A0 _ _ (by decide),G4],by rw [A0 _ _ (by decide),G2]⟩,hS.start⟩
    ·rintro j H ⟨_,_,_,_,ver,m,⟨_,h,_⟩,_⟩
     exact h
    ·exact fun j H H' h hs => h.upd 2405 (by decide) hs
    ·rintro j n H hn hne ⟨a,b,c,d,ver,m,h,hS⟩
     exact ⟨a,b,c,d,ver,m,h,by rw [BL hn]; exact hS.other hne⟩
    ·clear G10 G11 G8 G4 G2 Gl hS
     rintro j n Hs hn hkind ⟨jl,j00,j10,j11,ver,m,⟨j8,j4,j2⟩,hS⟩
     have hnb := IA hN n (List.mem_of_getElem? hn)
     have hlim := LZ t hlt
     have hst := hS.step hkind
     rw [← BL hn] at hst
     subst hL
     refine ⟨_,_,_,_,_,j00,rfl,fun t ht => ?_,fun X1 b h10 h1s h1r => ?_⟩
     ·rw [Ix,hXs0]
      have ht' : t = 114 := by simpa using ht
      subst ht'; decide
     have hXs : X1.sz = 196 := by rw [h1s,Ix,hXs0]
     show AW _ _ _ _ _ (upd (Co (frL f0 X.sz)) 114 (AE n)) Hs
     have k1' : Co (frL f0 X.sz) 1 = .pim (A2 t) := by rw [Dz,hXs0,if_pos (by decide),k1]
     have k8' : Co (frL f0 X.sz) 8 = .ptr 2108 e8 1 0 0 := by rw [Dz,hXs0,if_pos (by decide),k8]
     have k10' : Co (frL f0 X.sz) 10 = .ptr 2110 e10 1 0 0 := by rw [Dz,hXs0,if_pos (by decide),k10]
     have k11' : Co (frL f0 X.sz) 11 = .ptr 2111 e11 1 0 0 := by rw [Dz,hXs0,if_pos (by decide),k11]
     generalize Co (frL f0 X.sz) = f1 at k1' k8' k10' k11'
     refine Aw 2112 fun H1 g12 hs1 => ?_
     repeat' (first | with_reducible intro (ep : Nat → Nat) | ((with_reducible refine rg (md := { base := 2100,own := [102,104],imp := [113] }) (h := ?_)); try simp (disch := omega) only [k1',k8',k10',k11',g12,AE,cNote,go_sem,simprocAttr]) | fail)
     refine ⟨rfl,_,_,_,_,_,by rw [A0 _ _ (by decide),A0 _ _ (by decide),hs1 _ (by decide),j00],?_⟩
     generalize hHs : (upd (upd (upd H1 _ _) _ _) 2300 _ : Hp) = HB
     generalize hfB : (upd _ _ _ : Fr) = fB
     obtain ⟨e12,b1,b8,b10,b11,b12,B12,B00,Bs⟩ : ∃ e12,fB 1 = .pim (A2 t) ∧ fB 8 = .ptr 2108 e8 1 0 0 ∧ fB 10 = .ptr 2110 e10 1 0 0 ∧ fB 11 = .ptr 2111 e11 1 0 0 ∧ fB 12 = .ptr 2112 e12 5 0 0 ∧ HB 2112 = some (e12,.arr 5 [cNote n]) ∧ HB 2300 = _ ∧ ∀ j,¬ j = 2112 → ¬ j = 2300 → HB j = Hs j := by
      refine ⟨_,by rw [← hfB]; simp only [k1',go_sem,simprocAttr],by rw [← hfB]; simp only [k8',go_sem,simprocAttr],by rw [← hfB]; simp only [k10',go_sem,simprocAttr],by rw [← hfB]; simp only [k11',go_sem,simprocAttr],by rw [← hfB]; rfl,by rw [← hHs]; rfl,by rw [← hHs,A4],fun j h1 h2 => ?_⟩
      rw [← hHs,A0 _ _ h2,A0 _ _ h1,A0 _ _ h1,hs1 _ h1]
     clear hHs hfB hs1 k1' k8' k10' k11' g12
     have B8 := (Bs 2108 (by decide) (by decide)).trans j8
     have B4 := (Bs 2204 (by decide) (by decide)).trans j4
     have B2 := (Bs 2202 (by decide) (by decide)).trans j2
     have B10 := (Bs 2110 (by decide) (by decide)).trans j10
     have B11 := (Bs 2111 (by decide) (by decide)).trans j11
     simp only [cNote] at B12
     have s1 := Qa n (DZ t k) hnb.2
     have s2 := QB n (DZ t k) hnb.2
     simp only [AE,cNote] at s1 s2
     have hlk := @Mn ((k + 1 : Nat) : Int) 1
     have fi := fun (s : Int) (m : List SeenT) => F7 (c := ((k + 1 : Nat) : Int)) (s := s) m 0
     have mu := fun (ep : Nat → Nat) (em : Nat) (s v : Int) (m : List SeenT) => @TP ep 2202 em ((k + 1 : Nat) : Int) s v m
     have hgp : ∀ v,BW (KX m ((k + 1 : Nat) : Int) 0 v) ((k + 1 : Nat) : Int) 1 = BW m ((k + 1 : Nat) : Int) 1 := fun v => by rw [IY,if_neg (by omega)]
     simp only [D3] at fi mu
     have zz : ∀ (H : Hp),(∀ i,¬ i = 2202 → H i = HB i) → ∀ {o : Option (Nat × AObj)} (i : Nat),¬ i = 2202 → ¬ i = 2112 → ¬ i = 2300 → upd H 2300 o i = Hs i := fun H h {o} i h1 h2 h3 => by rw [A0 _ _ h3,h _ h1,Bs i h2 h3]
     have hq1 : ∀ {p : Option (Nat × AObj)} (i : Nat),¬ i = 2202 → upd HB 2202 p i = HB i := fun i h => A0 _ _ h
     have hq2 : ∀ {p q : Option (Nat × AObj)} (i : Nat),¬ i = 2202 → upd (upd HB 2202 p) 2202 q i = HB i := fun i h => by rw [A0 _ _ h,A0 _ _ h]
     have hq0 : ∀ (i : Nat),¬ i = 2202 → HB i = HB i := fun i h => rfl
     obtain ⟨x,hx⟩ | hB : (∃ x,BW m ((k + 1 : Nat) : Int) 1 = some x) ∨ BW m ((k + 1 : Nat) : Int) 1 = none := by cases BW m ((k + 1 : Nat) : Int) 1 <;> simp
     ·by_cases hA : n.val - n.off.lo ≤ DZ t k
      ·repeat' (first | with_reducible (first | (refine sk ?_; intro K hK) | refine bk ?_ | intro (ep : Nat → Nat) | apply_assumption -exfalso -symm only [*]) | ((first | (with_reducible first | refine rg (md := { base := 2100,own := [102,104],imp := [] }) (h := ?_) | refine nx ?_) | refine pK (s1) ?_); try simp (disch := omega) only [b1,b8,b10,b11,b12,B8,B4,B2,B10,B11,B12,hlt,hlim,hlk,fi,mu,hgp,hA,hx,Option.isSome_some,Option.isSome_none,Option.getD_some,Option.getD_none,A2,Au,go_sem,simprocAttr]) | ((with_reducible refine' cE ?hv ?_ ?_); (case hv => rfl); all_goals (intro hc; (try simp only [go_sem,simprocAttr] at hc))) | fail)
       have C00 := B00
       refine ⟨_,_,_,_,_,_,(by (repeat rw [A0 _ _ (by decide)]); exact B00),?_⟩
       refine ⟨rfl,?_⟩
       have hm : EA (Dh m t k n) t k n = KX m ((k + 1 : Nat) : Int) 0 n.sec := by simp only [EA,Dh,hA,hx,hgp,if_true,if_false,and_self,true_and,and_true,false_and,and_false,reduceCtorEq]
       rw [hm] at hst
       exact ⟨fun i hi => (zz _ hq1 i (by omega) (by omega) (by omega)).trans (jl i hi),A4 _ _ _,(zz _ hq1 2110 (by decide) (by decide) (by decide)).trans j10,(zz _ hq1 2111 (by decide) (by decide) (by decide)).trans j11,_,_,⟨(zz _ hq1 2108 (by decide) (by decide) (by decide)).trans j8,(zz _ hq1 2204 (by decide) (by decide) (by decide)).trans j4,by rw [A0 _ _ (by decide)]; (first | exact A4 _ _ _ | exact B2)⟩,hst⟩
      ·repeat' (first | with_reducible (first | (refine sk ?_; intro K hK) | refine bk ?_ | apply_assumption -exfalso -symm only [*]) | ((first | (with_reducible first | refine rg (md := { base := 2100,own := [102,104],imp := [] }) (h := ?_) | refine nx ?_) | refine pK (s1) ?_); try simp (disch := omega) only [b1,b8,b10,b11,b12,B8,B4,B2,B10,B11,B12,hlt,hlim,hlk,fi,mu,hgp,hA,hx,Option.isSome_some,Option.isSome_none,Option.getD_some,Option.getD_none,A2,Au,go_sem,simprocAttr]) | ((with_reducible refine' cE ?hv ?_ ?_); (case hv => rfl); all_goals (intro hc; (try simp only [go_sem,simprocAttr] at hc))) | fail)
       have C00 := B00
       refine ⟨_,_,_,_,_,_,(by (repeat rw [A0 _ _ (by decide)]); exact B00),?_⟩
       refine ⟨rfl,?_⟩
       have hm : EA (Dh m t k n) t k n = m := by simp only [EA,Dh,hA,hx,if_true,if_false,and_self,true_and,and_true,false_and,and_false,reduceCtorEq]
       rw [hm] at hst
       exact ⟨fun i hi => (zz _ hq0 i (by omega) (by omega) (by omega)).trans (jl i hi),A4 _ _ _,(zz _ hq0 2110 (by decide) (by decide) (by decide)).trans j10,(zz _ hq0 2111 (by decide) (by decide) (by decide)).trans j11,_,_,⟨(zz _ hq0 2108 (by decide) (by decide) (by decide)).trans j8,(zz _ hq0 2204 (by decide) (by decide) (by decide)).trans j4,by rw [A0 _ _ (by decide)]; (first | exact A4 _ _ _ | exact B2)⟩,hst⟩
     ·by_cases hA : n.val - n.off.lo ≤ DZ t k
      ·by_cases hC : DZ t k < n.val - n.off.hi
       ·exfalso; omega
       ·repeat' (first | with_reducible (first | (refine sk ?_; intro K hK) | refine bk ?_ | intro (ep : Nat → Nat) | apply_assumption -exfalso -symm only [*]) | ((first | (with_reducible first | refine rg (md := { base := 2100,own := [102,104],imp := [] }) (h := ?_) | refine nx ?_) | refine pK (s1) ?_ | refine pK (s2) ?_); try simp (disch := omega) only [b1,b8,b10,b11,b12,B8,B4,B2,B10,B11,B12,hlt,hlim,hlk,fi,mu,hgp,hA,hB,hC,Option.isSome_some,Option.isSome_none,Option.getD_some,Option.getD_none,A2,Au,go_sem,simprocAttr]) | ((with_reducible refine' cE ?hv ?_ ?_); (case hv => rfl); all_goals (intro hc; (try simp only [go_sem,simprocAttr] at hc))) | fail)
        have C00 := B00
        refine ⟨_,_,_,_,_,_,(by (repeat rw [A0 _ _ (by decide)]); exact B00),?_⟩
        refine ⟨rfl,?_⟩
        have hm : EA (Dh m t k n) t k n = KX m ((k + 1 : Nat) : Int) 0 n.sec := by simp only [EA,Dh,hA,hB,hC,hgp,if_true,if_false,and_self,true_and,and_true,false_and,and_false,reduceCtorEq]
        rw [hm] at hst
        exact ⟨fun i hi => (zz _ hq1 i (by omega) (by omega) (by omega)).trans (jl i hi),A4 _ _ _,(zz _ hq1 2110 (by decide) (by decide) (by decide)).trans j10,(zz _ hq1 2111 (by decide) (by decide) (by decide)).trans j11,_,_,⟨(zz _ hq1 2108 (by decide) (by decide) (by decide)).trans j8,(zz _ hq1 2204 (by decide) (by decide) (by decide)).trans j4,by rw [A0 _ _ (by decide)]; (first | exact A4 _ _ _ | exact B2)⟩,hst⟩
      ·by_cases hC : DZ t k < n.val - n.off.hi
       ·repeat' (first | with_reducible (first | (refine sk ?_; intro K hK) | refine bk ?_ | intro (ep : Nat → Nat) | apply_assumption -exfalso -symm only [*]) | ((first | (with_reducible first | refine rg (md := { base := 2100,own := [102,104],imp := [] }) (h := ?_) | refine nx ?_) | refine pK (s1) ?_ | refine pK (s2) ?_); try simp (disch := omega) only [b1,b8,b10,b11,b12,B8,B4,B2,B10,B11,B12,hlt,hlim,hlk,fi,mu,hgp,hA,hB,hC,Option.isSome_some,Option.isSome_none,Option.getD_some,Option.getD_none,A2,Au,go_sem,simprocAttr]) | ((with_reducible refine' cE ?hv ?_ ?_); (case hv => rfl); all_goals (intro hc; (try simp only [go_sem,simprocAttr] at hc))) | fail)
        have C00 := B00
        refine ⟨_,_,_,_,_,_,(by (repeat rw [A0 _ _ (by decide)]); exact B00),?_⟩
        refine ⟨rfl,?_⟩
        have hm : EA (Dh m t k n) t k n = KX m ((k + 1 : Nat) : Int) 1 n.sec := by simp only [EA,Dh,hA,hB,hC,if_true,if_false,and_self,true_and,and_true,false_and,and_false,reduceCtorEq]
        rw [hm] at hst
        exact ⟨fun i hi => (zz _ hq1 i (by omega) (by omega) (by omega)).trans (jl i hi),A4 _ _ _,(zz _ hq1 2110 (by decide) (by decide) (by decide)).trans j10,(zz _ hq1 2111 (by decide) (by decide) (by decide)).trans j11,_,_,⟨(zz _ hq1 2108 (by decide) (by decide) (by decide)).trans j8,(zz _ hq1 2204 (by decide) (by decide) (by decide)).trans j4,by rw [A0 _ _ (by decide)]; (first | exact A4 _ _ _ | exact B2)⟩,hst⟩
       ·repeat' (first | with_reducible (first | (refine sk ?_; intro K hK) | refine bk ?_ | apply_assumption -exfalso -symm only [*]) | ((first | (with_reducible first | refine rg (md := { base := 2100,own := [102,104],imp := [] }) (h := ?_) | refine nx ?_) | refine pK (s1) ?_ | refine pK (s2) ?_); try simp (disch := omega) only [b1,b8,b10,b11,b12,B8,B4,B2,B10,B11,B12,hlt,hlim,hlk,fi,mu,hgp,hA,hB,hC,Option.isSome_some,Option.isSome_none,Option.getD_some,Option.getD_none,A2,Au,go_sem,simprocAttr]) | ((with_reducible refine' cE ?hv ?_ ?_); (case hv => rfl); all_goals (intro hc; (try simp only [go_sem,simprocAttr] at hc))) | fail)
        have C00 := B00
        refine ⟨_,_,_,_,_,_,(by (repeat rw [A0 _ _ (by decide)]); exact B00),?_⟩
        refine ⟨rfl,?_⟩
        have hm : EA (Dh m t k n) t k n = m := by simp only [EA,Dh,hA,hB,hC,if_true,if_false,and_self,true_and,and_true,false_and,and_false,reduceCtorEq]
        rw [hm] at hst
        exact ⟨fun i hi => (zz _ hq0 i (by omega) (by omega) (by omega)).trans (jl i hi),A4 _ _ _,(zz _ hq0 2110 (by decide) (by decide) (by decide)).trans j10,(zz _ hq0 2111 (by decide) (by decide) (by decide)).trans j11,_,_,⟨(zz _ hq0 2108 (by decide) (by decide) (by decide)).trans j8,(zz _ hq0 2204 (by decide) (by decide) (by decide)).trans j4,by rw [A0 _ _ (by decide)]; (first | exact A4 _ _ _ | exact B2)⟩,hst⟩
    ·clear G10 G11 G8 G4 G2 Gl hS
     rintro v Hs ⟨jl,j00,j10,j11,ver,m,⟨j8,j4,j2⟩,hS⟩
     rw [List.take_of_length_le (Nat.le_refl _)] at hS
     have hS := hS.done
     subst hL
     refine ⟨_,_,_,_,_,_,j00,by simp,?_⟩
     have y8 := (A0 Hs none (show 2108 ≠ 2300 by decide)).trans j8
     have y4 := (A0 Hs none (show 2204 ≠ 2300 by decide)).trans j4
     have y2 := (A0 Hs none (show 2202 ≠ 2300 by decide)).trans j2
     have y11 := (A0 Hs none (show 2111 ≠ 2300 by decide)).trans j11
     have yl : ∀ j,j < 2100 → upd Hs 2300 none j = H0 j := fun j hj => by rw [A0 _ _ (by omega),jl j hj]
     generalize upd Hs 2300 none = H2 at y8 y4 y2 y11 yl
     have hlk := @Mn ((k + 1 : Nat) : Int)
     have fi := fun (s : Int) (m : List SeenT) => F7 (c := ((k + 1 : Nat) : Int)) (s := s) m 0
     simp only [D3] at fi
     obtain ⟨hgc,hbc⟩ := hS.1 k (Nat.lt_succ_self k)
     have hnext : CO t k = false → ∀ c,c < k + 1 → CO t c = false := fun h c hc => by
      by_cases hck : c = k
      ·subst hck; exact h
      ·exact hT' c (by omega)
     have htwist : CO t k = true → Cl t = true := fun h => by
      rw [Cl,List.any_eq_true]
      exact ⟨k,by simpa using hlt,h⟩
     unfold CO at hnext htwist
     clear j00 j10 j11 j8 j4 j2 jl
     cases hg1 : I7 t k <;> cases hb1 : BV t k <;> rw [hg1,hb1] at hnext htwist <;> rw [hg1] at hgc <;> rw [hb1] at hbc
     ·repeat' (first | with_reducible (first | (refine sk ?_; intro K hK) | apply_assumption -exfalso -symm only [*]) | ((with_reducible first | refine rg (md := { base := 2100,own := [102,104],imp := [] }) (h := ?_) | refine nx ?_); try simp (disch := omega) only [k1,k8,k9,k10,k11,k105,y8,y4,y2,y11,hlk,fi,hgc,hbc,Option.isSome_some,Option.isSome_none,Option.getD_some,Option.getD_none,A2,Au,go_sem,simprocAttr]) | ((with_reducible refine' cE ?hv ?_ ?_); (case hv => rfl); all_goals (intro hc; (try simp only [go_sem,simprocAttr] at hc))) | fail)
      exact ⟨6 - (k + 1),by omega,k + 1,rfl,by omega,⟨by (and_intros <;> first | rfl | (simp only [k1,k9,go_sem,simprocAttr]; done) | (simp only [k1,k9,go_sem,simprocAttr]; rfl)),yl,e8,e4,e2,ver,m,by (first | rfl | (simp only [k8,go_sem,simprocAttr]; done) | (simp only [k8,go_sem,simprocAttr]; rfl)),⟨y8,y4,y2⟩,hS,hnext rfl⟩⟩
     ·repeat' (first | with_reducible (first | (refine sk ?_; intro K hK) | apply_assumption -exfalso -symm only [*]) | ((with_reducible first | refine rg (md := { base := 2100,own := [102,104],imp := [] }) (h := ?_) | refine nx ?_); try simp (disch := omega) only [k1,k8,k9,k10,k11,k105,y8,y4,y2,y11,hlk,fi,hgc,hbc,Option.isSome_some,Option.isSome_none,Option.getD_some,Option.getD_none,A2,Au,go_sem,simprocAttr]) | ((with_reducible refine' cE ?hv ?_ ?_); (case hv => rfl); all_goals (intro hc; (try simp only [go_sem,simprocAttr] at hc))) | fail)
      exact ⟨6 - (k + 1),by omega,k + 1,rfl,by omega,⟨by (and_intros <;> first | rfl | (simp only [k1,k9,go_sem,simprocAttr]; done) | (simp only [k1,k9,go_sem,simprocAttr]; rfl)),yl,e8,e4,e2,ver,m,by (first | rfl | (simp only [k8,go_sem,simprocAttr]; done) | (simp only [k8,go_sem,simprocAttr]; rfl)),⟨y8,y4,y2⟩,hS,hnext rfl⟩⟩
     ·repeat' (first | with_reducible (first | (refine sk ?_; intro K hK) | apply_assumption -exfalso -symm only [*]) | ((with_reducible first | refine rg (md := { base := 2100,own := [102,104],imp := [] }) (h := ?_) | refine nx ?_); try simp (disch := omega) only [k1,k8,k9,k10,k11,k105,y8,y4,y2,y11,hlk,fi,hgc,hbc,Option.isSome_some,Option.isSome_none,Option.getD_some,Option.getD_none,A2,Au,go_sem,simprocAttr]) | ((with_reducible refine' cE ?hv ?_ ?_); (case hv => rfl); all_goals (intro hc; (try simp only [go_sem,simprocAttr] at hc))) | fail)
      exact ⟨6 - (k + 1),by omega,k + 1,rfl,by omega,⟨by (and_intros <;> first | rfl | (simp only [k1,k9,go_sem,simprocAttr]; done) | (simp only [k1,k9,go_sem,simprocAttr]; rfl)),yl,e8,e4,e2,ver,m,by (first | rfl | (simp only [k8,go_sem,simprocAttr]; done) | (simp only [k8,go_sem,simprocAttr]; rfl)),⟨y8,y4,y2⟩,hS,hnext rfl⟩⟩
     ·rename_i gs bs
      by_cases hle : bs ≤ gs
      ·obtain ⟨_,hcut'⟩ := hcutE
       rw [htwist (by simpa using hle)] at hcut'
       clear hnext
       repeat' (first | with_reducible (first | (refine sk ?_; intro K hK) | apply_assumption -exfalso -symm only [*]) | ((with_reducible first | refine rg (md := { base := 2100,own := [102,104],imp := [] }) (h := ?_) | refine nx ?_); try simp (disch := omega) only [k1,k8,k9,k10,k11,k105,y8,y4,y2,y11,hlk,fi,hgc,hbc,hle,Option.isSome_some,Option.isSome_none,Option.getD_some,Option.getD_none,A2,Au,go_sem,simprocAttr]) | ((with_reducible refine' cE ?hv ?_ ?_); (case hv => rfl); all_goals (intro hc; (try simp only [go_sem,simprocAttr] at hc))) | fail)
       exact ⟨by (first | rfl | (simp only [go_sem,simprocAttr]; done) | (simp only [go_sem,simprocAttr]; rfl)),yl,fun h => by cases h⟩
      ·repeat' (first | with_reducible (first | (refine sk ?_; intro K hK) | apply_assumption -exfalso -symm only [*]) | ((with_reducible first | refine rg (md := { base := 2100,own := [102,104],imp := [] }) (h := ?_) | refine nx ?_); try simp (disch := omega) only [k1,k8,k9,k10,k11,k105,y8,y4,y2,y11,hlk,fi,hgc,hbc,hle,Option.isSome_some,Option.isSome_none,Option.getD_some,Option.getD_none,A2,Au,go_sem,simprocAttr]) | ((with_reducible refine' cE ?hv ?_ ?_); (case hv => rfl); all_goals (intro hc; (try simp only [go_sem,simprocAttr] at hc))) | fail)
       exact ⟨6 - (k + 1),by omega,k + 1,rfl,by omega,⟨by (and_intros <;> first | rfl | (simp only [k1,k9,go_sem,simprocAttr]; done) | (simp only [k1,k9,go_sem,simprocAttr]; rfl)),yl,e8,e4,e2,ver,m,by (first | rfl | (simp only [k8,go_sem,simprocAttr]; done) | (simp only [k8,go_sem,simprocAttr]; rfl)),⟨y8,y4,y2⟩,hS,hnext (by simpa using hle)⟩⟩
   ·obtain rfl : k = 6 := by omega
    have htw : Cl t = false := by
     rw [Cl,List.any_eq_false]
     intro c hc
     rw [hT' c (by simpa using hc)]; simp
    have hcut' := hcut
    rw [htw] at hcut'
    clear hcut
    repeat' (first | with_reducible (first | (refine sk ?_; intro K hK) | apply_assumption -exfalso -symm only [*]) | ((with_reducible first | refine rg (md := { base := 2100,own := [102,104],imp := [] }) (h := ?_) | refine nx ?_); try simp (disch := omega) only [h1,h8,h9,h105,go_sem,simprocAttr]) | ((with_reducible refine' cE ?hv ?_ ?_); (case hv => rfl); all_goals (intro hc; (try simp only [go_sem,simprocAttr] at hc))) | fail)
    exact ⟨by (first | rfl | (simp only [h9,go_sem,simprocAttr]; done) | (simp only [h9,go_sem,simprocAttr]; rfl)),hlow,fun _ => ⟨e8,e4,e2,ver,m,by (first | rfl | (simp only [h8,go_sem,simprocAttr]; done) | (simp only [h8,go_sem,simprocAttr]; rfl)),⟨H8,H4,H2⟩,hS⟩⟩
 ·repeat' (first | with_reducible (first | (refine sk ?_; intro K hK) | refine bk ?_ | apply_assumption -exfalso -symm only [*]) | ((first | (with_reducible first | refine rg (md := { base := 2100,own := [102,104],imp := [] }) (h := ?_) | refine nx ?_) | refine pK (hck) ?_); try simp (disch := omega) only [A3,A2,A9,A7,A1,A5,hE,go_sem,simprocAttr]) | ((with_reducible refine' cE ?hv ?_ ?_); (case hv => rfl); all_goals (intro hc; (try simp only [go_sem,simprocAttr] at hc))) | fail)
  refine AM (Or.inl rfl) (.refl _) (by simp only [Tryz.f64,go_sem,simprocAttr]; rfl) ?_
  simp only [go_sem,simprocAttr]
  refine ⟨hlow,?_⟩
  have e : Ap t = AV t.run t.rules := by simp [Ap,hE]
  rw [e,if_neg hE]
end Cp
namespace Cp
open Go
theorem Tl {H : Hp} {n k e m sz : Nat} {xss : List (List Val)} (h : H k = some (e,.fro sz xss)) (hm : m = xss.length) : fzd H (n + 1) (.gr k e m) = .lst sz (xss.map fun es => es.map (fzd H n)) := by
 simp only [fzd,h,hm,and_self,if_true]
def LstC (k sz : Nat) (L : List (List Val)) (v : Val) (H : Hp) : Prop := (L = [] ∧ v = .nils) ∨ (¬ L = [] ∧ ∃ ea,v = .gr k ea L.length ∧ H k = some (ea,.arr sz L))
theorem LstC.same {k sz : Nat} {L : List (List Val)} {v : Val} {H H' : Hp} (h : LstC k sz L v H) (e : H' k = H k) : LstC k sz L v H' := by
 rcases h with h | ⟨h1,ea,h2,h3⟩
 ·exact .inl h
 ·exact .inr ⟨h1,ea,h2,by rw [e]; exact h3⟩
theorem LstC.snoc {k sz ea : Nat} {L : List (List Val)} {x : List Val} {H : Hp} (h : H k = some (ea,.arr sz (L ++ [x]))) : LstC k sz (L ++ [x]) (.gr k ea (L.length + 1)) H :=
 .inr ⟨by simp,ea,by simp,h⟩
theorem LstC.one {k sz ea : Nat} {x : List Val} {H : Hp} (h : H k = some (ea,.arr sz [x])) : LstC k sz ([] ++ [x]) (.gr k ea 1) H := LstC.snoc (L := []) h
section
variable {P : Program} {ro : Option Nat} {X : Cx} {Q : Exit → Fr → Hp → Prop} {f : Fr} {H : Hp} {c : Code}
theorem UJ (t n : Nat) (hv : f t = .nils) (h : AW P ro X c Q (upd f t (.lst n [])) H) : AW P ro X c Q f H := fun G a w s => by
 refine h G a w ⟨s.tr,s.rel,fun t' => ?_,s.size,s.dfr⟩
 by_cases ht : t' = t
 ·subst ht
  rw [A4]
  have := s.fr t'
  rw [hv] at this
  exact this.nils_lst n
 ·rw [A0 _ _ ht]; exact s.fr t'
theorem LI {t k sz : Nat} {L : List (List Val)} (hz : ∀ H : Hp,(L.map fun es => es.map (fzd H 5)) = L) (h : LstC k sz L (f t) H) (hc : ∀ f' H',f' t = .lst sz L → (∀ j,¬ j = t → f' j = f j) → (∀ j,¬ j = k → H' j = H j) → AW P ro X c Q f' H') : AW P ro X c Q f H := by
 rcases h with ⟨rfl,h⟩ | ⟨_,ea,h,hk⟩
 ·exact UJ t sz h (hc _ _ (A4 _ _ _) (fun j hj => A0 _ _ hj) fun _ _ => rfl)
 ·refine Er k hk ?_
  refine Lm t 6 ?_
  refine hc _ _ ?_ (fun j hj => A0 _ _ hj) fun j hj => A0 _ _ hj
  rw [A4,h]
  rw [Tl (n := 5) (A4 _ _ _) rfl,hz]
end
end Cp
namespace Cp
open Go Go.Proofs
set_option maxRecDepth 10000
set_option maxHeartbeats 1000000
def Bu (f : FailT) : Val := if f.held = 2 then .iface 133 (.agg []) else .iface 104 (.agg [.int .i64 f.at1.lo,.int .i64 f.at1.hi,.bool (decide (f.held = 0))])
theorem QE (f : FailT) : flat (Bu f) = true := by unfold Bu; split <;> rfl
def D9 (t : TestT) (eb em ver : Nat) (m : List SeenT) (H : Hp) : Prop := H 2204 = some (eb,.arr 24 [Au t em]) ∧ H 2202 = some (em,.map ver (KT m))
theorem NI {t : TestT} (h : Ae t.fin 0 t.notes = true) (c : Nat) : (∀ g,I7 t c = some g → 0 ≤ g ∧ g ≤ t.fin) ∧ ∀ b,BV t c = some b → 0 ≤ b ∧ b ≤ t.fin := by
 have hs : ∀ {l : List NoteT} {last : Int},0 ≤ last → Ae t.fin last l = true → ∀ n ∈ l,0 ≤ n.sec ∧ n.sec ≤ t.fin := by
  intro l
  induction l with
  | nil => intro _ _ _ n hn; cases hn
  | cons x l ih =>
   intro last h0 h n hn
   simp only [Ae,Cw,Jh,Bool.and_eq_true,decide_eq_true_eq] at h
   rcases List.mem_cons.1 hn with rfl | hn
   ·omega
   ·exact ih (by omega) h.2 n hn
 have hs := hs (Int.le_refl 0) h
 constructor
 ·have gen : ∀ (l : List NoteT) (a : Option Int),(∀ n ∈ l,0 ≤ n.sec ∧ n.sec ≤ t.fin) → (∀ g,a = some g → 0 ≤ g ∧ g ≤ t.fin) → ∀ g,F9 t c l a = some g → 0 ≤ g ∧ g ≤ t.fin := by
   intro l
   induction l with
   | nil => intro a _ ha g hg; exact ha g hg
   | cons x l ih =>
    intro a hl ha g hg
    simp only [F9] at hg
    refine ih _ (fun n hn => hl n (by simp [hn])) (fun g hg => ?_) g hg
    split at hg
    ·cases hg; exact hl x (by simp)
    ·exact ha g hg
  exact gen t.notes none hs (fun g hg => by cases hg)
 ·intro b hb
  unfold BV Gc at hb
  rw [Option.map_eq_some_iff] at hb
  obtain ⟨n,h1,rfl⟩ := hb
  exact hs n (List.mem_of_find?_eq_some h1)
theorem E4 (t : TestT) (hT : AZ t = true) (hR : t.run.rows.length ≤ 60) (c : Nat) (hc6 : c < 6) (eb em ver : Nat) (m : List SeenT) (hS : SeenM t 6 m) (H : Hp) (hL : D9 t eb em ver m H) :
  LookC Tryz.prog 50 [.ptr 2204 eb 24 0 0,.int .u8 ((c + 1 : Nat) : Int)] H (Bu (Ah t c)) := by
 obtain ⟨h4,h2⟩ := hL
 obtain ⟨hgc,hbc⟩ := hS.1 c hc6
 simp only [AZ,Em,Bool.and_eq_true,decide_eq_true_eq] at hT
 obtain ⟨hH,hN⟩ := hT
 obtain ⟨gb,bb⟩ := NI hN c
 have hlk := @Mn ((c + 1 : Nat) : Int)
 have fi := fun (s : Int) (m : List SeenT) => F7 (c := ((c + 1 : Nat) : Int)) (s := s) m 0
 simp only [D3] at fi
 have key : ∀ fr to sure,frC t c = fr → toC t c = to → (BV t c).isSome = sure → Bu (Ah t c) = if to < fr then .iface 133 (.agg []) else .iface 104 (.agg [.int .i64 (fr - t.clock.hi),.int .i64 (to - t.clock.lo),.bool sure]) := by
  rintro fr to sure rfl rfl rfl
  unfold Bu Ah
  by_cases h : toC t c < frC t c
  ·simp only [if_pos h,if_true]
  ·simp only [if_neg h]
   cases (BV t c).isSome <;> simp
 refine Dw (fn := Tryz.f50) tabOK (by kernel_rfl) rfl (by kernel_rfl) (by simp [Tryz.f50]) (QE _) ?_
 unfold frC toC at key
 intro X hX0 hXs
 cases hg1 : I7 t c <;> cases hb1 : BV t c <;> rw [hg1] at hgc gb <;> rw [hb1] at hbc bb <;> rw [hg1,hb1] at key
 ·rw [key 0 t.fin false rfl rfl rfl,if_neg (by omega)]
  repeat' (first | with_reducible (first | (refine sk ?_; intro K hK) | apply_assumption -exfalso -symm only [*]) | ((with_reducible first | refine rg (md := { base := 2500,own := [] }) (h := ?_) | refine nx ?_); try simp (disch := omega) only [h4,h2,hlk,fi,hgc,hbc,Option.isSome_some,Option.isSome_none,Option.getD_some,Option.getD_none,A2,Au,go_sem,simprocAttr]) | ((with_reducible refine' cE ?hv ?_ ?_); (case hv => rfl); all_goals (intro hc; (try simp only [go_sem,simprocAttr] at hc); try (exfalso; omega))) | ((with_reducible refine fe ?_); refine ⟨_,(by simp only [Tryz.f50,h4,h2,hlk,fi,hgc,hbc,Option.isSome_some,Option.isSome_none,Option.getD_some,Option.getD_none,A2,Au,go_sem,simprocAttr]; rfl),?_⟩; rfl) | fail)
 ·rename_i b
  have hb := bb b rfl
  rw [key 0 b true rfl rfl rfl,if_neg (by omega)]
  repeat' (first | with_reducible (first | (refine sk ?_; intro K hK) | apply_assumption -exfalso -symm only [*]) | ((with_reducible first | refine rg (md := { base := 2500,own := [] }) (h := ?_) | refine nx ?_); try simp (disch := omega) only [h4,h2,hlk,fi,hgc,hbc,Option.isSome_some,Option.isSome_none,Option.getD_some,Option.getD_none,A2,Au,go_sem,simprocAttr]) | ((with_reducible refine' cE ?hv ?_ ?_); (case hv => rfl); all_goals (intro hc; (try simp only [go_sem,simprocAttr] at hc); try (exfalso; omega))) | ((with_reducible refine fe ?_); refine ⟨_,(by simp only [Tryz.f50,h4,h2,hlk,fi,hgc,hbc,Option.isSome_some,Option.isSome_none,Option.getD_some,Option.getD_none,A2,Au,go_sem,simprocAttr]; rfl),?_⟩; rfl) | fail)
 ·rename_i g
  have hg := gb g rfl
  rw [key (g + 1) t.fin false rfl rfl rfl]
  by_cases hlt : t.fin < g + 1
  ·rw [if_pos hlt]
   repeat' (first | with_reducible (first | (refine sk ?_; intro K hK) | apply_assumption -exfalso -symm only [*]) | ((with_reducible first | refine rg (md := { base := 2500,own := [] }) (h := ?_) | refine nx ?_); try simp (disch := omega) only [h4,h2,hlk,fi,hgc,hbc,Option.isSome_some,Option.isSome_none,Option.getD_some,Option.getD_none,A2,Au,hlt,go_sem,simprocAttr]) | ((with_reducible refine' cE ?hv ?_ ?_); (case hv => rfl); all_goals (intro hc; (try simp only [go_sem,simprocAttr] at hc))) | ((with_reducible refine fe ?_); refine ⟨_,(by simp only [Tryz.f50,h4,h2,hlk,fi,hgc,hbc,Option.isSome_some,Option.isSome_none,Option.getD_some,Option.getD_none,A2,Au,hlt,go_sem,simprocAttr]; rfl),?_⟩; rfl) | fail)
  ·rw [if_neg hlt]
   repeat' (first | with_reducible (first | (refine sk ?_; intro K hK) | apply_assumption -exfalso -symm only [*]) | ((with_reducible first | refine rg (md := { base := 2500,own := [] }) (h := ?_) | refine nx ?_); try simp (disch := omega) only [h4,h2,hlk,fi,hgc,hbc,Option.isSome_some,Option.isSome_none,Option.getD_some,Option.getD_none,A2,Au,hlt,go_sem,simprocAttr]) | ((with_reducible refine' cE ?hv ?_ ?_); (case hv => rfl); all_goals (intro hc; (try simp only [go_sem,simprocAttr] at hc))) | ((with_reducible refine fe ?_); refine ⟨_,(by simp only [Tryz.f50,h4,h2,hlk,fi,hgc,hbc,Option.isSome_some,Option.isSome_none,Option.getD_some,Option.getD_none,A2,Au,hlt,go_sem,simprocAttr]; rfl),?_⟩; rfl) | fail)
 ·rename_i g b
  have hg := gb g rfl
  have hb := bb b rfl
  rw [key (g + 1) b true rfl rfl rfl]
  by_cases hlt : b < g + 1
  ·rw [if_pos hlt]
   repeat' (first | with_reducible (first | (refine sk ?_; intro K hK) | apply_assumption -exfalso -symm only [*]) | ((with_reducible first | refine rg (md := { base := 2500,own := [] }) (h := ?_) | refine nx ?_); try simp (disch := omega) only [h4,h2,hlk,fi,hgc,hbc,Option.isSome_some,Option.isSome_none,Option.getD_some,Option.getD_none,A2,Au,hlt,go_sem,simprocAttr]) | ((with_reducible refine' cE ?hv ?_ ?_); (case hv => rfl); all_goals (intro hc; (try simp only [go_sem,simprocAttr] at hc))) | ((with_reducible refine fe ?_); refine ⟨_,(by simp only [Tryz.f50,h4,h2,hlk,fi,hgc,hbc,Option.isSome_some,Option.isSome_none,Option.getD_some,Option.getD_none,A2,Au,hlt,go_sem,simprocAttr]; rfl),?_⟩; rfl) | fail)
  ·rw [if_neg hlt]
   repeat' (first | with_reducible (first | (refine sk ?_; intro K hK) | apply_assumption -exfalso -symm only [*]) | ((with_reducible first | refine rg (md := { base := 2500,own := [] }) (h := ?_) | refine nx ?_); try simp (disch := omega) only [h4,h2,hlk,fi,hgc,hbc,Option.isSome_some,Option.isSome_none,Option.getD_some,Option.getD_none,A2,Au,hlt,go_sem,simprocAttr]) | ((with_reducible refine' cE ?hv ?_ ?_); (case hv => rfl); all_goals (intro hc; (try simp only [go_sem,simprocAttr] at hc))) | ((with_reducible refine fe ?_); refine ⟨_,(by simp only [Tryz.f50,h4,h2,hlk,fi,hgc,hbc,Option.isSome_some,Option.isSome_none,Option.getD_some,Option.getD_none,A2,Au,hlt,go_sem,simprocAttr]; rfl),?_⟩; rfl) | fail)
end Cp
namespace Cp
open Go Go.Proofs
set_option maxRecDepth 10000
set_option maxHeartbeats 1000000
def C2 (fs : List FailT) : List FailT := fs.filter fun f => decide (f.held ≠ 2)
def CA (fs : List FailT) : Bool := fs.any fun f => decide (f.held = 0)
def C7 (sure : Bool) (h : Int) (b : FailT) : Int := if sure = true then (if b.held = 0 then min h b.at1.hi else h) else max h b.at1.hi
def Ev (fs : List FailT) : FailT := match C2 fs with
 | [] => ⟨2,⟨0,0⟩⟩
 | b :: l => ⟨if CA fs = true then 0 else 1,⟨(b :: l).foldl (fun x y => min x y.at1.lo) b.at1.lo,(b :: l).foldl (C7 (CA fs)) (if CA fs = true then 36000 else -36000)⟩⟩
def cBrk (f : FailT) : List Val := [.int .i64 f.at1.lo,.int .i64 f.at1.hi,.bool (decide (f.held = 0))]
theorem Oh {l : List FailT} {k : Nat} {x : FailT} (h : l[k]? = some x) : (l.map cBrk)[k]? = some (cBrk x) := by rw [List.getElem?_map,h]; rfl
theorem Tm {l : List FailT} {k : Nat} {x : FailT} (h : l[k]? = some x) : (l.map fun f => [Bu f])[k]? = some [Bu x] := by rw [List.getElem?_map,h]; rfl
theorem La (f : FailT) : noid (Bu f) = true := by unfold Bu; split <;> simp [noid,noids]
theorem OB (fs : List FailT) : noidss (fs.map fun f => [Bu f]) = true := Bl fun f => by simp [noids,La]
theorem Q7 (fs : List FailT) (hl : fs.length ≤ 100000) (hh : ∀ f ∈ fs,f.held = 0 ∨ f.held = 1 ∨ f.held = 2) : PureC Tryz.prog 66 [.lst 1 (fs.map fun f => [Bu f])] (Bu (Ev fs)) := by
 have hnv := La (Ev fs)
 have hn := OB fs
 refine A8 (fn := Tryz.f66) tabOK (by kernel_rfl) rfl (by kernel_rfl) (by simp [Tryz.f66]) (by simp [noids,noid,noidss,go_sem,hnv,hn]) (by first | rfl | simp [noids,noid,noidss,go_sem,hnv,hn]) ?_
 intro X hX0 hXs
 repeat' (first | with_reducible (first | ((fail_if_success (refine Di (id := 3) ?_)); refine sk ?_; intro K hK) | apply_assumption -exfalso -symm only [*]) | ((with_reducible refine rg (md := { base := 0,own := [9,27] }) (h := ?_)); try simp (disch := omega) only [go_sem,simprocAttr]) | fail)
 have hcut : ∀ f H,f 4 = .bool (CA fs) ∧ LstC 27 3 ((C2 fs).map cBrk) (f 3) H → K f H := by
  rintro f H ⟨h4,hL⟩
  refine hK f H ?_
  clear hK
  have hz : ∀ H : Hp,(((C2 fs).map cBrk).map fun es => es.map (fzd H 5)) = (C2 fs).map cBrk := fun H => CF (fun _ => rfl) _
  refine LI (t := 3) hz hL fun f2 H2 h3 hf2 hH2 => ?_
  have g4 := (hf2 4 (by decide)).trans h4
  clear hf2 hH2 hL h4
  unfold Ev at hnv ⊢
  obtain ⟨bs,hbs⟩ : ∃ bs,C2 fs = bs := ⟨_,rfl⟩
  have hbl : bs.length ≤ 100000 := by
   have := List.length_filter_le (fun f : FailT => decide (f.held ≠ 2)) fs
   rw [← hbs]; unfold C2; omega
  rw [hbs] at h3 hnv ⊢
  clear hz
  generalize CA fs = S at *
  cases bs with
  | nil =>
   repeat' (first | with_reducible (first | (refine sk ?_; intro K hK) | apply_assumption -exfalso -symm only [*]) | ((with_reducible first | refine rg (md := { base := 0,own := [9,27] }) (h := ?_) | refine nx ?_); try simp (disch := omega) only [h3,g4,Bu,go_sem,simprocAttr]) | ((with_reducible refine' cE ?hv ?_ ?_); (case hv => rfl); all_goals (intro hc; (try simp only [go_sem,simprocAttr] at hc))) | ((with_reducible refine fe ?_); refine ⟨_,(by simp only [Tryz.f66,h3,g4,Bu,go_sem,simprocAttr]; rfl),?_⟩; rfl) | fail)
  | cons b0 l0 =>
   refine Bn [] ?_
   obtain ⟨bs,hbs2⟩ : ∃ bs,b0 :: l0 = bs := ⟨_,rfl⟩
   have h0 : bs[0]? = some b0 := by rw [← hbs2]; rfl
   have h0a := Oh h0
   have hne : ¬ bs.length = 0 := by rw [← hbs2]; simp
   simp only [hbs2] at *
   have hne' : ¬ ((bs.length : Nat) : Int) = 0 := by omega
   have hpos : 0 < bs.length := by omega
   clear hbs2
   cases S with
   | true =>
    repeat' (first | with_reducible (first | (refine sk ?_; intro K hK) | intro (ep : Nat → Nat) | apply_assumption -exfalso -symm only [*]) | ((with_reducible first | refine rg (md := { base := 0,own := [9,27] }) (h := ?_) | refine nx ?_); try simp (disch := omega) only [h3,g4,h0a,hne',hpos,cBrk,go_sem,simprocAttr]) | ((with_reducible refine' cE ?hv ?_ ?_); (case hv => rfl); all_goals (intro hc; (try simp only [go_sem,simprocAttr] at hc))) | fail)
    refine Av tabOK bs.length (fun k f H => (f 4 = .bool true ∧ f 50 = .lst 3 (bs.map cBrk)) ∧ ∃ e9,f 9 = .ptr 9 e9 3 0 0 ∧ H 9 = some (e9,.arr 3 [[.int .i64 ((bs.take k).foldl (fun x y => min x y.at1.lo) b0.at1.lo),.int .i64 ((bs.take k).foldl (C7 true) 36000),.bool true]])) (by omega) (by rw [hXs]; decide) (by decide) (by (first | rfl | (simp only [h3,go_sem,simprocAttr]; done) | (simp only [h3,go_sem,simprocAttr]; rfl))) (by (first | rfl | (simp only [h3,go_sem,simprocAttr]; done) | (simp only [h3,go_sem,simprocAttr]; rfl)))
     ⟨by (and_intros <;> first | rfl | (simp only [h3,g4,go_sem,simprocAttr]; done) | (simp only [h3,g4,go_sem,simprocAttr]; rfl)),_,by (first | rfl | (simp only [go_sem,simprocAttr]; done) | (simp only [go_sem,simprocAttr]; rfl)),by (first | rfl | (simp only [List.take_zero,List.foldl_nil,go_sem,simprocAttr]; done) | (simp only [List.take_zero,List.foldl_nil,go_sem,simprocAttr]; rfl))⟩ ?_ ?_
    ·rintro k f H hk h52 h51 ⟨⟨h4,h50⟩,e9,h9,H9⟩
     obtain ⟨x,hx⟩ : ∃ x,bs[k]? = some x := ⟨_,List.getElem?_eq_getElem hk⟩
     have hxa := Oh hx
     simp only [BL hx,List.foldl_append,List.foldl_cons,List.foldl_nil]
     generalize (bs.take k).foldl (fun x y => min x y.at1.lo) b0.at1.lo = lo at *
     generalize (bs.take k).foldl (C7 true) 36000 = hi at *
     refine Bn [9] ?_
     have k11 : BQ H [9] 11 = none := rfl
     have k9 := H9
     change BQ H [9] 9 = _ at k9
     generalize BQ H [9] = H2 at k11 k9 ⊢
     clear H9 h3 g4 h0a hnv
     by_cases h0 : x.held = 0
     ·repeat' (first | with_reducible (first | (refine sk ?_; intro K hK) | refine bk ?_ | intro (ep : Nat → Nat) | apply_assumption -exfalso -symm only [*]) | ((with_reducible refine rg (md := { base := 0,own := [9,27] }) (h := ?_)); try simp (disch := omega) only [h4,h9,h50,h51,h52,hxa,k11,k9,h0,cBrk,go_sem,simprocAttr]) | ((with_reducible refine' cE ?hv ?_ ?_); (case hv => rfl); all_goals (intro hc; (try simp only [go_sem,simprocAttr] at hc))) | fail)
      exact ⟨e9,rfl,by simp only [C7,h0,if_true,if_false]⟩
     ·repeat' (first | with_reducible (first | (refine sk ?_; intro K hK) | refine bk ?_ | intro (ep : Nat → Nat) | apply_assumption -exfalso -symm only [*]) | ((with_reducible first | refine rg (md := { base := 0,own := [9,27] }) (h := ?_) | refine nx ?_); try simp (disch := omega) only [h4,h9,h50,h51,h52,hxa,k11,k9,h0,cBrk,go_sem,simprocAttr]) | ((with_reducible refine' cE ?hv ?_ ?_); (case hv => rfl); all_goals (intro hc; (try simp only [go_sem,simprocAttr] at hc))) | fail)
      exact ⟨e9,rfl,by simp only [C7,h0,if_true,if_false]⟩
    ·rintro f H h52 h51 ⟨⟨h4,h50⟩,e9,h9,H9⟩
     rw [List.take_of_length_le (Nat.le_refl _)] at H9
     repeat' (first | with_reducible (first | (refine sk ?_; intro K hK) | apply_assumption -exfalso -symm only [*]) | ((with_reducible first | refine rg (md := { base := 0,own := [9,27] }) (h := ?_) | refine nx ?_); try simp (disch := omega) only [h4,h9,H9,Bu,go_sem,simprocAttr]) | ((with_reducible refine fe ?_); refine ⟨_,(by simp only [Tryz.f66,h4,h9,H9,Bu,go_sem,simprocAttr]; rfl),?_⟩; rfl) | fail)
   | false =>
    repeat' (first | with_reducible (first | (refine sk ?_; intro K hK) | intro (ep : Nat → Nat) | apply_assumption -exfalso -symm only [*]) | ((with_reducible first | refine rg (md := { base := 0,own := [9,27] }) (h := ?_) | refine nx ?_); try simp (disch := omega) only [h3,g4,h0a,hne',hpos,cBrk,go_sem,simprocAttr]) | ((with_reducible refine' cE ?hv ?_ ?_); (case hv => rfl); all_goals (intro hc; (try simp only [go_sem,simprocAttr] at hc))) | fail)
    refine Av tabOK bs.length (fun k f H => (f 4 = .bool false ∧ f 50 = .lst 3 (bs.map cBrk)) ∧ ∃ e9,f 9 = .ptr 9 e9 3 0 0 ∧ H 9 = some (e9,.arr 3 [[.int .i64 ((bs.take k).foldl (fun x y => min x y.at1.lo) b0.at1.lo),.int .i64 ((bs.take k).foldl (C7 false) (-36000)),.bool false]])) (by omega) (by rw [hXs]; decide) (by decide) (by (first | rfl | (simp only [h3,go_sem,simprocAttr]; done) | (simp only [h3,go_sem,simprocAttr]; rfl))) (by (first | rfl | (simp only [h3,go_sem,simprocAttr]; done) | (simp only [h3,go_sem,simprocAttr]; rfl)))
     ⟨by (and_intros <;> first | rfl | (simp only [h3,g4,go_sem,simprocAttr]; done) | (simp only [h3,g4,go_sem,simprocAttr]; rfl)),_,by (first | rfl | (simp only [go_sem,simprocAttr]; done) | (simp only [go_sem,simprocAttr]; rfl)),by (first | rfl | (simp only [List.take_zero,List.foldl_nil,go_sem,simprocAttr]; done) | (simp only [List.take_zero,List.foldl_nil,go_sem,simprocAttr]; rfl))⟩ ?_ ?_
    ·rintro k f H hk h52 h51 ⟨⟨h4,h50⟩,e9,h9,H9⟩
     obtain ⟨x,hx⟩ : ∃ x,bs[k]? = some x := ⟨_,List.getElem?_eq_getElem hk⟩
     have hxa := Oh hx
     simp only [BL hx,List.foldl_append,List.foldl_cons,List.foldl_nil]
     generalize (bs.take k).foldl (fun x y => min x y.at1.lo) b0.at1.lo = lo at *
     generalize (bs.take k).foldl (C7 false) (-36000) = hi at *
     refine Bn [9] ?_
     have k11 : BQ H [9] 11 = none := rfl
     have k9 := H9
     change BQ H [9] 9 = _ at k9
     generalize BQ H [9] = H2 at k11 k9 ⊢
     clear H9 h3 g4 h0a hnv
     repeat' (first | with_reducible (first | (refine sk ?_; intro K hK) | refine bk ?_ | intro (ep : Nat → Nat) | apply_assumption -exfalso -symm only [*]) | ((with_reducible refine rg (md := { base := 0,own := [9,27] }) (h := ?_)); try simp (disch := omega) only [h4,h9,h50,h51,h52,hxa,k11,k9,cBrk,go_sem,simprocAttr]) | ((with_reducible refine' cE ?hv ?_ ?_); (case hv => rfl); all_goals (intro hc; (try simp only [go_sem,simprocAttr] at hc))) | fail)
     exact ⟨e9,rfl,by simp only [C7,Bool.false_eq_true,if_false]⟩
    ·rintro f H h52 h51 ⟨⟨h4,h50⟩,e9,h9,H9⟩
     rw [List.take_of_length_le (Nat.le_refl _)] at H9
     repeat' (first | with_reducible (first | (refine sk ?_; intro K hK) | apply_assumption -exfalso -symm only [*]) | ((with_reducible first | refine rg (md := { base := 0,own := [9,27] }) (h := ?_) | refine nx ?_); try simp (disch := omega) only [h4,h9,H9,Bu,go_sem,simprocAttr]) | ((with_reducible refine fe ?_); refine ⟨_,(by simp only [Tryz.f66,h4,h9,H9,Bu,go_sem,simprocAttr]; rfl),?_⟩; rfl) | fail)
 clear hK
 repeat' (first | with_reducible (first | (refine sk ?_; intro K hK) | apply_assumption -exfalso -symm only [*]) | ((with_reducible refine rg (md := { base := 0,own := [9,27] }) (h := ?_)); try simp (disch := omega) only [hn,go_sem,simprocAttr]) | fail)
 refine Av tabOK fs.length (fun k f H => (f 12 = .lst 1 (fs.map fun f => [Bu f]) ∧ f 4 = .bool (CA (fs.take k))) ∧ LstC 27 3 ((C2 (fs.take k)).map cBrk) (f 3) H) (by omega) (by rw [hXs]; decide) (by decide) (by (first | rfl | (simp only [go_sem,simprocAttr]; done) | (simp only [go_sem,simprocAttr]; rfl))) (by (first | rfl | (simp only [go_sem,simprocAttr]; done) | (simp only [go_sem,simprocAttr]; rfl)))
  ⟨by (and_intros <;> first | rfl | (simp only [go_sem,simprocAttr]; done) | (simp only [go_sem,simprocAttr]; rfl)),.inl ⟨rfl,by (first | rfl | (simp only [go_sem,simprocAttr]; done) | (simp only [go_sem,simprocAttr]; rfl))⟩⟩ ?_ ?_
 ·clear hcut
  rintro k f H hk h14 h13 ⟨⟨h12,h4⟩,hL⟩
  obtain ⟨x,hx⟩ : ∃ x,fs[k]? = some x := ⟨_,List.getElem?_eq_getElem hk⟩
  have hxa := Tm hx
  have hxh := hh x (List.mem_of_getElem? hx)
  have hcs : C2 (fs.take (k + 1)) = C2 (fs.take k) ++ (if x.held = 2 then [] else [x]) := by
   rw [BL hx,C2,List.filter_append]
   by_cases h : x.held = 2 <;> simp [C2,h]
  have hsn : CA (fs.take (k + 1)) = (CA (fs.take k) || decide (x.held = 0)) := by
   rw [BL hx,CA,List.any_append]
   simp [CA]
  have hcl : (C2 (fs.take k)).length ≤ 100000 := by
   have := List.length_filter_le (fun f : FailT => decide (f.held ≠ 2)) (fs.take k)
   rw [List.length_take] at this
   unfold C2; omega
  generalize C2 (fs.take k) = C at *
  generalize CA (fs.take k) = S at *
  refine Bn [27] ?_
  have k7 : BQ H [27] 7 = none := rfl
  have k3 : LstC 27 3 (C.map cBrk) (f 3) (BQ H [27]) := hL.same rfl
  generalize BQ H [27] = H2 at k7 k3 ⊢
  clear hL
  by_cases h2 : x.held = 2
  ·have he : Bu x = .iface 133 (.agg []) := if_pos h2
   rw [he] at hxa
   rw [if_pos h2,List.append_nil] at hcs
   have h0 : ¬ x.held = 0 := by omega
   rw [decide_eq_false h0,Bool.or_false] at hsn
   repeat' (first | with_reducible (first | (refine sk ?_; intro K hK) | intro (ep : Nat → Nat) | apply_assumption -exfalso -symm only [*]) | ((with_reducible first | refine rg (md := { base := 0,own := [9,27] }) (h := ?_) | refine nx ?_); try simp (disch := omega) only [h4,h12,h13,h14,hxa,k7,go_sem,simprocAttr]) | ((with_reducible refine' cE ?hv ?_ ?_); (case hv => rfl); all_goals (intro hc; (try simp only [go_sem,simprocAttr] at hc))) | fail)
   exact ⟨by rw [hsn],by rw [hcs]; exact k3.same (by rw [A0 _ _ (by decide),A0 _ _ (by decide)])⟩
  ·have he : Bu x = .iface 104 (.agg [.int .i64 x.at1.lo,.int .i64 x.at1.hi,.bool (decide (x.held = 0))]) := if_neg h2
   rw [he] at hxa
   rw [if_neg h2] at hcs
   rcases k3 with ⟨hC,h3⟩ | ⟨hne,ea,h3,k27⟩
   ·refine Aw 27 fun H3 g27 hs3 => ?_
    have q7 := (hs3 7 (by decide)).trans k7
    clear hs3 k7
    repeat' (first | with_reducible (first | (refine sk ?_; intro K hK) | intro (ep : Nat → Nat) | apply_assumption -exfalso -symm only [*]) | ((with_reducible refine rg (md := { base := 0,own := [9,27] }) (h := ?_)); try simp (disch := omega) only [h3,h4,h12,h13,h14,hxa,q7,g27,go_sem,simprocAttr]) | ((with_reducible refine' cE ?hv ?_ ?_); (case hv => rfl); all_goals (intro hc; (try simp only [go_sem,simprocAttr] at hc))) | ((with_reducible refine Ab ?_ ?_) <;> intro hg <;> (try simp (disch := omega) only [hg,h3,h4,h12,h13,h14,hxa,q7,g27,go_sem,simprocAttr]) <;> (try simp only [go_sem,simprocAttr] at hg) <;> (try (exfalso; omega))) | fail)
    all_goals exact ⟨by rw [hsn]; simp_all,by rw [hcs,List.map_append,hC]; exact .one (by (first | rfl | (simp only [cBrk,go_sem,simprocAttr]; done) | (simp only [cBrk,go_sem,simprocAttr]; rfl)))⟩
   ·have hkb : C.length ≤ 1073741823 := by omega
    rw [List.length_map] at h3
    repeat' (first | with_reducible (first | (refine sk ?_; intro K hK) | intro (ep : Nat → Nat) | apply_assumption -exfalso -symm only [*]) | ((with_reducible refine rg (md := { base := 0,own := [9,27] }) (h := ?_)); try simp (disch := omega) only [h3,h4,h12,h13,h14,hxa,k7,k27,hkb,go_sem,simprocAttr]) | ((with_reducible refine' cE ?hv ?_ ?_); (case hv => rfl); all_goals (intro hc; (try simp only [go_sem,simprocAttr] at hc))) | ((with_reducible refine Ab ?_ ?_) <;> intro hg <;> (try simp (disch := omega) only [hg,h3,h4,h12,h13,h14,hxa,k7,k27,hkb,go_sem,simprocAttr]) <;> (try simp only [go_sem,simprocAttr] at hg) <;> (try (exfalso; omega))) | fail)
    all_goals exact ⟨by rw [hsn]; simp_all,by rw [hcs,List.map_append,List.map_cons,List.map_nil,← List.length_map (f := cBrk)]; exact .snoc (by (first | rfl | (simp only [cBrk,go_sem,simprocAttr]; done) | (simp only [cBrk,go_sem,simprocAttr]; rfl)))⟩
 ·rintro f H h14 h13 ⟨⟨h12,h4⟩,hL⟩
  rw [List.take_of_length_le (Nat.le_refl _)] at h4 hL
  repeat' (first | with_reducible apply_assumption -exfalso -symm only [*] | fail)
  exact ⟨by (first | rfl | (simp only [h4,go_sem,simprocAttr]; done) | (simp only [h4,go_sem,simprocAttr]; rfl)),hL⟩
end Cp
namespace Cp
open Go Go.Proofs
set_option maxRecDepth 10000
set_option maxHeartbeats 1000000
theorem CP (t : TestT) (c : Nat) : (Ah t c).held = 0 ∨ (Ah t c).held = 1 ∨ (Ah t c).held = 2 := by
 unfold Ah
 split
 ·exact .inr (.inr rfl)
 ·cases (BV t c).isSome <;> simp
def AB (t : TestT) (n : Nat) : List FailT := (List.range n).map (Ah t)
def Aa (t : TestT) (l : Nat) : FailT := Ev (AB t (2 * l))
theorem NP {t : TestT} {n : Nat} : AB t (n + 1) = AB t n ++ [Ah t n] := by simp [AB,List.range_succ]
theorem JZ {t : TestT} {n : Nat} : (AB t n).length = n := by simp [AB]
theorem P8 (f : FailT) : vcells (Bu f) = some [Bu f] := by unfold Bu; split <;> rfl
theorem NG {f : FailT} {H : Hp} {n : Nat} : fzd H (n + 3) (Bu f) = Bu f := by unfold Bu; split <;> rfl
theorem IW (t : TestT) (hT : AZ t = true) (hR : t.run.rows.length ≤ 60) (l : Nat) (hl : 1 ≤ l ∧ l ≤ 3) (eb em ver : Nat) (m : List SeenT) (hS : SeenM t 6 m) (H0 : Hp) (hL : D9 t eb em ver m H0) :
  BD Tryz.prog 39 [.ptr 2204 eb 24 0 0,.int .u8 (l : Int)] H0 fun v H' => v = Bu (Aa t l) ∧ ∀ j,j < 2600 → H' j = H0 j := by
 refine BN (fn := Tryz.f39) tabOK (by kernel_rfl) rfl (by kernel_rfl) (by simp [Tryz.f39]) ?_
 intro X hX0 hXs
 have h2l : (2 : Int) * (l : Int) = ((2 * l : Nat) : Int) := by omega
 repeat' (first | with_reducible (first | (refine sk ?_; intro K hK) | apply_assumption -exfalso -symm only [*]) | ((with_reducible refine rgL [] [18] (md := { base := 2600,own := [20] }) (h := ?_)); try simp (disch := omega) only [h2l,go_sem,simprocAttr]) | fail)
 refine Av tabOK (2 * l) (fun k f H => (f 0 = .ptr 2204 eb 24 0 0 ∧ ∃ _ : Unit,∀ j,j < 2600 → H j = H0 j) ∧ D9 t eb em ver m H ∧ LstC 2620 1 ((AB t k).map fun f => [Bu f]) (f 5) H) (by omega) (by rw [hXs]; decide) (by decide) (by (first | rfl | (simp only [go_sem,simprocAttr]; done) | (simp only [go_sem,simprocAttr]; rfl))) (by (first | rfl | (simp only [go_sem,simprocAttr]; done) | (simp only [go_sem,simprocAttr]; rfl)))
  ⟨⟨by (first | rfl | (simp only [go_sem,simprocAttr]; done) | (simp only [go_sem,simprocAttr]; rfl)),(),fun j hj => rfl⟩,hL,.inl ⟨rfl,by (first | rfl | (simp only [go_sem,simprocAttr]; done) | (simp only [go_sem,simprocAttr]; rfl))⟩⟩ ?_ ?_
 ·rintro k f H hk h10 h9 ⟨⟨h0,hlo⟩,hL,hG⟩
  have hw : IntKind.u8.wrap ((k + 1 : Nat) : Int) = ((k + 1 : Nat) : Int) := IntWalk.u8_in _ (by omega)
  have cl := fun H h => E4 t hT hR k (by omega) eb em ver m hS H h
  have hln := @JZ t k
  rw [NP,List.map_append,List.map_cons,List.map_nil]
  generalize AB t k = C at *
  rcases hG with ⟨hC,h5⟩ | ⟨hne,ea,h5,k20⟩
  ·refine Aw 2620 fun H3 g20 hs3 => ?_
   have hL3 : D9 t eb em ver m H3 := ⟨(hs3 2204 (by decide)).trans hL.1,(hs3 2202 (by decide)).trans hL.2⟩
   clear hL
   repeat' (first | with_reducible (first | (refine sk ?_; intro K hK) | intro (ep : Nat → Nat) | apply_assumption -exfalso -symm only [*]) | ((first | (with_reducible refine rgL [] [18] (md := { base := 2600,own := [20] }) (h := ?_)) | refine lK (cl _ hL3) ?_); try simp (disch := omega) only [h0,h5,h9,h10,g20,hw,P8,go_sem,simprocAttr]) | fail)
   exact ⟨⟨(),fun j hj => by obtain ⟨_,hlo⟩ := hlo; rw [if_neg (by omega),hs3 j (by omega),hlo j hj]⟩,⟨(A0 _ _ (by decide)).trans hL3.1,(A0 _ _ (by decide)).trans hL3.2⟩,by rw [hC]; exact .one (A4 _ _ _)⟩
  ·rw [List.length_map] at h5
   have hkb : C.length ≤ 1073741823 := by omega
   repeat' (first | with_reducible (first | (refine sk ?_; intro K hK) | intro (ep : Nat → Nat) | apply_assumption -exfalso -symm only [*]) | ((first | (with_reducible refine rgL [] [18] (md := { base := 2600,own := [20] }) (h := ?_)) | refine lK (cl _ hL) ?_); try simp (disch := omega) only [h0,h5,h9,h10,k20,hw,hkb,P8,go_sem,simprocAttr]) | fail)
   exact ⟨⟨(),fun j hj => by obtain ⟨_,hlo⟩ := hlo; rw [if_neg (by omega),hlo j hj]⟩,⟨(A0 _ _ (by decide)).trans hL.1,(A0 _ _ (by decide)).trans hL.2⟩,by rw [← List.length_map (f := fun f : FailT => [Bu f])]; exact .snoc (A4 _ _ _)⟩
 ·rintro f H h10 h9 ⟨⟨h0,hlo⟩,hL,hG⟩
  repeat' (first | with_reducible apply_assumption -exfalso -symm only [*] | fail)
  have hz : ∀ H : Hp,(((AB t (2 * l)).map fun f => [Bu f]).map fun es => es.map (fzd H 5)) = (AB t (2 * l)).map fun f => [Bu f] := fun H => CF (fun f => by simp only [List.map_cons,List.map_nil,NG]) _
  refine LI (t := 5) (k := 2620) (L := (AB t (2 * l)).map fun f => [Bu f]) hz hG fun f2 H2 h5 hf2 hH2 => ?_
  have hlo2 : ∃ _ : Unit,∀ j,j < 2600 → H2 j = H0 j := by obtain ⟨_,h⟩ := hlo; exact ⟨(),fun j hj => (hH2 j (by omega)).trans (h j hj)⟩
  clear hf2 hH2 hG hz h10 h9 h0 hlo
  have cf := Q7 (AB t (2 * l)) (by rw [JZ]; omega) (fun f hf => by
   unfold AB at hf
   obtain ⟨c,_,rfl⟩ := List.mem_map.1 hf
   exact CP t c)
  repeat' (first | with_reducible (first | (refine sk ?_; intro K hK) | apply_assumption -exfalso -symm only [*]) | ((first | (with_reducible first | refine rgL [] [18] (md := { base := 2600,own := [20] }) (h := ?_) | refine nx ?_) | refine pK (cf) ?_); try simp (disch := omega) only [h5,go_sem,simprocAttr]) | fail)
  refine AM (Or.inl rfl) (.refl _) (by simp only [Tryz.f39,go_sem,simprocAttr]; rfl) ?_
  obtain ⟨_,hlo3⟩ := hlo2
  exact ⟨NG,hlo3⟩
end Cp
namespace Cp
open Go
def Jb (o f : FailT) : FailT := if f.held = 2 then o else if o.held = 2 then f else
 ⟨min o.held f.held,⟨min o.at1.lo f.at1.lo,if f.held = 0 ∧ o.held = 0 then min o.at1.hi f.at1.hi else if f.held = 0 then f.at1.hi else if o.held = 1 then max o.at1.hi f.at1.hi else o.at1.hi⟩⟩
def MB (f : FailT) : Prop := (f.held = 0 ∨ f.held = 1 ∨ f.held = 2) ∧ -36000 ≤ f.at1.hi ∧ f.at1.hi ≤ 36000
theorem UB {l : List FailT} : ∀ {h : Int},(∀ f ∈ l,¬ f.held = 0) → l.foldl (C7 true) h = h := by
 induction l with
 | nil => intro h _; rfl
 | cons a l ih =>
  intro h hh
  rw [List.foldl_cons]
  have : C7 true h a = h := by simp [C7,hh a (by simp)]
  rw [this]
  exact ih fun f hf => hh f (by simp [hf])
theorem RL {fs : List FailT} {f : FailT} (h : f ∈ C2 fs) : f ∈ fs ∧ ¬ f.held = 2 := by
 simpa [C2] using h
theorem Ot {fs : List FailT} {x : FailT} (hx : MB x) (hb : ∀ f ∈ fs,MB f) : Ev (fs ++ [x]) = Jb (Ev fs) x := by
 have hc : C2 (fs ++ [x]) = C2 fs ++ (if x.held = 2 then [] else [x]) := by
  rw [C2,List.filter_append]
  by_cases h : x.held = 2 <;> simp [C2,h]
 have hs : CA (fs ++ [x]) = (CA fs || decide (x.held = 0)) := by simp [CA]
 obtain ⟨hx1,hx2,hx3⟩ := hx
 by_cases h2 : x.held = 2
 ·have h0 : ¬ x.held = 0 := by omega
  rw [if_pos h2,List.append_nil] at hc
  rw [decide_eq_false h0,Bool.or_false] at hs
  unfold Ev Jb
  rw [hc,hs,if_pos h2]
 ·rw [if_neg h2] at hc
  unfold Ev Jb
  rw [if_neg h2,hc,hs]
  cases hC : C2 fs with
  | nil =>
   have hns : CA fs = false := by
    rw [CA,List.any_eq_false]
    intro f hf
    by_cases h : f.held = 2
    ·simp [h]
    ·have : f ∈ C2 fs := by simp [C2,hf,h]
     rw [hC] at this; cases this
   rw [hns]
   obtain ⟨a,b,c⟩ := x
   simp only at *
   rcases hx1 with rfl | rfl | rfl
   ·simp [C7]; omega
   ·simp [C7]; omega
   ·exact absurd rfl h2
  | cons b l =>
   simp only [List.cons_append]
   have hfo : ∀ {β : Type} (g : β → FailT → β) (a : β),(b :: (l ++ [x])).foldl g a = g ((b :: l).foldl g a) x := fun g a => by
    rw [← List.cons_append,List.foldl_append]; rfl
   rw [hfo,hfo]
   cases hS : CA fs with
   | true =>
    simp only [Bool.true_or,if_true]
    rcases hx1 with h | h | h
    ·simp [C7,h]
    ·simp [C7,h]; decide
    ·exact absurd h h2
   | false =>
    have hn0 : ∀ f ∈ b :: l,¬ f.held = 0 := fun f hf h => by
     rw [← hC] at hf
     have hm := (RL hf).1
     rw [CA,List.any_eq_false] at hS
     have := hS f hm
     simp [h] at this
    simp only [Bool.false_or]
    rcases hx1 with h | h | h
    ·have e := UB (h := 36000) hn0
     simp only [h,decide_true,if_true,e]
     simp [C7,h]; omega
    ·simp [C7,h]
    ·exact absurd h h2
theorem OT (fs : List FailT) (hb : ∀ f ∈ fs,MB f) : fs.foldl Jb ⟨2,⟨0,0⟩⟩ = Ev fs := by
 have gen : ∀ n,(fs.take n).foldl Jb ⟨2,⟨0,0⟩⟩ = Ev (fs.take n) := by
  intro n
  induction n with
  | zero => rfl
  | succ n ih =>
   by_cases h : n < fs.length
   ·have hx : fs[n]? = some fs[n] := List.getElem?_eq_getElem h
    rw [BL hx,List.foldl_append,ih,Ot (hb _ (List.getElem_mem h)) fun f hf => hb f (List.mem_of_mem_take hf)]
    rfl
   ·rw [List.take_of_length_le (by omega)] at ih ⊢
    exact ih
 have := gen fs.length
 rwa [List.take_of_length_le (Nat.le_refl _)] at this
end Cp
namespace Cp
open Go Go.Proofs
set_option maxRecDepth 10000
theorem JB (a b : Span) (h : (-1000000000000 ≤ a.lo ∧ a.lo ≤ 1000000000000) ∧ (-1000000000000 ≤ a.hi ∧ a.hi ≤ 1000000000000) ∧ (-1000000000000 ≤ b.lo ∧ b.lo ≤ 1000000000000) ∧ (-1000000000000 ≤ b.hi ∧ b.hi ≤ 1000000000000)) :
  PureC Tryz.prog 102 [A6 a,.lst 2 [[.int .i64 b.lo,.int .i64 b.hi]]] (A6 ⟨a.lo + b.lo,a.hi + b.hi⟩) := by
 refine A8 (fn := Tryz.f102) tabOK (by kernel_rfl) rfl (by kernel_rfl) (by simp [Tryz.f102]) (by simp [noids,noid,noidss,go_sem,A6]) (by first | rfl | simp [noids,noid,noidss,go_sem,A6]) ?_
 intro X hX0 hXs
 repeat' (first | with_reducible (first | (refine sk ?_; intro K hK) | intro (ep : Nat → Nat) | apply_assumption -exfalso -symm only [*]) | ((with_reducible refine rg (md := { base := 0,own := [2] }) (h := ?_)); try simp (disch := omega) only [A6,go_sem,simprocAttr]) | fail)
 refine Av tabOK 1 (fun k f H => f 7 = .lst 2 [[.int .i64 b.lo,.int .i64 b.hi]] ∧ ∃ e2 e4 x y,f 2 = .ptr 2 e2 2 0 0 ∧ H 2 = some (e2,.arr 2 [[.int .i64 x,.int .i64 y]]) ∧ f 4 = .ptr 4 e4 2 0 0 ∧ H 4 = some (e4,.arr 2 [[.int .i64 0,.int .i64 0]]) ∧ x = a.lo + k * b.lo ∧ y = a.hi + k * b.hi) (by omega) (by rw [hXs]; decide) (by decide) (by simp only [go_sem,simprocAttr]) (by (first | rfl | (simp only [go_sem,simprocAttr]; done) | (simp only [go_sem,simprocAttr]; rfl)))
  ⟨by (first | rfl | (simp only [go_sem,simprocAttr]; done) | (simp only [go_sem,simprocAttr]; rfl)),_,_,a.lo,a.hi,by (first | rfl | (simp only [go_sem,simprocAttr]; done) | (simp only [go_sem,simprocAttr]; rfl)),by (first | rfl | (simp only [go_sem,simprocAttr]; done) | (simp only [go_sem,simprocAttr]; rfl)),by (first | rfl | (simp only [go_sem,simprocAttr]; done) | (simp only [go_sem,simprocAttr]; rfl)),by (first | rfl | (simp only [go_sem,simprocAttr]; done) | (simp only [go_sem,simprocAttr]; rfl)),by simp,by simp⟩ ?_ ?_
 ·rintro k f H hk h9 h8 ⟨h7,e2,e4,x,y,h2,hH2,h4,hH4,hx,hy⟩
  obtain rfl : k = 0 := by omega
  simp only [Int.ofNat_zero,Int.zero_mul,Int.add_zero,Int.natCast_zero,Int.cast_ofNat_Int] at hx hy
  have hx' : x = a.lo := by simpa using hx
  have hy' : y = a.hi := by simpa using hy
  subst hx' hy'
  refine Bn [2,4] ?_
  repeat' (first | with_reducible (first | (refine sk ?_; intro K hK) | intro (ep : Nat → Nat) | apply_assumption -exfalso -symm only [*]) | ((with_reducible refine rg (md := { base := 0,own := [2] }) (h := ?_)); try simp (disch := omega) only [h2,h4,h7,h8,h9,hH2,hH4,go_sem,simprocAttr]) | fail)
  exact ⟨_,_,_,_,rfl,rfl,rfl,rfl,by simp,by simp⟩
 ·rintro f H h9 h8 ⟨h7,e2,e4,x,y,h2,hH2,h4,hH4,hx,hy⟩
  repeat' (first | with_reducible (first | (refine sk ?_; intro K hK) | apply_assumption -exfalso -symm only [*]) | ((with_reducible first | refine rg (md := { base := 0,own := [2] }) (h := ?_) | refine nx ?_); try simp (disch := omega) only [h2,h4,hH2,hH4,A6,go_sem,simprocAttr]) | ((with_reducible refine fe ?_); refine ⟨_,(by simp only [Tryz.f102,h2,h4,hH2,hH4,A6,go_sem,simprocAttr]; rfl),?_⟩; (try simp only [h2,h4,hH2,hH4,A6,go_sem,simprocAttr,seval])) | fail)
  simp [hx,hy]
theorem Ka (a : Span) (n : Int) (h : (-1000000000 ≤ a.lo ∧ a.lo ≤ 1000000000) ∧ (-1000000000 ≤ a.hi ∧ a.hi ≤ 1000000000) ∧ 0 ≤ n ∧ n ≤ 1000000000) :
  PureC Tryz.prog 104 [A6 a,.int .i64 n] (A6 ⟨a.lo * n,a.hi * n⟩) := by
 have b1 := M4 (a := a.lo) (q := n) (A := 1000000000) (B := 1000000000) (C := 1000000000) (by omega) (by omega) (by omega) (by omega) (by omega) (by omega)
 have b2 := M4 (a := a.hi) (q := n) (A := 1000000000) (B := 1000000000) (C := 1000000000) (by omega) (by omega) (by omega) (by omega) (by omega) (by omega)
 refine A8 (fn := Tryz.f104) tabOK (by kernel_rfl) rfl (by kernel_rfl) (by simp [Tryz.f104]) (by simp [noids,noid,noidss,go_sem,A6]) (by first | rfl | simp [noids,noid,noidss,go_sem,A6]) ?_
 intro X hX0 hXs
 repeat' (first | with_reducible (first | (refine sk ?_; intro K hK) | intro (ep : Nat → Nat) | apply_assumption -exfalso -symm only [*]) | ((with_reducible first | refine rg (h := ?_) | refine nx ?_); try simp (disch := omega) only [A6,go_sem,simprocAttr]) | ((with_reducible refine fe ?_); refine ⟨_,(by simp only [Tryz.f104,A6,go_sem,simprocAttr]; rfl),?_⟩; rfl) | fail)
def Pts (H : Hp) (fp : Val) (cs : List Val) : Prop := fp = .pim cs ∨ ∃ k e n,fp = .ptr k e n 0 0 ∧ frzH H k = some (e,.fro n [cs])
theorem F2 (r : RunT) (hF : RunF r) (rest : List Val) (H : Hp) (fp : Val) (hp : Pts H fp (A7 r ++ rest)) (i : Nat) (hi : i < r.cpls.length) (m last lag : Int) (hl : 1 ≤ last ∧ last ≤ r.rows.length) (hm : 1 ≤ m ∧ m ≤ r.rows.length) (hg : 0 ≤ lag ∧ lag ≤ 10) :
  LookC Tryz.prog 121 [.int .i64 lag,.pim [fp],.pim [.int .i64 m],.pim [.int .i64 last],.pim [.int .i64 i]] H (.int .i64 (KE r i (min (m + lag) last))) := by
 have hrows := hF.rows
 have hcl := hF.cpls
 obtain ⟨x,d,hx,hd,hrd,hd1,hd2⟩ := FU hF hi (row := min (m + lag) last) (by omega) (by omega)
 have hge : 0 ≤ min (m + lag) last - 1 := by omega
 refine Dw (fn := Tryz.f121) tabOK (by kernel_rfl) rfl (by kernel_rfl) (by simp [Tryz.f121]) rfl ?_
 intro X hX0 hXs
 rcases hp with rfl | ⟨k,e,n,rfl,hk⟩
 ·repeat' (first | with_reducible (first | (refine sk ?_; intro K hK) | apply_assumption -exfalso -symm only [*]) | ((with_reducible first | refine rg (h := ?_) | refine nx ?_); try simp (disch := omega) only [hx,hd,hrd,hge,A7,cRow,go_sem,simprocAttr]) | ((with_reducible refine fe ?_); refine ⟨_,(by simp only [Tryz.f121,hx,hd,hrd,hge,A7,cRow,go_sem,simprocAttr]; rfl),?_⟩; rfl) | fail)
 ·have hk' : frz1 (H k) = some (e,.fro n [A7 r ++ rest]) := hk
  repeat' (first | with_reducible (first | (refine sk ?_; intro K hK) | apply_assumption -exfalso -symm only [*]) | ((with_reducible first | refine rg (h := ?_) | refine nx ?_); try simp (disch := omega) only [hk',hx,hd,hrd,hge,A7,cRow,go_sem,simprocAttr]) | ((with_reducible refine fe ?_); refine ⟨_,(by simp only [Tryz.f121,hk',hx,hd,hrd,hge,A7,cRow,go_sem,simprocAttr]; rfl),?_⟩; rfl) | fail)
end Cp
namespace Cp
open Go Go.Proofs
set_option maxRecDepth 10000
theorem Pts.upd {H : Hp} {fp : Val} {cs : List Val} {k : Nat} {p : Option (Nat × AObj)} (h : Pts H fp cs) (hk : ∀ e n,¬ frz1 (H k) = some (e,.fro n [cs])) : Pts (Cp.upd H k p) fp cs := by
 rcases h with h | ⟨k',e',n',h,hk2⟩
 ·exact .inl h
 ·refine .inr ⟨k',e',n',h,?_⟩
  by_cases hkk : k' = k
  ·subst hkk; exact (hk _ _ hk2).elim
  ·unfold frzH at hk2 ⊢; rw [A0 _ _ hkk]; exact hk2
def F4 (H : Hp) (b n : Nat) : Prop := ∀ d,d < n → H (b + d) = none
theorem Ke (r : RunT) (hF : RunF r) (rest : List Val) (H : Hp) (fp : Val) (hp : Pts H fp (A7 r ++ rest)) (hroom : F4 H 1000 100) (i : Nat) (c : Cpl) (hci : r.cpls[i]? = some c) (m : Int) (hm : 1 ≤ m ∧ m ≤ r.rows.length) (hw : BO c m = true) :
  LookC Tryz.prog 103 [fp,.int .i64 i,.int .i64 m] H (A6 (Df r c i m)) := by
 have hrows := hF.rows
 have hcl := hF.cpls
 have hi : i < r.cpls.length := (List.getElem?_eq_some_iff.1 hci).1
 have hcf := hF.cpl i c hci
 obtain ⟨l1,l2⟩ := Jf hF hci hm.1 hw
 have r6 : frz1 (H 1006) = none := by rw [hroom 6 (by omega)]; rfl
 have r7 : frz1 (H 1007) = none := by rw [hroom 7 (by omega)]; rfl
 have r8 : frz1 (H 1008) = none := by rw [hroom 8 (by omega)]; rfl
 have r10 : frz1 (H 1010) = none := by rw [hroom 10 (by omega)]; rfl
 have hge : (0 : Int) ≤ i := by omega
 refine Dw (fn := Tryz.f103) tabOK (by kernel_rfl) rfl (by kernel_rfl) (by simp [Tryz.f103]) rfl ?_
 intro X hX0 hXs
 rcases hp with hfp | ⟨k,e,n,hfp,hk⟩
 ·repeat' (first | with_reducible (first | ((fail_if_success (refine Di (id := 3) ?_)); refine sk ?_; intro K hK) | intro (ep : Nat → Nat) | apply_assumption -exfalso -symm only [*]) | ((with_reducible refine rgL [] [39,44,61,67] (md := { base := 1000,own := [] }) (h := ?_)); try simp (disch := omega) only [hfp,r6,r7,r8,r10,hci,A7,cCpl,go_sem,simprocAttr]) | fail)
  have hcut : ∀ f H,(f 3 = .pim [fp] ∧ f 4 = .pim [.int .i64 i] ∧ f 5 = .pim [.int .i64 m] ∧ H 1010 = none ∧ Pts H fp (A7 r ++ rest) ∧ ∃ e6 e7 e8,f 6 = .ptr 1006 e6 2 0 0 ∧ H 1006 = some (e6,.arr 2 [[.int .i64 0,.int .i64 0]]) ∧ f 7 = .ptr 1007 e7 6 0 0 ∧ H 1007 = some (e7,.arr 6 [cCpl c]) ∧ f 8 = .ptr 1008 e8 1 0 0 ∧ H 1008 = some (e8,.arr 1 [[.int .i64 (AG r c)]])) → K f H := by
   rintro f H ⟨h3,h4,h5,hH10,hP,e6,e7,e8,h6,hH6,h7,hH7,h8,hH8⟩
   refine hK f H ?_
   refine Er 1008 hH8 ?_
   have hP' : Pts (upd H 1008 (some (e8,.fro 1 [[.int .i64 (AG r c)]]))) fp (A7 r ++ rest) := by
    rcases hP with h | ⟨k',e',n',h,hk2⟩
    ·exact .inl h
    ·refine .inr ⟨k',e',n',h,?_⟩
     by_cases hk8 : k' = 1008
     ·subst hk8; unfold frzH at hk2; rw [hH8] at hk2; simp only [frz1,Option.some.injEq,Prod.mk.injEq,AObj.fro.injEq] at hk2; unfold frzH; rw [A4]; simp only [frz1,Option.some.injEq,Prod.mk.injEq,AObj.fro.injEq]; exact hk2
     ·unfold frzH at hk2 ⊢; rw [A0 _ _ hk8]; exact hk2
   refine EV (v := .pim [.int .i64 (AG r c)]) 8 2 (by simp only [go_sem,simprocAttr,h8]) ?_
   have hP'' : ∀ e x,Pts (upd (upd (upd H 1008 (some (e8,.fro 1 [[.int .i64 (AG r c)]]))) 1010 (some (e,.arr 2 [[.int .i64 0,.int .i64 0]]))) 1010 (some (e,.arr 2 [x]))) fp (A7 r ++ rest) := fun e x => by
    rcases hP' with h | ⟨k',e',n',h,hk2⟩
    ·exact .inl h
    ·refine .inr ⟨k',e',n',h,?_⟩
     by_cases hk8 : k' = 1010
     ·subst hk8; unfold frzH at hk2; rw [A0 _ _ (by decide),hH10] at hk2; cases hk2
     ·unfold frzH at hk2 ⊢; rw [A0 _ _ hk8,A0 _ _ hk8]; exact hk2
   repeat' (first | with_reducible (first | (refine sk ?_; intro K hK) | intro (ep : Nat → Nat) | apply_assumption -exfalso -symm only [*]) | ((first | (with_reducible refine rgL [] [39,44,61,67] (md := { base := 1000,own := [] }) (h := ?_)) | refine lK (F2 r hF rest _ _ hP' i hi m _ _ ⟨l1,l2⟩ hm (by omega)) ?_); try simp (disch := omega) only [h3,h4,h5,h6,hH6,h7,hH7,hH10,cCpl,go_sem,simprocAttr]) | fail)
   refine An (AK (fun n f H => ∃ k : Nat,n = (c.lag.hi - c.lag.lo).toNat - k ∧ k ≤ (c.lag.hi - c.lag.lo).toNat ∧ (f 9 = .fn 121 [.pim [fp],.pim [.int .i64 m],.pim [.int .i64 (AG r c)],.pim [.int .i64 i]]) ∧ Pts H fp (A7 r ++ rest) ∧ ∃ lag lo hi e6 e7 e10,lag = c.lag.lo + 1 + k ∧ f 11 = .int .i64 lag ∧ f 6 = .ptr 1006 e6 2 0 0 ∧ H 1006 = some (e6,.arr 2 [[.int .i64 0,.int .i64 0]]) ∧ f 7 = .ptr 1007 e7 6 0 0 ∧ H 1007 = some (e7,.arr 6 [cCpl c]) ∧ f 10 = .ptr 1010 e10 2 0 0 ∧ H 1010 = some (e10,.arr 2 [[.int .i64 lo,.int .i64 hi]]) ∧
     lo = F8 (AH r c i m) c.lag.lo k ∧ hi = Fa (AH r c i m) c.lag.lo k) (c.lag.hi - c.lag.lo).toNat
    ⟨0,by simp,Nat.zero_le _,by (first | rfl | (simp only [h3,h4,h5,go_sem,simprocAttr]; done) | (simp only [h3,h4,h5,go_sem,simprocAttr]; rfl)),hP'' _ _,c.lag.lo + 1,AH r c i m c.lag.lo,AH r c i m c.lag.lo,_,_,_,by simp,by (first | rfl | (simp only [go_sem,simprocAttr]; done) | (simp only [go_sem,simprocAttr]; rfl)),by (first | rfl | (simp only [h6,go_sem,simprocAttr]; done) | (simp only [h6,go_sem,simprocAttr]; rfl)),by (first | rfl | (simp only [hH6,go_sem,simprocAttr]; done) | (simp only [hH6,go_sem,simprocAttr]; rfl)),by (first | rfl | (simp only [h7,go_sem,simprocAttr]; done) | (simp only [h7,go_sem,simprocAttr]; rfl)),by (first | rfl | (simp only [hH7,cCpl,go_sem,simprocAttr]; done) | (simp only [hH7,cCpl,go_sem,simprocAttr]; rfl)),by (first | rfl | (simp only [go_sem,simprocAttr]; done) | (simp only [go_sem,simprocAttr]; rfl)),by (first | rfl | (simp only [go_sem,simprocAttr]; done) | (simp only [go_sem,simprocAttr]; rfl)),rfl,rfl⟩ ?_)
   rintro n f H ⟨k,rfl,hk,h9,hP,lag,lo,hi',e6,e7,e10,hlag,h11,h6,hH6,h7,hH7,h10,hH10,hlo,hhi⟩
   have hbd := EO (g := AH r c i m) (lo := c.lag.lo) (a := 0) (b := 2000) k (fun j hj => by
    obtain ⟨x,d,_,_,q1,q2,q3⟩ := FU hF hi (row := min (m + (c.lag.lo + j)) (AG r c)) (by omega) (by omega)
    unfold AH
    rw [q1]; exact ⟨q2,q3⟩)
   rw [← hlo,← hhi] at hbd
   by_cases hlt : lag ≤ c.lag.hi
   ·have stepL : min lo (AH r c i m lag) = F8 (AH r c i m) c.lag.lo (k + 1) ∧ max hi' (AH r c i m lag) = Fa (AH r c i m) c.lag.lo (k + 1) := by
     simp only [F8,Fa]
     rw [show c.lag.lo + ((k + 1 : Nat) : Int) = lag by omega,← hlo,← hhi]
     exact ⟨rfl,rfl⟩
    repeat' (first | with_reducible (first | (refine sk ?_; intro K hK) | refine bk ?_ | apply_assumption -exfalso -symm only [*]) | ((first | (with_reducible first | refine rgL [] [39,44,61,67] (md := { base := 1000,own := [] }) (h := ?_) | refine nx ?_) | refine lK (F2 r hF rest _ _ hP i hi m _ _ ⟨l1,l2⟩ hm (by omega)) ?_); try simp (disch := omega) only [h6,h7,h9,h10,h11,hH6,hH7,hH10,cCpl,go_sem,simprocAttr]) | ((with_reducible refine' cE ?hv ?_ ?_); (case hv => rfl); all_goals (intro hc; (try simp only [go_sem,simprocAttr] at hc); try (exfalso; omega))) | fail)
    exact ⟨(c.lag.hi - c.lag.lo).toNat - (k + 1),by omega,k + 1,rfl,by omega,hP.upd (fun e n h => by rw [hH10] at h; simp [frz1,A7] at h),_,_,_,_,_,_,by omega,rfl,rfl,rfl,rfl,rfl,rfl,rfl,stepL.1,stepL.2⟩
   ·have hkk : (c.lag.hi - c.lag.lo).toNat = k := by omega
    repeat' (first | with_reducible (first | (refine sk ?_; intro K hK) | apply_assumption -exfalso -symm only [*]) | ((first | (with_reducible first | refine rgL [] [39,44,61,67] (md := { base := 1000,own := [] }) (h := ?_) | refine nx ?_) | refine pK (JB ⟨lo,hi'⟩ ⟨0 - c.err.hi,0 - c.err.lo⟩ (by simp only; omega)) ?_); try simp (disch := omega) only [h6,h7,h9,h10,h11,hH6,hH7,hH10,cCpl,A6,go_sem,simprocAttr]) | ((with_reducible refine' cE ?hv ?_ ?_); (case hv => rfl); all_goals (intro hc; (try simp only [go_sem,simprocAttr] at hc); try (exfalso; omega))) | ((with_reducible refine fe ?_); refine ⟨_,(by simp only [Tryz.f103,h6,h7,h9,h10,h11,hH6,hH7,hH10,cCpl,A6,go_sem,simprocAttr]; rfl),?_⟩; (try simp only [h6,h7,h9,h10,h11,hH6,hH7,hH10,cCpl,A6,go_sem,simprocAttr,seval])) | fail)
    simp only [Df,hkk]
    rw [← hlo,← hhi]
    constructor <;> omega
  clear hK
  by_cases hb : 0 < c.brk
  ·have hlr : AG r c = min (r.rows.length : Int) (c.brk - 1) := by rw [AG,if_pos hb]
   repeat' (first | with_reducible (first | (refine sk ?_; intro K hK) | apply_assumption -exfalso -symm only [*]) | ((with_reducible refine rgL [] [39,44,61,67] (md := { base := 1000,own := [] }) (h := ?_)); try simp (disch := omega) only [hfp,r6,r7,r8,r10,hci,A7,cCpl,go_sem,simprocAttr]) | ((with_reducible refine' cE ?hv ?_ ?_); (case hv => rfl); all_goals (intro hc; (try simp only [go_sem,simprocAttr] at hc); try (exfalso; omega))) | fail)
   exact ⟨by (first | rfl | (simp only [hfp,go_sem,simprocAttr]; done) | (simp only [hfp,go_sem,simprocAttr]; rfl)),by (first | rfl | (simp only [go_sem,simprocAttr]; done) | (simp only [go_sem,simprocAttr]; rfl)),by (first | rfl | (simp only [go_sem,simprocAttr]; done) | (simp only [go_sem,simprocAttr]; rfl)),by (first | rfl | (simp only [r10,go_sem,simprocAttr]; done) | (simp only [r10,go_sem,simprocAttr]; rfl)),.inl hfp,_,_,_,by (first | rfl | (simp only [go_sem,simprocAttr]; done) | (simp only [go_sem,simprocAttr]; rfl)),by (first | rfl | (simp only [go_sem,simprocAttr]; done) | (simp only [go_sem,simprocAttr]; rfl)),by (first | rfl | (simp only [go_sem,simprocAttr]; done) | (simp only [go_sem,simprocAttr]; rfl)),by (first | rfl | (simp only [cCpl,go_sem,simprocAttr]; done) | (simp only [cCpl,go_sem,simprocAttr]; rfl)),by (first | rfl | (simp only [go_sem,simprocAttr]; done) | (simp only [go_sem,simprocAttr]; rfl)),by (first | rfl | (simp only [hlr,go_sem,simprocAttr]; done) | (simp only [hlr,go_sem,simprocAttr]; rfl))⟩
  ·have hlr : AG r c = r.rows.length := by rw [AG,if_neg hb]
   repeat' (first | with_reducible (first | (refine sk ?_; intro K hK) | apply_assumption -exfalso -symm only [*]) | ((with_reducible first | refine rgL [] [39,44,61,67] (md := { base := 1000,own := [] }) (h := ?_) | refine nx ?_); try simp (disch := omega) only [hfp,r6,r7,r8,r10,hci,A7,cCpl,go_sem,simprocAttr]) | ((with_reducible refine' cE ?hv ?_ ?_); (case hv => rfl); all_goals (intro hc; (try simp only [go_sem,simprocAttr] at hc); try (exfalso; omega))) | fail)
   exact ⟨by (first | rfl | (simp only [hfp,go_sem,simprocAttr]; done) | (simp only [hfp,go_sem,simprocAttr]; rfl)),by (first | rfl | (simp only [go_sem,simprocAttr]; done) | (simp only [go_sem,simprocAttr]; rfl)),by (first | rfl | (simp only [go_sem,simprocAttr]; done) | (simp only [go_sem,simprocAttr]; rfl)),by (first | rfl | (simp only [r10,go_sem,simprocAttr]; done) | (simp only [r10,go_sem,simprocAttr]; rfl)),.inl hfp,_,_,_,by (first | rfl | (simp only [go_sem,simprocAttr]; done) | (simp only [go_sem,simprocAttr]; rfl)),by (first | rfl | (simp only [go_sem,simprocAttr]; done) | (simp only [go_sem,simprocAttr]; rfl)),by (first | rfl | (simp only [go_sem,simprocAttr]; done) | (simp only [go_sem,simprocAttr]; rfl)),by (first | rfl | (simp only [cCpl,go_sem,simprocAttr]; done) | (simp only [cCpl,go_sem,simprocAttr]; rfl)),by (first | rfl | (simp only [go_sem,simprocAttr]; done) | (simp only [go_sem,simprocAttr]; rfl)),by (first | rfl | (simp only [hlr,go_sem,simprocAttr]; done) | (simp only [hlr,go_sem,simprocAttr]; rfl))⟩
 ·have hk' : frz1 (H k) = some (e,.fro n [A7 r ++ rest]) := hk
  have k6 : ¬ k = 1006 := fun e1 => by subst e1; rw [r6] at hk'; cases hk'
  have k7 : ¬ k = 1007 := fun e1 => by subst e1; rw [r7] at hk'; cases hk'
  have k8 : ¬ k = 1008 := fun e1 => by subst e1; rw [r8] at hk'; cases hk'
  have k10 : ¬ k = 1010 := fun e1 => by subst e1; rw [r10] at hk'; cases hk'
  repeat' (first | with_reducible (first | ((fail_if_success (refine Di (id := 3) ?_)); refine sk ?_; intro K hK) | intro (ep : Nat → Nat) | apply_assumption -exfalso -symm only [*]) | ((with_reducible refine rgL [] [39,44,61,67] (md := { base := 1000,own := [] }) (h := ?_)); try simp (disch := omega) only [hfp,r6,r7,r8,r10,hk',k6,k7,k8,k10,hci,A7,cCpl,go_sem,simprocAttr]) | fail)
  have hcut : ∀ f H,(f 3 = .pim [fp] ∧ f 4 = .pim [.int .i64 i] ∧ f 5 = .pim [.int .i64 m] ∧ H 1010 = none ∧ Pts H fp (A7 r ++ rest) ∧ ∃ e6 e7 e8,f 6 = .ptr 1006 e6 2 0 0 ∧ H 1006 = some (e6,.arr 2 [[.int .i64 0,.int .i64 0]]) ∧ f 7 = .ptr 1007 e7 6 0 0 ∧ H 1007 = some (e7,.arr 6 [cCpl c]) ∧ f 8 = .ptr 1008 e8 1 0 0 ∧ H 1008 = some (e8,.arr 1 [[.int .i64 (AG r c)]])) → K f H := by
   rintro f H ⟨h3,h4,h5,hH10,hP,e6,e7,e8,h6,hH6,h7,hH7,h8,hH8⟩
   refine hK f H ?_
   refine Er 1008 hH8 ?_
   have hP' : Pts (upd H 1008 (some (e8,.fro 1 [[.int .i64 (AG r c)]]))) fp (A7 r ++ rest) := by
    rcases hP with h | ⟨k',e',n',h,hk2⟩
    ·exact .inl h
    ·refine .inr ⟨k',e',n',h,?_⟩
     by_cases hk8 : k' = 1008
     ·subst hk8; unfold frzH at hk2; rw [hH8] at hk2; simp only [frz1,Option.some.injEq,Prod.mk.injEq,AObj.fro.injEq] at hk2; unfold frzH; rw [A4]; simp only [frz1,Option.some.injEq,Prod.mk.injEq,AObj.fro.injEq]; exact hk2
     ·unfold frzH at hk2 ⊢; rw [A0 _ _ hk8]; exact hk2
   refine EV (v := .pim [.int .i64 (AG r c)]) 8 2 (by simp only [go_sem,simprocAttr,h8]) ?_
   have hP'' : ∀ e x,Pts (upd (upd (upd H 1008 (some (e8,.fro 1 [[.int .i64 (AG r c)]]))) 1010 (some (e,.arr 2 [[.int .i64 0,.int .i64 0]]))) 1010 (some (e,.arr 2 [x]))) fp (A7 r ++ rest) := fun e x => by
    rcases hP' with h | ⟨k',e',n',h,hk2⟩
    ·exact .inl h
    ·refine .inr ⟨k',e',n',h,?_⟩
     by_cases hk8 : k' = 1010
     ·subst hk8; unfold frzH at hk2; rw [A0 _ _ (by decide),hH10] at hk2; cases hk2
     ·unfold frzH at hk2 ⊢; rw [A0 _ _ hk8,A0 _ _ hk8]; exact hk2
   repeat' (first | with_reducible (first | (refine sk ?_; intro K hK) | intro (ep : Nat → Nat) | apply_assumption -exfalso -symm only [*]) | ((first | (with_reducible refine rgL [] [39,44,61,67] (md := { base := 1000,own := [] }) (h := ?_)) | refine lK (F2 r hF rest _ _ hP' i hi m _ _ ⟨l1,l2⟩ hm (by omega)) ?_); try simp (disch := omega) only [h3,h4,h5,h6,hH6,h7,hH7,hH10,cCpl,go_sem,simprocAttr]) | fail)
   refine An (AK (fun n f H => ∃ k : Nat,n = (c.lag.hi - c.lag.lo).toNat - k ∧ k ≤ (c.lag.hi - c.lag.lo).toNat ∧ (f 9 = .fn 121 [.pim [fp],.pim [.int .i64 m],.pim [.int .i64 (AG r c)],.pim [.int .i64 i]]) ∧ Pts H fp (A7 r ++ rest) ∧ ∃ lag lo hi e6 e7 e10,lag = c.lag.lo + 1 + k ∧ f 11 = .int .i64 lag ∧ f 6 = .ptr 1006 e6 2 0 0 ∧ H 1006 = some (e6,.arr 2 [[.int .i64 0,.int .i64 0]]) ∧ f 7 = .ptr 1007 e7 6 0 0 ∧ H 1007 = some (e7,.arr 6 [cCpl c]) ∧ f 10 = .ptr 1010 e10 2 0 0 ∧ H 1010 = some (e10,.arr 2 [[.int .i64 lo,.int .i64 hi]]) ∧
     lo = F8 (AH r c i m) c.lag.lo k ∧ hi = Fa (AH r c i m) c.lag.lo k) (c.lag.hi - c.lag.lo).toNat
    ⟨0,by simp,Nat.zero_le _,by (first | rfl | (simp only [h3,h4,h5,go_sem,simprocAttr]; done) | (simp only [h3,h4,h5,go_sem,simprocAttr]; rfl)),hP'' _ _,c.lag.lo + 1,AH r c i m c.lag.lo,AH r c i m c.lag.lo,_,_,_,by simp,by (first | rfl | (simp only [go_sem,simprocAttr]; done) | (simp only [go_sem,simprocAttr]; rfl)),by (first | rfl | (simp only [h6,go_sem,simprocAttr]; done) | (simp only [h6,go_sem,simprocAttr]; rfl)),by (first | rfl | (simp only [hH6,go_sem,simprocAttr]; done) | (simp only [hH6,go_sem,simprocAttr]; rfl)),by (first | rfl | (simp only [h7,go_sem,simprocAttr]; done) | (simp only [h7,go_sem,simprocAttr]; rfl)),by (first | rfl | (simp only [hH7,cCpl,go_sem,simprocAttr]; done) | (simp only [hH7,cCpl,go_sem,simprocAttr]; rfl)),by (first | rfl | (simp only [go_sem,simprocAttr]; done) | (simp only [go_sem,simprocAttr]; rfl)),by (first | rfl | (simp only [go_sem,simprocAttr]; done) | (simp only [go_sem,simprocAttr]; rfl)),rfl,rfl⟩ ?_)
   rintro n f H ⟨k,rfl,hk,h9,hP,lag,lo,hi',e6,e7,e10,hlag,h11,h6,hH6,h7,hH7,h10,hH10,hlo,hhi⟩
   have hbd := EO (g := AH r c i m) (lo := c.lag.lo) (a := 0) (b := 2000) k (fun j hj => by
    obtain ⟨x,d,_,_,q1,q2,q3⟩ := FU hF hi (row := min (m + (c.lag.lo + j)) (AG r c)) (by omega) (by omega)
    unfold AH
    rw [q1]; exact ⟨q2,q3⟩)
   rw [← hlo,← hhi] at hbd
   by_cases hlt : lag ≤ c.lag.hi
   ·have stepL : min lo (AH r c i m lag) = F8 (AH r c i m) c.lag.lo (k + 1) ∧ max hi' (AH r c i m lag) = Fa (AH r c i m) c.lag.lo (k + 1) := by
     simp only [F8,Fa]
     rw [show c.lag.lo + ((k + 1 : Nat) : Int) = lag by omega,← hlo,← hhi]
     exact ⟨rfl,rfl⟩
    repeat' (first | with_reducible (first | (refine sk ?_; intro K hK) | refine bk ?_ | apply_assumption -exfalso -symm only [*]) | ((first | (with_reducible first | refine rgL [] [39,44,61,67] (md := { base := 1000,own := [] }) (h := ?_) | refine nx ?_) | refine lK (F2 r hF rest _ _ hP i hi m _ _ ⟨l1,l2⟩ hm (by omega)) ?_); try simp (disch := omega) only [h6,h7,h9,h10,h11,hH6,hH7,hH10,cCpl,go_sem,simprocAttr]) | ((with_reducible refine' cE ?hv ?_ ?_); (case hv => rfl); all_goals (intro hc; (try simp only [go_sem,simprocAttr] at hc); try (exfalso; omega))) | fail)
    exact ⟨(c.lag.hi - c.lag.lo).toNat - (k + 1),by omega,k + 1,rfl,by omega,hP.upd (fun e n h => by rw [hH10] at h; simp [frz1,A7] at h),_,_,_,_,_,_,by omega,rfl,rfl,rfl,rfl,rfl,rfl,rfl,stepL.1,stepL.2⟩
   ·have hkk : (c.lag.hi - c.lag.lo).toNat = k := by omega
    repeat' (first | with_reducible (first | (refine sk ?_; intro K hK) | apply_assumption -exfalso -symm only [*]) | ((first | (with_reducible first | refine rgL [] [39,44,61,67] (md := { base := 1000,own := [] }) (h := ?_) | refine nx ?_) | refine pK (JB ⟨lo,hi'⟩ ⟨0 - c.err.hi,0 - c.err.lo⟩ (by simp only; omega)) ?_); try simp (disch := omega) only [h6,h7,h9,h10,h11,hH6,hH7,hH10,cCpl,A6,go_sem,simprocAttr]) | ((with_reducible refine' cE ?hv ?_ ?_); (case hv => rfl); all_goals (intro hc; (try simp only [go_sem,simprocAttr] at hc); try (exfalso; omega))) | ((with_reducible refine fe ?_); refine ⟨_,(by simp only [Tryz.f103,h6,h7,h9,h10,h11,hH6,hH7,hH10,cCpl,A6,go_sem,simprocAttr]; rfl),?_⟩; (try simp only [h6,h7,h9,h10,h11,hH6,hH7,hH10,cCpl,A6,go_sem,simprocAttr,seval])) | fail)
    simp only [Df,hkk]
    rw [← hlo,← hhi]
    constructor <;> omega
  clear hK
  have hpk : ∀ H' : Hp,H' k = some (e,.fro n [A7 r ++ rest]) → Pts H' (.ptr k e n 0 0) (A7 r ++ rest) := fun H' h => .inr ⟨k,e,n,rfl,by simp only [frzH,h,frz1]⟩
  by_cases hb : 0 < c.brk
  ·have hlr : AG r c = min (r.rows.length : Int) (c.brk - 1) := by rw [AG,if_pos hb]
   repeat' (first | with_reducible (first | (refine sk ?_; intro K hK) | apply_assumption -exfalso -symm only [*]) | ((with_reducible refine rgL [] [39,44,61,67] (md := { base := 1000,own := [] }) (h := ?_)); try simp (disch := omega) only [hfp,r6,r7,r8,r10,hk',k6,k7,k8,k10,hci,A7,cCpl,go_sem,simprocAttr]) | ((with_reducible refine' cE ?hv ?_ ?_); (case hv => rfl); all_goals (intro hc; (try simp only [go_sem,simprocAttr] at hc); try (exfalso; omega))) | fail)
   exact ⟨by (first | rfl | (simp only [hfp,go_sem,simprocAttr]; done) | (simp only [hfp,go_sem,simprocAttr]; rfl)),by (first | rfl | (simp only [go_sem,simprocAttr]; done) | (simp only [go_sem,simprocAttr]; rfl)),by (first | rfl | (simp only [go_sem,simprocAttr]; done) | (simp only [go_sem,simprocAttr]; rfl)),by (first | rfl | (simp only [r10,go_sem,simprocAttr]; done) | (simp only [r10,go_sem,simprocAttr]; rfl)),by rw [hfp]; exact hpk _ (by simp only [go_sem,simprocAttr,hk',k6,k7,k8,A7]),_,_,_,by (first | rfl | (simp only [go_sem,simprocAttr]; done) | (simp only [go_sem,simprocAttr]; rfl)),by (first | rfl | (simp only [go_sem,simprocAttr]; done) | (simp only [go_sem,simprocAttr]; rfl)),by (first | rfl | (simp only [go_sem,simprocAttr]; done) | (simp only [go_sem,simprocAttr]; rfl)),by (first | rfl | (simp only [cCpl,go_sem,simprocAttr]; done) | (simp only [cCpl,go_sem,simprocAttr]; rfl)),by (first | rfl | (simp only [go_sem,simprocAttr]; done) | (simp only [go_sem,simprocAttr]; rfl)),by (first | rfl | (simp only [hlr,go_sem,simprocAttr]; done) | (simp only [hlr,go_sem,simprocAttr]; rfl))⟩
  ·have hlr : AG r c = r.rows.length := by rw [AG,if_neg hb]
   repeat' (first | with_reducible (first | (refine sk ?_; intro K hK) | apply_assumption -exfalso -symm only [*]) | ((with_reducible first | refine rgL [] [39,44,61,67] (md := { base := 1000,own := [] }) (h := ?_) | refine nx ?_); try simp (disch := omega) only [hfp,r6,r7,r8,r10,hk',k6,k7,k8,k10,hci,A7,cCpl,go_sem,simprocAttr]) | ((with_reducible refine' cE ?hv ?_ ?_); (case hv => rfl); all_goals (intro hc; (try simp only [go_sem,simprocAttr] at hc); try (exfalso; omega))) | fail)
   exact ⟨by (first | rfl | (simp only [hfp,go_sem,simprocAttr]; done) | (simp only [hfp,go_sem,simprocAttr]; rfl)),by (first | rfl | (simp only [go_sem,simprocAttr]; done) | (simp only [go_sem,simprocAttr]; rfl)),by (first | rfl | (simp only [go_sem,simprocAttr]; done) | (simp only [go_sem,simprocAttr]; rfl)),by (first | rfl | (simp only [r10,go_sem,simprocAttr]; done) | (simp only [r10,go_sem,simprocAttr]; rfl)),by rw [hfp]; exact hpk _ (by simp only [go_sem,simprocAttr,hk',k6,k7,k8,A7]),_,_,_,by (first | rfl | (simp only [go_sem,simprocAttr]; done) | (simp only [go_sem,simprocAttr]; rfl)),by (first | rfl | (simp only [go_sem,simprocAttr]; done) | (simp only [go_sem,simprocAttr]; rfl)),by (first | rfl | (simp only [go_sem,simprocAttr]; done) | (simp only [go_sem,simprocAttr]; rfl)),by (first | rfl | (simp only [cCpl,go_sem,simprocAttr]; done) | (simp only [cCpl,go_sem,simprocAttr]; rfl)),by (first | rfl | (simp only [go_sem,simprocAttr]; done) | (simp only [go_sem,simprocAttr]; rfl)),by (first | rfl | (simp only [hlr,go_sem,simprocAttr]; done) | (simp only [hlr,go_sem,simprocAttr]; rfl))⟩
end Cp
namespace Cp
open Go
def tl (l : List Nat) : List (Int × Val) := l.map fun (i : Nat) => ((i : Int),Val.bool true)
theorem P9 {l : List Nat} {i : Nat} : tl l ++ [((i : Int),.bool true)] = tl (l ++ [i]) := by simp [tl]
theorem WC {l l' : List Nat} : tl (l ++ l') = tl l ++ tl l' := by simp [tl]
@[go_sem] theorem Su {l : List Nat} : (tl l).length = l.length := by simp [tl]
theorem SI {l : List Nat} {i : Nat} : (tl l)[i]? = (l[i]?).map fun (i : Nat) => ((i : Int),Val.bool true) := by simp [tl]
theorem R8 {l : List Nat} {i : Nat} (h : i ∉ l) : ∀ p ∈ tl l,p.1 ≠ (i : Int) := by
 intro p hp e
 simp only [tl,List.mem_map] at hp
 obtain ⟨j,hj,rfl⟩ := hp
 simp only at e
 obtain rfl : j = i := by omega
 exact h hj
theorem NR {k : Nat} {l : List Nat} (h : k ∉ l) : E2 (k : Int) (tl l) 0 = none := Gy (R8 h)
theorem GX {k : Nat} {l l' : List Nat} (h : k ∉ l) : E2 (k : Int) (tl (l ++ k :: l')) 0 = some (l.length,.bool true) := by
 have : tl (l ++ k :: l') = tl l ++ ((k : Int),.bool true) :: tl l' := by simp [tl]
 rw [this,L9 (R8 h),Su,Nat.zero_add]
theorem EN {k : Nat} {l l' : List Nat} : (tl (l ++ k :: l')).eraseIdx l.length = tl (l ++ l') := by
 have e : tl (l ++ k :: l') = tl l ++ ((k : Int),.bool true) :: tl l' := by simp [tl]
 have := Lj (A := tl l) (x := ((k : Int),Val.bool true)) (B := tl l')
 rw [Su] at this
 rw [e,this,WC]
theorem GA (m : Int) : ∀ (l : List Cpl) (k : Nat) (l' : List Cpl),AX m k (l ++ l') = AX m k l ++ AX m (k + l.length) l'
 | [],k,l' => by simp [AX]
 | c :: l,k,l' => by
  have ih := GA m l (k + 1) l'
  have e : k + 1 + l.length = k + (c :: l).length := by simp only [List.length_cons]; omega
  rw [e] at ih
  simp only [List.cons_append,AX,ih]
  split <;> rfl
theorem JT {α : Type} {l : List α} {k : Nat} {x : α} (h : l[k]? = some x) : l.take (k + 1) = l.take k ++ [x] := by
 obtain ⟨hk,rfl⟩ := List.getElem?_eq_some_iff.1 h
 simp [List.take_add_one]
def EU (r : RunT) (m : Int) (k : Nat) : List Nat := AX m 0 (r.cpls.take k) ++ List.range' k (r.cpls.length - k)
theorem FV {r : RunT} {m : Int} : EU r m 0 = List.range r.cpls.length := by simp [EU,AX,List.range_eq_range']
theorem GW {r : RunT} {m : Int} : EU r m r.cpls.length = wk r m := by simp [EU,wk]
theorem DE {r : RunT} {m : Int} {k : Nat} (h : k < r.cpls.length) : EU r m k = AX m 0 (r.cpls.take k) ++ k :: List.range' (k + 1) (r.cpls.length - (k + 1)) := by
 unfold EU
 rw [show r.cpls.length - k = (r.cpls.length - (k + 1)) + 1 by omega,List.range'_succ]
theorem Iy {r : RunT} {m : Int} {k : Nat} : k ∉ AX m 0 (r.cpls.take k) := by
 intro h
 obtain ⟨j,c,h1,h2,_⟩ := (wkFrom_mem _ _ _ _).1 h
 have := (List.getElem?_eq_some_iff.1 h2).1
 simp at this
 omega
theorem FO {r : RunT} {m : Int} {k : Nat} {c : Cpl} (h : r.cpls[k]? = some c) (hw : BO c m = true) : EU r m (k + 1) = EU r m k := by
 have hk := (List.getElem?_eq_some_iff.1 h).1
 rw [DE hk]
 unfold EU
 rw [JT h,GA,List.append_assoc]
 have : (r.cpls.take k).length = k := by simp; omega
 simp [AX,hw,this]
theorem FX {r : RunT} {m : Int} {k : Nat} {c : Cpl} (h : r.cpls[k]? = some c) (hw : BO c m = false) : EU r m (k + 1) = AX m 0 (r.cpls.take k) ++ List.range' (k + 1) (r.cpls.length - (k + 1)) := by
 unfold EU
 rw [JT h,GA]
 have : (r.cpls.take k).length = k := by have hk := (List.getElem?_eq_some_iff.1 h).1; simp; omega
 simp [AX,hw]
end Cp
namespace Cp
open Go Go.Proofs
set_option maxRecDepth 10000
@[go_sem] theorem br {i : Int} {l : List (Int × Val)} : B3 tab 3 (.int .i64 i) (CH .i64 l) 0 = some (E2 i l 0) := Kn tab_3 _ _
def Ptw (H : Hp) (fp : Val) (cs : List Val) : Prop := fp = .pim cs ∨ ∃ k e n,fp = .ptr k e n 0 0 ∧ H k = some (e,.arr n [cs]) ∧ k < 2000
theorem JQ (r : RunT) (hF : RunF r) (rest : List Val) (H0 : Hp) (fp : Val) (hp : Ptw H0 fp (A7 r ++ rest)) (m : Int) :
  BD Tryz.prog 101 [fp,.int .i64 m] H0 (fun v H' => ∃ e ver,v = .map 2009 e ∧ H' 2009 = some (e,.map ver (CH .i64 (tl (wk r m)))) ∧ ∀ k,k < 2000 → H' k = H0 k) := by
 refine BN (fn := Tryz.f101) tabOK (by kernel_rfl) rfl (by kernel_rfl) (by simp [Tryz.f101]) ?_
 intro X hX0 hXs
 have hcl := hF.cpls
 refine Aw 2008 fun H1 g8 hs1 => ?_
 refine Aw 2009 fun H2 g9 hs2 => ?_
 have g8' : H2 2008 = none := by rw [hs2 _ (by decide),g8]
 have hlow : ∀ j,j < 2000 → H2 j = H0 j := fun j hj => by rw [hs2 _ (by omega),hs1 _ (by omega)]
 clear g8 hs1 hs2
 have hp' := hp
 rcases hp' with hfp | ⟨k,e,n,hfp,hk,hk2⟩
 ·repeat' (first | with_reducible (first | ((fail_if_success (refine Di (id := 3) ?_)); refine sk ?_; intro K hK) | intro (ep : Nat → Nat) | apply_assumption -exfalso -symm only [*]) | ((with_reducible refine rg (md := { base := 2000,own := [8,9] }) (h := ?_)); try simp (disch := omega) only [hfp,A7,g9,g8',go_sem,simprocAttr]) | fail)
  refine Av tabOK r.cpls.length (fun k f H => f 0 = fp ∧ f 1 = .int .i64 m ∧ (∀ j,j < 2000 → H j = H0 j) ∧ H 2008 = none ∧ ∃ e,f 5 = .map 2009 e ∧ ∃ ver,H 2009 = some (e,.map ver (CH .i64 (tl (List.range k))))) (by omega) (by rw [hXs]; decide) (by decide) (by (first | rfl | (simp only [go_sem,simprocAttr]; done) | (simp only [go_sem,simprocAttr]; rfl))) (by (first | rfl | (simp only [A7,go_sem,simprocAttr]; done) | (simp only [A7,go_sem,simprocAttr]; rfl)))
   ⟨by (first | rfl | (simp only [hfp,go_sem,simprocAttr]; done) | (simp only [hfp,go_sem,simprocAttr]; rfl)),by (first | rfl | (simp only [go_sem,simprocAttr]; done) | (simp only [go_sem,simprocAttr]; rfl)),fun j hj => by simp only [go_sem,simprocAttr]; rw [if_neg (by omega)]; exact hlow j hj,by (first | rfl | (simp only [g8',go_sem,simprocAttr]; done) | (simp only [g8',go_sem,simprocAttr]; rfl)),_,by (first | rfl | (simp only [go_sem,simprocAttr]; done) | (simp only [go_sem,simprocAttr]; rfl)),_,by (first | rfl | (simp only [go_sem,simprocAttr]; done) | (simp only [go_sem,simprocAttr]; rfl))⟩ ?_ ?_
  ·rintro k f H hk h16 h15 ⟨h0,h1,hlow,g8,e,h5,ver,hH9⟩
   have hnew : E2 (k : Int) (tl (List.range k)) 0 = none := NR (by simp)
   repeat' (first | with_reducible (first | (refine sk ?_; intro K hK) | intro (ep : Nat → Nat) | apply_assumption -exfalso -symm only [*]) | ((with_reducible refine rg (md := { base := 2000,own := [8,9] }) (h := ?_)); try simp (disch := omega) only [h0,h1,h5,h15,h16,hH9,g8,hnew,go_sem,simprocAttr]) | fail)
   exact ⟨fun j hj => by rw [if_neg (by omega)]; exact hlow j hj,e,rfl,_,by rw [IB,P9]⟩
  ·rintro f H h16 h15 ⟨h0,h1,hlow,g8,e,h5,ver,hH9⟩
   rcases hp with hfp | ⟨k,e0,n,hfp,hk,hk2⟩
   ·have hkk : True := trivial
    repeat' (first | with_reducible (first | ((fail_if_success (refine Di (id := 8) ?_)); refine sk ?_; intro K hK) | apply_assumption -exfalso -symm only [*]) | ((with_reducible refine rg (md := { base := 2000,own := [8,9] }) (h := ?_)); try simp (disch := omega) only [h0,h1,h5,hH9,g8,hfp,A7,go_sem,simprocAttr]) | fail)
    refine Av tabOK r.cpls.length (fun k f H => f 1 = .int .i64 m ∧ f 26 = .lst 6 (r.cpls.map cCpl) ∧ (∀ j,j < 2000 → H j = H0 j) ∧ ∃ e,f 5 = .map 2009 e ∧ ∃ ver,H 2009 = some (e,.map ver (CH .i64 (tl (EU r m k))))) (by omega) (by rw [hXs]; decide) (by decide) (by (first | rfl | (simp only [go_sem,simprocAttr]; done) | (simp only [go_sem,simprocAttr]; rfl))) (by (first | rfl | (simp only [A7,go_sem,simprocAttr]; done) | (simp only [A7,go_sem,simprocAttr]; rfl)))
     ⟨by (first | rfl | (simp only [h1,go_sem,simprocAttr]; done) | (simp only [h1,go_sem,simprocAttr]; rfl)),by (first | rfl | (simp only [hfp,hkk,A7,go_sem,simprocAttr]; done) | (simp only [hfp,hkk,A7,go_sem,simprocAttr]; rfl)),hlow,_,by (first | rfl | (simp only [h5,go_sem,simprocAttr]; done) | (simp only [h5,go_sem,simprocAttr]; rfl)),_,by simp only [FV]; (first | rfl | (simp only [hH9,go_sem,simprocAttr]; done) | (simp only [hH9,go_sem,simprocAttr]; rfl))⟩ ?_ ?_
    ·rintro k f H hk h28 h27 ⟨h1,h26,hlow,e,h5,ver,hH9⟩
     obtain ⟨x,hx⟩ : ∃ x,r.cpls[k]? = some x := ⟨_,List.getElem?_eq_getElem hk⟩
     refine Aw 2008 fun H1 g8 hs1 => ?_
     have hlow' : ∀ j,j < 2000 → H1 j = H0 j := fun j hj => by rw [hs1 _ (by omega),hlow _ hj]
     have hH9' : H1 2009 = some (e,.map ver (CH .i64 (tl (EU r m k)))) := by rw [hs1 _ (by decide),hH9]
     clear hs1 hlow hH9
     have hbk := (hF.cpl k x hx).2.2.2.1
     have hsp := DE (r := r) (m := m) hk
     have hw1 := @FO r m k x hx
     have hw2 := @FX r m k x hx
     have hnot := @Iy r m k
     have hf := GX (l' := List.range' (k + 1) (r.cpls.length - (k + 1))) hnot
     rw [← hsp] at hf
     have he := @EN k (AX m 0 (r.cpls.take k)) (List.range' (k + 1) (r.cpls.length - (k + 1)))
     rw [← hsp] at he
     repeat' (first | with_reducible (first | (refine sk ?_; intro K hK) | intro (ep : Nat → Nat) | apply_assumption -exfalso -symm only [*]) | ((with_reducible first | refine rg (md := { base := 2000,own := [8,9] }) (h := ?_) | refine nx ?_); try simp (disch := omega) only [h1,h5,h26,h27,h28,hH9',g8,hx,hf,he,BJ,cCpl,go_sem,simprocAttr]) | ((with_reducible refine' cE ?hv ?_ ?_); (case hv => rfl); all_goals (intro hc; (try simp only [go_sem,simprocAttr] at hc))) | ((with_reducible refine Ab ?_ ?_) <;> intro hg <;> (try simp (disch := omega) only [hg,h1,h5,h26,h27,h28,hH9',g8,hx,hf,he,BJ,cCpl,go_sem,simprocAttr]) <;> (try simp only [go_sem,simprocAttr] at hg) <;> (try (exfalso; omega))) | fail)
     ·exact ⟨fun j hj => by (repeat rw [if_neg (by omega)]); exact hlow' j hj,e,rfl,_,by rw [hw2 (by simp only [BO,decide_eq_false_iff_not]; omega)]⟩
     ·exact ⟨fun j hj => by (repeat rw [if_neg (by omega)]); exact hlow' j hj,e,rfl,_,by rw [hw1 (by simp only [BO,decide_eq_true_eq]; omega)]⟩
     ·exact ⟨fun j hj => by (repeat rw [if_neg (by omega)]); exact hlow' j hj,e,rfl,_,by rw [hw1 (by simp only [BO,decide_eq_true_eq]; omega)]⟩
    ·rintro f H h28 h27 ⟨h1,h26,hlow,e,h5,ver,hH9⟩
     rw [GW] at hH9
     repeat' (first | with_reducible (first | (refine sk ?_; intro K hK) | apply_assumption -exfalso -symm only [*]) | ((with_reducible first | refine rg (md := { base := 2000,own := [8,9] }) (h := ?_) | refine nx ?_); try simp (disch := omega) only [h1,h5,h26,h27,h28,hH9,go_sem,simprocAttr]) | fail)
     exact ⟨H,.map 2009 e,.refl H,(by (first | rfl | (simp only [Tryz.f101,go_sem,simprocAttr]; done) | (simp only [Tryz.f101,go_sem,simprocAttr]; rfl))),e,ver,by simp only [go_sem,simprocAttr],hH9,hlow⟩
   ·have hkk : H k = some (e0,.arr n [A7 r ++ rest]) := by rw [hlow k hk2,hk]
    have k8 : ¬ k = 2008 := by omega
    have k9 : ¬ k = 2009 := by omega
    repeat' (first | with_reducible (first | ((fail_if_success (refine Di (id := 8) ?_)); refine sk ?_; intro K hK) | apply_assumption -exfalso -symm only [*]) | ((with_reducible refine rg (md := { base := 2000,own := [8,9] }) (h := ?_)); try simp (disch := omega) only [h0,h1,h5,hH9,g8,hfp,hkk,k8,k9,A7,go_sem,simprocAttr]) | fail)
    refine Av tabOK r.cpls.length (fun k f H => f 1 = .int .i64 m ∧ f 26 = .lst 6 (r.cpls.map cCpl) ∧ (∀ j,j < 2000 → H j = H0 j) ∧ ∃ e,f 5 = .map 2009 e ∧ ∃ ver,H 2009 = some (e,.map ver (CH .i64 (tl (EU r m k))))) (by omega) (by rw [hXs]; decide) (by decide) (by (first | rfl | (simp only [go_sem,simprocAttr]; done) | (simp only [go_sem,simprocAttr]; rfl))) (by (first | rfl | (simp only [A7,go_sem,simprocAttr]; done) | (simp only [A7,go_sem,simprocAttr]; rfl)))
     ⟨by (first | rfl | (simp only [h1,go_sem,simprocAttr]; done) | (simp only [h1,go_sem,simprocAttr]; rfl)),by (first | rfl | (simp only [hfp,hkk,A7,go_sem,simprocAttr]; done) | (simp only [hfp,hkk,A7,go_sem,simprocAttr]; rfl)),hlow,_,by (first | rfl | (simp only [h5,go_sem,simprocAttr]; done) | (simp only [h5,go_sem,simprocAttr]; rfl)),_,by simp only [FV]; (first | rfl | (simp only [hH9,go_sem,simprocAttr]; done) | (simp only [hH9,go_sem,simprocAttr]; rfl))⟩ ?_ ?_
    ·rintro k f H hk h28 h27 ⟨h1,h26,hlow,e,h5,ver,hH9⟩
     obtain ⟨x,hx⟩ : ∃ x,r.cpls[k]? = some x := ⟨_,List.getElem?_eq_getElem hk⟩
     refine Aw 2008 fun H1 g8 hs1 => ?_
     have hlow' : ∀ j,j < 2000 → H1 j = H0 j := fun j hj => by rw [hs1 _ (by omega),hlow _ hj]
     have hH9' : H1 2009 = some (e,.map ver (CH .i64 (tl (EU r m k)))) := by rw [hs1 _ (by decide),hH9]
     clear hs1 hlow hH9
     have hbk := (hF.cpl k x hx).2.2.2.1
     have hsp := DE (r := r) (m := m) hk
     have hw1 := @FO r m k x hx
     have hw2 := @FX r m k x hx
     have hnot := @Iy r m k
     have hf := GX (l' := List.range' (k + 1) (r.cpls.length - (k + 1))) hnot
     rw [← hsp] at hf
     have he := @EN k (AX m 0 (r.cpls.take k)) (List.range' (k + 1) (r.cpls.length - (k + 1)))
     rw [← hsp] at he
     repeat' (first | with_reducible (first | (refine sk ?_; intro K hK) | intro (ep : Nat → Nat) | apply_assumption -exfalso -symm only [*]) | ((with_reducible first | refine rg (md := { base := 2000,own := [8,9] }) (h := ?_) | refine nx ?_); try simp (disch := omega) only [h1,h5,h26,h27,h28,hH9',g8,hx,hf,he,BJ,cCpl,go_sem,simprocAttr]) | ((with_reducible refine' cE ?hv ?_ ?_); (case hv => rfl); all_goals (intro hc; (try simp only [go_sem,simprocAttr] at hc))) | ((with_reducible refine Ab ?_ ?_) <;> intro hg <;> (try simp (disch := omega) only [hg,h1,h5,h26,h27,h28,hH9',g8,hx,hf,he,BJ,cCpl,go_sem,simprocAttr]) <;> (try simp only [go_sem,simprocAttr] at hg) <;> (try (exfalso; omega))) | fail)
     ·exact ⟨fun j hj => by (repeat rw [if_neg (by omega)]); exact hlow' j hj,e,rfl,_,by rw [hw2 (by simp only [BO,decide_eq_false_iff_not]; omega)]⟩
     ·exact ⟨fun j hj => by (repeat rw [if_neg (by omega)]); exact hlow' j hj,e,rfl,_,by rw [hw1 (by simp only [BO,decide_eq_true_eq]; omega)]⟩
     ·exact ⟨fun j hj => by (repeat rw [if_neg (by omega)]); exact hlow' j hj,e,rfl,_,by rw [hw1 (by simp only [BO,decide_eq_true_eq]; omega)]⟩
    ·rintro f H h28 h27 ⟨h1,h26,hlow,e,h5,ver,hH9⟩
     rw [GW] at hH9
     repeat' (first | with_reducible (first | (refine sk ?_; intro K hK) | apply_assumption -exfalso -symm only [*]) | ((with_reducible first | refine rg (md := { base := 2000,own := [8,9] }) (h := ?_) | refine nx ?_); try simp (disch := omega) only [h1,h5,h26,h27,h28,hH9,go_sem,simprocAttr]) | fail)
     exact ⟨H,.map 2009 e,.refl H,(by (first | rfl | (simp only [Tryz.f101,go_sem,simprocAttr]; done) | (simp only [Tryz.f101,go_sem,simprocAttr]; rfl))),e,ver,by simp only [go_sem,simprocAttr],hH9,hlow⟩
 ·have hk' : H2 k = some (e,.arr n [A7 r ++ rest]) := by rw [hlow k hk2,hk]
  have k8 : ¬ k = 2008 := by omega
  have k9 : ¬ k = 2009 := by omega
  repeat' (first | with_reducible (first | ((fail_if_success (refine Di (id := 3) ?_)); refine sk ?_; intro K hK) | intro (ep : Nat → Nat) | apply_assumption -exfalso -symm only [*]) | ((with_reducible refine rg (md := { base := 2000,own := [8,9] }) (h := ?_)); try simp (disch := omega) only [hfp,A7,hk',k8,k9,g9,g8',go_sem,simprocAttr]) | fail)
  refine Av tabOK r.cpls.length (fun k f H => f 0 = fp ∧ f 1 = .int .i64 m ∧ (∀ j,j < 2000 → H j = H0 j) ∧ H 2008 = none ∧ ∃ e,f 5 = .map 2009 e ∧ ∃ ver,H 2009 = some (e,.map ver (CH .i64 (tl (List.range k))))) (by omega) (by rw [hXs]; decide) (by decide) (by (first | rfl | (simp only [go_sem,simprocAttr]; done) | (simp only [go_sem,simprocAttr]; rfl))) (by (first | rfl | (simp only [A7,go_sem,simprocAttr]; done) | (simp only [A7,go_sem,simprocAttr]; rfl)))
   ⟨by (first | rfl | (simp only [hfp,go_sem,simprocAttr]; done) | (simp only [hfp,go_sem,simprocAttr]; rfl)),by (first | rfl | (simp only [go_sem,simprocAttr]; done) | (simp only [go_sem,simprocAttr]; rfl)),fun j hj => by simp only [go_sem,simprocAttr]; rw [if_neg (by omega)]; exact hlow j hj,by (first | rfl | (simp only [g8',go_sem,simprocAttr]; done) | (simp only [g8',go_sem,simprocAttr]; rfl)),_,by (first | rfl | (simp only [go_sem,simprocAttr]; done) | (simp only [go_sem,simprocAttr]; rfl)),_,by (first | rfl | (simp only [go_sem,simprocAttr]; done) | (simp only [go_sem,simprocAttr]; rfl))⟩ ?_ ?_
  ·rintro k f H hk h16 h15 ⟨h0,h1,hlow,g8,e,h5,ver,hH9⟩
   have hnew : E2 (k : Int) (tl (List.range k)) 0 = none := NR (by simp)
   repeat' (first | with_reducible (first | (refine sk ?_; intro K hK) | intro (ep : Nat → Nat) | apply_assumption -exfalso -symm only [*]) | ((with_reducible refine rg (md := { base := 2000,own := [8,9] }) (h := ?_)); try simp (disch := omega) only [h0,h1,h5,h15,h16,hH9,g8,hnew,go_sem,simprocAttr]) | fail)
   exact ⟨fun j hj => by rw [if_neg (by omega)]; exact hlow j hj,e,rfl,_,by rw [IB,P9]⟩
  ·rintro f H h16 h15 ⟨h0,h1,hlow,g8,e,h5,ver,hH9⟩
   rcases hp with hfp | ⟨k,e0,n,hfp,hk,hk2⟩
   ·have hkk : True := trivial
    repeat' (first | with_reducible (first | ((fail_if_success (refine Di (id := 8) ?_)); refine sk ?_; intro K hK) | apply_assumption -exfalso -symm only [*]) | ((with_reducible refine rg (md := { base := 2000,own := [8,9] }) (h := ?_)); try simp (disch := omega) only [h0,h1,h5,hH9,g8,hfp,A7,go_sem,simprocAttr]) | fail)
    refine Av tabOK r.cpls.length (fun k f H => f 1 = .int .i64 m ∧ f 26 = .lst 6 (r.cpls.map cCpl) ∧ (∀ j,j < 2000 → H j = H0 j) ∧ ∃ e,f 5 = .map 2009 e ∧ ∃ ver,H 2009 = some (e,.map ver (CH .i64 (tl (EU r m k))))) (by omega) (by rw [hXs]; decide) (by decide) (by (first | rfl | (simp only [go_sem,simprocAttr]; done) | (simp only [go_sem,simprocAttr]; rfl))) (by (first | rfl | (simp only [A7,go_sem,simprocAttr]; done) | (simp only [A7,go_sem,simprocAttr]; rfl)))
     ⟨by (first | rfl | (simp only [h1,go_sem,simprocAttr]; done) | (simp only [h1,go_sem,simprocAttr]; rfl)),by (first | rfl | (simp only [hfp,hkk,A7,go_sem,simprocAttr]; done) | (simp only [hfp,hkk,A7,go_sem,simprocAttr]; rfl)),hlow,_,by (first | rfl | (simp only [h5,go_sem,simprocAttr]; done) | (simp only [h5,go_sem,simprocAttr]; rfl)),_,by simp only [FV]; (first | rfl | (simp only [hH9,go_sem,simprocAttr]; done) | (simp only [hH9,go_sem,simprocAttr]; rfl))⟩ ?_ ?_
    ·rintro k f H hk h28 h27 ⟨h1,h26,hlow,e,h5,ver,hH9⟩
     obtain ⟨x,hx⟩ : ∃ x,r.cpls[k]? = some x := ⟨_,List.getElem?_eq_getElem hk⟩
     refine Aw 2008 fun H1 g8 hs1 => ?_
     have hlow' : ∀ j,j < 2000 → H1 j = H0 j := fun j hj => by rw [hs1 _ (by omega),hlow _ hj]
     have hH9' : H1 2009 = some (e,.map ver (CH .i64 (tl (EU r m k)))) := by rw [hs1 _ (by decide),hH9]
     clear hs1 hlow hH9
     have hbk := (hF.cpl k x hx).2.2.2.1
     have hsp := DE (r := r) (m := m) hk
     have hw1 := @FO r m k x hx
     have hw2 := @FX r m k x hx
     have hnot := @Iy r m k
     have hf := GX (l' := List.range' (k + 1) (r.cpls.length - (k + 1))) hnot
     rw [← hsp] at hf
     have he := @EN k (AX m 0 (r.cpls.take k)) (List.range' (k + 1) (r.cpls.length - (k + 1)))
     rw [← hsp] at he
     repeat' (first | with_reducible (first | (refine sk ?_; intro K hK) | intro (ep : Nat → Nat) | apply_assumption -exfalso -symm only [*]) | ((with_reducible first | refine rg (md := { base := 2000,own := [8,9] }) (h := ?_) | refine nx ?_); try simp (disch := omega) only [h1,h5,h26,h27,h28,hH9',g8,hx,hf,he,BJ,cCpl,go_sem,simprocAttr]) | ((with_reducible refine' cE ?hv ?_ ?_); (case hv => rfl); all_goals (intro hc; (try simp only [go_sem,simprocAttr] at hc))) | ((with_reducible refine Ab ?_ ?_) <;> intro hg <;> (try simp (disch := omega) only [hg,h1,h5,h26,h27,h28,hH9',g8,hx,hf,he,BJ,cCpl,go_sem,simprocAttr]) <;> (try simp only [go_sem,simprocAttr] at hg) <;> (try (exfalso; omega))) | fail)
     ·exact ⟨fun j hj => by (repeat rw [if_neg (by omega)]); exact hlow' j hj,e,rfl,_,by rw [hw2 (by simp only [BO,decide_eq_false_iff_not]; omega)]⟩
     ·exact ⟨fun j hj => by (repeat rw [if_neg (by omega)]); exact hlow' j hj,e,rfl,_,by rw [hw1 (by simp only [BO,decide_eq_true_eq]; omega)]⟩
     ·exact ⟨fun j hj => by (repeat rw [if_neg (by omega)]); exact hlow' j hj,e,rfl,_,by rw [hw1 (by simp only [BO,decide_eq_true_eq]; omega)]⟩
    ·rintro f H h28 h27 ⟨h1,h26,hlow,e,h5,ver,hH9⟩
     rw [GW] at hH9
     repeat' (first | with_reducible (first | (refine sk ?_; intro K hK) | apply_assumption -exfalso -symm only [*]) | ((with_reducible first | refine rg (md := { base := 2000,own := [8,9] }) (h := ?_) | refine nx ?_); try simp (disch := omega) only [h1,h5,h26,h27,h28,hH9,go_sem,simprocAttr]) | fail)
     exact ⟨H,.map 2009 e,.refl H,(by (first | rfl | (simp only [Tryz.f101,go_sem,simprocAttr]; done) | (simp only [Tryz.f101,go_sem,simprocAttr]; rfl))),e,ver,by simp only [go_sem,simprocAttr],hH9,hlow⟩
   ·have hkk : H k = some (e0,.arr n [A7 r ++ rest]) := by rw [hlow k hk2,hk]
    have k8 : ¬ k = 2008 := by omega
    have k9 : ¬ k = 2009 := by omega
    repeat' (first | with_reducible (first | ((fail_if_success (refine Di (id := 8) ?_)); refine sk ?_; intro K hK) | apply_assumption -exfalso -symm only [*]) | ((with_reducible refine rg (md := { base := 2000,own := [8,9] }) (h := ?_)); try simp (disch := omega) only [h0,h1,h5,hH9,g8,hfp,hkk,k8,k9,A7,go_sem,simprocAttr]) | fail)
    refine Av tabOK r.cpls.length (fun k f H => f 1 = .int .i64 m ∧ f 26 = .lst 6 (r.cpls.map cCpl) ∧ (∀ j,j < 2000 → H j = H0 j) ∧ ∃ e,f 5 = .map 2009 e ∧ ∃ ver,H 2009 = some (e,.map ver (CH .i64 (tl (EU r m k))))) (by omega) (by rw [hXs]; decide) (by decide) (by (first | rfl | (simp only [go_sem,simprocAttr]; done) | (simp only [go_sem,simprocAttr]; rfl))) (by (first | rfl | (simp only [A7,go_sem,simprocAttr]; done) | (simp only [A7,go_sem,simprocAttr]; rfl)))
     ⟨by (first | rfl | (simp only [h1,go_sem,simprocAttr]; done) | (simp only [h1,go_sem,simprocAttr]; rfl)),by (first | rfl | (simp only [hfp,hkk,A7,go_sem,simprocAttr]; done) | (simp only [hfp,hkk,A7,go_sem,simprocAttr]; rfl)),hlow,_,by (first | rfl | (simp only [h5,go_sem,simprocAttr]; done) | (simp only [h5,go_sem,simprocAttr]; rfl)),_,by simp only [FV]; (first | rfl | (simp only [hH9,go_sem,simprocAttr]; done) | (simp only [hH9,go_sem,simprocAttr]; rfl))⟩ ?_ ?_
    ·rintro k f H hk h28 h27 ⟨h1,h26,hlow,e,h5,ver,hH9⟩
     obtain ⟨x,hx⟩ : ∃ x,r.cpls[k]? = some x := ⟨_,List.getElem?_eq_getElem hk⟩
     refine Aw 2008 fun H1 g8 hs1 => ?_
     have hlow' : ∀ j,j < 2000 → H1 j = H0 j := fun j hj => by rw [hs1 _ (by omega),hlow _ hj]
     have hH9' : H1 2009 = some (e,.map ver (CH .i64 (tl (EU r m k)))) := by rw [hs1 _ (by decide),hH9]
     clear hs1 hlow hH9
     have hbk := (hF.cpl k x hx).2.2.2.1
     have hsp := DE (r := r) (m := m) hk
     have hw1 := @FO r m k x hx
     have hw2 := @FX r m k x hx
     have hnot := @Iy r m k
     have hf := GX (l' := List.range' (k + 1) (r.cpls.length - (k + 1))) hnot
     rw [← hsp] at hf
     have he := @EN k (AX m 0 (r.cpls.take k)) (List.range' (k + 1) (r.cpls.length - (k + 1)))
     rw [← hsp] at he
     repeat' (first | with_reducible (first | (refine sk ?_; intro K hK) | intro (ep : Nat → Nat) | apply_assumption -exfalso -symm only [*]) | ((with_reducible first | refine rg (md := { base := 2000,own := [8,9] }) (h := ?_) | refine nx ?_); try simp (disch := omega) only [h1,h5,h26,h27,h28,hH9',g8,hx,hf,he,BJ,cCpl,go_sem,simprocAttr]) | ((with_reducible refine' cE ?hv ?_ ?_); (case hv => rfl); all_goals (intro hc; (try simp only [go_sem,simprocAttr] at hc))) | ((with_reducible refine Ab ?_ ?_) <;> intro hg <;> (try simp (disch := omega) only [hg,h1,h5,h26,h27,h28,hH9',g8,hx,hf,he,BJ,cCpl,go_sem,simprocAttr]) <;> (try simp only [go_sem,simprocAttr] at hg) <;> (try (exfalso; omega))) | fail)
     ·exact ⟨fun j hj => by (repeat rw [if_neg (by omega)]); exact hlow' j hj,e,rfl,_,by rw [hw2 (by simp only [BO,decide_eq_false_iff_not]; omega)]⟩
     ·exact ⟨fun j hj => by (repeat rw [if_neg (by omega)]); exact hlow' j hj,e,rfl,_,by rw [hw1 (by simp only [BO,decide_eq_true_eq]; omega)]⟩
     ·exact ⟨fun j hj => by (repeat rw [if_neg (by omega)]); exact hlow' j hj,e,rfl,_,by rw [hw1 (by simp only [BO,decide_eq_true_eq]; omega)]⟩
    ·rintro f H h28 h27 ⟨h1,h26,hlow,e,h5,ver,hH9⟩
     rw [GW] at hH9
     repeat' (first | with_reducible (first | (refine sk ?_; intro K hK) | apply_assumption -exfalso -symm only [*]) | ((with_reducible first | refine rg (md := { base := 2000,own := [8,9] }) (h := ?_) | refine nx ?_); try simp (disch := omega) only [h1,h5,h26,h27,h28,hH9,go_sem,simprocAttr]) | fail)
     exact ⟨H,.map 2009 e,.refl H,(by (first | rfl | (simp only [Tryz.f101,go_sem,simprocAttr]; done) | (simp only [Tryz.f101,go_sem,simprocAttr]; rfl))),e,ver,by simp only [go_sem,simprocAttr],hH9,hlow⟩
end Cp
namespace Cp
open Go
set_option maxRecDepth 10000
@[go_sem] theorem ct {a b c d : Val} : Aq [a,b] 0 [c,d] = [c,d] := rfl
theorem DN {es vs : List Val} {j : Nat} (h : j + vs.length ≤ es.length) : (Aq es j vs).length = es.length := by
 simp only [Aq,List.length_append,List.length_take,List.length_drop]; omega
theorem Kk {es vs : List Val} {j : Nat} {v : Val} (h : v ∈ Aq es j vs) : v ∈ es ∨ v ∈ vs := by
 simp only [Aq,List.mem_append] at h
 rcases h with (h | h) | h
 ·exact .inl (List.mem_of_mem_take h)
 ·exact .inr h
 ·exact .inl (List.mem_of_mem_drop h)
theorem N2 {es vs : List Val} {j : Nat} (h : j ≤ es.length) : (Aq es j vs).drop j = vs ++ es.drop (j + vs.length) := by
 have e : (es.take j).length = j := by simp; omega
 unfold Aq
 rw [List.append_assoc,List.drop_append,e,List.drop_of_length_le (by omega),Nat.sub_self]
 rfl
theorem E8 {es vs : List Val} {j i : Nat} (h : j + vs.length ≤ es.length) : (Aq es j vs)[i]? = if i < j then es[i]? else if i < j + vs.length then vs[i - j]? else es[i]? := by
 have e : (es.take j).length = j := by simp; omega
 unfold Aq
 rw [List.append_assoc,List.getElem?_append,e]
 by_cases h1 : i < j
 ·rw [if_pos h1,if_pos h1,List.getElem?_take,if_pos h1]
 ·rw [if_neg h1,if_neg h1,List.getElem?_append]
  by_cases h2 : i < j + vs.length
  ·rw [if_pos (by omega),if_pos h2]
  ·rw [if_neg (by omega),if_neg h2,List.getElem?_drop]
   congr 1; omega
theorem GC {es es' vs : List Val} {j : Nat} (h : es.length ≤ j) : Aq (es ++ es') j vs = es ++ Aq es' (j - es.length) vs := by
 unfold Aq
 rw [List.take_append,List.take_of_length_le h,List.drop_append,List.drop_of_length_le (by omega)]
 simp only [List.append_assoc,List.nil_append]
 rw [show j + vs.length - es.length = j - es.length + vs.length by omega]
def Af (r : RunT) : Nat → List Val
 | 0 => A7 r ++ (List.replicate 122 (.int .i64 0) ++ List.replicate 61 (.bool false))
 | k + 1 =>
  if 0 < (wk r ((k + 1 : Nat) : Int)).length then Aq (Aq (Af r k) (128 + (k + 1)) [.bool true]) (6 + (k + 1) * 2) [.int .i64 (C4 r ((k + 1 : Nat) : Int)).lo,.int .i64 (C4 r ((k + 1 : Nat) : Int)).hi]
  else Aq (Af r k) (128 + (k + 1)) [.bool false]
theorem F6 {r : RunT} : ∀ {k : Nat},k ≤ 60 → (Af r k).length = 189
 | 0,_ => by simp [Af,A7]
 | k + 1,h => by
  have ih := @F6 r k (by omega)
  have e : ∀ v,(Aq (Af r k) (128 + (k + 1)) [v]).length = 189 := fun v => by rw [DN (by simp only [List.length_cons,List.length_nil]; omega),ih]
  simp only [Af]
  split
  ·rw [DN (by rw [e]; simp only [List.length_cons,List.length_nil]; omega),e]
  ·exact e _
theorem DF {r : RunT} : ∀ {k : Nat},∃ rest,Af r k = A7 r ++ rest
 | 0 => ⟨_,rfl⟩
 | k + 1 => by
  obtain ⟨rest,e⟩ := @DF r k
  have h6 : (A7 r).length = 6 := rfl
  simp only [Af,e]
  split
  ·exact ⟨_,by rw [GC (by rw [h6]; omega),GC (by rw [h6]; omega)]⟩
  ·exact ⟨_,by rw [GC (by rw [h6]; omega)]⟩
def Du (v : Val) : Prop := noid v = true ∧ ∀ H,fzd H 5 v = v
theorem IO {k : IntKind} {n : Int} : Du (.int k n) := ⟨rfl,fun _ => rfl⟩
theorem Ky {b : Bool} : Du (.bool b) := ⟨rfl,fun _ => rfl⟩
theorem Dm {r : RunT} : ∀ {k : Nat} (v : Val),v ∈ Af r k → Du v
 | 0,v,h => by
  simp only [Af,A7,List.mem_append,List.mem_cons,List.not_mem_nil,or_false,List.mem_replicate] at h
  rcases h with (rfl | rfl | rfl | rfl | rfl | rfl) | h | h
  all_goals first | exact IO | skip
  ·exact ⟨by simp only [noid,S1],fun H => by simp only [JE,Tt]⟩
  ·exact ⟨by simp only [noid,Qu],fun H => by simp only [JE,Rg]⟩
  ·exact ⟨by simp only [noid,PP],fun H => by simp only [JE,Sf]⟩
  ·rw [h.2]; exact IO
  ·rw [h.2]; exact Ky
 | k + 1,v,h => by
  have ih := @Dm r k
  have one : ∀ b,v ∈ Aq (Af r k) (128 + (k + 1)) [.bool b] → Du v := fun b h => by
   rcases Kk h with h | h
   ·exact ih v h
   ·simp at h; subst h; exact Ky
  simp only [Af] at h
  split at h
  ·rcases Kk h with h | h
   ·exact one _ h
   ·simp at h; rcases h with rfl | rfl <;> exact IO
  ·exact one _ h
theorem noids_still : ∀ {l : List Val},(∀ v ∈ l,Du v) → noids l = true
 | [],_ => rfl
 | v :: l,h => by
  have ih := @noids_still l fun u hu => h u (List.mem_cons_of_mem _ hu)
  simp only [noids,(h v (by simp)).1,ih,Bool.and_self]
theorem PY {H : Hp} {l : List Val} (h : ∀ v ∈ l,Du v) : l.map (fzd H 5) = l := by
 conv => rhs; rw [← List.map_id l]
 exact List.map_congr_left fun v hv => (h v hv).2 H
def lfI (r : RunT) (m : Int) (left : List Nat) : List Nat := left.map fun p => (wk r m).getD p 0
theorem S3 {r : RunT} {m : Int} : lfI r m (List.range (wk r m).length) = wk r m := by
 unfold lfI
 apply List.ext_getElem?
 intro i
 rw [List.getElem?_map]
 by_cases h : i < (wk r m).length
 ·rw [List.getElem?_range h]; simp [List.getD,h]
 ·rw [List.getElem?_eq_none (by simp; omega),List.getElem?_eq_none (by omega)]; rfl
theorem Oa {r : RunT} {m : Int} {a b : List Nat} (h : a.Perm b) : D4 r m a = D4 r m b ∧ D5 r m a = D5 r m b := by
 induction h with
 | nil => exact ⟨rfl,rfl⟩
 | cons x _ ih => simp only [D4,D5,ih.1,ih.2,and_self]
 | swap x y l => simp only [D4,D5]; omega
 | trans _ _ ih1 ih2 => exact ⟨ih1.1.trans ih2.1,ih1.2.trans ih2.2⟩
theorem UF {r : RunT} {m : Int} {left : List Nat} {p w : Nat} {c : Cpl} (h : p ∈ left) (hw : (wk r m)[p]? = some w) (hc : r.cpls[w]? = some c) :
  D4 r m (lfI r m left) = (Df r c w m).lo + D4 r m (lfI r m (left.erase p)) ∧ D5 r m (lfI r m left) = (Df r c w m).hi + D5 r m (lfI r m (left.erase p)) := by
 have e := Oa (r := r) (m := m) ((List.perm_cons_erase h).map fun p => (wk r m).getD p 0)
 have e2 : (wk r m).getD p 0 = w := by simp [List.getD,hw]
 simp only [List.map_cons,e2,D4,D5,hc] at e
 exact e
theorem X4 {r : RunT} {m : Int} {left : List Nat} (h : ∀ p ∈ left,p < (wk r m).length) : ∀ i ∈ lfI r m left,i ∈ wk r m := by
 intro i hi
 simp only [lfI,List.mem_map] at hi
 obtain ⟨p,hp,rfl⟩ := hi
 have := h p hp
 simp [List.getD,this]
@[go_sem] theorem Xk {r : RunT} {m : Int} {left : List Nat} : (lfI r m left).length = left.length := by simp [lfI]
end Cp
namespace Cp
open Go
theorem I8 {r : RunT} {m : Nat} (h1 : 1 ≤ m) : ∀ {n : Nat},m ≤ n → n ≤ 60 → (Af r n)[128 + m]? = some (.bool (decide (0 < (wk r (m : Int)).length)))
 | 0,h,_ => by omega
 | n + 1,h,h60 => by
  have hl := @F6 r n (by omega)
  have e : ∀ b,(Aq (Af r n) (128 + (n + 1)) [.bool b])[128 + m]? = if m = n + 1 then some (.bool b) else (Af r n)[128 + m]? := fun b => by
   rw [E8 (by simp only [List.length_cons,List.length_nil]; omega)]
   by_cases hm : m = n + 1
   ·subst hm; rw [if_neg (by omega),if_pos (by simp),if_pos rfl,Nat.sub_self]; rfl
   ·rw [if_pos (by omega),if_neg hm]
  have hl1 : ∀ b,(Aq (Af r n) (128 + (n + 1)) [.bool b]).length = 189 := fun b => by rw [DN (by simp only [List.length_cons,List.length_nil]; omega),hl]
  simp only [Af]
  by_cases hz : 0 < (wk r ((n + 1 : Nat) : Int)).length
  ·rw [if_pos hz,E8 (by rw [hl1]; simp only [List.length_cons,List.length_nil]; omega),if_neg (by omega),if_neg (by simp only [List.length_cons,List.length_nil]; omega),e]
   by_cases hm : m = n + 1
   ·subst hm; rw [if_pos rfl,decide_eq_true hz]
   ·rw [if_neg hm,I8 h1 (by omega) (by omega)]
  ·rw [if_neg hz,e]
   by_cases hm : m = n + 1
   ·subst hm; rw [if_pos rfl,decide_eq_false hz]
   ·rw [if_neg hm,I8 h1 (by omega) (by omega)]
theorem KL {r : RunT} {m : Nat} (h1 : 1 ≤ m) (hw : 0 < (wk r (m : Int)).length) : ∀ {n : Nat},m ≤ n → n ≤ 60 → (Af r n)[6 + m * 2]? = some (.int .i64 (C4 r (m : Int)).lo) ∧ (Af r n)[6 + m * 2 + 1]? = some (.int .i64 (C4 r (m : Int)).hi)
 | 0,h,_ => by omega
 | n + 1,h,h60 => by
  have hl := @F6 r n (by omega)
  have e : ∀ b i,i < 128 → (Aq (Af r n) (128 + (n + 1)) [.bool b])[i]? = (Af r n)[i]? := fun b i hi => by
   rw [E8 (by simp only [List.length_cons,List.length_nil]; omega),if_pos (by omega)]
  have hl1 : ∀ b,(Aq (Af r n) (128 + (n + 1)) [.bool b]).length = 189 := fun b => by rw [DN (by simp only [List.length_cons,List.length_nil]; omega),hl]
  simp only [Af]
  by_cases hz : 0 < (wk r ((n + 1 : Nat) : Int)).length
  ·have g : ∀ i,(Aq (Aq (Af r n) (128 + (n + 1)) [.bool true]) (6 + (n + 1) * 2) [.int .i64 (C4 r ((n + 1 : Nat) : Int)).lo,.int .i64 (C4 r ((n + 1 : Nat) : Int)).hi])[i]? = if i < 6 + (n + 1) * 2 then (Aq (Af r n) (128 + (n + 1)) [.bool true])[i]? else if i < 6 + (n + 1) * 2 + 2 then [Val.int .i64 (C4 r ((n + 1 : Nat) : Int)).lo,.int .i64 (C4 r ((n + 1 : Nat) : Int)).hi][i - (6 + (n + 1) * 2)]? else (Aq (Af r n) (128 + (n + 1)) [.bool true])[i]? := fun i =>
    E8 (by rw [hl1]; simp only [List.length_cons,List.length_nil]; omega)
   rw [if_pos hz,g,g]
   by_cases hm : m = n + 1
   ·subst hm
    refine ⟨?_,?_⟩
    ·rw [if_neg (by omega),if_pos (by omega),Nat.sub_self]; rfl
    ·rw [if_neg (by omega),if_pos (by omega),show 6 + (n + 1) * 2 + 1 - (6 + (n + 1) * 2) = 1 by omega]; rfl
   ·have ih := KL h1 hw (n := n) (by omega) (by omega)
    refine ⟨?_,?_⟩
    ·rw [if_pos (by omega),e _ _ (by omega)]; exact ih.1
    ·rw [if_pos (by omega),e _ _ (by omega)]; exact ih.2
  ·by_cases hm : m = n + 1
   ·subst hm; exact absurd hw hz
   ·rw [if_neg hz,e _ _ (by omega),e _ _ (by omega)]
    exact KL h1 hw (by omega) (by omega)
end Cp
