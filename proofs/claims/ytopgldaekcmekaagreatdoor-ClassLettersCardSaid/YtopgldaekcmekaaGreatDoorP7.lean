/- Rules,facts and contracts that the statement's proof leans on. Conditions: none. -/
import Derived.IntWalk
import Derived.Test.YtopgldaekcmekaaGreatDoorP6
set_option linter.unusedVariables false
set_option linter.unusedSimpArgs false
set_option linter.unusedSectionVars false
namespace Cp
open Go
attribute [go_sem] Int.natCast_nonneg decide_eq_true_eq decide_eq_false_iff_not Bool.not_eq_true' Bool.not_eq_false' List.length_map List.getElem?_map Option.map_some Option.map_none
 Bool.not_eq_eq_eq_not
theorem KB {n : Int} (h : -9223372036854775808 ≤ n ∧ n ≤ 9223372036854775807) : IntKind.i64.wrap n = n := IntWalk.i64_in n h
@[go_sem] theorem TR {k : Nat} : ((k : Int) + 1) = ((k + 1 : Nat) : Int) := rfl
@[go_sem] theorem TF {k : Nat} : ((k + 1 : Nat) : Int) - 1 = (k : Int) := by omega
section
variable {P : Program} {T : Tab} {G G' : Gh} {w w' : World} {H H' : Hp} {md : Me} {X : Cx} {ro : Option Nat} {Q : Exit → Fr → Hp → Prop} {f : Fr}
def BQ (H : Hp) (ks : List Nat) : Hp := fun k => if ks.contains k then H k else none
theorem TW (H : Hp) (ks : List Nat) (k : Nat) : BQ H ks k = none ∨ BQ H ks k = H k := by
 unfold BQ; split
 ·exact .inr rfl
 ·exact .inl rfl
@[go_sem] theorem ZV {ks : List Nat} {k : Nat} : BQ H ks k = if ks.contains k then H k else none := rfl
theorem Bn {c : Code} (ks : List Nat) (h : AW P ro X c Q f (BQ H ks)) : AW P ro X c Q f H := Jw _ (TW H ks) h
theorem Di {id : Nat} {ops : Array Oper} {b : Bool} {y : Code} (h : AW P ro X (.seq (.region id ops b) y) Q f H) : AW P ro X (.seq (.region id ops b) y) Q f H := h
theorem Lm {c : Code} (t n : Nat) (h : AW P ro X c Q (upd f t (fzd H n (f t))) H) : AW P ro X c Q f H := fun G a w s => by
 refine h G a w ⟨s.tr,s.rel,fun t' => ?_,s.size,s.dfr⟩
 by_cases ht : t' = t
 ·subst ht; rw [A4]; exact JJ s.rel n _ _ (s.fr t')
 ·rw [A0 _ _ ht]; exact s.fr t'
theorem EV {c : Code} {v : Val} (t n : Nat) (hv : fzd H n (f t) = v) (h : AW P ro X c Q (upd f t v) H) : AW P ro X c Q f H := Lm t n (by rw [hv]; exact h)
def scQ (Q : Exit → Fr → Hp → Prop) : Exit → Fr → Hp → Prop
 | .goto _,_,_ => False
 | e,f,H => Q e f H
theorem Sl {c : Code} (h : AW P ro X c (scQ Q) f H) : AW P ro X (.scope c) Q f H := fun G a w s => by
 refine Kh (wpIn_mono (h G a w s) fun e a w hp => ?_)
 obtain ⟨G,f,H,s,q⟩ := hp
 cases e with
 | goto l => exact q.elim
 | _ => exact ⟨(fun l h => by cases h),G,f,H,s,q⟩
theorem Sg {l : Nat} (h : Q .normal f H) : AW P ro X (.label l) Q f H := fun G a w s => wpIn_label ⟨G,f,H,s,h⟩
theorem Rc {c : Operand} {x y : Code} (hc : ev f c = .bool true) (h1 : AW P ro X x Q f H) : AW P ro X (.cond c x y) Q f H :=
 Mq hc (fun _ => h1) (fun e => by cases e)
theorem R5 {c : Operand} {x y : Code} (hc : ev f c = .bool false) (h1 : AW P ro X y Q f H) : AW P ro X (.cond c x y) Q f H :=
 Mq hc (fun e => by cases e) (fun _ => h1)
end
def RQ (b b1 : Nat) (J : Fr → Hp → Prop) (Q : Exit → Fr → Hp → Prop) : Exit → Fr → Hp → Prop
 | .normal,f,H => J f H
 | .exit i,f,H => if i = b1 then J f H else if i = b then Q .normal f H else Q (.exit i) f H
 | e,f,H => Q e f H
section
variable {b b1 : Nat} {J : Fr → Hp → Prop} {Q : Exit → Fr → Hp → Prop}
@[go_sem] theorem RQ_n : RQ b b1 J Q .normal = J := rfl
@[go_sem] theorem RQ_ret : RQ b b1 J Q .ret = Q .ret := rfl
@[go_sem] theorem c9 {i : Nat} : RQ b b1 J Q (.exit i) = if i = b1 then J else if i = b then Q .normal else Q (.exit i) := by
 funext f H
 simp only [RQ]
 split
 ·rfl
 ·split <;> rfl
end
section
variable {P : Program} {T : Tab} {G G' : Gh} {w w' : World} {H H' : Hp} {md : Me} {X : Cx} {ro : Option Nat} {Q : Exit → Fr → Hp → Prop} {f : Fr}
@[go_sem] theorem ic {Q : Exit → Fr → Hp → Prop} : scQ Q .normal = Q .normal := rfl
@[go_sem] theorem cJ {Q : Exit → Fr → Hp → Prop} : scQ Q .ret = Q .ret := rfl
@[go_sem] theorem bz {Q : Exit → Fr → Hp → Prop} {i : Nat} : scQ Q (.exit i) = Q (.exit i) := rfl
def Rnd (I : Nat → Fr → Hp → Prop) (ti tn : Tmp) (len n : Nat) (f : Fr) (H : Hp) : Prop := ∃ k,k ≤ len ∧ n = len - k ∧ f ti = .int .i64 k ∧ f tn = .int .i64 len ∧ I k f H
theorem ar {b b1 : Nat} {J K L : Fr → Hp → Prop} {e : Exit} (hJ : ∀ f H,J f H → K f H) (h : RQ b b1 J Q e f H) : E5 b1 (Fz K (Fz L (E5 b Q))) e f H := by
 cases e with
 | exit i =>
  simp only [RQ,E5] at h ⊢
  split at h
  ·rw [if_pos (by assumption)]; exact hJ f H h
  ·rename_i h1
   rw [if_neg h1]
   simp only [Fz,E5]
   split at h
   ·rw [if_pos (by assumption)]; exact h
   ·rename_i h2; rw [if_neg h2]; exact h
 | normal => exact hJ f H h
 | _ => exact h
theorem Av (hT : Ad P T) {b b1 r1 r2 : Nat} {tc ti tn tj : Tmp} {y1 y2 y3 y4 y5 y6 y7 : TypeId} {p1 p2 p3 : String} {a1 a2 a3 : Array Edge} {body : Code} (len : Nat) (I : Nat → Fr → Hp → Prop)
  (hlen : len ≤ 4611686018427387904) (hs : tc < X.sz ∧ tj < X.sz ∧ ti < X.sz) (hd : tc ≠ ti ∧ tc ≠ tn ∧ tj ≠ ti ∧ tj ≠ tn ∧ ti ≠ tn) (hi : f ti = .int .i64 0) (hn : f tn = .int .i64 len) (h0 : I 0 f H)
  (hbody : ∀ (k : Nat) f H,k < len → f ti = .int .i64 k → f tn = .int .i64 len → I k f H →
   AW P ro X body (RQ b b1 (fun f H => f ti = .int .i64 k ∧ f tn = .int .i64 len ∧ I (k + 1) (upd (upd f tj (.int .i64 ((k + 1 : Nat) : Int))) ti (.int .i64 ((k + 1 : Nat) : Int))) H) Q) (upd f tc (.bool true)) H)
  (hexit : ∀ f H,f ti = .int .i64 len → f tn = .int .i64 len → I len f H → Q .normal (upd f tc (.bool false)) H) :
  AW P ro X (.block b (.loop (.seq (.region r1 #[{ dst := some tc,op := .binOp .lss y1 (.tmp ti) (.tmp tn) y2,type := y3,pos := p1,after := a1,guard := none }] false)
   (.seq (.cond (.tmp tc) .skip (.exit b)) (.seq (.block b1 body)
    (.region r2 #[{ dst := some tj,op := .binOp .add y4 (.tmp ti) (.const (.int .i64 1)) y5,type := y6,pos := p2,after := a2,guard := none },{ dst := some ti,op := .move (.tmp tj),type := y7,pos := p3,after := a3,guard := none }] false)))))) Q f H := by
 refine An (AK (Rnd I ti tn len) len ⟨0,Nat.zero_le _,rfl,hi,hn,h0⟩ ?_)
 rintro n f H ⟨k,hk,rfl,hfi,hfn,hI⟩
 refine FB fun K hK => ?_
 refine IV hT { base := 0,own := [] } (by simp [BF,hs.1]) ?_
 have e1 : B1 T .lss y1 (.tmp ti) (.tmp tn) (.int .i64 (k : Int)) (.int .i64 (len : Int)) = some (.bool (decide ((k : Int) < len))) := by rw [XE]; rfl
 simp only [L8,xseq_nil,Jr,Ln,M1,hfi,hfn,e1,Nb,Nm,thenE_n]
 by_cases hlt : k < len
 ·have e2 : decide ((k : Int) < len) = true := decide_eq_true (by omega)
  rw [e2]
  refine hK _ _ ?_
  refine FB fun K1 hK1 => ?_
  refine Rc (by simp only [M1,A4]) (Pw ?_)
  simp only [thenE_n]
  refine hK1 _ _ ?_
  refine FB fun K2 hK2 => ?_
  refine An ((hbody k f H hlt hfi hfn hI).mono fun e f' H' h => ?_)
  refine ar (fun f' H' hJ => hK2 _ _ ?_) h
  obtain ⟨q1,q2,q3⟩ := hJ
  refine IV hT { base := 0,own := [] } (by simp [BF,hs.2.1,hs.2.2]) ?_
  have e3 : B1 T .add y4 (.tmp ti) (.const (.int .i64 1)) (.int .i64 (k : Int)) (.int .i64 1) = some (.int .i64 ((k + 1 : Nat) : Int)) := by
   rw [X2]; simp only [if_true]; rw [KB (by omega)]; rfl
  simp only [L8,xseq_nil,Jr,Ln,ST,M1,W2,q1,e3,Nb,Nm,thenE_n,A4]
  exact ⟨len - (k + 1),by omega,k + 1,by omega,rfl,A4 _ _ _,by rw [A0 _ _ (fun e => hd.2.2.2.2 e.symm),A0 _ _ (fun e => hd.2.2.2.1 e.symm)]; exact q2,q3⟩
 ·have e2 : decide ((k : Int) < len) = false := decide_eq_false (by omega)
  rw [e2]
  obtain rfl : k = len := by omega
  refine hK _ _ ?_
  refine FB fun K1 hK1 => ?_
  refine R5 (by simp only [M1,A4]) (PJ ?_)
  have := hexit f H hfi hfn hI
  simpa [Fz,E5] using this
end
theorem V3 {T : Tab} {fn : Func} {v v' : Val} {f : Fr} {H : Hp} {e : Exit} (he : e = .ret ∨ e = .normal) (h : Fx T f H fn.results.toList = some v') (h2 : fzd H 6 v' = v) : FnP T fn v e f H := by
 rcases he with rfl | rfl
 ·exact ⟨H,v',.refl H,h,h2⟩
 ·exact ⟨H,v',.refl H,h,h2⟩
theorem SE {T : Tab} {fn : Func} {v : Val} {f : Fr} {H : Hp} {e : Exit} (he : e = .ret ∨ e = .normal) (h : ∃ v',Fx T f H fn.results.toList = some v' ∧ fzd H 6 v' = v) : FnP T fn v e f H := by
 obtain ⟨v',h1,h2⟩ := h
 exact V3 he h1 h2
theorem Pk {T : Tab} {fn : Func} {v : Val} {f : Fr} {H : Hp} {e : Exit} (k : Nat) {e0 sz : Nat} {xss : List (List Val)} (he : e = .ret ∨ e = .normal) (hk : H k = some (e0,.arr sz xss))
  (h : ∃ v',Fx T f (upd H k (some (e0,.fro sz xss))) fn.results.toList = some v' ∧ fzd (upd H k (some (e0,.fro sz xss))) 6 v' = v) : FnP T fn v e f H := by
 obtain ⟨v',h1,h2⟩ := h
 rcases he with rfl | rfl
 ·exact ⟨_,v',.step k e0 sz xss hk (.refl _),h1,h2⟩
 ·exact ⟨_,v',.step k e0 sz xss hk (.refl _),h1,h2⟩
def fzG (H : Hp) (n k e m : Nat) : Option (Nat × AObj) → Val
 | some (e',.fro sz xss) => if e = e' ∧ m = xss.length then .lst sz (xss.map fun es => es.map (fzd H n)) else .gr k e m
 | _ => .gr k e m
@[go_sem] theorem cR {H : Hp} {n k e e' m sz : Nat} {xss : List (List Val)} : fzG H n k e m (some (e',.fro sz xss)) = if e = e' ∧ m = xss.length then .lst sz (xss.map fun es => es.map (fzd H n)) else .gr k e m := rfl
@[go_sem] theorem gq {H : Hp} {n k e m : Nat} : fzd H (n + 1) (.gr k e m) = fzG H n k e m (H k) := by
 simp only [fzd,fzG]
 cases H k with
 | none => rfl
 | some p => obtain ⟨e',o⟩ := p; cases o <;> rfl
@[go_sem] theorem JE {H : Hp} {n sz : Nat} {xss : List (List Val)} : fzd H (n + 1) (.lst sz xss) = .lst sz (xss.map fun es => es.map (fzd H n)) := rfl
@[go_sem] theorem ZZ {H : Hp} {n : Nat} : fzd H (n + 1) .nils = .nils := rfl
theorem CF {α : Type} {g : Val → Val} {c : α → List Val} (h : ∀ x,(c x).map g = c x) (xs : List α) : (xs.map c).map (fun es => es.map g) = xs.map c := by
 induction xs with
 | nil => rfl
 | cons x xs ih => simp only [List.map_cons,h,ih]
@[go_sem] theorem Tz {H : Hp} {n : Nat} {k : IntKind} {m : Int} : fzd H (n + 1) (.int k m) = .int k m := rfl
@[go_sem] theorem ZO {H : Hp} {n : Nat} {m : Bool} : fzd H (n + 1) (.bool m) = .bool m := rfl
@[go_sem] theorem cX {H : Hp} {n : Nat} {m : ByteArray} : fzd H (n + 1) (.str m) = .str m := rfl
@[go_sem] theorem cQ {H : Hp} {n : Nat} {cs : List Val} : fzd H (n + 1) (.tup cs) = .tup (cs.map (fzd H n)) := rfl
@[go_sem] theorem cK {H : Hp} {n : Nat} {cs : List Val} : fzd H (n + 1) (.agg cs) = .agg (cs.map (fzd H n)) := rfl
def Cv (xs : List Int) : List (List Val) := xs.map fun x => [.int .i64 x]
@[go_sem] theorem aA {xs : List Int} : (Cv xs).length = xs.length := by simp [Cv]
@[go_sem] theorem aw {xs : List Int} {i : Nat} : (Cv xs)[i]? = (xs[i]?).map fun x => [.int .i64 x] := by simp [Cv]
theorem Bl {α : Type} {g : α → List Val} (h : ∀ x,noids (g x) = true) : ∀ {xs : List α},noidss (xs.map g) = true
 | [] => rfl
 | x :: xs => by simp only [List.map_cons,noidss,h,Bl h,Bool.and_self]
@[go_sem] theorem Qx {xs : List Int} : noidss (Cv xs) = true := Bl fun x => rfl
@[go_sem] theorem SH {H : Hp} {n : Nat} {xs : List Int} : ((Cv xs).map fun es => es.map (fzd H (n + 1))) = Cv xs := CF (fun _ => rfl) xs
def Ay {α : Type} (p : α → Bool) : List α → Int → Int
 | [],_ => -1
 | x :: xs,k => if p x = true then k else Ay p xs (k + 1)
theorem Jo {α : Type} {p : α → Bool} : ∀ {xs : List α} {k : Int},0 ≤ k → (decide (0 ≤ Ay p xs k)) = xs.any p
 | [],k,h => rfl
 | x :: xs,k,h => by
  simp only [Ay,List.any_cons]
  by_cases hp : p x = true
  ·simp [hp,h]
  ·simp only [Bool.not_eq_true] at hp
   simp only [hp,Bool.false_eq_true,if_false,Bool.false_or]
   exact Jo (by omega)
section
variable {P : Program} {T : Tab} {md : Me} {os : List Oper} {K : Fr → Hp → Prop} {f : Fr} {H : Hp} {d : Option Tmp} {ty : TypeId} {pos : String} {af : Array Edge} {g : Option (Nat × Bool)} {ss o i z : List Nat} {b : Nat}
@[go_sem] theorem YX {stp : Oper → (Fr → Hp → Prop) → Fr → Hp → Prop} : CD stp K [] f H = K f H := rfl
@[go_sem] theorem X9 {stp : Oper → (Fr → Hp → Prop) → Fr → Hp → Prop} {a : Oper} {l : List Oper} : CD stp K (a :: l) f H = stp a (CD stp K l) f H := rfl
@[go_sem] theorem Zw {a : Oper} : Bx P T md os ss a K f H = (AD ss md a f ∧ Bo P T md os a K f H) := rfl
def Iw (b : Nat) : List Nat → Option Nat → Prop
 | [],_ => True
 | _ :: _,none => True
 | t :: ss,some k => ¬ k = b + t ∧ Iw b ss (some k)
@[go_sem] theorem Qs {k : Option Nat} : Iw b [] k = True := by cases k <;> rfl
@[go_sem] theorem awayK_none : Iw b ss none = True := by cases ss <;> rfl
@[go_sem] theorem NZ {t k : Nat} : Iw b (t :: ss) (some k) = (¬ k = b + t ∧ Iw b ss (some k)) := rfl
theorem awayK_eq : ∀ {ss : List Nat} {k : Option Nat},Iw b ss k ↔ ∀ k',k = some k' → ∀ t ∈ ss,¬ k' = b + t
 | [],k => by simp [Qs]
 | t :: ss,none => by simp [awayK_none]
 | t :: ss,some k => by
  rw [NZ,awayK_eq (ss := ss)]
  simp
@[go_sem] theorem XX {t : TypeId} {a : Operand} : AD ss { base := b,own := o,imp := i,fz := z } { dst := d,op := .load t a,type := ty,pos := pos,after := af,guard := g } f = Iw b ss (dk (ev f a)) := propext awayK_eq.symm
@[go_sem] theorem Sm {t : TypeId} {a j : Operand} : AD ss { base := b,own := o,imp := i,fz := z } { dst := d,op := .indexAddr t a j,type := ty,pos := pos,after := af,guard := g } f = (Iw b ss (dk (ev f a)) ∧ Iw b ss (dk (ev f j))) := by
 rw [awayK_eq,awayK_eq]
 simp [AD]
def inK (b : Nat) : List Nat → Option Nat → Prop
 | [],_ => False
 | _ :: _,none => False
 | t :: ss,some k => k = b + t ∨ inK b ss (some k)
@[go_sem] theorem UE {k : Option Nat} : inK b [] k = False := by cases k <;> rfl
@[go_sem] theorem SA {t k : Nat} : inK b (t :: ss) (some k) = (k = b + t ∨ inK b ss (some k)) := rfl
theorem inK_eq : ∀ {ss : List Nat} {k : Option Nat},inK b ss k ↔ ∃ u ∈ ss,k = some (b + u)
 | [],k => by simp [UE]
 | t :: ss,none => by simp [inK]
 | t :: ss,some k => by
  rw [SA,inK_eq (ss := ss)]
  simp
@[go_sem] theorem Xp {t : TypeId} {a : Nat} {x : Operand} : AD ss { base := b,own := o,imp := i,fz := z } { dst := d,op := .store t (.tmp a) x,type := ty,pos := pos,after := af,guard := g } f = (ss.contains a = true → inK b ss (dk (f a))) := by
 simp only [AD,inK_eq]; simp
@[go_sem] theorem Yg {x : Operand} : AD ss md { dst := d,op := .move x,type := ty,pos := pos,after := af,guard := g } f = True := rfl
@[go_sem] theorem Ve {x : Operand} : AD ss md { dst := d,op := .assign x,type := ty,pos := pos,after := af,guard := g } f = True := rfl
@[go_sem] theorem Y2 {x y w : Operand} : AD ss md { dst := d,op := .pick x y w,type := ty,pos := pos,after := af,guard := g } f = True := rfl
@[go_sem] theorem XC {t : TypeId} : AD ss md { dst := d,op := .alloc t,type := ty,pos := pos,after := af,guard := g } f = True := rfl
@[go_sem] theorem bw {t : TypeId} {x : Operand} : AD ss md { dst := d,op := .box t x,type := ty,pos := pos,after := af,guard := g } f = True := rfl
@[go_sem] theorem Wo {t : TypeId} {ps : Array (Nat × Operand)} : AD ss md { dst := d,op := .build t ps,type := ty,pos := pos,after := af,guard := g } f = True := rfl
@[go_sem] theorem QO {t : TypeId} {n : Nat} {ps : Array (Nat × Operand)} : AD ss md { dst := d,op := .buildSlice t n ps,type := ty,pos := pos,after := af,guard := g } f = True := rfl
@[go_sem] theorem T7 {x : Operand} : AD ss md { dst := d,op := .nilCheck x,type := ty,pos := pos,after := af,guard := g } f = True := rfl
@[go_sem] theorem Wj {p : BinOp} {t u : TypeId} {x y : Operand} : AD ss md { dst := d,op := .binOp p t x y u,type := ty,pos := pos,after := af,guard := g } f = True := rfl
@[go_sem] theorem Yx {p : UnOp} {t : TypeId} {x : Operand} : AD ss md { dst := d,op := .unOp p t x,type := ty,pos := pos,after := af,guard := g } f = True := rfl
@[go_sem] theorem UA {t u : TypeId} {x : Operand} : AD ss md { dst := d,op := .convert t u x,type := ty,pos := pos,after := af,guard := g } f = True := rfl
@[go_sem] theorem Tc {q : Fn} {x y : Array Operand} : AD ss md { dst := d,op := .makeFunc q x y,type := ty,pos := pos,after := af,guard := g } f = True := rfl
@[go_sem] theorem Wk {t : TypeId} {x : Operand} {lo hi mx : Option Operand} : AD ss md { dst := d,op := .slice t x lo hi mx,type := ty,pos := pos,after := af,guard := g } f = True := rfl
@[go_sem] theorem RX {t : TypeId} {x : Operand} {n : Nat} : AD ss md { dst := d,op := .fieldAddr t x n,type := ty,pos := pos,after := af,guard := g } f = True := rfl
@[go_sem] theorem Wr {t : TypeId} {x : Operand} {n : Nat} : AD ss md { dst := d,op := .field t x n,type := ty,pos := pos,after := af,guard := g } f = True := rfl
@[go_sem] theorem XI {t : TypeId} {x y : Operand} : AD ss md { dst := d,op := .index t x y,type := ty,pos := pos,after := af,guard := g } f = True := rfl
@[go_sem] theorem Tf {x : Operand} {n : Nat} : AD ss md { dst := d,op := .extract x n,type := ty,pos := pos,after := af,guard := g } f = True := rfl
@[go_sem] theorem UX {t : TypeId} {r : Option Operand} : AD ss md { dst := d,op := .makeMap t r,type := ty,pos := pos,after := af,guard := g } f = True := rfl
@[go_sem] theorem Sy {t : TypeId} {x y : Operand} : AD ss md { dst := d,op := .makeSlice t x y,type := ty,pos := pos,after := af,guard := g } f = True := rfl
@[go_sem] theorem VF {t : TypeId} {x y : Operand} {c : Bool} : AD ss md { dst := d,op := .lookup t x y c,type := ty,pos := pos,after := af,guard := g } f = True := rfl
@[go_sem] theorem Xi {h : Operand} {xs : Array Operand} {ts : Array TypeId} : AD ss md { dst := d,op := .call { callee := .value h,args := xs,argTypes := ts },type := ty,pos := pos,after := af,guard := g } f = True := rfl
@[go_sem] theorem ZU {xs : Array Operand} {ts : Array TypeId} : AD ss md { dst := d,op := .call { callee := .builtin .len,args := xs,argTypes := ts },type := ty,pos := pos,after := af,guard := g } f = True := rfl
@[go_sem] theorem bx {xs : Array Operand} {ts : Array TypeId} : AD ss md { dst := d,op := .call { callee := .builtin .min,args := xs,argTypes := ts },type := ty,pos := pos,after := af,guard := g } f = True := rfl
@[go_sem] theorem ZI {xs : Array Operand} {ts : Array TypeId} : AD ss md { dst := d,op := .call { callee := .builtin .max,args := xs,argTypes := ts },type := ty,pos := pos,after := af,guard := g } f = True := rfl
@[go_sem] theorem Vw {xs : Array Operand} {ts : Array TypeId} : AD ss md { dst := d,op := .call { callee := .builtin .delete,args := xs,argTypes := ts },type := ty,pos := pos,after := af,guard := g } f = True := rfl
@[go_sem] theorem Vg {x y : Operand} {ts : Array TypeId} : AD ss { base := b,own := o,imp := i,fz := z } { dst := d,op := .call { callee := .builtin .append,args := #[x,y],argTypes := ts },type := ty,pos := pos,after := af,guard := g } f = (ss.contains (d.getD 0) = true → inK b ss (dk (ev f x))) := by
 simp only [AD,inK_eq]; simp
@[go_sem] theorem gk {cs : List Val} : dk (.pim cs) = none := rfl
@[go_sem] theorem gC {n : Nat} {xss : List (List Val)} : dk (.lst n xss) = none := rfl
@[go_sem] theorem gX {k : IntKind} {n : Int} : dk (.int k n) = none := rfl
@[go_sem] theorem dk_nils : dk (.nils) = none := rfl
@[go_sem] theorem dk_nilp : dk (.nilp) = none := rfl
@[go_sem] theorem gQ {cs : List Val} : dk (.agg cs) = none := rfl
@[go_sem] theorem ib {g : FuncId} {cs : List Val} : dk (.fn g cs) = none := rfl
@[go_sem] theorem gK {n : Nat} {xss : List (List Val)} : dk (.exl n xss) = none := rfl
@[go_sem] theorem gB {k e n x y : Nat} : dk (.ptr k e n x y) = some k := rfl
@[go_sem] theorem ij {k e n : Nat} : dk (.gr k e n) = some k := rfl
end
section
variable {P : Program} {T : Tab} {md : Me} {os : List Oper} {K : Fr → Hp → Prop} {f : Fr} {H : Hp} {d : Option Tmp} {ty : TypeId} {pos : String} {af : Array Edge} {g : Option (Nat × Bool)} {ss lk : List Nat}
def lkG (P : Program) (b : Bool) (o : Oper) (K : Fr → Hp → Prop) (f : Fr) (H : Hp) : Option Val → Prop
 | some (.bool c) => if c = b then LG P o K f H else K (put f o.dst (.tup [])) H
 | some (.tup []) => K (put f o.dst (.tup [])) H
 | _ => False
@[go_sem] theorem Yu {h : Operand} {xs : Array Operand} {ts : Array TypeId} : Ak P T md os ss lk { dst := d,op := .call { callee := .value h,args := xs,argTypes := ts },type := ty,pos := pos,after := af,guard := g } K f H =
  if lk.contains (d.getD 0) = true then DU P os { dst := d,op := .call { callee := .value h,args := xs,argTypes := ts },type := ty,pos := pos,after := af,guard := g } K f H
  else Bx P T md os ss { dst := d,op := .call { callee := .value h,args := xs,argTypes := ts },type := ty,pos := pos,after := af,guard := g } K f H := by
 unfold Ak N1 BC
 simp only [Bool.true_and]
@[go_sem] theorem Ua {b : Builtin} {xs : Array Operand} {ts : Array TypeId} : Ak P T md os ss lk { dst := d,op := .call { callee := .builtin b,args := xs,argTypes := ts },type := ty,pos := pos,after := af,guard := g } K f H =
  Bx P T md os ss { dst := d,op := .call { callee := .builtin b,args := xs,argTypes := ts },type := ty,pos := pos,after := af,guard := g } K f H := rfl
@[go_sem] theorem UG {h : Operand} {xs : Array Operand} {ts : Array TypeId} : DU P os { dst := d,op := .call { callee := .value h,args := xs,argTypes := ts },type := ty,pos := pos,after := af,guard := none } K f H = Qm P d K f H (xs.toList.map (ev f)) (ev f h) := rfl
@[go_sem] theorem Ul {op : Op} {j : Nat} {b : Bool} : DU P os { dst := d,op := op,type := ty,pos := pos,after := af,guard := some (j,b) } K f H = lkG P b { dst := d,op := op,type := ty,pos := pos,after := af,guard := some (j,b) } K f H ((opd os j).map f) := rfl
@[go_sem] theorem Ya {h : Operand} {xs : Array Operand} {ts : Array TypeId} : LG P { dst := d,op := .call { callee := .value h,args := xs,argTypes := ts },type := ty,pos := pos,after := af,guard := g } K f H = Qm P d K f H (xs.toList.map (ev f)) (ev f h) := rfl
@[go_sem] theorem cW {args caps : List Val} {fid : FuncId} : Qm P d K f H args (.fn fid caps) = Ps P d K f H fid (args ++ caps) := rfl
@[go_sem] theorem gx {o : Oper} : lkG P true o K f H (some (.bool true)) = LG P o K f H := rfl
@[go_sem] theorem gw {o : Oper} : lkG P false o K f H (some (.bool false)) = LG P o K f H := rfl
@[go_sem] theorem gD {op : Op} : lkG P true { dst := d,op := op,type := ty,pos := pos,after := af,guard := g } K f H (some (.bool false)) = K (put f d (.tup [])) H := rfl
@[go_sem] theorem gT {op : Op} : lkG P false { dst := d,op := op,type := ty,pos := pos,after := af,guard := g } K f H (some (.bool true)) = K (put f d (.tup [])) H := rfl
@[go_sem] theorem bp {b : Bool} {op : Op} : lkG P b { dst := d,op := op,type := ty,pos := pos,after := af,guard := g } K f H (some (.tup [])) = K (put f d (.tup [])) H := rfl
@[go_sem] theorem YG {x : Operand} : Ak P T md os ss lk { dst := d,op := .move x,type := ty,pos := pos,after := af,guard := g } K f H = Bx P T md os ss { dst := d,op := .move x,type := ty,pos := pos,after := af,guard := g } K f H := rfl
@[go_sem] theorem Vx {x : Operand} : Ak P T md os ss lk { dst := d,op := .assign x,type := ty,pos := pos,after := af,guard := g } K f H = Bx P T md os ss { dst := d,op := .assign x,type := ty,pos := pos,after := af,guard := g } K f H := rfl
@[go_sem] theorem XV {x y w : Operand} : Ak P T md os ss lk { dst := d,op := .pick x y w,type := ty,pos := pos,after := af,guard := g } K f H = Bx P T md os ss { dst := d,op := .pick x y w,type := ty,pos := pos,after := af,guard := g } K f H := rfl
@[go_sem] theorem Xv {t : TypeId} : Ak P T md os ss lk { dst := d,op := .alloc t,type := ty,pos := pos,after := af,guard := g } K f H = Bx P T md os ss { dst := d,op := .alloc t,type := ty,pos := pos,after := af,guard := g } K f H := rfl
@[go_sem] theorem aH {t : TypeId} {x : Operand} : Ak P T md os ss lk { dst := d,op := .box t x,type := ty,pos := pos,after := af,guard := g } K f H = Bx P T md os ss { dst := d,op := .box t x,type := ty,pos := pos,after := af,guard := g } K f H := rfl
@[go_sem] theorem Wd {t : TypeId} {ps : Array (Nat × Operand)} : Ak P T md os ss lk { dst := d,op := .build t ps,type := ty,pos := pos,after := af,guard := g } K f H = Bx P T md os ss { dst := d,op := .build t ps,type := ty,pos := pos,after := af,guard := g } K f H := rfl
@[go_sem] theorem QR {t : TypeId} {n : Nat} {ps : Array (Nat × Operand)} : Ak P T md os ss lk { dst := d,op := .buildSlice t n ps,type := ty,pos := pos,after := af,guard := g } K f H = Bx P T md os ss { dst := d,op := .buildSlice t n ps,type := ty,pos := pos,after := af,guard := g } K f H := rfl
@[go_sem] theorem Z1 {t : TypeId} {x : Operand} : Ak P T md os ss lk { dst := d,op := .load t x,type := ty,pos := pos,after := af,guard := g } K f H = Bx P T md os ss { dst := d,op := .load t x,type := ty,pos := pos,after := af,guard := g } K f H := rfl
@[go_sem] theorem Xx {t : TypeId} {x y : Operand} : Ak P T md os ss lk { dst := d,op := .store t x y,type := ty,pos := pos,after := af,guard := g } K f H = Bx P T md os ss { dst := d,op := .store t x y,type := ty,pos := pos,after := af,guard := g } K f H := rfl
@[go_sem] theorem T6 {x : Operand} : Ak P T md os ss lk { dst := d,op := .nilCheck x,type := ty,pos := pos,after := af,guard := g } K f H = Bx P T md os ss { dst := d,op := .nilCheck x,type := ty,pos := pos,after := af,guard := g } K f H := rfl
@[go_sem] theorem Wc {p : BinOp} {t u : TypeId} {x y : Operand} : Ak P T md os ss lk { dst := d,op := .binOp p t x y u,type := ty,pos := pos,after := af,guard := g } K f H = Bx P T md os ss { dst := d,op := .binOp p t x y u,type := ty,pos := pos,after := af,guard := g } K f H := rfl
@[go_sem] theorem YL {p : UnOp} {t : TypeId} {x : Operand} : Ak P T md os ss lk { dst := d,op := .unOp p t x,type := ty,pos := pos,after := af,guard := g } K f H = Bx P T md os ss { dst := d,op := .unOp p t x,type := ty,pos := pos,after := af,guard := g } K f H := rfl
@[go_sem] theorem U6 {t u : TypeId} {x : Operand} : Ak P T md os ss lk { dst := d,op := .convert t u x,type := ty,pos := pos,after := af,guard := g } K f H = Bx P T md os ss { dst := d,op := .convert t u x,type := ty,pos := pos,after := af,guard := g } K f H := rfl
@[go_sem] theorem SZ {q : Fn} {x y : Array Operand} : Ak P T md os ss lk { dst := d,op := .makeFunc q x y,type := ty,pos := pos,after := af,guard := g } K f H = Bx P T md os ss { dst := d,op := .makeFunc q x y,type := ty,pos := pos,after := af,guard := g } K f H := rfl
@[go_sem] theorem Wi {t : TypeId} {x : Operand} {lo hi mx : Option Operand} : Ak P T md os ss lk { dst := d,op := .slice t x lo hi mx,type := ty,pos := pos,after := af,guard := g } K f H = Bx P T md os ss { dst := d,op := .slice t x lo hi mx,type := ty,pos := pos,after := af,guard := g } K f H := rfl
@[go_sem] theorem Ri {t : TypeId} {x : Operand} {n : Nat} : Ak P T md os ss lk { dst := d,op := .fieldAddr t x n,type := ty,pos := pos,after := af,guard := g } K f H = Bx P T md os ss { dst := d,op := .fieldAddr t x n,type := ty,pos := pos,after := af,guard := g } K f H := rfl
@[go_sem] theorem XF {t : TypeId} {x : Operand} {n : Nat} : Ak P T md os ss lk { dst := d,op := .field t x n,type := ty,pos := pos,after := af,guard := g } K f H = Bx P T md os ss { dst := d,op := .field t x n,type := ty,pos := pos,after := af,guard := g } K f H := rfl
@[go_sem] theorem SL {t : TypeId} {x y : Operand} : Ak P T md os ss lk { dst := d,op := .indexAddr t x y,type := ty,pos := pos,after := af,guard := g } K f H = Bx P T md os ss { dst := d,op := .indexAddr t x y,type := ty,pos := pos,after := af,guard := g } K f H := rfl
@[go_sem] theorem XL {t : TypeId} {x y : Operand} : Ak P T md os ss lk { dst := d,op := .index t x y,type := ty,pos := pos,after := af,guard := g } K f H = Bx P T md os ss { dst := d,op := .index t x y,type := ty,pos := pos,after := af,guard := g } K f H := rfl
@[go_sem] theorem UR {x : Operand} {n : Nat} : Ak P T md os ss lk { dst := d,op := .extract x n,type := ty,pos := pos,after := af,guard := g } K f H = Bx P T md os ss { dst := d,op := .extract x n,type := ty,pos := pos,after := af,guard := g } K f H := rfl
@[go_sem] theorem U8 {t : TypeId} {r : Option Operand} : Ak P T md os ss lk { dst := d,op := .makeMap t r,type := ty,pos := pos,after := af,guard := g } K f H = Bx P T md os ss { dst := d,op := .makeMap t r,type := ty,pos := pos,after := af,guard := g } K f H := rfl
@[go_sem] theorem SQ {t : TypeId} {x y : Operand} : Ak P T md os ss lk { dst := d,op := .makeSlice t x y,type := ty,pos := pos,after := af,guard := g } K f H = Bx P T md os ss { dst := d,op := .makeSlice t x y,type := ty,pos := pos,after := af,guard := g } K f H := rfl
@[go_sem] theorem Vm {t : TypeId} {x y : Operand} {c : Bool} : Ak P T md os ss lk { dst := d,op := .lookup t x y c,type := ty,pos := pos,after := af,guard := g } K f H = Bx P T md os ss { dst := d,op := .lookup t x y c,type := ty,pos := pos,after := af,guard := g } K f H := rfl
@[go_sem] theorem S4 {t : TypeId} {x y w : Operand} : Ak P T md os ss lk { dst := d,op := .mapUpdate t x y w,type := ty,pos := pos,after := af,guard := g } K f H = Bx P T md os ss { dst := d,op := .mapUpdate t x y w,type := ty,pos := pos,after := af,guard := g } K f H := rfl
@[go_sem] theorem XA {t : TypeId} {x : Operand} : Ak P T md os ss lk { dst := d,op := .range t x,type := ty,pos := pos,after := af,guard := g } K f H = Bx P T md os ss { dst := d,op := .range t x,type := ty,pos := pos,after := af,guard := g } K f H := rfl
@[go_sem] theorem ZS {k : Nat} : frzH H k = frz1 (H k) := rfl
@[go_sem] theorem frz1_none : frz1 none = none := rfl
@[go_sem] theorem Zz {e sz : Nat} {xss : List (List Val)} : frz1 (some (e,.arr sz xss)) = some (e,.fro sz xss) := rfl
@[go_sem] theorem bv {e sz : Nat} {xss : List (List Val)} : frz1 (some (e,.fro sz xss)) = some (e,.fro sz xss) := rfl
@[go_sem] theorem bn {e ver : Nat} {es : List (Val × Val)} : frz1 (some (e,.map ver es)) = some (e,.frm ver es) := rfl
@[go_sem] theorem Z8 {e ver : Nat} {es : List (Val × Val)} : frz1 (some (e,.frm ver es)) = some (e,.frm ver es) := rfl
def fzP (H : Hp) (n k e sz i j : Nat) : Option (Nat × AObj) → Val
 | some (e',.fro sz' xss) => if e = e' ∧ sz = sz' then (match xss[i]? with | some es => .pim ((es.drop j).map (fzd H n)) | none => .ptr k e sz i j) else .ptr k e sz i j
 | _ => .ptr k e sz i j
@[go_sem] theorem ZD {n k e e' sz sz' j : Nat} {xss : List (List Val)} {es : List Val} : fzP H n k e sz 0 j (some (e',.fro sz' (es :: xss))) = if e = e' ∧ sz = sz' then .pim ((es.drop j).map (fzd H n)) else .ptr k e sz 0 j := rfl
@[go_sem] theorem dL {n k e sz i j : Nat} : fzd H (n + 1) (.ptr k e sz i j) = fzP H n k e sz i j (H k) := by
 simp only [fzd,fzP]
 cases H k with
 | none => rfl
 | some p => obtain ⟨e',o⟩ := p; cases o <;> rfl
@[go_sem] theorem cz {n : Nat} {cs : List Val} : fzd H (n + 1) (.pim cs) = .pim (cs.map (fzd H n)) := rfl
end
theorem Am {α : Type} {xs : List α} {k : Nat} {x : α} (h : xs[k]? = some x) : xs.drop k = x :: xs.drop (k + 1) := by
 obtain ⟨hk,rfl⟩ := List.getElem?_eq_some_iff.1 h
 exact List.drop_eq_getElem_cons hk
attribute [go_sem] Int.toNat_natCast Int.cast_ofNat_Int KB decide_true decide_false implies_true false_implies true_implies
end Cp
namespace Cp
open Go
section
variable {P : Program} {T : Tab} {G : Gh} {w : World} {H : Hp} {X : Cx} {ro : Option Nat} {Q : Exit → Fr → Hp → Prop} {f : Fr} {id : Nat} {ops : Array Oper} {b : Bool}
class Nx (c : Code) (nx : outParam ((Exit → Fr → Hp → Prop) → Fr → Hp → Prop)) : Prop where
 ok : ∀ (P : Program) (ro : Option Nat) (X : Cx) (Q : Exit → Fr → Hp → Prop) (f : Fr) (H : Hp),nx Q f H → AW P ro X c Q f H
instance : Nx .skip (fun Q => Q .normal) := ⟨fun _ _ _ _ _ _ h => Pw h⟩
instance : Nx .ret (fun Q => Q .ret) := ⟨fun _ _ _ _ _ _ h => WP h⟩
instance {i : Nat} : Nx (.exit i) (fun Q => Q (.exit i)) := ⟨fun _ _ _ _ _ _ h => PJ h⟩
instance {i : Nat} : Nx (.label i) (fun Q => Q .normal) := ⟨fun _ _ _ _ _ _ h => Sg h⟩
theorem nx {c : Code} {n : (Exit → Fr → Hp → Prop) → Fr → Hp → Prop} [h : Nx c n] (h1 : n Q f H) : AW P ro X c Q f H := h.ok P ro X Q f H h1
class Bk (c : Code) (c' : outParam Code) (q : outParam ((Exit → Fr → Hp → Prop) → Exit → Fr → Hp → Prop)) : Prop where
 ok : ∀ (P : Program) (ro : Option Nat) (X : Cx) (Q : Exit → Fr → Hp → Prop) (f : Fr) (H : Hp),AW P ro X c' (q Q) f H → AW P ro X c Q f H
instance {c : Code} : Bk (.scope c) c scQ := ⟨fun _ _ _ _ _ _ h => Sl h⟩
instance {i : Nat} {x y : Code} : Bk (.block i (.seq x y)) (.seq x y) (E5 i) := ⟨fun _ _ _ _ _ _ h => An h⟩
instance {i j : Nat} {o : Array Oper} {c : Bool} : Bk (.block i (.region j o c)) (.region j o c) (E5 i) := ⟨fun _ _ _ _ _ _ h => An h⟩
instance {i : Nat} {c : Operand} {x y : Code} : Bk (.block i (.cond c x y)) (.cond c x y) (E5 i) := ⟨fun _ _ _ _ _ _ h => An h⟩
theorem bk {c c' : Code} {q : (Exit → Fr → Hp → Prop) → Exit → Fr → Hp → Prop} [h : Bk c c' q] (h1 : AW P ro X c' (q Q) f H) : AW P ro X c Q f H := h.ok P ro X Q f H h1
class Tb (P : Program) (T : outParam Tab) : Prop where
 tab : Ad P T
 mix : P.follows .mixedOrders = true
theorem rg [hT : Tb P T] {n : Nat} (md : Me := { base := 0,own := [] }) (h : K7 P T md ops.toList (Q .normal) ops.toList f H) (hs : X.sz = n := by assumption) (hsz : BF n ops.toList = true := by decide +kernel) (hok : (!b || PB md ops.toList) = true := by decide +kernel) : AW P ro X (.region id ops b) Q f H := by
 subst hs
 cases b
 ·exact IV hT.tab md hsz h
 ·exact Ue hT.tab hT.mix md hsz (by simpa using hok) h
theorem rgS [hT : Tb P T] {n : Nat} (ss : List Nat) (md : Me := { base := 0,own := [] }) (h : CD (Bx P T md ops.toList ss) (Q .normal) ops.toList f H) (hs : X.sz = n := by assumption) (hsz : BF n ops.toList = true := by decide +kernel) (hok : (b && IC (Ip ss md ops.toList) ops.toList) = true := by decide +kernel) : AW P ro X (.region id ops b) Q f H := by
 subst hs
 cases b
 ·cases hok
 ·exact SD hT.tab hT.mix md ss hsz (by simpa using hok) h
theorem rgL [hT : Tb P T] {n : Nat} (ss lk : List Nat) (md : Me := { base := 0,own := [] }) (h : CD (Ak P T md ops.toList ss lk) (Q .normal) ops.toList f H) (hs : X.sz = n := by assumption) (hsz : BF n ops.toList = true := by decide +kernel) (hok : (!b || IC (Iz ss lk md ops.toList) ops.toList) = true := by decide +kernel) : AW P ro X (.region id ops b) Q f H := by
 subst hs
 cases b
 ·exact Ux hT.tab md ss lk hsz h
 ·exact Sd hT.tab hT.mix md ss lk hsz (by simpa using hok) h
theorem pK {d : Option Tmp} {K : Fr → Hp → Prop} {fid : FuncId} {args : List Val} {v : Val} (h : PureC P fid args v) (hk : K (put f d v) H) : K3 P d K f H fid args := N5 h hk
theorem lK {d : Option Tmp} {K : Fr → Hp → Prop} {fid : FuncId} {args : List Val} {v : Val} (h : LookC P fid args H v) (hk : K (put f d v) H) : Ps P d K f H fid args := Mx h hk
theorem iK {d : Option Tmp} {K : Fr → Hp → Prop} {fid : FuncId} {args : List Val} {R : Val → Hp → Prop} (h : BD P fid args H R) (hk : ∀ v H',R v H' → K (put f d v) H') : Qe P d K f H fid args := KI h hk
theorem sk {x y : Code} (h : ∀ K : Fr → Hp → Prop,(∀ f H,AW P ro X y Q f H → K f H) → AW P ro X x (Fz K Q) f H) : AW P ro X (.seq x y) Q f H := FB h
theorem cE {c : Operand} {x y : Code} {b : Bool} (hv : ev f c = .bool b) (h1 : b = true → AW P ro X x Q f H) (h2 : b = false → AW P ro X y Q f H) : AW P ro X (.cond c x y) Q f H := Mq hv h1 h2
theorem fe {fn : Func} {v : Val} {e : Exit} (h : ∃ v',Fx T f H fn.results.toList = some v' ∧ fzd H 6 v' = v) (he : e = .ret ∨ e = .normal := by simp) : FnP T fn v e f H := SE he h
end
attribute [seval] Val.bool.injEq Val.int.injEq Val.tup.injEq Val.agg.injEq List.cons.injEq Bool.and_self
end Cp
namespace Cp
open Go
section
variable {P : Program} {T : Tab} {md : Me} {os : List Oper} {K : Fr → Hp → Prop} {f : Fr} {H : Hp} {d : Option Tmp} {ty : TypeId} {pos : String} {af : Array Edge} {g : Option (Nat × Bool)} {ss lk : List Nat}
 {t u s b : Nat} {z : Val} {p : Bool}
@[go_sem] theorem Vq {t : TypeId} {r : Option Operand} : xgo P T md { dst := d,op := .makeMap t r,type := ty,pos := pos,after := af,guard := g } K f H =
  ∀ ep : Nat → Nat,two K d f H (Bw H (k1 md d) (Ci T (k1 md d) (ep (k1 md d)) t (r.map (ev f)))) := by
 simp only [xgo,xop]; rfl
def mmT (k e : Nat) : Option TI → Option (Val × Up)
 | some { kind := .map _ _,.. } => some (.map k e,some (k,some (e,.map e [])))
 | _ => none
@[go_sem] theorem dv {k e kt vt : Nat} : mmT k e (some ⟨.map kt vt,s,b,z,p⟩) = some (.map k e,some (k,some (e,.map e []))) := rfl
@[go_sem] theorem SX {k e : Nat} {t : TypeId} : Ci T k e t none = mmT k e (T t) := by
 unfold Ci mmT
 cases T t with
 | none => rfl
 | some ti => obtain ⟨kind,_,_,_,_⟩ := ti; cases kind <;> rfl
@[go_sem] theorem Ub {k e : Nat} {t : TypeId} {ik : IntKind} {n : Int} : Ci T k e t (some (.int ik n)) = mmT k e (T t) := by
 unfold Ci mmT
 cases T t with
 | none => rfl
 | some ti => obtain ⟨kind,_,_,_,_⟩ := ti; cases kind <;> rfl
@[go_sem] theorem Te {t : TypeId} {m key x : Operand} : xgo P T md { dst := d,op := .mapUpdate t m key x,type := ty,pos := pos,after := af,guard := g } K f H =
  ∀ ep : Nat → Nat,two K d f H ((AJ T H ep t (ev f m) (ev f key) (ev f x)).map (.any,·)) := by
 simp only [xgo,xop]
 refine forall_congr fun ep => ?_
 cases AJ T H ep t (ev f m) (ev f key) (ev f x) <;> rfl
@[go_sem] theorem Xe {t : TypeId} {m key x : Operand} : xgo P T md { dst := d,op := .insert t m key x,type := ty,pos := pos,after := af,guard := g } K f H =
  ∀ ep : Nat → Nat,two K d f H ((AJ T H ep t (ev f m) (ev f key) (ev f x)).map (.any,·)) := by
 simp only [xgo,xop]
 refine forall_congr fun ep => ?_
 cases AJ T H ep t (ev f m) (ev f key) (ev f x) <;> rfl
def muF (ep : Nat → Nat) (k em : Nat) (key v : Val) (es : List (Val × Val)) : Option (Option (Nat × Val)) → Option Up
 | none => none
 | some none => some (some (k,some (em,.map (ep k) (es ++ [(key,v)]))))
 | some (some (i,_)) => some (some (k,some (em,.map (ep k) (es.set i (key,v)))))
@[go_sem] theorem cn {ep : Nat → Nat} {k em : Nat} {key v : Val} {es : List (Val × Val)} : muF ep k em key v es (some none) = some (some (k,some (em,.map (ep k) (es ++ [(key,v)])))) := rfl
@[go_sem] theorem bK {ep : Nat → Nat} {k em i : Nat} {key v x : Val} {es : List (Val × Val)} : muF ep k em key v es (some (some (i,x))) = some (some (k,some (em,.map (ep k) (es.set i (key,v))))) := rfl
def muH (T : Tab) (ep : Nat → Nat) (k em kt : Nat) (key v : Val) (ki : TI) : Option (Nat × AObj) → Option Up
 | some (em',.map _ es) => if em = em' ∧ xck T 8 ki key = true then muF ep k em key v es (B3 T kt key es 0) else none
 | _ => none
@[go_sem] theorem ca {ep : Nat → Nat} {k em em' kt ver : Nat} {key v : Val} {ki : TI} {es : List (Val × Val)} : muH T ep k em kt key v ki (some (em',.map ver es)) = if em = em' ∧ xck T 8 ki key = true then muF ep k em key v es (B3 T kt key es 0) else none := rfl
def muK (T : Tab) (H : Hp) (ep : Nat → Nat) (k em kt : Nat) (key v : Val) : Option TI → Option Up
 | some ki => muH T ep k em kt key v ki (H k)
 | none => none
@[go_sem] theorem Zk {ep : Nat → Nat} {k em kt : Nat} {key v : Val} {ki : TI} : muK T H ep k em kt key v (some ki) = muH T ep k em kt key v ki (H k) := rfl
def muT (T : Tab) (H : Hp) (ep : Nat → Nat) (k em : Nat) (key v : Val) : Option TI → Option Up
 | some { kind := .map kt _,.. } => muK T H ep k em kt key v (T kt)
 | _ => none
@[go_sem] theorem d9 {ep : Nat → Nat} {k em kt vt : Nat} {key v : Val} : muT T H ep k em key v (some ⟨.map kt vt,s,b,z,p⟩) = muK T H ep k em kt key v (T kt) := rfl
@[go_sem] theorem T3 {ep : Nat → Nat} {t : TypeId} {k em : Nat} {key v : Val} : AJ T H ep t (.map k em) key v = muT T H ep k em key v (T t) := by
 unfold AJ muT
 cases T t with
 | none => rfl
 | some ti =>
  obtain ⟨kind,_,_,_,_⟩ := ti
  cases kind <;> try rfl
  rename_i kt vt
  simp only [muK]
  cases T kt with
  | none => rfl
  | some ki =>
   simp only
   cases H k with
   | none => rfl
   | some p =>
    obtain ⟨e,o⟩ := p
    cases o <;> try rfl
@[go_sem] theorem dP {n : Nat} {k : IntKind} {v : Val} : xck T (n + 1) ⟨.int k,s,b,z,p⟩ v = true := rfl
@[go_sem] theorem cy {n : Nat} {v : Val} : xck T (n + 1) ⟨.str,s,b,z,p⟩ v = true := rfl
@[go_sem] theorem Zj {n : Nat} {v : Val} : xck T (n + 1) ⟨.bool,s,b,z,p⟩ v = true := rfl
@[go_sem] theorem X5 {m key : Operand} {t u : TypeId} : xgo P T md { dst := d,op := .call { callee := .builtin .delete,args := #[m,key],argTypes := #[t,u] },type := ty,pos := pos,after := af,guard := g } K f H =
  ∀ ep : Nat → Nat,two K d f H ((E6 T H ep t (ev f m) (ev f key)).map (.tup [],·)) := by
 simp only [xgo,xop,KR,List.map_cons,List.map_nil]
 refine forall_congr fun ep => ?_
 cases E6 T H ep t (ev f m) (ev f key) <;> rfl
@[go_sem] theorem bV {u : Up} : (some u).map (fun u => ((.tup [],u) : Val × Up)) = some (.tup [],u) := rfl
def dlF (ep : Nat → Nat) (k em : Nat) (es : List (Val × Val)) : Option (Option (Nat × Val)) → Option Up
 | none => none
 | some none => some (some (k,some (em,.map (ep k) es)))
 | some (some (i,_)) => some (some (k,some (em,.map (ep k) (es.eraseIdx i))))
@[go_sem] theorem gy {ep : Nat → Nat} {k em : Nat} {es : List (Val × Val)} : dlF ep k em es (some none) = some (some (k,some (em,.map (ep k) es))) := rfl
@[go_sem] theorem cM {ep : Nat → Nat} {k em i : Nat} {x : Val} {es : List (Val × Val)} : dlF ep k em es (some (some (i,x))) = some (some (k,some (em,.map (ep k) (es.eraseIdx i)))) := rfl
def dlH (T : Tab) (ep : Nat → Nat) (k em kt : Nat) (key : Val) (ki : TI) : Option (Nat × AObj) → Option Up
 | some (em',.map _ es) => if em = em' ∧ xck T 8 ki key = true then dlF ep k em es (B3 T kt key es 0) else none
 | _ => none
@[go_sem] theorem bS {ep : Nat → Nat} {k em em' kt ver : Nat} {key : Val} {ki : TI} {es : List (Val × Val)} : dlH T ep k em kt key ki (some (em',.map ver es)) = if em = em' ∧ xck T 8 ki key = true then dlF ep k em es (B3 T kt key es 0) else none := rfl
def dlK (T : Tab) (H : Hp) (ep : Nat → Nat) (k em kt : Nat) (key : Val) : Option TI → Option Up
 | some ki => dlH T ep k em kt key ki (H k)
 | none => none
@[go_sem] theorem ZX {ep : Nat → Nat} {k em kt : Nat} {key : Val} {ki : TI} : dlK T H ep k em kt key (some ki) = dlH T ep k em kt key ki (H k) := rfl
def dlT (T : Tab) (H : Hp) (ep : Nat → Nat) (k em : Nat) (key : Val) : Option TI → Option Up
 | some { kind := .map kt _,.. } => dlK T H ep k em kt key (T kt)
 | _ => none
@[go_sem] theorem cS {ep : Nat → Nat} {k em kt vt : Nat} {key : Val} : dlT T H ep k em key (some ⟨.map kt vt,s,b,z,p⟩) = dlK T H ep k em kt key (T kt) := rfl
@[go_sem] theorem X6 {ep : Nat → Nat} {t : TypeId} {k em : Nat} {key : Val} : E6 T H ep t (.map k em) key = dlT T H ep k em key (T t) := by
 unfold E6 dlT
 cases T t with
 | none => rfl
 | some ti =>
  obtain ⟨kind,_,_,_,_⟩ := ti
  cases kind <;> try rfl
  rename_i kt vt
  simp only [dlK]
  cases T kt with
  | none => rfl
  | some ki =>
   simp only
   cases H k with
   | none => rfl
   | some p =>
    obtain ⟨e,o⟩ := p
    cases o <;> try rfl
@[go_sem] theorem X8 {t : TypeId} {m : Operand} : AD ss md { dst := d,op := .range t m,type := ty,pos := pos,after := af,guard := g } f = True := rfl
@[go_sem] theorem SK {t : TypeId} {m k x : Operand} : AD ss md { dst := d,op := .mapUpdate t m k x,type := ty,pos := pos,after := af,guard := g } f = True := rfl
@[go_sem] theorem VC {t : TypeId} {m k x : Operand} : AD ss md { dst := d,op := .insert t m k x,type := ty,pos := pos,after := af,guard := g } f = True := rfl
def lnM (e : Nat) : Option (Nat × AObj) → Option Val
 | some (e',.map _ es) => if e = e' then some (.int .i64 es.length) else none
 | some (e',.frm _ es) => if e = e' then some (.int .i64 es.length) else none
 | _ => none
@[go_sem] theorem ce {e e' ver : Nat} {es : List (Val × Val)} : lnM e (some (e',.map ver es)) = if e = e' then some (.int .i64 es.length) else none := rfl
@[go_sem] theorem cL {e e' ver : Nat} {es : List (Val × Val)} : lnM e (some (e',.frm ver es)) = if e = e' then some (.int .i64 es.length) else none := rfl
@[go_sem] theorem dq {k e kt vt : Nat} : lnT H (.map k e) (some ⟨.map kt vt,s,b,z,p⟩) = lnM e (H k) := by
 simp only [lnT,lnM]
 cases H k with
 | none => rfl
 | some q => obtain ⟨e',o⟩ := q; cases o <;> rfl
@[go_sem] theorem Zd {kt vt : Nat} : lnT H .nilm (some ⟨.map kt vt,s,b,z,p⟩) = some (.int .i64 0) := rfl
@[go_sem] theorem Yf {t : TypeId} {m : Operand} : xgo P T md { dst := d,op := .range t m,type := ty,pos := pos,after := af,guard := g } K f H =
  ∀ ep : Nat → Nat,two K d f H (Bw H (k1 md d) (EC T H (k1 md d) (ep (k1 md d)) t (ev f m))) := by
 simp only [xgo,xop]; rfl
def rgH (k e km em : Nat) : Option (Nat × AObj) → Option (Val × Up)
 | some (em',.map ver es) => if em = em' ∧ km ≠ k then some (.itr k e,some (k,some (e,.itr km em ver (List.range es.length) none))) else none
 | _ => none
@[go_sem] theorem dz {k e km em em' ver : Nat} {es : List (Val × Val)} : rgH k e km em (some (em',.map ver es)) = if em = em' ∧ km ≠ k then some (.itr k e,some (k,some (e,.itr km em ver (List.range es.length) none))) else none := rfl
def rgT (H : Hp) (k e km em : Nat) : Option TI → Option (Val × Up)
 | some { kind := .map _ _,.. } => rgH k e km em (H km)
 | _ => none
@[go_sem] theorem dm {k e km em kt vt : Nat} : rgT H k e km em (some ⟨.map kt vt,s,b,z,p⟩) = rgH k e km em (H km) := rfl
@[go_sem] theorem XP {k e km em : Nat} {t : TypeId} : EC T H k e t (.map km em) = rgT H k e km em (T t) := by
 unfold EC rgT
 cases T t with
 | none => rfl
 | some ti =>
  obtain ⟨kind,_,_,_,_⟩ := ti
  cases kind <;> try rfl
def rgN (k e : Nat) : Option TI → Option (Val × Up)
 | some { kind := .map _ _,.. } => some (.itr k e,some (k,some (e,.nit)))
 | _ => none
@[go_sem] theorem dp {k e kt vt : Nat} : rgN k e (some ⟨.map kt vt,s,b,z,p⟩) = some (.itr k e,some (k,some (e,.nit))) := rfl
@[go_sem] theorem Wp {k e : Nat} {t : TypeId} : EC T H k e t .nilm = rgN k e (T t) := by
 unfold EC rgN
 cases T t with
 | none => rfl
 | some ti => obtain ⟨kind,_,_,_,_⟩ := ti; cases kind <;> rfl
@[go_sem] theorem YD {x : Operand} : Kc P T md os ss lk { dst := d,op := .next x false,type := ty,pos := pos,after := af,guard := none } K f H = Nk K d f H (ev f x) := rfl
@[go_sem] theorem Xt {x : Operand} : Kc P T md os ss lk { dst := d,op := .entry x,type := ty,pos := pos,after := af,guard := none } K f H = KC K d f H (ev f x) := rfl
@[go_sem] theorem Th {x : Operand} {n : Nat} : Kc P T md os ss lk { dst := d,op := .extract x n,type := ty,pos := pos,after := af,guard := g } K f H = Ak P T md os ss lk { dst := d,op := .extract x n,type := ty,pos := pos,after := af,guard := g } K f H := by
 cases g <;> rfl
@[go_sem] theorem Vn {x : Operand} : Kc P T md os ss lk { dst := d,op := .assign x,type := ty,pos := pos,after := af,guard := g } K f H = Ak P T md os ss lk { dst := d,op := .assign x,type := ty,pos := pos,after := af,guard := g } K f H := by
 cases g <;> rfl
@[go_sem] theorem YB {x : Operand} : Kc P T md os ss lk { dst := d,op := .move x,type := ty,pos := pos,after := af,guard := g } K f H = Ak P T md os ss lk { dst := d,op := .move x,type := ty,pos := pos,after := af,guard := g } K f H := by
 cases g <;> rfl
@[go_sem] theorem Wz {t : TypeId} : Kc P T md os ss lk { dst := d,op := .alloc t,type := ty,pos := pos,after := af,guard := g } K f H = Ak P T md os ss lk { dst := d,op := .alloc t,type := ty,pos := pos,after := af,guard := g } K f H := by
 cases g <;> rfl
@[go_sem] theorem W8 {t : TypeId} {x y : Operand} : Kc P T md os ss lk { dst := d,op := .store t x y,type := ty,pos := pos,after := af,guard := g } K f H = Ak P T md os ss lk { dst := d,op := .store t x y,type := ty,pos := pos,after := af,guard := g } K f H := by
 cases g <;> rfl
@[go_sem] theorem Y7 {k e : Nat} : Nk K d f H (.itr k e) = Ng K d f H k e (H k) := rfl
@[go_sem] theorem Yd {k e e' : Nat} : Ng K d f H k e (some (e',.nit)) = (e = e' ∧ K (put f d (.tup [.bool false])) H) := rfl
@[go_sem] theorem Z2 {k e e' km em ver : Nat} {left : List Nat} {cur : Option Nat} : Ng K d f H k e (some (e',.itr km em ver left cur)) = Pu K d f H k e e' km em ver left (H km) := rfl
@[go_sem] theorem XR {k e e' km em em' ver ver' : Nat} {left : List Nat} {es : List (Val × Val)} : Pu K d f H k e e' km em ver left (some (em',.map ver' es)) = ((e = e' ∧ em = em' ∧ ver = ver') ∧ (left = [] → K (put f d (.tup [.bool false])) H) ∧
      ∀ i ∈ left,∀ a v,es[i]? = some (a,v) → K (put f d (.tup [.bool true,a,v])) (upd H k (some (e,.itr km em ver (left.erase i) (some i))))) := rfl
@[go_sem] theorem XH {k e : Nat} : KC K d f H (.itr k e) = LQ K d f H e (H k) := rfl
@[go_sem] theorem Xg {e e' km em ver i : Nat} {left : List Nat} : LQ K d f H e (some (e',.itr km em ver left (some i))) = M3 K d f H e e' em ver i (H km) := rfl
@[go_sem] theorem WH {e e' em em' ver ver' i : Nat} {es : List (Val × Val)} : M3 K d f H e e' em ver i (some (em',.map ver' es)) = ((e = e' ∧ em = em' ∧ ver = ver') ∧ ∃ a v,es[i]? = some (a,v) ∧ K (put f d (.tup [a,v])) H) := rfl
end
def CH (k : IntKind) (l : List (Int × Val)) : List (Val × Val) := l.map fun p => (.int k p.1,p.2)
def E2 (n : Int) : List (Int × Val) → Nat → Option (Nat × Val)
 | [],_ => none
 | (a,v) :: l,i => if n = a then some (i,v) else E2 n l (i + 1)
@[go_sem] theorem Z4 {k : IntKind} {l : List (Int × Val)} : (CH k l).length = l.length := by simp [CH]
@[go_sem] theorem bD {k : IntKind} {l : List (Int × Val)} {i : Nat} : (CH k l)[i]? = (l[i]?).map fun p => (.int k p.1,p.2) := by simp [CH]
theorem IB {k : IntKind} {l : List (Int × Val)} {n : Int} {v : Val} : CH k l ++ [(.int k n,v)] = CH k (l ++ [(n,v)]) := by simp [CH]
theorem BJ {k : IntKind} : ∀ {l : List (Int × Val)} {i : Nat},(CH k l).eraseIdx i = CH k (l.eraseIdx i)
 | [],i => by cases i <;> rfl
 | p :: l,0 => rfl
 | p :: l,i + 1 => by
  have ih := @BJ k l i
  unfold CH at ih ⊢
  simp only [List.map_cons,List.eraseIdx_cons_succ,ih]
theorem Kn {T : Tab} {kt : TypeId} {k : IntKind} {s b : Nat} {z : Val} {p : Bool} (h : T kt = some ⟨.int k,s,b,z,p⟩) {n : Int} : ∀ (l : List (Int × Val)) (i : Nat),B3 T kt (.int k n) (CH k l) i = some (E2 n l i)
 | [],i => rfl
 | (a,v) :: l,i => by
  have ih := Kn h (n := n) l (i + 1)
  have e : xeq T kt (.int k n) (.int k a) = some (decide (n = a)) := by
   unfold xeq; rw [h]; simp [CZ,xeqS]
  show B3 T kt (.int k n) ((.int k a,v) :: CH k l) i = _
  simp only [B3,e,E2]
  by_cases hn : n = a
  ·subst hn
   simp [keq]
  ·simp only [decide_eq_false hn,if_neg hn]
   exact ih
theorem Gy {n : Int} : ∀ {l : List (Int × Val)} {i : Nat},(∀ p ∈ l,p.1 ≠ n) → E2 n l i = none
 | [],i,h => rfl
 | (a,v) :: l,i,h => by
  simp only [E2]
  rw [if_neg (fun e => h (a,v) (by simp) e.symm)]
  exact Gy fun p hp => h p (by simp [hp])
end Cp
namespace Cp
open Go
section
variable {P : Program} {T : Tab} {H : Hp} {X : Cx} {ro : Option Nat} {Q : Exit → Fr → Hp → Prop} {f : Fr}
theorem Aw {c : Code} (k : Nat) (h : ∀ H' : Hp,H' k = none → (∀ j,¬ j = k → H' j = H j) → AW P ro X c Q f H') : AW P ro X c Q f H :=
 Jw (fun j => if j = k then none else H j) (fun j => by
  by_cases hj : j = k
  ·exact .inl (by simp [hj])
  ·exact .inr (by simp [hj])) (h _ (by simp) fun j hj => by simp [hj])
@[go_sem] theorem bP {n k e : Nat} : fzd H n (.map k e) = .map k e := by cases n <;> rfl
end
theorem L9 {n : Int} {v : Val} : ∀ {A B : List (Int × Val)} {s : Nat},(∀ p ∈ A,p.1 ≠ n) → E2 n (A ++ (n,v) :: B) s = some (s + A.length,v)
 | [],B,s,h => by simp [E2]
 | (a,w) :: A,B,s,h => by
  simp only [List.cons_append,E2]
  rw [if_neg (fun e => h (a,w) (by simp) e.symm),L9 fun p hp => h p (by simp [hp])]
  simp only [List.length_cons]
  congr 2; omega
theorem Lj {α : Type} : ∀ {A B : List α} {x : α},(A ++ x :: B).eraseIdx A.length = A ++ B
 | [],B,x => rfl
 | a :: A,B,x => by simp only [List.cons_append,List.length_cons,List.eraseIdx_cons_succ,Lj]
end Cp
namespace Cp
open Go
@[go_sem] theorem gW {H : Hp} {n : Nat} {g : FuncId} {cs : List Val} : fzd H n (.fn g cs) = .fn g cs := by cases n <;> rfl
section
variable {P : Program} {T : Tab} {md : Me} {os : List Oper} {K : Fr → Hp → Prop} {f : Fr} {H H' : Hp} {d : Option Tmp} {ty : TypeId} {pos : String} {af : Array Edge} {g : Option (Nat × Bool)} {ss lk : List Nat}
theorem AM {fn : Func} {R : Val → Hp → Prop} {e : Exit} {v : Val} (he : e = .ret ∨ e = .normal) (hf : Frz H H') (hx : Fx T f H' fn.results.toList = some v) (h : R v H') : FnQ T fn R e f H := by
 rcases he with rfl | rfl <;> exact ⟨H',v,hf,hx,h⟩
@[go_sem] theorem aN {n : Nat} : fzd H n .nilm = .nilm := by cases n <;> rfl
@[go_sem] theorem Vy {t : TypeId} {x y z : Operand} : Ak P T md os ss lk { dst := d,op := .insert t x y z,type := ty,pos := pos,after := af,guard := g } K f H = Bx P T md os ss { dst := d,op := .insert t x y z,type := ty,pos := pos,after := af,guard := g } K f H := rfl
@[go_sem] theorem YF {kt : TypeId} {key : Val} {i : Nat} : B3 T kt key [] i = some none := rfl
theorem Ax {o : Oper} (h : ∀ a,o.op ≠ .call a) : B9 P T md os ss lk o K f H = Ak P T md os ss lk o K f H := by
 unfold B9
 split
 ·rename_i h1 _; exact absurd h1 (h _)
 ·rfl
@[go_sem] theorem YC {h : Operand} {xs : Array Operand} {ts : Array TypeId} : B9 P T md os ss lk { dst := d,op := .call { callee := .value h,args := xs,argTypes := ts },type := ty,pos := pos,after := af,guard := none } K f H =
  yvK P d K f H (xs.toList.map (ev f)) (Ak P T md os ss lk { dst := d,op := .call { callee := .value h,args := xs,argTypes := ts },type := ty,pos := pos,after := af,guard := none } K f H) (ev f h) := rfl
@[go_sem] theorem dJ {args : List Val} {rest : Prop} {k e : Nat} : yvK P d K f H args rest (.yld k e) = Rr P d K f H k e args := rfl
@[go_sem] theorem dU {args caps : List Val} {rest : Prop} {fid : FuncId} : yvK P d K f H args rest (.fn fid caps) = rest := rfl
@[go_sem] theorem Ui {b : Builtin} {xs : Array Operand} {ts : Array TypeId} : B9 P T md os ss lk { dst := d,op := .call { callee := .builtin b,args := xs,argTypes := ts },type := ty,pos := pos,after := af,guard := g } K f H =
  Ak P T md os ss lk { dst := d,op := .call { callee := .builtin b,args := xs,argTypes := ts },type := ty,pos := pos,after := af,guard := g } K f H := by cases g <;> rfl
@[go_sem] theorem XZ {x : Operand} : B9 P T md os ss lk { dst := d,op := .move x,type := ty,pos := pos,after := af,guard := g } K f H = Ak P T md os ss lk { dst := d,op := .move x,type := ty,pos := pos,after := af,guard := g } K f H := Ax (by simp)
@[go_sem] theorem Vr {x : Operand} : B9 P T md os ss lk { dst := d,op := .assign x,type := ty,pos := pos,after := af,guard := g } K f H = Ak P T md os ss lk { dst := d,op := .assign x,type := ty,pos := pos,after := af,guard := g } K f H := Ax (by simp)
@[go_sem] theorem XY {t : TypeId} {x : Operand} : B9 P T md os ss lk { dst := d,op := .load t x,type := ty,pos := pos,after := af,guard := g } K f H = Ak P T md os ss lk { dst := d,op := .load t x,type := ty,pos := pos,after := af,guard := g } K f H := Ax (by simp)
@[go_sem] theorem XO {p : UnOp} {t : TypeId} {x : Operand} : B9 P T md os ss lk { dst := d,op := .unOp p t x,type := ty,pos := pos,after := af,guard := g } K f H = Ak P T md os ss lk { dst := d,op := .unOp p t x,type := ty,pos := pos,after := af,guard := g } K f H := Ax (by simp)
@[go_sem] theorem QZ {t : TypeId} {x : Operand} {n : Nat} : B9 P T md os ss lk { dst := d,op := .fieldAddr t x n,type := ty,pos := pos,after := af,guard := g } K f H = Ak P T md os ss lk { dst := d,op := .fieldAddr t x n,type := ty,pos := pos,after := af,guard := g } K f H := Ax (by simp)
@[go_sem] theorem VN {p : BinOp} {t u : TypeId} {x y : Operand} : B9 P T md os ss lk { dst := d,op := .binOp p t x y u,type := ty,pos := pos,after := af,guard := g } K f H = Ak P T md os ss lk { dst := d,op := .binOp p t x y u,type := ty,pos := pos,after := af,guard := g } K f H := Ax (by simp)
@[go_sem] theorem RI {t : TypeId} {x y : Operand} : B9 P T md os ss lk { dst := d,op := .indexAddr t x y,type := ty,pos := pos,after := af,guard := g } K f H = Ak P T md os ss lk { dst := d,op := .indexAddr t x y,type := ty,pos := pos,after := af,guard := g } K f H := Ax (by simp)
end
end Cp
