/- Rules,facts and contracts that the statement's proof leans on. Conditions: none. -/
import Derived.Shelf.SlSortCmp.NoneTotal
import Derived.Test.YtopgldaekcmekaaGreatDoorP10
set_option linter.unusedVariables false
set_option linter.unusedSimpArgs false
set_option linter.unusedSectionVars false
namespace Cp
open Go Go.Proofs
set_option maxRecDepth 10000
theorem Um (r : RunT) (hF : RunF r) : PureC Tryz.prog 80 [A9 r] (.pim (Af r r.rows.length)) := by
 have hcl := hF.cpls
 have hrl := hF.rows
 have hnn : noids (Af r r.rows.length) = true := noids_still Dm
 refine A8 (fn := Tryz.f80) tabOK (by kernel_rfl) rfl (by kernel_rfl) (by simp [Tryz.f80]) (by simp [noids,noid,noidss,go_sem,A9,A7,hnn]) (by first | rfl | simp [noids,noid,noidss,go_sem,A9,A7,hnn]) ?_
 intro X hX0 hXs
 repeat' (first | with_reducible (first | ((fail_if_success (refine Di (id := 3) ?_)); refine sk ?_; intro K hK) | intro (ep : Nat → Nat) | apply_assumption -exfalso -symm only [*]) | ((with_reducible refine rgL [] [31] (md := { base := 0,own := [6,10,22],imp := [20] }) (h := ?_)); try simp (disch := omega) only [A9,A7,go_sem,simprocAttr]) | fail)
 refine An (AK (fun n f H => ∃ k : Nat,n = r.rows.length - k ∧ k ≤ r.rows.length ∧ (f 1 = .pim (A7 r) ∧ f 4 = .int .i64 ((k + 1 : Nat) : Int)) ∧ ∃ e10,f 3 = .ptr 10 e10 189 0 0 ∧ H 10 = some (e10,.arr 189 [Af r k]) ∧ F4 H 1000 100) r.rows.length
  ⟨0,by simp,Nat.zero_le _,by (and_intros <;> first | rfl | (simp only [A7,go_sem,simprocAttr]; done) | (simp only [A7,go_sem,simprocAttr]; rfl)),_,by (first | rfl | (simp only [go_sem,simprocAttr]; done) | (simp only [go_sem,simprocAttr]; rfl)),by simp only [go_sem,simprocAttr]; rfl,fun d hd => by simp only [go_sem,simprocAttr]; rw [if_neg (by omega)]⟩ ?_)
 rintro n f H ⟨k,rfl,hk,⟨h1,h4⟩,e10,h3,hH10,hroom⟩
 by_cases hlt : k < r.rows.length
 ·refine Aw 6 fun H1 g6 hs1 => ?_
  refine Aw 22 fun H2 g22 hs2 => ?_
  have g6' : H2 6 = none := by rw [hs2 _ (by decide),g6]
  have hH10' : H2 10 = some (e10,.arr 189 [Af r k]) := by rw [hs2 _ (by decide),hs1 _ (by decide),hH10]
  have hroom' : F4 H2 1000 100 := fun d hd => by rw [hs2 _ (by omega),hs1 _ (by omega)]; exact hroom d hd
  clear hs1 hs2 g6 hroom hH10
  obtain ⟨rest,hrest⟩ := @DF r k
  repeat' (first | with_reducible (first | (refine sk ?_; intro K hK) | refine bk ?_ | apply_assumption -exfalso -symm only [*]) | ((with_reducible first | refine rgL [] [31] (md := { base := 0,own := [6,10,22],imp := [20] }) (h := ?_) | refine nx ?_); try simp (disch := omega) only [h1,h3,h4,hH10',g6',g22,A7,go_sem,simprocAttr]) | ((with_reducible refine' cE ?hv ?_ ?_); (case hv => rfl); all_goals (intro hc; (try simp only [go_sem,simprocAttr] at hc); try (exfalso; omega))) | refine iK (JQ r hF rest _ _ (.inr ⟨10,e10,189,rfl,by simp only [go_sem,simprocAttr,hH10',hrest],by decide⟩) _) ?_ | fail)
  rintro v H3 ⟨em,ver,rfl,hmap,hs3⟩
  have g6 : H3 6 = none := by rw [hs3 _ (by decide),g6']
  have g22' : H3 22 = none := by rw [hs3 _ (by decide),g22]
  have hH10 : H3 10 = some (e10,.arr 189 [Af r k]) := by rw [hs3 _ (by decide),hH10']
  have hroom : F4 H3 1000 100 := fun d hd => by rw [hs3 _ (by omega)]; exact hroom' d hd
  clear hs3 g6' g22 hH10' hroom'
  have hwl := @JY r ((k + 1 : Nat) : Int)
  simp only [go_sem,simprocAttr]
  repeat' (first | with_reducible (first | (refine sk ?_; intro K hK) | intro (ep : Nat → Nat) | apply_assumption -exfalso -symm only [*]) | ((with_reducible refine rgL [] [31] (md := { base := 0,own := [6,10,22],imp := [20] }) (h := ?_)); try simp (disch := omega) only [h1,h3,h4,hH10,hmap,g6,g22',A7,go_sem,simprocAttr]) | fail)
  refine An (AK (fun n f H => ∃ left : List Nat,n = left.length ∧ left.length ≤ (wk r ((k + 1 : Nat) : Int)).length ∧ (∀ p ∈ left,p < (wk r ((k + 1 : Nat) : Int)).length) ∧ (f 1 = .pim (A7 r) ∧ f 3 = .ptr 10 e10 189 0 0 ∧ f 4 = .int .i64 ((k + 1 : Nat) : Int) ∧ f 5 = .map 2009 em ∧ H 10 = some (e10,.arr 189 [Af r k]) ∧ H 2009 = some (em,.map ver (CH .i64 (tl (wk r ((k + 1 : Nat) : Int)))))) ∧ F4 H 1000 100 ∧
    ∃ x y e6 e22 cur,f 6 = .ptr 6 e6 2 0 0 ∧ H 6 = some (e6,.arr 2 [[.int .i64 x,.int .i64 y]]) ∧ f 22 = .itr 22 e22 ∧ H 22 = some (e22,.itr 2009 em ver left cur) ∧
     x + D4 r ((k + 1 : Nat) : Int) (lfI r ((k + 1 : Nat) : Int) left) = D4 r ((k + 1 : Nat) : Int) (wk r ((k + 1 : Nat) : Int)) ∧ y + D5 r ((k + 1 : Nat) : Int) (lfI r ((k + 1 : Nat) : Int) left) = D5 r ((k + 1 : Nat) : Int) (wk r ((k + 1 : Nat) : Int))) (wk r ((k + 1 : Nat) : Int)).length
   ⟨List.range (wk r ((k + 1 : Nat) : Int)).length,by simp,by simp,by simp,by (and_intros <;> first | rfl | (simp only [h1,h3,h4,hH10,hmap,A7,go_sem,simprocAttr]; done) | (simp only [h1,h3,h4,hH10,hmap,A7,go_sem,simprocAttr]; rfl)),fun d hd => by simp only [go_sem,simprocAttr]; rw [if_neg (by omega),if_neg (by omega)]; exact hroom d hd,0,0,_,_,_,by (first | rfl | (simp only [go_sem,simprocAttr]; done) | (simp only [go_sem,simprocAttr]; rfl)),by (first | rfl | (simp only [go_sem,simprocAttr]; done) | (simp only [go_sem,simprocAttr]; rfl)),by (first | rfl | (simp only [go_sem,simprocAttr]; done) | (simp only [go_sem,simprocAttr]; rfl)),by (first | rfl | (simp only [go_sem,simprocAttr]; done) | (simp only [go_sem,simprocAttr]; rfl)),by rw [S3]; omega,by rw [S3]; omega⟩ ?_)
  clear g6 g22' hH10 hroom h1 h3 h4 hmap
  rintro n f H ⟨left,rfl,hll,hlt2,⟨h1,h3,h4,h5,hH10,hmap⟩,hroom,x,y,e6,e22,cur,h6,hH6,h22,hH22,hx,hy⟩
  have hm1 : (1 : Int) ≤ ((k + 1 : Nat) : Int) ∧ ((k + 1 : Nat) : Int) ≤ r.rows.length := by omega
  have hsb := EX hF hm1.1 hm1.2 (lfI r ((k + 1 : Nat) : Int) left) (X4 hlt2)
  have hst := EX hF hm1.1 hm1.2 (wk r ((k + 1 : Nat) : Int)) (fun j hj => hj)
  rw [Xk] at hsb
  repeat' (first | with_reducible (refine sk ?_; intro K hK) | ((with_reducible refine E1 (id := 8) tabOK { base := 0,own := [6,10,22],imp := [20] } [] [31] (by rw [hXs]; decide +kernel) ?_); try simp (disch := omega) only [h1,h3,h4,h5,h6,h22,hH10,hH6,hH22,hmap,A7,go_sem,simprocAttr]) | fail)
  refine ⟨fun hl => ?_,fun p hp a v hav => ?_⟩
  ·subst hl
   simp only [lfI,List.map_nil,D4,D5,Int.add_zero] at hx hy
   subst hx hy
   have hfl := @F6 r k (by omega)
   have h61 : k + 1 < 61 := by omega
   have h188 : 128 + (k + 1) * 1 ≤ 188 := by omega
   have h187 : 6 + (k + 1) * 2 ≤ 187 := by omega
   have hds : ∀ v,(Aq (Af r k) (128 + (k + 1) * 1) [v]).drop (128 + (k + 1) * 1) = v :: (Af r k).drop (128 + (k + 1) * 1 + 1) := fun v => N2 (by omega)
   have hlen1 : ∀ v,(Aq (Af r k) (128 + (k + 1) * 1) [v]).length = 189 := fun v => by rw [DN (by simp only [List.length_cons,List.length_nil]; omega),hfl]
   by_cases hz : 0 < (wk r ((k + 1 : Nat) : Int)).length
   ·obtain ⟨q1,q2,q3⟩ := WL (n := (wk r ((k + 1 : Nat) : Int)).length) (by omega) (by omega)
    have hz0 : (0 : Int) < ((wk r ((k + 1 : Nat) : Int)).length : Int) := by omega
    have hzn : ¬ ((wk r ((k + 1 : Nat) : Int)).length : Int) = 0 := by omega
    repeat' (first | with_reducible (first | (refine sk ?_; intro K hK) | apply_assumption -exfalso -symm only [*]) | ((first | (with_reducible first | refine rgL [] [31] (md := { base := 0,own := [6,10,22],imp := [20] }) (h := ?_) | refine nx ?_) | refine pK (Ka ⟨D4 r ((k + 1 : Nat) : Int) (wk r ((k + 1 : Nat) : Int)),D5 r ((k + 1 : Nat) : Int) (wk r ((k + 1 : Nat) : Int))⟩ _ (by simp only; omega)) ?_); try simp (disch := omega) only [h1,h3,h4,h5,h6,h22,hH10,hH6,hH22,hmap,hfl,h61,h188,h187,hds,hlen1,hz0,hzn,q1,A7,A6,go_sem,simprocAttr]) | ((with_reducible refine' cE ?hv ?_ ?_); (case hv => rfl); all_goals (intro hc; (try simp only [go_sem,simprocAttr] at hc))) | fail)
    exact ⟨r.rows.length - (k + 1),by omega,k + 1,rfl,by omega,rfl,e10,rfl,by simp only [Af,if_pos hz,Nat.mul_one,C4],fun d hd => by rw [A0 _ _ (by omega),A0 _ _ (by omega)]; exact hroom d hd⟩
   ·have hz0 : ¬ (0 : Int) < ((wk r ((k + 1 : Nat) : Int)).length : Int) := by omega
    repeat' (first | with_reducible (first | (refine sk ?_; intro K hK) | apply_assumption -exfalso -symm only [*]) | ((with_reducible first | refine rgL [] [31] (md := { base := 0,own := [6,10,22],imp := [20] }) (h := ?_) | refine nx ?_); try simp (disch := omega) only [h1,h3,h4,h5,h6,h22,hH10,hH6,hH22,hmap,hfl,h61,h188,h187,hds,hlen1,hz0,A7,go_sem,simprocAttr]) | ((with_reducible refine' cE ?hv ?_ ?_); (case hv => rfl); all_goals (intro hc; (try simp only [go_sem,simprocAttr] at hc))) | fail)
    exact ⟨r.rows.length - (k + 1),by omega,k + 1,rfl,by omega,rfl,e10,rfl,by simp only [Af,if_neg hz,Nat.mul_one],fun d hd => by rw [A0 _ _ (by omega)]; exact hroom d hd⟩
  ·obtain ⟨w,hw⟩ : ∃ w,(wk r ((k + 1 : Nat) : Int))[p]? = some w := ⟨_,List.getElem?_eq_getElem (hlt2 p hp)⟩
   obtain ⟨c,hcc,hwk⟩ := J4.1 (List.mem_of_getElem? hw)
   obtain ⟨e1,e2⟩ := UF hp hw hcc
   have htb := EQ hF hcc hm1.1 hm1.2 hwk
   have hle := List.length_erase_of_mem hp
   have hpos := List.length_pos_of_mem hp
   have hg : (tl (wk r ((k + 1 : Nat) : Int)))[p]? = some ((w : Int),.bool true) := by rw [SI,hw]; rfl
   rw [hg] at hav
   simp only [Option.map_some,Option.some.injEq,Prod.mk.injEq] at hav
   obtain ⟨rfl,rfl⟩ := hav
   rw [e1] at hx
   rw [e2] at hy
   repeat' (first | with_reducible (first | (refine sk ?_; intro K hK) | refine bk ?_ | apply_assumption -exfalso -symm only [*]) | ((with_reducible first | refine E1 (id := 9) tabOK { base := 0,own := [6,10,22],imp := [20] } [] [31] (by rw [hXs]; decide +kernel) ?_ | refine nx ?_); try simp (disch := omega) only [h1,h3,h4,h5,h6,h22,hH10,hH6,hH22,hmap,hg,A7,go_sem,simprocAttr]) | ((with_reducible refine' cE ?hv ?_ ?_); (case hv => rfl); all_goals (intro hc; (try simp only [go_sem,simprocAttr] at hc))) | fail)
   refine ⟨_,_,rfl,?_⟩
   have hroom2 : ∀ q,F4 (upd H 22 q) 1000 100 := fun q d hd => by rw [A0 _ _ (by omega)]; exact hroom d hd
   have hpts : ∀ q,Pts (upd H 22 q) (.ptr 10 e10 189 0 0) (A7 r ++ rest) := fun q => .inr ⟨10,e10,189,rfl,by unfold frzH; rw [A0 _ _ (by decide),hH10,hrest]; rfl⟩
   repeat' (first | with_reducible apply_assumption -exfalso -symm only [*] | ((first | (with_reducible refine rgL [] [31] (md := { base := 0,own := [6,10,22],imp := [20] }) (h := ?_)) | refine pK (JB ⟨x,y⟩ (Df r c w _) (by simp only; omega)) ?_ | refine lK (Ke r hF rest _ _ (hpts _) (hroom2 _) w c hcc _ hm1 hwk) ?_); try simp (disch := omega) only [h1,h3,h4,h5,h6,h22,hH10,hH6,hH22,hmap,hg,A7,A6,go_sem,simprocAttr]) | fail)
   exact ⟨(left.erase p).length,by omega,left.erase p,rfl,by omega,fun q hq => hlt2 q (List.mem_of_mem_erase hq),fun d hd => by rw [A0 _ _ (by omega)]; exact hroom2 _ d hd,_,_,_,_,_,rfl,rfl,rfl,rfl,by omega,by omega⟩
 ·obtain rfl : k = r.rows.length := by omega
  repeat' (first | with_reducible (first | (refine sk ?_; intro K hK) | apply_assumption -exfalso -symm only [*]) | ((with_reducible first | refine rgL [] [31] (md := { base := 0,own := [6,10,22],imp := [20] }) (h := ?_) | refine nx ?_); try simp (disch := omega) only [h1,h3,h4,hH10,A7,go_sem,simprocAttr]) | ((with_reducible refine' cE ?hv ?_ ?_); (case hv => rfl); all_goals (intro hc; (try simp only [go_sem,simprocAttr] at hc); try (exfalso; omega))) | fail)
  refine Pk 10 (Or.inl rfl) (by simp only [go_sem,simprocAttr,hH10]; rfl) ⟨_,(by simp only [Tryz.f80,go_sem,simprocAttr]; rfl),?_⟩
  simp only [go_sem,simprocAttr,PY Dm]
end Cp
namespace Cp
open Go
def Mb (s o : Span) : Int := if s.hi < o.lo ∨ o.hi < s.lo then 2 else if s.lo < o.lo ∨ o.hi < s.hi then 1 else 0
theorem JI {s o : Span} : 0 ≤ Mb s o ∧ Mb s o ≤ 2 := by unfold Mb; split <;> (try split) <;> omega
def DK (m : Int) (acc : Int) : List StepT → Int
 | [] => acc
 | s :: l => DK m (if s.frm ≤ m then s.part else acc) l
def En (u : RulesT) (m : Int) : Int := DK m (-1) u.steps
def Sk (u : RulesT) (m : Int) : Nat := (u.steps.takeWhile fun s => decide (s.frm ≤ m)).length
theorem KG {α : Type} {p : α → Bool} : ∀ (l : List α) (k : Int),Ay (fun x => !p x) l k = if (l.takeWhile p).length < l.length then k + (l.takeWhile p).length else -1
 | [],k => by simp [Ay]
 | x :: l,k => by
  have ih := KG (p := p) l (k + 1)
  simp only [Ay]
  by_cases hp : p x = true
  case neg =>
   simp only [Bool.not_eq_true] at hp
   simp [List.takeWhile_cons,hp]
  case pos =>
   simp only [List.takeWhile_cons,hp,Bool.not_true,Bool.false_eq_true,if_false,ih,if_true,List.length_cons]
   split
   ·rw [if_pos (by omega)]; omega
   ·rw [if_neg (by omega)]
theorem Ja {m : Int} : ∀ (l : List StepT) (acc : Int),(∀ s ∈ l,m < s.frm) → DK m acc l = acc
 | [],acc,h => rfl
 | s :: l,acc,h => by
  have h1 := h s (by simp)
  simp only [DK]
  rw [if_neg (by omega)]
  exact Ja l acc fun x hx => h x (by simp [hx])
theorem steps_gt : ∀ (l : List StepT) (last : Int),Az last l = true → ∀ s ∈ l,last < s.frm
 | [],_,_,s,hs => by simp at hs
 | a :: l,last,h,s,hs => by
  simp only [Az,De,Bool.and_eq_true,decide_eq_true_eq] at h
  rcases List.mem_cons.1 hs with rfl | hs
  ·omega
  ·have := steps_gt l a.frm h.2 s hs; omega
theorem JG {m : Int} : ∀ (l : List StepT) (last acc : Int),Az last l = true →
  ((l.takeWhile fun s => decide (s.frm ≤ m)).length = 0 → DK m acc l = acc) ∧ (∀ j,(l.takeWhile fun s => decide (s.frm ≤ m)).length = j + 1 → ∃ s,l[j]? = some s ∧ DK m acc l = s.part)
 | [],last,acc,h => ⟨fun _ => rfl,fun j hj => by simp at hj⟩
 | a :: l,last,acc,h => by
  simp only [Az,De,Bool.and_eq_true,decide_eq_true_eq] at h
  obtain ⟨ih1,ih2⟩ := JG (m := m) l a.frm (if a.frm ≤ m then a.part else acc) h.2
  simp only [List.takeWhile_cons,DK]
  by_cases ha : a.frm ≤ m
  ·simp only [ha,decide_true,if_true,List.length_cons] at ih1 ih2 ⊢
   refine ⟨fun h => by omega,fun j hj => ?_⟩
   cases j with
   | zero => exact ⟨a,rfl,ih1 (by omega)⟩
   | succ j =>
    obtain ⟨s,h1,h2⟩ := ih2 j (by omega)
    exact ⟨s,by simpa using h1,h2⟩
  ·simp only [ha,decide_false,Bool.false_eq_true,if_false,List.length_nil]
   refine ⟨fun _ => Ja l acc fun s hs => by have := steps_gt l a.frm h.2 s hs; omega,fun j hj => by omega⟩
structure RulesF (u : RulesT) : Prop where
 len : u.steps.length ≤ 5
 single : 0 ≤ u.single ∧ u.single ≤ 2000
 sfrom : 1 ≤ u.sfrom ∧ u.sfrom ≤ 600
 press : -100 ≤ u.press.lo ∧ u.press.lo ≤ u.press.hi ∧ u.press.hi ≤ 100
 pfrom : 1 ≤ u.pfrom ∧ u.pfrom ≤ 600
 from0 : Az 0 u.steps = true
 step : ∀ s ∈ u.steps,(1 ≤ s.frm ∧ s.frm ≤ 600) ∧ 0 ≤ s.part ∧ s.part ≤ 1000
theorem steps_all : ∀ (l : List StepT) (last : Int),0 ≤ last → Az last l = true → ∀ s ∈ l,(last < s.frm ∧ s.frm ≤ 600) ∧ 0 ≤ s.part ∧ s.part ≤ 1000
 | [],_,_,_,s,hs => by simp at hs
 | a :: l,last,h0,h,s,hs => by
  simp only [Az,De,Bool.and_eq_true,decide_eq_true_eq] at h
  rcases List.mem_cons.1 hs with rfl | hs
  ·omega
  ·have := steps_all l a.frm (by omega) h.2 s hs; omega
theorem MF {u : RulesT} (h : Bz u = true) : RulesF u := by
 simp only [Bz,DJ,Bool.and_eq_true,decide_eq_true_eq] at h
 obtain ⟨⟨h1,h2,h3,h4,h5⟩,h6⟩ := h
 exact ⟨h1,h2,h3,h4,h5,h6,fun s hs => by have := steps_all u.steps 0 (by omega) h6 s hs; omega⟩
theorem Tw {u : RulesT} {m : Int} : Sk u m ≤ u.steps.length := by
 unfold Sk
 exact (List.takeWhile_sublist _).length_le
theorem Ok {u : RulesT} (hU : RulesF u) {m : Int} (h : Sk u m = 0) : En u m = -1 := (JG u.steps 0 (-1) hU.from0).1 h
theorem Oy {u : RulesT} (hU : RulesF u) {m : Int} {j : Nat} (h : Sk u m = j + 1) : ∃ s,u.steps[j]? = some s ∧ En u m = s.part ∧ 0 ≤ s.part ∧ s.part ≤ 1000 := by
 obtain ⟨s,h1,h2⟩ := (JG u.steps 0 (-1) hU.from0).2 j h
 exact ⟨s,h1,h2,(hU.step s (List.mem_of_getElem? h1)).2⟩
def Dc (r : RunT) : Nat → Int
 | 0 => 0
 | k + 1 => Dc r k + if wk r ((k + 1 : Nat) : Int) = [] then 0 else (C4 r ((k + 1 : Nat) : Int)).lo
def Da (r : RunT) : Nat → Int
 | 0 => 0
 | k + 1 => Da r k + if wk r ((k + 1 : Nat) : Int) = [] then 0 else (C4 r ((k + 1 : Nat) : Int)).hi
def E0 (r : RunT) : Nat → Int
 | 0 => 0
 | k + 1 => E0 r k + if wk r ((k + 1 : Nat) : Int) = [] then 0 else Bv r.curve ((k + 1 : Nat) : Int)
theorem Jn {r : RunT} (hF : RunF r) {m : Int} (hm : 1 ≤ m) (hm2 : m ≤ r.rows.length) (hne : wk r m ≠ []) : -42000 ≤ (C4 r m).lo ∧ (C4 r m).lo ≤ (C4 r m).hi ∧ (C4 r m).hi ≤ 1722000 := by
 have hs := EX hF hm hm2 (wk r m) fun _ h => h
 have hl := @JY r m
 have hcl := hF.cpls
 have h0 : 0 < (wk r m).length := List.length_pos_iff.2 hne
 simp only [C4]
 obtain hq | hq | hq | hq | hq | hq | hq | hq : (wk r m).length = 1 ∨ (wk r m).length = 2 ∨ (wk r m).length = 3 ∨ (wk r m).length = 4 ∨ (wk r m).length = 5 ∨ (wk r m).length = 6 ∨ (wk r m).length = 7 ∨ (wk r m).length = 8 := by omega
 all_goals rw [hq] at hs ⊢; omega
theorem Gw {r : RunT} (hF : RunF r) (hdeg : ∀ m : Int,0 ≤ m → m ≤ Gq r.curve → 0 ≤ Bv r.curve m ∧ Bv r.curve m ≤ 2000) : ∀ (k : Nat),k ≤ r.rows.length → -42000 * (k : Int) ≤ Dc r k ∧ Dc r k ≤ Da r k ∧ Da r k ≤ 1722000 * (k : Int) ∧ 0 ≤ E0 r k ∧ E0 r k ≤ 2000 * (k : Int)
 | 0,_ => by simp [Dc,Da,E0]
 | k + 1,hk => by
  have ih := Gw hF hdeg k (by omega)
  have hr := hF.rows
  have hd := hdeg ((k + 1 : Nat) : Int) (by omega) (by omega)
  simp only [Dc,Da,E0]
  by_cases hne : wk r ((k + 1 : Nat) : Int) = []
  ·simp only [hne,if_true]; omega
  ·have hb := Jn hF (m := ((k + 1 : Nat) : Int)) (by omega) (by omega) hne
   simp only [hne,if_false]; omega
def Fg (m kind cpl known : Int) : List Brc := if known = 0 then [] else [⟨m,kind,cpl,known⟩]
def MK (r : RunT) (u : RulesT) (k : Nat) : Int :=
 if En u (k : Int) < 0 then 0 else
  Mb ⟨Dc r k * 1000,Da r k * 1000⟩ ⟨E0 r k * 840 * 1000 - E0 r k * 840 * En u (k : Int),E0 r k * 840 * 1000 + E0 r k * 840 * En u (k : Int)⟩
def JU (r : RunT) (u : RulesT) (c : Cpl) (i : Nat) (m : Int) : Int := Mb (Df r c i m) ⟨Bv r.curve m - u.single,Bv r.curve m + u.single⟩
def FN (r : RunT) (m : Int) : Int := ((r.rows[(m - 1).toNat]?).map (·.press)).getD 0
def M2 (r : RunT) (u : RulesT) (m : Int) : Int := Mb ⟨FN r m - r.gauge.hi,FN r m - r.gauge.lo⟩ u.press
def Ku (r : RunT) (u : RulesT) (m : Int) (i : Nat) : List Brc := match r.cpls[i]? with | some c => Fg m 3 c.id (JU r u c i m) | none => []
def Fc (r : RunT) (u : RulesT) (m : Int) : List Nat → List Brc
 | [] => []
 | i :: l => Ku r u m i ++ Fc r u m l
def DA (r : RunT) (m : Int) : List Brc := if wk r m = [] then [⟨m,1,-1,2⟩] else []
def Fw (r : RunT) (u : RulesT) (m : Int) : List Brc := if m < u.sfrom then [] else Fc r u m (wk r m)
def Dx (r : RunT) (u : RulesT) (m : Int) : List Brc := if m < u.pfrom then [] else Fg m 4 (-1) (M2 r u m)
def M0 (r : RunT) (u : RulesT) (k : Nat) : List Brc := DA r (k : Int) ++ Fg (k : Int) 2 (-1) (MK r u k) ++ Fw r u (k : Int) ++ Dx r u (k : Int)
def DG (r : RunT) (u : RulesT) : Nat → List Brc
 | 0 => []
 | k + 1 => DG r u k ++ M0 r u (k + 1)
def D8 (r : RunT) (u : RulesT) : List Brc := DG r u r.rows.length
end Cp
namespace Cp
open Go Go.Proofs
set_option maxRecDepth 10000
theorem EJ (s o : Span) : PureC Tryz.prog 111 [A6 s,A6 o] (.int .u8 (Mb s o)) := by
 refine A8 (fn := Tryz.f111) tabOK (by kernel_rfl) rfl (by kernel_rfl) (by simp [Tryz.f111]) (by simp [noids,noid,noidss,go_sem,A6]) (by first | rfl | simp [noids,noid,noidss,go_sem,A6]) ?_
 intro X hX0 hXs
 repeat' (first | with_reducible (first | (refine sk ?_; intro K hK) | refine bk ?_ | apply_assumption -exfalso -symm only [*]) | ((with_reducible first | refine rg (h := ?_) | refine nx ?_); try simp (disch := omega) only [A6,go_sem,simprocAttr]) | ((with_reducible refine' cE ?hv ?_ ?_); (case hv => rfl); all_goals (intro hc; (try simp only [go_sem,simprocAttr] at hc))) | ((with_reducible refine Ab ?_ ?_) <;> intro hg <;> (try simp (disch := omega) only [hg,A6,go_sem,simprocAttr]) <;> (try simp only [go_sem,simprocAttr] at hg) <;> (try (exfalso; omega))) | ((with_reducible refine fe ?_); refine ⟨_,(by simp only [Tryz.f111,A6,go_sem,simprocAttr]; rfl),?_⟩; (try simp only [A6,go_sem,simprocAttr,seval])) | fail)
 all_goals (unfold Mb; repeat' split) <;> first | rfl | omega
theorem Dl (xs : List StepT) (hx : xs.length ≤ 4611686018427387904) (g : FuncId) (caps : List Val) (hcp : noids caps = true) (p : StepT → Bool) (hp : ∀ x ∈ xs,PureC Tryz.prog g (.agg (cStep x) :: caps) (.bool (p x))) :
  PureC Tryz.prog 109 [.lst 2 (xs.map cStep),.fn g caps] (.int .i64 (Ay p xs 0)) := by
 simp only [cStep] at hp
 refine A8 (fn := Tryz.f109) tabOK (by kernel_rfl) rfl (by kernel_rfl) (by simp [Tryz.f109]) (by simp [noids,noid,noidss,go_sem,hcp]) (by first | rfl | simp [noids,noid,noidss,go_sem,hcp]) ?_
 intro X hX0 hXs
 repeat' (first | with_reducible (first | (refine sk ?_; intro K hK) | apply_assumption -exfalso -symm only [*]) | ((with_reducible refine rg (h := ?_)); try simp (disch := omega) only [go_sem,simprocAttr]) | fail)
 refine Av tabOK xs.length (fun k f H => f 0 = .lst 2 (xs.map cStep) ∧ f 1 = .fn g caps ∧ H = none0 ∧ Ay p xs 0 = Ay p (xs.drop k) k) hx (by rw [hXs]; decide) (by decide) (by simp only [go_sem,simprocAttr]) (by simp only [go_sem,simprocAttr]) ⟨by simp only [go_sem,simprocAttr],by simp only [go_sem,simprocAttr],rfl,by simp⟩ ?_ ?_
 ·rintro k f H hk h8 h7 ⟨h0,h1,rfl,hr⟩
  obtain ⟨x,hx⟩ : ∃ x,xs[k]? = some x := ⟨_,List.getElem?_eq_getElem hk⟩
  repeat' (first | with_reducible (first | (refine sk ?_; intro K hK) | apply_assumption -exfalso -symm only [*]) | ((first | (with_reducible first | refine rg (h := ?_) | refine nx ?_) | refine pK (hp x (List.mem_of_getElem? hx)) ?_); try simp (disch := omega) only [h0,h1,h8,h7,hx,cStep,go_sem,simprocAttr]) | ((with_reducible refine' cE ?hv ?_ ?_); (case hv => rfl); all_goals (intro hc)) | ((with_reducible refine fe ?_); refine ⟨_,(by simp only [Tryz.f109,h0,h1,h8,h7,hx,cStep,go_sem,simprocAttr]; rfl),?_⟩; (try simp only [h0,h1,h8,h7,hx,cStep,go_sem,simprocAttr,seval])) | fail)
  ·rw [hr,Am hx]; simp [Ay,hc]
  ·rw [hr,Am hx]; simp [Ay,hc]
 ·rintro f H h8 h7 ⟨h0,h1,rfl,hr⟩
  repeat' (first | with_reducible (first | (refine sk ?_; intro K hK) | apply_assumption -exfalso -symm only [*]) | ((with_reducible first | refine rg (h := ?_) | refine nx ?_); try simp (disch := omega) only [go_sem,simprocAttr]) | ((with_reducible refine fe ?_); refine ⟨_,(by simp only [Tryz.f109,go_sem,simprocAttr]; rfl),?_⟩; (try simp only [go_sem,simprocAttr,seval])) | fail)
  rw [hr]; simp [Ay]
theorem Ir (s : StepT) (m : Int) : PureC Tryz.prog 110 [.agg (cStep s),.pim [.int .i64 m]] (.bool (!decide (s.frm ≤ m))) := by
 refine A8 (fn := Tryz.f110) tabOK (by kernel_rfl) rfl (by kernel_rfl) (by simp [Tryz.f110]) (by simp [noids,noid,noidss,go_sem,cStep]) (by first | rfl | simp [noids,noid,noidss,go_sem,cStep]) ?_
 intro X hX0 hXs
 repeat' (first | with_reducible (first | (refine sk ?_; intro K hK) | apply_assumption -exfalso -symm only [*]) | ((with_reducible first | refine rg (h := ?_) | refine nx ?_); try simp (disch := omega) only [cStep,go_sem,simprocAttr]) | ((with_reducible refine fe ?_); refine ⟨_,(by simp only [Tryz.f110,cStep,go_sem,simprocAttr]; rfl),?_⟩; (try simp only [cStep,go_sem,simprocAttr,seval])) | fail)
 rw [Bool.eq_iff_iff]; simp
def Sv (H0 : Hp) (X : List (Int × Val)) (v : Val) (H' : Hp) : Prop :=
 (∀ j,j < 400 → H' j = H0 j) ∧ ∃ es : List (Int × Val),es.Perm X ∧ ((es = [] ∧ v = .nilm) ∨ ∃ k em ver,400 ≤ k ∧ k < 500 ∧ v = .map k em ∧ H' k = some (em,.map ver (CH .i64 es)))
def kn (n : Int) : Val := .int .u8 n
def RE (u : RulesT) (m c lo hi : Int) : Int := Mb ⟨lo * 1000,hi * 1000⟩ ⟨c * 840 * 1000 - c * 840 * En u m,c * 840 * 1000 + c * 840 * En u m⟩
theorem U3 (r : RunT) (hF : RunF r) (u : RulesT) (k : Nat) (hk : k + 1 ≤ r.rows.length) (a b c d : Int) (H0 : Hp) :
  BD Tryz.prog 107 [.pim (Af r r.rows.length),A1 u,.int .i64 ((k + 1 : Nat) : Int),.agg [.int .i64 a,.int .i64 b,.int .i64 c,.int .i64 d]] H0 (Sv H0 (if wk r ((k + 1 : Nat) : Int) = [] then [(-1,kn 2)] else [])) := by
 refine BN (fn := Tryz.f107) tabOK (by kernel_rfl) rfl (by kernel_rfl) (by simp [Tryz.f107]) ?_
 intro X hX0 hXs
 have hrl := hF.rows
 have hcl := hF.cpls
 have hwg := Am (I8 (r := r) (m := k + 1) (by omega) (n := r.rows.length) (by omega) (by omega))
 have h61 : k + 1 < 61 := by omega
 refine Aw 415 fun H1 g8 hs1 => ?_
 by_cases hne : wk r ((k + 1 : Nat) : Int) = []
 ·have hwg' : ((Af r r.rows.length).drop 128).drop ((k + 1) * 1) = .bool false :: (Af r r.rows.length).drop (128 + (k + 1) + 1) := by rw [List.drop_drop,Nat.mul_one,hwg,hne]; rfl
  rw [if_pos hne]
  repeat' (first | with_reducible (first | (refine sk ?_; intro K hK) | intro (ep : Nat → Nat) | apply_assumption -exfalso -symm only [*]) | ((with_reducible first | refine rg (md := { base := 400,own := [15] }) (h := ?_) | refine nx ?_); try simp (disch := omega) only [A1,A5,h61,hwg',g8,go_sem,simprocAttr]) | ((with_reducible refine' cE ?hv ?_ ?_); (case hv => rfl); all_goals (intro hc; (try simp only [go_sem,simprocAttr] at hc))) | fail)
  refine AM (Or.inl rfl) (.refl _) (by simp only [Tryz.f107,go_sem,simprocAttr]; rfl) ?_
  exact ⟨fun j hj => by rw [A0 _ _ (by omega),A0 _ _ (by omega)]; exact hs1 j (by omega),_,.refl _,.inr ⟨415,_,_,by omega,by omega,rfl,by simp only [go_sem,simprocAttr]; rfl⟩⟩
 ·have hwg' : ((Af r r.rows.length).drop 128).drop ((k + 1) * 1) = .bool true :: (Af r r.rows.length).drop (128 + (k + 1) + 1) := by rw [List.drop_drop,Nat.mul_one,hwg,decide_eq_true (List.length_pos_iff.2 hne)]
  rw [if_neg hne]
  repeat' (first | with_reducible (first | (refine sk ?_; intro K hK) | apply_assumption -exfalso -symm only [*]) | ((with_reducible first | refine rg (md := { base := 400,own := [15] }) (h := ?_) | refine nx ?_); try simp (disch := omega) only [A1,A5,h61,hwg',g8,go_sem,simprocAttr]) | ((with_reducible refine' cE ?hv ?_ ?_); (case hv => rfl); all_goals (intro hc; (try simp only [go_sem,simprocAttr] at hc))) | fail)
  refine AM (Or.inl rfl) (.refl _) (by simp only [Tryz.f107,go_sem,simprocAttr]; rfl) ?_
  exact ⟨fun j hj => hs1 j (by omega),_,.refl _,.inl ⟨rfl,rfl⟩⟩
theorem U0 (u : RulesT) (hU : RulesF u) (fp : Val) (k : Nat) (a lo hi c : Int) (hlo : -200000000 ≤ lo ∧ lo ≤ 200000000) (hhi : -200000000 ≤ hi ∧ hi ≤ 200000000) (hc0 : 0 ≤ c ∧ c ≤ 200000) (H0 : Hp) :
  BD Tryz.prog 108 [fp,A1 u,.int .i64 ((k + 1 : Nat) : Int),.agg [.int .i64 a,.int .i64 c,.int .i64 lo,.int .i64 hi]] H0 (Sv H0 (if En u ((k + 1 : Nat) : Int) < 0 then [] else [(-1,kn (RE u ((k + 1 : Nat) : Int) c lo hi))])) := by
 refine BN (fn := Tryz.f108) tabOK (by kernel_rfl) rfl (by kernel_rfl) (by simp [Tryz.f108]) ?_
 intro X hX0 hXs
 have hul := hU.len
 have hcle := @Tw u ((k + 1 : Nat) : Int)
 refine Aw 438 fun H1 g8 hs1 => ?_
 have hix := KG (p := fun s : StepT => decide (s.frm ≤ ((k + 1 : Nat) : Int))) u.steps 0
 obtain ⟨i,hi0⟩ : ∃ i,Sk u ((k + 1 : Nat) : Int) = i := ⟨_,rfl⟩
 have hi0' : (u.steps.takeWhile fun s => decide (s.frm ≤ ((k + 1 : Nat) : Int))).length = i := hi0
 rw [hi0'] at hix
 rw [hi0] at hcle
 rcases i with _ | j
 ·have hpn := Ok hU hi0
  have h0 : En u ((k + 1 : Nat) : Int) < 0 := by omega
  rw [if_pos h0]
  by_cases hlt : 0 < u.steps.length
  ·rw [if_pos hlt] at hix
   repeat' (first | with_reducible (first | (refine sk ?_; intro K hK) | apply_assumption -exfalso -symm only [*]) | ((first | (with_reducible first | refine rg (md := { base := 400,own := [38] }) (h := ?_) | refine nx ?_) | refine pK (Dl u.steps (by omega) 110 [.pim [.int .i64 ((k + 1 : Nat) : Int)]] rfl (fun s => !decide (s.frm ≤ ((k + 1 : Nat) : Int))) (fun s _ => Ir s _)) ?_); try simp (disch := omega) only [A1,A5,hix,g8,go_sem,simprocAttr]) | ((with_reducible refine' cE ?hv ?_ ?_); (case hv => rfl); all_goals (intro hc; (try simp only [go_sem,simprocAttr] at hc))) | fail)
   refine AM (Or.inl rfl) (.refl _) (by simp only [Tryz.f108,go_sem,simprocAttr]; rfl) ?_
   exact ⟨fun j hj => hs1 j (by omega),_,.refl _,.inl ⟨rfl,rfl⟩⟩
  ·rw [if_neg hlt] at hix
   have hl0 : u.steps.length = 0 := by omega
   repeat' (first | with_reducible (first | (refine sk ?_; intro K hK) | apply_assumption -exfalso -symm only [*]) | ((first | (with_reducible first | refine rg (md := { base := 400,own := [38] }) (h := ?_) | refine nx ?_) | refine pK (Dl u.steps (by omega) 110 [.pim [.int .i64 ((k + 1 : Nat) : Int)]] rfl (fun s => !decide (s.frm ≤ ((k + 1 : Nat) : Int))) (fun s _ => Ir s _)) ?_); try simp (disch := omega) only [A1,A5,hix,hl0,g8,go_sem,simprocAttr]) | ((with_reducible refine' cE ?hv ?_ ?_); (case hv => rfl); all_goals (intro hc; (try simp only [go_sem,simprocAttr] at hc))) | fail)
   refine AM (Or.inl rfl) (.refl _) (by simp only [Tryz.f108,go_sem,simprocAttr]; rfl) ?_
   exact ⟨fun j hj => hs1 j (by omega),_,.refl _,.inl ⟨rfl,rfl⟩⟩
 ·obtain ⟨s,hs,hps,hs0,hs1000⟩ := Oy hU hi0
  have h0 : ¬ En u ((k + 1 : Nat) : Int) < 0 := by omega
  have hb := M4 (a := c * 840) (q := s.part) (A := 0) (B := 168000000) (C := 1000) (by omega) (by omega) (by omega) (by omega) (by omega) (by omega)
  rw [if_neg h0,RE,hps]
  by_cases hlt : j + 1 < u.steps.length
  ·rw [if_pos hlt] at hix
   have hcx : (0 : Int) + ((j + 1 : Nat) : Int) = ((j + 1 : Nat) : Int) := by omega
   repeat' (first | with_reducible (first | (refine sk ?_; intro K hK) | intro (ep : Nat → Nat) | apply_assumption -exfalso -symm only [*]) | ((first | (with_reducible first | refine rg (md := { base := 400,own := [38] }) (h := ?_) | refine nx ?_) | refine pK (Dl u.steps (by omega) 110 [.pim [.int .i64 ((k + 1 : Nat) : Int)]] rfl (fun s => !decide (s.frm ≤ ((k + 1 : Nat) : Int))) (fun s _ => Ir s _)) ?_ | refine pK (Ka ⟨lo,hi⟩ 1000 (by simp only; omega)) ?_ | refine pK (EJ ⟨lo * 1000,hi * 1000⟩ ⟨c * 840 * 1000 - c * 840 * s.part,c * 840 * 1000 + c * 840 * s.part⟩) ?_); try simp (disch := omega) only [A1,A5,A6,hix,hcx,hs,cStep,g8,go_sem,simprocAttr]) | ((with_reducible refine' cE ?hv ?_ ?_); (case hv => rfl); all_goals (intro hc; (try simp only [go_sem,simprocAttr] at hc); try (exfalso; omega))) | fail)
   refine AM (Or.inl rfl) (.refl _) (by simp only [Tryz.f108,go_sem,simprocAttr]; rfl) ?_
   refine ⟨fun j hj => by rw [A0 _ _ (by omega),A0 _ _ (by omega)]; exact hs1 j (by omega),_,.refl _,.inr ⟨438,_,_,by omega,by omega,rfl,by simp only [go_sem,simprocAttr]; rfl⟩⟩
  ·rw [if_neg hlt] at hix
   have hcx : u.steps.length = j + 1 := by omega
   repeat' (first | with_reducible (first | (refine sk ?_; intro K hK) | intro (ep : Nat → Nat) | apply_assumption -exfalso -symm only [*]) | ((first | (with_reducible first | refine rg (md := { base := 400,own := [38] }) (h := ?_) | refine nx ?_) | refine pK (Dl u.steps (by omega) 110 [.pim [.int .i64 ((k + 1 : Nat) : Int)]] rfl (fun s => !decide (s.frm ≤ ((k + 1 : Nat) : Int))) (fun s _ => Ir s _)) ?_ | refine pK (Ka ⟨lo,hi⟩ 1000 (by simp only; omega)) ?_ | refine pK (EJ ⟨lo * 1000,hi * 1000⟩ ⟨c * 840 * 1000 - c * 840 * s.part,c * 840 * 1000 + c * 840 * s.part⟩) ?_); try simp (disch := omega) only [A1,A5,A6,hix,hcx,hs,cStep,g8,go_sem,simprocAttr]) | ((with_reducible refine' cE ?hv ?_ ?_); (case hv => rfl); all_goals (intro hc; (try simp only [go_sem,simprocAttr] at hc); try (exfalso; omega))) | fail)
   refine AM (Or.inl rfl) (.refl _) (by simp only [Tryz.f108,go_sem,simprocAttr]; rfl) ?_
   refine ⟨fun j hj => by rw [A0 _ _ (by omega),A0 _ _ (by omega)]; exact hs1 j (by omega),_,.refl _,.inr ⟨438,_,_,by omega,by omega,rfl,by simp only [go_sem,simprocAttr]; rfl⟩⟩
end Cp
namespace Cp
open Go Go.Proofs
set_option maxRecDepth 10000
theorem Ts (r : RunT) (hF : RunF r) (u : RulesT) (hU : RulesF u) (k : Nat) (hk : k + 1 ≤ r.rows.length) (nv : List Val) (hnv : nv.length = 4) (H0 : Hp) :
  BD Tryz.prog 113 [.pim (Af r r.rows.length),A1 u,.int .i64 ((k + 1 : Nat) : Int),.agg nv] H0 (Sv H0 (if ((k + 1 : Nat) : Int) < u.pfrom then [] else [(-1,kn (M2 r u ((k + 1 : Nat) : Int)))])) := by
 refine BN (fn := Tryz.f113) tabOK (by kernel_rfl) rfl (by kernel_rfl) (by simp [Tryz.f113]) ?_
 intro X hX0 hXs
 have hrl := hF.rows
 have hg := hF.gauge
 obtain ⟨rest,hrest⟩ := @DF r r.rows.length
 obtain ⟨x,hx⟩ : ∃ x,r.rows[k]? = some x := ⟨_,List.getElem?_eq_getElem (by omega)⟩
 have hxb := hF.row k x hx
 have hpa : FN r ((k + 1 : Nat) : Int) = x.press := by
  unfold FN
  rw [show (((k + 1 : Nat) : Int) - 1).toNat = k by omega,hx]; rfl
 obtain ⟨n0,n1,n2,n3,rfl⟩ : ∃ a b c d,nv = [a,b,c,d] := by
  match nv,hnv with
  | [a,b,c,d],_ => exact ⟨a,b,c,d,rfl⟩
 rw [hrest]
 refine Aw 424 fun H1 g8 hs1 => ?_
 by_cases hp : ((k + 1 : Nat) : Int) < u.pfrom
 ·rw [if_pos hp]
  repeat' (first | with_reducible (first | (refine sk ?_; intro K hK) | apply_assumption -exfalso -symm only [*]) | ((with_reducible first | refine rg (md := { base := 400,own := [24] }) (h := ?_) | refine nx ?_); try simp (disch := omega) only [A1,A5,A7,hp,g8,go_sem,simprocAttr]) | ((with_reducible refine' cE ?hv ?_ ?_); (case hv => rfl); all_goals (intro hc; (try simp only [go_sem,simprocAttr] at hc))) | fail)
  refine AM (Or.inl rfl) (.refl _) (by simp only [Tryz.f113,go_sem,simprocAttr]; rfl) ?_
  exact ⟨fun j hj => hs1 j (by omega),_,.refl _,.inl ⟨rfl,rfl⟩⟩
 ·rw [if_neg hp,M2,hpa]
  repeat' (first | with_reducible (first | (refine sk ?_; intro K hK) | intro (ep : Nat → Nat) | apply_assumption -exfalso -symm only [*]) | ((first | (with_reducible first | (refine SR (id := 4) (l := ?l) tabOK mix { base := 400,own := [24] } [] [] [1,2,3,4,5,6,7,8,9,10,11,12,13,14,15,16,17,18,19,20,0,21,22,23] ?hsz ?hok ?hl ?_; (case hsz => rw [hXs]; decide +kernel); (case hok => decide +kernel); (case hl => simp only [GM,pickO,List.toList_toArray]; rfl)) | refine rg (md := { base := 400,own := [24] }) (h := ?_) | refine nx ?_) | refine pK (EJ ⟨x.press - r.gauge.hi,x.press - r.gauge.lo⟩ u.press) ?_); try simp (disch := omega) only [A1,A5,A7,cRow,A6,hp,hx,g8,go_sem,simprocAttr]) | ((with_reducible refine' cE ?hv ?_ ?_); (case hv => rfl); all_goals (intro hc; (try simp only [go_sem,simprocAttr] at hc))) | fail)
  refine AM (Or.inl rfl) (.refl _) (by simp only [Tryz.f113,go_sem,simprocAttr]; rfl) ?_
  exact ⟨fun j hj => by rw [A0 _ _ (by omega),A0 _ _ (by omega)]; exact hs1 j (by omega),_,.refl _,.inr ⟨424,_,_,by omega,by omega,rfl,by simp only [go_sem,simprocAttr]; rfl⟩⟩
def M5 (r : RunT) (u : RulesT) (m : Int) (i : Nat) : Int × Val := match r.cpls[i]? with | some c => (c.id,kn (JU r u c i m)) | none => (0,kn 0)
theorem FP {r : RunT} {u : RulesT} {m : Int} {i : Nat} {c : Cpl} (h : r.cpls[i]? = some c) : M5 r u m i = (c.id,kn (JU r u c i m)) := by unfold M5; rw [h]
theorem Gk (m : Int) : ∀ (l : List Cpl) (k : Nat),(AX m k l).Pairwise (· < ·)
 | [],k => .nil
 | c :: l,k => by
  have ih := Gk m l (k + 1)
  simp only [AX]
  split
  ·refine .cons (fun j hj => ?_) ih
   obtain ⟨i,_,h,_⟩ := (wkFrom_mem _ _ _ _).1 hj
   omega
  ·exact ih
theorem L7 {r : RunT} {m : Int} : (wk r m).Pairwise (· < ·) := Gk m _ _
structure Laid (r : RunT) (u : RulesT) (m : Int) (es : List (Int × Val)) (left : List Nat) : Prop where
 ex : ∃ done : List Nat,(done ++ left).Perm (List.range (wk r m).length) ∧ es = done.map fun p => M5 r u m ((wk r m).getD p 0)
theorem Laid.start {r : RunT} {u : RulesT} {m : Int} : Laid r u m [] (List.range (wk r m).length) := ⟨[],.refl _,rfl⟩
theorem Laid.step {r : RunT} {u : RulesT} {m : Int} {es : List (Int × Val)} {left : List Nat} (h : Laid r u m es left) (hF : RunF r) {p w : Nat} {c : Cpl} (hp : p ∈ left) (hw : (wk r m)[p]? = some w) (hc : r.cpls[w]? = some c) :
  E2 c.id es 0 = none ∧ Laid r u m (es ++ [(c.id,kn (JU r u c w m))]) (left.erase p) := by
 obtain ⟨done,hperm,rfl⟩ := h.ex
 have hwD : (wk r m).getD p 0 = w := by simp [List.getD,hw]
 refine ⟨Gy fun q hq => ?_,⟨done ++ [p],?_,by rw [List.map_append,List.map_cons,List.map_nil,hwD,FP hc]⟩⟩
 ·obtain ⟨j,hj,rfl⟩ := List.mem_map.1 hq
  have hnd : (done ++ left).Nodup := hperm.nodup_iff.2 List.nodup_range
  have hjp : j ≠ p := fun e => by
   subst e
   exact (List.nodup_append.1 hnd).2.2 _ hj _ hp rfl
  have hjl : j < (wk r m).length := List.mem_range.1 (hperm.mem_iff.1 (List.mem_append_left _ hj))
  have hpl : p < (wk r m).length := (List.getElem?_eq_some_iff.1 hw).1
  obtain ⟨w2,hw2⟩ : ∃ w2,(wk r m)[j]? = some w2 := ⟨_,List.getElem?_eq_getElem hjl⟩
  have hw2D : (wk r m).getD j 0 = w2 := by simp [List.getD,hw2]
  obtain ⟨c2,hc2,_⟩ := J4.1 (List.mem_of_getElem? hw2)
  rw [hw2D,FP hc2]
  have hs := List.pairwise_iff_getElem.1 (L7 (r := r) (m := m))
  obtain ⟨e1,rfl⟩ := List.getElem?_eq_some_iff.1 hw
  obtain ⟨e2,rfl⟩ := List.getElem?_eq_some_iff.1 hw2
  rcases Nat.lt_or_gt_of_ne hjp with hlt | hlt
  ·have := hF.ids _ _ _ _ (hs j p e2 e1 hlt) hc2 hc; simp only; omega
  ·have := hF.ids _ _ _ _ (hs p j e1 e2 hlt) hc hc2; simp only; omega
 ·refine .trans ?_ hperm
  rw [List.append_assoc]
  exact .append_left _ (List.perm_cons_erase hp).symm
theorem Laid.stop {r : RunT} {u : RulesT} {m : Int} {es : List (Int × Val)} (h : Laid r u m es []) : es.Perm ((wk r m).map (M5 r u m)) := by
 obtain ⟨done,hperm,rfl⟩ := h.ex
 rw [List.append_nil] at hperm
 refine (hperm.map _).trans ?_
 have : (List.range (wk r m).length).map (fun p => M5 r u m ((wk r m).getD p 0)) = (wk r m).map (M5 r u m) := by
  apply List.ext_getElem?
  intro i
  rw [List.getElem?_map,List.getElem?_map]
  by_cases hi : i < (wk r m).length
  ·rw [List.getElem?_range hi]; simp [List.getD,hi]
  ·rw [List.getElem?_eq_none (by simp; omega),List.getElem?_eq_none (by omega)]; rfl
 rw [this]
theorem Laid.mem {r : RunT} {u : RulesT} {m : Int} {es : List (Int × Val)} {left : List Nat} (h : Laid r u m es left) : ∀ p ∈ left,p < (wk r m).length := by
 obtain ⟨done,hperm,rfl⟩ := h.ex
 exact fun p hp => List.mem_range.1 (hperm.mem_iff.1 (List.mem_append_right _ hp))
theorem V4 (r : RunT) (hF : RunF r) (u : RulesT) (hU : RulesF u) (k : Nat) (hk : k + 1 ≤ r.rows.length) (hd : 0 ≤ Bv r.curve ((k + 1 : Nat) : Int) ∧ Bv r.curve ((k + 1 : Nat) : Int) ≤ 2000) (b c d : Int) (H0 : Hp) (hroom0 : F4 H0 1000 100) :
  BD Tryz.prog 112 [.pim (Af r r.rows.length),A1 u,.int .i64 ((k + 1 : Nat) : Int),.agg [.int .i64 (Bv r.curve ((k + 1 : Nat) : Int)),.int .i64 b,.int .i64 c,.int .i64 d]] H0
   (Sv H0 (if ((k + 1 : Nat) : Int) < u.sfrom then [] else (wk r ((k + 1 : Nat) : Int)).map (M5 r u ((k + 1 : Nat) : Int)))) := by
 refine BN (fn := Tryz.f112) tabOK (by kernel_rfl) rfl (by kernel_rfl) (by simp [Tryz.f112]) ?_
 intro X hX0 hXs
 have hrl := hF.rows
 have hcl := hF.cpls
 have hus := hU.single
 obtain ⟨rest,hrest⟩ := @DF r r.rows.length
 rw [hrest]
 refine Aw 411 fun H1 g11 hs1 => ?_
 refine Aw 420 fun H2 g20 hs2 => ?_
 have g11' : H2 411 = none := by rw [hs2 _ (by decide),g11]
 have hlow : ∀ j,j < 400 → H2 j = H0 j := fun j hj => by rw [hs2 _ (by omega),hs1 _ (by omega)]
 have hroom : F4 H2 1000 100 := fun d hd => by rw [hs2 _ (by omega),hs1 _ (by omega)]; exact hroom0 d hd
 clear hs1 hs2 g11 hroom0
 by_cases hp : ((k + 1 : Nat) : Int) < u.sfrom
 ·rw [if_pos hp]
  repeat' (first | with_reducible (first | (refine sk ?_; intro K hK) | intro (ep : Nat → Nat) | apply_assumption -exfalso -symm only [*]) | ((with_reducible first | refine rgL [] [38] (md := { base := 400,own := [11,20],imp := [19] }) (h := ?_) | refine nx ?_); try simp (disch := omega) only [A1,A5,A7,hp,g11',g20,go_sem,simprocAttr]) | ((with_reducible refine' cE ?hv ?_ ?_); (case hv => rfl); all_goals (intro hc; (try simp only [go_sem,simprocAttr] at hc))) | fail)
  refine AM (Or.inl rfl) (.refl _) (by simp only [Tryz.f112,go_sem,simprocAttr]; rfl) ?_
  exact ⟨fun j hj => by rw [A0 _ _ (by omega)]; exact hlow j hj,_,.refl _,.inr ⟨411,_,_,by omega,by omega,rfl,by simp only [go_sem,simprocAttr]; rfl⟩⟩
 ·rw [if_neg hp]
  repeat' (first | with_reducible (first | (refine sk ?_; intro K hK) | intro (ep : Nat → Nat) | apply_assumption -exfalso -symm only [*]) | ((with_reducible first | refine rgL [] [38] (md := { base := 400,own := [11,20],imp := [19] }) (h := ?_) | refine nx ?_); try simp (disch := omega) only [A1,A5,A7,hp,g11',g20,go_sem,simprocAttr]) | ((with_reducible refine' cE ?hv ?_ ?_); (case hv => rfl); all_goals (intro hc; (try simp only [go_sem,simprocAttr] at hc))) | refine iK (JQ r hF rest _ _ (.inl rfl) _) ?_ | fail)
  rintro v H3 ⟨em,ver,rfl,hmap,hs3⟩
  have g20' : H3 420 = none := by rw [hs3 _ (by decide),A0 _ _ (by decide),g20]
  have hlow' : ∀ j,j < 400 → H3 j = H0 j := fun j hj => by rw [hs3 _ (by omega),A0 _ _ (by omega)]; exact hlow j hj
  have hroom' : F4 H3 1000 100 := fun d hd => by rw [hs3 _ (by omega),A0 _ _ (by omega)]; exact hroom d hd
  have hH11 := (hs3 411 (by decide)).trans (A4 _ _ _)
  clear hs3 g20 hlow hroom g11'
  have hwl := @JY r ((k + 1 : Nat) : Int)
  simp only [hmap,g20',go_sem,simprocAttr]
  repeat' (first | with_reducible (first | intro (ep : Nat → Nat) | apply_assumption -exfalso -symm only [*]) | fail)
  refine An (AK (fun n f H => ∃ left : List Nat,n = left.length ∧ (f 0 = .pim (A7 r ++ rest) ∧ f 2 = .int .i64 ((k + 1 : Nat) : Int) ∧ f 5 = .pim (A5 u) ∧ f 7 = .pim [.int .i64 (Bv r.curve ((k + 1 : Nat) : Int)),.int .i64 b,.int .i64 c,.int .i64 d] ∧ H 2009 = some (em,.map ver (CH .i64 (tl (wk r ((k + 1 : Nat) : Int)))))) ∧ F4 H 1000 100 ∧ (∀ j,j < 400 → H j = H0 j) ∧
    ∃ e9 e20 cur v11 es,f 9 = .map 411 e9 ∧ H 411 = some (e9,.map v11 (CH .i64 es)) ∧ f 20 = .itr 420 e20 ∧ H 420 = some (e20,.itr 2009 em ver left cur) ∧ Laid r u ((k + 1 : Nat) : Int) es left) (wk r ((k + 1 : Nat) : Int)).length
   ⟨List.range (wk r ((k + 1 : Nat) : Int)).length,by simp,by (and_intros <;> first | rfl | (simp only [hmap,A7,A5,go_sem,simprocAttr]; done) | (simp only [hmap,A7,A5,go_sem,simprocAttr]; rfl)),fun d hd => by simp only [go_sem,simprocAttr]; rw [if_neg (by omega)]; exact hroom' d hd,fun j hj => by simp only [go_sem,simprocAttr]; rw [if_neg (by omega)]; exact hlow' j hj,_,_,_,_,[],by (first | rfl | (simp only [go_sem,simprocAttr]; done) | (simp only [go_sem,simprocAttr]; rfl)),by (first | rfl | (simp only [hH11,go_sem,simprocAttr]; done) | (simp only [hH11,go_sem,simprocAttr]; rfl)),by (first | rfl | (simp only [go_sem,simprocAttr]; done) | (simp only [go_sem,simprocAttr]; rfl)),by (first | rfl | (simp only [go_sem,simprocAttr]; done) | (simp only [go_sem,simprocAttr]; rfl)),Laid.start⟩ ?_)
  clear g20' hmap hroom' hlow' hH11
  rintro n f H ⟨left,rfl,⟨h0,h2,h5,h7,hmap⟩,hroom,hlow,e9,e20,cur,v11,es,h9,hH11,h20,hH20,hL⟩
  have hm1 : (1 : Int) ≤ ((k + 1 : Nat) : Int) ∧ ((k + 1 : Nat) : Int) ≤ r.rows.length := by omega
  repeat' (first | with_reducible (refine sk ?_; intro K hK) | ((with_reducible refine E1 (id := 5) tabOK { base := 400,own := [11,20],imp := [19] } [] [38] (by rw [hXs]; decide +kernel) ?_); try simp (disch := omega) only [h0,h2,h5,h7,h9,h20,hH11,hH20,hmap,A7,A5,go_sem,simprocAttr]) | fail)
  refine ⟨fun hl => ?_,fun p hp a v hav => ?_⟩
  ·subst hl
   repeat' (first | with_reducible (first | (refine sk ?_; intro K hK) | apply_assumption -exfalso -symm only [*]) | ((with_reducible first | refine rgL [] [38] (md := { base := 400,own := [11,20],imp := [19] }) (h := ?_) | refine nx ?_); try simp (disch := omega) only [h0,h2,h5,h7,h9,h20,hH11,hH20,hmap,A7,A5,go_sem,simprocAttr]) | ((with_reducible refine' cE ?hv ?_ ?_); (case hv => rfl); all_goals (intro hc; (try simp only [go_sem,simprocAttr] at hc))) | fail)
   refine AM (Or.inl rfl) (.refl _) (by simp only [Tryz.f112,h9,go_sem,simprocAttr]; rfl) ?_
   exact ⟨hlow,es,hL.stop,.inr ⟨411,_,_,by omega,by omega,rfl,hH11⟩⟩
  ·obtain ⟨w,hw⟩ : ∃ w,(wk r ((k + 1 : Nat) : Int))[p]? = some w := ⟨_,List.getElem?_eq_getElem (hL.mem p hp)⟩
   obtain ⟨cc,hcc,hwk⟩ := J4.1 (List.mem_of_getElem? hw)
   obtain ⟨hnew,hL'⟩ := hL.step hF hp hw hcc
   have htb := EQ hF hcc hm1.1 hm1.2 hwk
   have hle := List.length_erase_of_mem hp
   have hpos := List.length_pos_of_mem hp
   have hg : (tl (wk r ((k + 1 : Nat) : Int)))[p]? = some ((w : Int),.bool true) := by rw [SI,hw]; rfl
   rw [hg] at hav
   simp only [Option.map_some,Option.some.injEq,Prod.mk.injEq] at hav
   obtain ⟨rfl,rfl⟩ := hav
   repeat' (first | with_reducible (first | (refine sk ?_; intro K hK) | refine bk ?_ | apply_assumption -exfalso -symm only [*]) | ((with_reducible first | refine E1 (id := 6) tabOK { base := 400,own := [11,20],imp := [19] } [] [38] (by rw [hXs]; decide +kernel) ?_ | refine nx ?_); try simp (disch := omega) only [h0,h2,h5,h7,h9,h20,hH11,hH20,hmap,hg,A7,A5,go_sem,simprocAttr]) | ((with_reducible refine' cE ?hv ?_ ?_); (case hv => rfl); all_goals (intro hc; (try simp only [go_sem,simprocAttr] at hc))) | fail)
   refine ⟨_,_,rfl,?_⟩
   have hroom2 : ∀ q,F4 (upd H 420 q) 1000 100 := fun q d hd => by rw [A0 _ _ (by omega)]; exact hroom d hd
   repeat' (first | with_reducible (first | intro (ep : Nat → Nat) | apply_assumption -exfalso -symm only [*]) | ((first | (with_reducible refine rgL [] [38] (md := { base := 400,own := [11,20],imp := [19] }) (h := ?_)) | refine pK (EJ (Df r cc w _) ⟨Bv r.curve ((k + 1 : Nat) : Int) - u.single,Bv r.curve ((k + 1 : Nat) : Int) + u.single⟩) ?_ | refine lK (Ke r hF rest _ _ (.inl rfl) (hroom2 _) w cc hcc _ hm1 hwk) ?_); try simp (disch := omega) only [h0,h2,h5,h7,h9,h20,hH11,hH20,hmap,hg,hcc,hnew,A7,A5,cCpl,A6,go_sem,simprocAttr]) | fail)
   exact ⟨(left.erase p).length,by omega,left.erase p,rfl,fun d hd => by rw [A0 _ _ (by omega)]; exact hroom2 _ d hd,fun j hj => by rw [if_neg (by omega),if_neg (by omega)]; exact hlow j hj,_,_,_,_,_,rfl,by rw [IB]; rfl,rfl,rfl,hL'⟩
end Cp
namespace Cp
open Go
def kOf : Val → Int
 | .int _ n => n
 | _ => 0
def toB (m q : Int) (es : List (Int × Val)) : List Brc := es.flatMap fun p => Fg m q p.1 (kOf p.2)
theorem Nl {m q : Int} {es X : List (Int × Val)} (h : es.Perm X) : (toB m q es).Perm (toB m q X) := by
 unfold toB; exact h.flatMap_right _
def lfE (es : List (Int × Val)) (left : List Nat) : List (Int × Val) := left.map fun p => es.getD p (0,kn 0)
theorem TJ {es : List (Int × Val)} : lfE es (List.range es.length) = es := by
 unfold lfE
 apply List.ext_getElem?
 intro i
 rw [List.getElem?_map]
 by_cases h : i < es.length
 ·rw [List.getElem?_range h]; simp [List.getD,h]
 ·rw [List.getElem?_eq_none (by simp; omega),List.getElem?_eq_none (by omega)]; rfl
theorem R7 {m q : Int} {es : List (Int × Val)} {left : List Nat} {p : Nat} {c n : Int} (hp : p ∈ left) (he : es[p]? = some (c,kn n)) {l B : List Brc} (h : (l ++ toB m q (lfE es left)).Perm B) :
  ((l ++ Fg m q c n) ++ toB m q (lfE es (left.erase p))).Perm B := by
 refine .trans ?_ h
 rw [List.append_assoc]
 refine .append_left _ ?_
 have e := (List.perm_cons_erase hp).map fun p => es.getD p (0,kn 0)
 have e2 := Nl (m := m) (q := q) e.symm
 have e3 : es.getD p (0,kn 0) = (c,kn n) := by simp [List.getD,he]
 rw [List.map_cons,e3] at e2
 exact e2
def VG (X : List (Int × Val)) : Prop := ∀ p ∈ X,∃ n,p.2 = kn n ∧ 0 ≤ n ∧ n ≤ 255
theorem Ie {m q c n : Int} : (Fg m q c n).length ≤ 1 := by unfold Fg; split <;> simp
theorem L4 {r : RunT} {u : RulesT} {m : Int} : ∀ (l : List Nat),(Fc r u m l).length ≤ l.length
 | [] => by simp [Fc]
 | i :: l => by
  have ih := L4 (r := r) (u := u) (m := m) l
  have : (Ku r u m i).length ≤ 1 := by unfold Ku; split; exact Ie; simp
  simp only [Fc,List.length_append,List.length_cons]; omega
theorem MH {r : RunT} {u : RulesT} {k : Nat} (hF : RunF r) : (M0 r u k).length ≤ 11 := by
 have h1 := hF.cpls
 have h2 := @JY r (k : Int)
 have h3 := L4 (r := r) (u := u) (m := (k : Int)) (wk r (k : Int))
 have h4 : (DA r (k : Int)).length ≤ 1 := by unfold DA; split <;> simp
 have h5 : (Fw r u (k : Int)).length ≤ 8 := by unfold Fw; split; simp; omega
 have h6 : (Dx r u (k : Int)).length ≤ 1 := by unfold Dx; split; simp; exact Ie
 have h7 := @Ie (k : Int) 2 (-1) (MK r u k)
 simp only [M0,List.length_append]; omega
theorem FZ {r : RunT} {u : RulesT} (hF : RunF r) : ∀ (k : Nat),(DG r u k).length ≤ 11 * k
 | 0 => by simp [DG]
 | k + 1 => by
  have ih := FZ (u := u) hF k
  have := MH (u := u) (k := k + 1) hF
  simp only [DG,List.length_append]; omega
theorem Rk {r : RunT} {u : RulesT} {m : Int} : ∀ (l : List Nat),(∀ i ∈ l,∃ c,r.cpls[i]? = some c) → toB m 3 (l.map (M5 r u m)) = Fc r u m l
 | [],_ => rfl
 | i :: l,h => by
  obtain ⟨c,hc⟩ := h i (by simp)
  have ih := Rk (r := r) (u := u) (m := m) l fun j hj => h j (by simp [hj])
  simp only [toB,List.map_cons,List.flatMap_cons,Fc,Ku,hc,FP hc] at ih ⊢
  rw [ih]; rfl
def D0 (r : RunT) (u : RulesT) (k : Nat) : Nat → List (Int × Val)
 | 0 => if wk r ((k + 1 : Nat) : Int) = [] then [(-1,kn 2)] else []
 | 1 => if En u ((k + 1 : Nat) : Int) < 0 then [] else [(-1,kn (RE u ((k + 1 : Nat) : Int) (E0 r (k + 1)) (Dc r (k + 1)) (Da r (k + 1))))]
 | 2 => if ((k + 1 : Nat) : Int) < u.sfrom then [] else (wk r ((k + 1 : Nat) : Int)).map (M5 r u ((k + 1 : Nat) : Int))
 | 3 => if ((k + 1 : Nat) : Int) < u.pfrom then [] else [(-1,kn (M2 r u ((k + 1 : Nat) : Int)))]
 | _ => []
theorem TQ {r : RunT} {u : RulesT} {k i : Nat} : VG (D0 r u k i) := by
 intro p hp
 have one : ∀ n,0 ≤ n → n ≤ 255 → p ∈ [((-1 : Int),kn n)] → ∃ n,p.2 = kn n ∧ 0 ≤ n ∧ n ≤ 255 := fun n h1 h2 h => by
  simp at h; subst h; exact ⟨n,rfl,h1,h2⟩
 match i with
 | 0 => simp only [D0] at hp; split at hp; exact one 2 (by omega) (by omega) hp; simp at hp
 | 1 =>
  simp only [D0] at hp; split at hp
  ·simp at hp
  ·have := @JI ⟨Dc r (k + 1) * 1000,Da r (k + 1) * 1000⟩ ⟨E0 r (k + 1) * 840 * 1000 - E0 r (k + 1) * 840 * En u ((k + 1 : Nat) : Int),E0 r (k + 1) * 840 * 1000 + E0 r (k + 1) * 840 * En u ((k + 1 : Nat) : Int)⟩
   exact one _ this.1 (by omega) hp
 | 2 =>
  simp only [D0] at hp; split at hp
  ·simp at hp
  ·obtain ⟨j,hj,rfl⟩ := List.mem_map.1 hp
   obtain ⟨c,hc,_⟩ := J4.1 hj
   rw [FP hc]
   have := @JI (Df r c j ((k + 1 : Nat) : Int)) ⟨Bv r.curve ((k + 1 : Nat) : Int) - u.single,Bv r.curve ((k + 1 : Nat) : Int) + u.single⟩
   exact ⟨_,rfl,this.1,by simp only [JU]; omega⟩
 | 3 =>
  simp only [D0] at hp; split at hp
  ·simp at hp
  ·have := @JI ⟨FN r ((k + 1 : Nat) : Int) - r.gauge.hi,FN r ((k + 1 : Nat) : Int) - r.gauge.lo⟩ u.press
   exact one _ this.1 (by omega) hp
 | i + 4 => simp [D0] at hp
def Gb (r : RunT) (u : RulesT) (k : Nat) : Nat → List Brc
 | 0 => []
 | i + 1 => Gb r u k i ++ toB ((k + 1 : Nat) : Int) ((i + 1 : Nat) : Int) (D0 r u k i)
theorem NN {r : RunT} {u : RulesT} {k : Nat} : Gb r u k 4 = M0 r u (k + 1) := by
 have one : ∀ m q n : Int,toB m q [((-1 : Int),kn n)] = Fg m q (-1) n := fun m q n => by simp [toB,kn,kOf]
 have nil : ∀ m q : Int,toB m q [] = [] := fun m q => rfl
 have e1 : toB ((k + 1 : Nat) : Int) 1 (D0 r u k 0) = DA r ((k + 1 : Nat) : Int) := by
  simp only [D0,DA]; split
  ·rw [one]; rfl
  ·rfl
 have e2 : toB ((k + 1 : Nat) : Int) 2 (D0 r u k 1) = Fg ((k + 1 : Nat) : Int) 2 (-1) (MK r u (k + 1)) := by
  simp only [D0,MK]; split
  ·rfl
  ·rw [one]; rfl
 have e3 : toB ((k + 1 : Nat) : Int) 3 (D0 r u k 2) = Fw r u ((k + 1 : Nat) : Int) := by
  simp only [D0,Fw]; split
  ·rfl
  ·exact Rk _ fun i hi => by obtain ⟨c,hc,_⟩ := J4.1 hi; exact ⟨c,hc⟩
 have e4 : toB ((k + 1 : Nat) : Int) 4 (D0 r u k 3) = Dx r u ((k + 1 : Nat) : Int) := by
  simp only [D0,Dx]; split
  ·rfl
  ·rw [one]
 show ((([] ++ toB _ _ _) ++ toB _ _ _) ++ toB _ _ _) ++ toB _ _ _ = _
 rw [List.nil_append]
 have e5 : toB ((k + 1 : Nat) : Int) ((0 + 1 : Nat) : Int) (D0 r u k 0) = _ := e1
 have e6 : toB ((k + 1 : Nat) : Int) ((1 + 1 : Nat) : Int) (D0 r u k 1) = _ := e2
 have e7 : toB ((k + 1 : Nat) : Int) ((2 + 1 : Nat) : Int) (D0 r u k 2) = _ := e3
 have e8 : toB ((k + 1 : Nat) : Int) ((3 + 1 : Nat) : Int) (D0 r u k 3) = _ := e4
 rw [e5,e6,e7,e8]; rfl
theorem QU {r : RunT} {u : RulesT} {k : Nat} (hF : RunF r) {i : Nat} (hi : i ≤ 4) : (Gb r u k i).length ≤ 11 := by
 have h := MH (u := u) (k := k + 1) hF
 rw [← NN] at h
 have e : (Gb r u k 4).length = (Gb r u k 3).length + _ := List.length_append
 have e2 : (Gb r u k 3).length = (Gb r u k 2).length + _ := List.length_append
 have e3 : (Gb r u k 2).length = (Gb r u k 1).length + _ := List.length_append
 have e4 : (Gb r u k 1).length = (Gb r u k 0).length + _ := List.length_append
 obtain rfl | rfl | rfl | rfl | rfl : i = 0 ∨ i = 1 ∨ i = 2 ∨ i = 3 ∨ i = 4 := by omega
 all_goals omega
theorem Rj {P : Program} {ro : Option Nat} {X : Cx} {c : Code} {Q : Exit → Fr → Hp → Prop} {f : Fr} {H : Hp} (n : Nat) (h : ∀ H' : Hp,(∀ j,j < n → H' j = H j) → (∀ j,n ≤ j → H' j = none) → AW P ro X c Q f H') : AW P ro X c Q f H :=
 Jw (fun j => if j < n then H j else none) (fun j => by
  by_cases hj : j < n
  ·exact .inr (if_pos hj)
  ·exact .inl (if_neg hj)) (h _ (fun j hj => if_pos hj) fun j hj => if_neg (by omega))
def AllL (e6 : Nat) (l : List Brc) (H : Hp) : Prop := (l = [] ∧ H 6 = some (e6,.arr 1 [[.nils]])) ∨ l ≠ [] ∧ ∃ ea,H 6 = some (e6,.arr 1 [[.gr 355 ea l.length]]) ∧ H 355 = some (ea,.arr 4 (l.map cBrc))
theorem AllL.same {e6 : Nat} {l : List Brc} {H H' : Hp} (h : AllL e6 l H) (h6 : H' 6 = H 6) (h355 : H' 355 = H 355) : AllL e6 l H' := by
 unfold AllL; rw [h6,h355]; exact h
theorem Pe {m q : Int} : ∀ (es : List (Int × Val)),(toB m q es).length ≤ es.length
 | [] => by simp [toB]
 | p :: es => by
  have ih := Pe (m := m) (q := q) es
  have h1 := @Ie m q p.1 (kOf p.2)
  simp only [toB,List.flatMap_cons,List.length_append,List.length_cons] at ih ⊢
  omega
theorem R9 {r : RunT} {u : RulesT} {k i : Nat} (hF : RunF r) : (D0 r u k i).length ≤ 8 := by
 have h1 := hF.cpls
 have h2 := @JY r ((k + 1 : Nat) : Int)
 match i with
 | 0 => simp only [D0]; split <;> simp
 | 1 => simp only [D0]; split <;> simp
 | 2 =>
  simp only [D0]
  split
  ·simp
  ·simp only [List.length_map]; omega
 | 3 => simp only [D0]; split <;> simp
 | i + 4 => simp [D0]
end Cp
namespace Cp
open Go Go.Proofs
set_option maxRecDepth 10000
def chkV : List (List Val) := [[kn 1,.fn 107 []],[kn 2,.fn 108 []],[kn 3,.fn 112 []],[kn 4,.fn 113 []]]
theorem checks_ok : PureC Tryz.prog 82 [] (.lst 2 chkV) := by
 refine A8 (fn := Tryz.f82) tabOK (by kernel_rfl) rfl (by kernel_rfl) (by simp [Tryz.f82]) (by simp [noids,noid,noidss,go_sem,chkV,kn]) (by first | rfl | simp [noids,noid,noidss,go_sem,chkV,kn]) ?_
 intro X hX0 hXs
 repeat' (first | with_reducible (first | (refine sk ?_; intro K hK) | apply_assumption -exfalso -symm only [*]) | ((with_reducible first | refine rg (h := ?_) | refine nx ?_); try simp (disch := omega) only [chkV,kn,go_sem,simprocAttr]) | ((with_reducible refine fe ?_); refine ⟨_,(by simp only [Tryz.f82,chkV,kn,go_sem,simprocAttr]; rfl),?_⟩; rfl) | fail)
theorem Oi (cs : List Val) (hcs : noids cs = true) : PureC Tryz.prog 81 [.pim cs] (.fn 105 [.pim [.pim cs]]) := by
 refine A8 (fn := Tryz.f81) tabOK (by kernel_rfl) rfl (by kernel_rfl) (by simp [Tryz.f81]) (by simp [noids,noid,noidss,go_sem,hcs]) (by first | rfl | simp [noids,noid,noidss,go_sem,hcs]) ?_
 intro X hX0 hXs
 repeat' (first | with_reducible (first | (refine sk ?_; intro K hK) | apply_assumption -exfalso -symm only [*]) | ((with_reducible first | refine rg (h := ?_) | refine nx ?_); try simp (disch := omega) only [hcs,go_sem,simprocAttr]) | ((with_reducible refine fe ?_); refine ⟨_,(by simp only [Tryz.f81,hcs,go_sem,simprocAttr]; rfl),?_⟩; rfl) | fail)
theorem Po (b : Brc) : PureC Tryz.prog 86 [.agg (cBrc b)] (.int .i64 b.m) := by
 refine A8 (fn := Tryz.f86) tabOK (by kernel_rfl) rfl (by kernel_rfl) (by simp [Tryz.f86]) (by simp [noids,noid,noidss,go_sem,cBrc]) (by first | rfl | simp [noids,noid,noidss,go_sem,cBrc]) ?_
 intro X hX0 hXs
 repeat' (first | with_reducible (first | (refine sk ?_; intro K hK) | apply_assumption -exfalso -symm only [*]) | ((with_reducible first | refine rg (h := ?_) | refine nx ?_); try simp (disch := omega) only [cBrc,go_sem,simprocAttr]) | ((with_reducible refine fe ?_); refine ⟨_,(by simp only [Tryz.f86,cBrc,go_sem,simprocAttr]; rfl),?_⟩; rfl) | fail)
theorem Pc (b : Brc) (h : 0 ≤ b.kind ∧ b.kind ≤ 255) : PureC Tryz.prog 87 [.agg (cBrc b)] (.int .i64 b.kind) := by
 refine A8 (fn := Tryz.f87) tabOK (by kernel_rfl) rfl (by kernel_rfl) (by simp [Tryz.f87]) (by simp [noids,noid,noidss,go_sem,cBrc]) (by first | rfl | simp [noids,noid,noidss,go_sem,cBrc]) ?_
 intro X hX0 hXs
 repeat' (first | with_reducible (first | (refine sk ?_; intro K hK) | apply_assumption -exfalso -symm only [*]) | ((with_reducible first | refine rg (h := ?_) | refine nx ?_); try simp (disch := omega) only [cBrc,go_sem,simprocAttr]) | ((with_reducible refine fe ?_); refine ⟨_,(by simp only [Tryz.f87,cBrc,go_sem,simprocAttr]; rfl),?_⟩; rfl) | fail)
theorem Pv (b : Brc) : PureC Tryz.prog 88 [.agg (cBrc b)] (.int .i64 b.cpl) := by
 refine A8 (fn := Tryz.f88) tabOK (by kernel_rfl) rfl (by kernel_rfl) (by simp [Tryz.f88]) (by simp [noids,noid,noidss,go_sem,cBrc]) (by first | rfl | simp [noids,noid,noidss,go_sem,cBrc]) ?_
 intro X hX0 hXs
 repeat' (first | with_reducible (first | (refine sk ?_; intro K hK) | apply_assumption -exfalso -symm only [*]) | ((with_reducible first | refine rg (h := ?_) | refine nx ?_); try simp (disch := omega) only [cBrc,go_sem,simprocAttr]) | ((with_reducible refine fe ?_); refine ⟨_,(by simp only [Tryz.f88,cBrc,go_sem,simprocAttr]; rfl),?_⟩; rfl) | fail)
def KO (a b : Brc) : Int := if Fe a.m b.m ≠ 0 then Fe a.m b.m else if Fe a.kind b.kind ≠ 0 then Fe a.kind b.kind else Fe a.cpl b.cpl
def keysV : List (List Val) := [[.fn 86 []],[.fn 87 []],[.fn 88 []]]
theorem aC (a b : Brc) (ha : 0 ≤ a.kind ∧ a.kind ≤ 255) (hb : 0 ≤ b.kind ∧ b.kind ≤ 255) : PureC Tryz.prog 85 [.agg (cBrc a),.agg (cBrc b),.lst 1 keysV] (.int .i64 (KO a b)) := by
 have k1 := Po a
 have k2 := Pc a ha
 have k3 := Pv a
 have l1 := Po b
 have l2 := Pc b hb
 have l3 := Pv b
 simp only [cBrc] at k1 k2 k3 l1 l2 l3
 refine A8 (fn := Tryz.f85) tabOK (by kernel_rfl) rfl (by kernel_rfl) (by simp [Tryz.f85]) (by simp [noids,noid,noidss,go_sem,cBrc,keysV]) (by first | rfl | simp [noids,noid,noidss,go_sem,cBrc,keysV]) ?_
 intro X hX0 hXs
 repeat' (first | with_reducible (first | (refine sk ?_; intro K hK) | apply_assumption -exfalso -symm only [*]) | ((with_reducible refine rg (h := ?_)); try simp (disch := omega) only [cBrc,keysV,go_sem,simprocAttr]) | fail)
 refine Av tabOK 3 (fun k f H => (f 3 = .pim (cBrc a) ∧ f 4 = .pim (cBrc b) ∧ f 10 = .lst 1 keysV ∧ H = none0) ∧ (k = 0 ∨ Fe a.m b.m = 0) ∧ (k ≤ 1 ∨ Fe a.kind b.kind = 0) ∧ (k ≤ 2 ∨ Fe a.cpl b.cpl = 0)) (by omega) (by rw [hXs]; decide) (by decide) (by simp only [go_sem,simprocAttr]) (by (first | rfl | (simp only [go_sem,simprocAttr]; done) | (simp only [go_sem,simprocAttr]; rfl)))
  ⟨by (and_intros <;> first | rfl | (simp only [cBrc,keysV,go_sem,simprocAttr]; done) | (simp only [cBrc,keysV,go_sem,simprocAttr]; rfl)),by simp,by simp,by simp⟩ ?_ ?_
 ·rintro k f H hk h12 h11 ⟨⟨h3,h4,h10,rfl⟩,q1,q2,q3⟩
  obtain rfl | rfl | rfl : k = 0 ∨ k = 1 ∨ k = 2 := by omega
  ·repeat' (first | with_reducible (first | (refine sk ?_; intro K hK) | apply_assumption -exfalso -symm only [*]) | ((first | (with_reducible first | refine rg (h := ?_) | refine nx ?_) | refine pK (k1) ?_ | refine pK (l1) ?_ | refine pK (EI _ _) ?_); try simp (disch := omega) only [h3,h4,h10,h11,h12,cBrc,keysV,go_sem,simprocAttr]) | ((with_reducible refine' cE ?hv ?_ ?_); (case hv => rfl); all_goals (intro hc; (try simp only [go_sem,simprocAttr] at hc))) | ((with_reducible refine fe ?_); refine ⟨_,(by simp only [Tryz.f85,h3,h4,h10,h11,h12,cBrc,keysV,go_sem,simprocAttr]; rfl),?_⟩; (try simp only [h3,h4,h10,h11,h12,cBrc,keysV,go_sem,simprocAttr,seval])) | fail)
   ·unfold KO; rw [if_pos hc]
   ·exact .inr hc
  ·repeat' (first | with_reducible (first | (refine sk ?_; intro K hK) | apply_assumption -exfalso -symm only [*]) | ((first | (with_reducible first | refine rg (h := ?_) | refine nx ?_) | refine pK (k2) ?_ | refine pK (l2) ?_ | refine pK (EI _ _) ?_); try simp (disch := omega) only [h3,h4,h10,h11,h12,cBrc,keysV,go_sem,simprocAttr]) | ((with_reducible refine' cE ?hv ?_ ?_); (case hv => rfl); all_goals (intro hc; (try simp only [go_sem,simprocAttr] at hc))) | ((with_reducible refine fe ?_); refine ⟨_,(by simp only [Tryz.f85,h3,h4,h10,h11,h12,cBrc,keysV,go_sem,simprocAttr]; rfl),?_⟩; (try simp only [h3,h4,h10,h11,h12,cBrc,keysV,go_sem,simprocAttr,seval])) | fail)
   ·unfold KO; rw [if_neg (by simp [q1.resolve_left (by omega)]),if_pos hc]
   ·exact ⟨.inr (q1.resolve_left (by omega)),.inr hc⟩
  ·repeat' (first | with_reducible (first | (refine sk ?_; intro K hK) | apply_assumption -exfalso -symm only [*]) | ((first | (with_reducible first | refine rg (h := ?_) | refine nx ?_) | refine pK (k3) ?_ | refine pK (l3) ?_ | refine pK (EI _ _) ?_); try simp (disch := omega) only [h3,h4,h10,h11,h12,cBrc,keysV,go_sem,simprocAttr]) | ((with_reducible refine' cE ?hv ?_ ?_); (case hv => rfl); all_goals (intro hc; (try simp only [go_sem,simprocAttr] at hc))) | ((with_reducible refine fe ?_); refine ⟨_,(by simp only [Tryz.f85,h3,h4,h10,h11,h12,cBrc,keysV,go_sem,simprocAttr]; rfl),?_⟩; (try simp only [h3,h4,h10,h11,h12,cBrc,keysV,go_sem,simprocAttr,seval])) | fail)
   ·unfold KO; rw [if_neg (by simp [q1.resolve_left (by omega)]),if_neg (by simp [q2.resolve_left (by omega)])]
   ·exact ⟨.inr (q1.resolve_left (by omega)),.inr (q2.resolve_left (by omega)),.inr hc⟩
 ·rintro f H h12 h11 ⟨⟨h3,h4,h10,rfl⟩,q1,q2,q3⟩
  repeat' (first | with_reducible (first | (refine sk ?_; intro K hK) | apply_assumption -exfalso -symm only [*]) | ((with_reducible first | refine rg (h := ?_) | refine nx ?_); try simp (disch := omega) only [h3,h4,h10,h11,h12,cBrc,keysV,go_sem,simprocAttr]) | ((with_reducible refine fe ?_); refine ⟨_,(by simp only [Tryz.f85,h3,h4,h10,h11,h12,cBrc,keysV,go_sem,simprocAttr]; rfl),?_⟩; (try simp only [h3,h4,h10,h11,h12,cBrc,keysV,go_sem,simprocAttr,seval])) | fail)
  have e1 := q1.resolve_left (by omega)
  have e2 := q2.resolve_left (by omega)
  have e3 := q3.resolve_left (by omega)
  simp [KO,e1,e2,e3]
theorem XG (a b : Brc) (ha : 0 ≤ a.kind ∧ a.kind ≤ 255) (hb : 0 ≤ b.kind ∧ b.kind ≤ 255) : PureC Tryz.prog 84 [.agg (cBrc a),.agg (cBrc b)] (.int .i64 (KO a b)) := by
 refine A8 (fn := Tryz.f84) tabOK (by kernel_rfl) rfl (by kernel_rfl) (by simp [Tryz.f84]) (by simp [noids,noid,noidss,go_sem,cBrc]) (by first | rfl | simp [noids,noid,noidss,go_sem,cBrc]) ?_
 intro X hX0 hXs
 repeat' (first | with_reducible (first | (refine sk ?_; intro K hK) | apply_assumption -exfalso -symm only [*]) | ((first | (with_reducible first | refine rg (h := ?_) | refine nx ?_) | refine pK (aC a b ha hb) ?_); try simp (disch := omega) only [cBrc,go_sem,simprocAttr]) | ((with_reducible refine fe ?_); refine ⟨_,(by simp only [Tryz.f84,cBrc,go_sem,simprocAttr]; rfl),?_⟩; rfl) | fail)
end Cp
namespace Cp
open Go Go.Proofs Go.Shelf Go.Sort
def cI {α : Type} (f : α → List (IntKind × Int)) (x : α) : List Val := (f x).map fun p => .int p.1 p.2
def vI {α : Type} (f : α → List (IntKind × Int)) (x : α) : List Value := (f x).map fun p => .int p.1 p.2
section
variable {P : Program} {ρ : Ren} {α : Type} [Inhabited α] {G : Gh} {w w' : World} {H : Hp}
def gI (I : Nat → Prop) : Gh := ⟨I,fun _ => none,fun _ => 0,fun _ => 0,fun _ => 0,[]⟩
theorem W6 (hI : ∀ b,G.I b → b < w'.heap.size ∧ w'.heap[b]? = w.heap[b]?) (hg : ∀ g cs,GE g = some cs → VR G w (.pim cs) (.pointer (some ⟨g,0,none⟩))) : HRel (gI G.I) w' none0 :=
 ⟨(fun k e o h => by cases h),fun k e km em ver left cur e' es h => (by cases h),fun k k' e e' o o' b h => (by cases h),fun b h => ⟨(hI b h).1,Own.none0⟩,fun b h => (Own.none0 h).elim,fun r h => (by simp [gI] at h),
  fun g cs h => (hg g cs h).noid_mono (I9 g cs h) fun b hb => ⟨hb,fun off => Ca (hI b hb).2 off⟩⟩
theorem Ry {w w' : World} (h1 : w'.os = w.os) (h2 : w'.tape = w.tape ∧ w.drawn ≤ w'.drawn) (h3 : w'.output = w.output) (h4 : w.heap.size ≤ w'.heap.size) (h5 : ∀ b,b < w.heap.size → w'.heap[b]? = w.heap[b]?) :
  ∃ q os,w' = grow (w.drewN q) os := by
 refine ⟨w'.drawn - w.drawn,w'.heap.extract w.heap.size w'.heap.size,?_⟩
 obtain ⟨hp,tp,dr,os,out⟩ := w
 obtain ⟨hp',tp',dr',os',out'⟩ := w'
 simp only at h1 h2 h3 h4 h5
 obtain ⟨h2,h6⟩ := h2
 subst h1 h2 h3
 simp only [grow,World.drewN,World.mk.injEq,and_true,true_and]
 refine ⟨?_,by omega⟩
 apply Array.ext_getElem?
 intro i
 rw [Array.getElem?_append]
 by_cases hi : i < hp.size
 ·rw [if_pos hi]; exact h5 i hi
 ·rw [if_neg hi,Array.getElem?_extract]
  split
  ·congr 1; omega
  ·rw [Array.getElem?_eq_none (by omega)]
theorem MJ {f : α → List (IntKind × Int)} {x : α} : VR G w (.agg (cI f x)) (.agg (vI f x).toArray) := by
 refine .agg _ _ (by simp [cI,vI]) (fun i v hi => ?_) (fun i v hi => ?_)
 ·simp only [cI,List.getElem?_map,Option.map_eq_some_iff] at hi
  obtain ⟨p,_,rfl⟩ := hi; rfl
 ·simp only [cI,List.getElem?_map,Option.map_eq_some_iff] at hi
  obtain ⟨p,hp,rfl⟩ := hi
  have : (vI f x).toArray.getD i undef = .int p.1 p.2 := by
   rw [Array.getD_eq_getD_getElem?,List.getElem?_toArray,vI,List.getElem?_map,hp]; rfl
  rw [this]; exact .int _ _
theorem SU {f : α → List (IntKind × Int)} {g : FuncId} {cf : α → α → Int} (h : ∀ x y,PureC P g [.agg (cI f x),.agg (cI f y)] (.int .i64 (cf x y))) (k blk off size : Nat)
  (hI : ∀ m os dk b,G.I b → b < (sortWorldK (vI f) k w blk off m dk os).heap.size ∧ (sortWorldK (vI f) k w blk off m dk os).heap[b]? = w.heap[b]?) (hg : ∀ g cs,GE g = some cs → VR G w (.pim cs) (.pointer (some ⟨g,0,none⟩))) : CmpLays P g #[] (vI f) k cf blk off size w := by
 intro m os dk _ x y
 obtain ⟨_,_,_,hP⟩ := h x y
 refine Calls.mono (hP (gI G.I) (sortWorldK (vI f) k w blk off m dk os) _ (W6 (hI m os dk) hg) ⟨by simp,fun i v hi => ?_⟩) ?_
 ·match i,hi with
  | 0,hi => cases hi; exact MJ
  | 1,hi => cases hi; exact MJ
  | i + 2,hi => simp at hi
 ·rintro e w1 ⟨z,I',rfl,t,r,hv⟩
  cases hv
  exact ⟨rfl,Ry t.os t.tape t.output t.size fun b hb => t.same b hb Own.none0⟩
theorem Jk {enc : α → List Value} {k : Nat} {blk : Nat} {d : Array α} {m b : Nat} (h : b ≠ blk) : (putRowK enc k (Sort.ahead w m) blk 0 d).heap[b]? = w.heap[b]? := by
 show ((Sort.ahead w m).heap.modify blk _)[b]? = _
 rw [Array.getElem?_modify,if_neg (fun e => h e.symm)]
 rfl
theorem Uu {n : Nat} {d d' : Array α} (hn : n = d.size) (h : PermIn 0 n d d') : d'.toList.Perm d.toList := by
 obtain ⟨h1,_,h3⟩ := h
 rw [hn] at h3
 have e1 : d'.extract 0 d.size = d' := by rw [← h1]; simp
 have e2 : d.extract 0 d.size = d := by simp
 rw [e1,e2] at h3
 exact h3
theorem Ov (L : SlLaysF0.n6 P ρ) {k : Nat} (aE : ∀ w,(isAgg (ρ.t 24)).run P w = .ok true w) (zE : ∀ w,(Go.sizeOf (ρ.t 24)).run P w = .ok k w) (hE : Ent P (ρ.f 6)) {f : α → List (IntKind × Int)} (hk : ∀ x,(f x).length = k) {g : FuncId} {cf : α → α → Int}
  (hO : SWO (ltOf cf)) (hcf : ∀ x y,PureC P g [.agg (cI f x),.agg (cI f y)] (.int .i64 (cf x y))) {j e n : Nat} {l : List α} (hj : H j = some (e,.arr k (l.map (cI f)))) (hn : n = l.length) (hl : l.length < 4611686018427387904) :
  BD P (ρ.f 6) [.gr j e n,.fn g []] H (fun v H' => v = .tup [] ∧ ∃ l' : List α,l'.Perm l ∧ l'.Pairwise (fun a b => 0 ≤ cf b a) ∧ H' = upd H j (some (e,.arr k (l'.map (cI f))))) := by
 refine ⟨hE,fun G w xs hR hv => ?_⟩
 obtain ⟨hs,hv⟩ := hv
 obtain ⟨x0,x1,rfl⟩ : ∃ x0 x1,xs = #[x0,x1] := by
  obtain ⟨xs⟩ := xs
  match xs,hs with
  | [a,b],_ => exact ⟨a,b,rfl⟩
 have h0 := hv 0 _ rfl
 have h1 := hv 1 _ rfl
 simp only [show (#[x0,x1] : Array Value).getD 0 undef = x0 from rfl,show (#[x0,x1] : Array Value).getD 1 undef = x1 from rfl] at h0 h1
 cases h1 with
 | fn _ _ cb hcs hcv =>
  obtain rfl : cb = #[] := by simpa using hcs
  obtain ⟨hE0,hN0,hrow1,hrow2⟩ := hR.obj j e _ hj
  cases h0 with
  | gr _ _ _ a c he hp =>
   have hh := hp hE0
   unfold Gh.handle at hh
   have nul : n = 0 → Calls P (ρ.f 6) #[.slice a n c,.func (.func g) #[] #[]] w fun e1 w' => ∃ v x G' H',e1 = .returned x ∧ Tr G H w G' H' w' ∧ HRel G' w' H' ∧ G'.D = G.D ∧ VR G' w' v x ∧ (v = .tup [] ∧ ∃ l' : List α,l'.Perm l ∧ l'.Pairwise (fun a b => 0 ≤ cf b a) ∧ H' = upd H j (some (e,.arr k (l'.map (cI f))))) := fun hz => by
    have hl0 : l = [] := List.eq_nil_of_length_eq_zero (hn ▸ hz)
    subst hz
    refine Calls.mono (AnyF.slices_SortFunc_none L a c (.func (.func g) #[] #[]) w) ?_
    rintro e1 w1 ⟨rfl,rfl⟩
    refine ⟨.tup [],_,G,H,rfl,Tr.refl G H w1,hR,rfl,.tup _ _ rfl (fun i v h => by simp at h),rfl,l,.refl _,by subst hl0; exact .nil,?_⟩
    funext t
    by_cases ht : t = j
    ·subst ht; rw [A4,hj]
    ·rw [A0 _ _ ht]
   by_cases hz : n = 0
   ·exact nul hz
   cases hK : G.K j with
   | none =>
    rw [hK] at hrow2
    obtain ⟨h2,_⟩ := hrow2
    exact absurd (by rw [hn]; have := congrArg List.length h2; simpa using this) hz
   | some b =>
    rw [hK] at hh hrow2
    simp only [Value.slice.injEq,true_and] at hh
    obtain ⟨rfl,rfl⟩ := hh
    obtain ⟨⟨cs,T0,hb,hcs2⟩,hle,hM⟩ := hrow2
    have hblk : b < w.heap.size := Aj hb
    have hklen : ∀ x,(vI f x).length = k := fun x => by simp [vI,hk]
    have hone : ∀ x,∀ v ∈ vI f x,v.oneCell' = true := fun x v hv => by
     simp only [vI,List.mem_map] at hv
     obtain ⟨p,_,rfl⟩ := hv; rfl
    have hfroz : ∀ o,w.frozen? ⟨b,o,none⟩ = false := fun o => by simp [World.frozen?,hb]
    have hcell : ∀ (i : Nat) (x : α),l[i]? = some x → ∀ (q : Nat) (v : Value),(vI f x)[q]? = some v → w.cell? ⟨b,i * k + q,none⟩ = some v := fun i x hi q v hq => by
     have hm := hM i (cI f x) (by rw [List.getElem?_map,hi]; rfl)
     simp only [vI,List.getElem?_map,Option.map_eq_some_iff] at hq
     obtain ⟨p,hp,rfl⟩ := hq
     obtain ⟨y,q1,q2,q3⟩ := hm q (.int p.1 p.2) (by simp only [cI,List.getElem?_map,hp]; rfl)
     cases q3
     exact q1
    have hH : HoldsK (vI f) k w b 0 l.toArray := by
     intro t ht
     have ht' : t < l.toArray.size * k := by simpa using ht
     have hk0 : 0 < k := by
      rcases Nat.eq_zero_or_pos k with h | h
      ·subst h; simp at ht'
      ·exact h
     have hdiv : t / k < l.length := by
      rw [Nat.div_lt_iff_lt_mul hk0]; simpa using ht'
     have hmod := Nat.mod_lt t hk0
     refine ⟨?_,hfroz _⟩
     have hx : l[t / k]? = some l[t / k] := List.getElem?_eq_getElem hdiv
     have := hcell (t / k) _ hx (t % k) ((vI f l[t / k])[t % k]'(by rw [hklen]; exact hmod)) (List.getElem?_eq_getElem _)
     rw [Nat.div_add_mod' t k] at this
     rw [Nat.zero_add,this]
     show some _ = some (flatK (vI f) k l.toArray)[t]!
     rw [get_flatK _ _ _ _ ht']
     rw [getElem!_pos l.toArray (t / k) (by simpa using hdiv)]
     simp only [List.getElem_toArray]
     rw [getElem!_pos (vI f l[t / k]) (t % k) (by rw [hklen]; exact hmod)]
    have eg : ∀ args w,(callFunc g args).run P w = .ok (.enter g args) w := fun args w => by
     obtain ⟨fn,f1,f2,f3⟩ := (hcf default default).1
     simp only [callFunc,Sem.run_bind,run_program,Result.andThen,f1,f3,f2,Bool.false_eq_true,if_false,Sem.run_pure]
    have hsz : l.toArray.size = n := by simp [hn]
    have hlays : ∀ m os dk b',G.I b' → b' < (sortWorldK (vI f) k w b 0 m dk os).heap.size ∧ (sortWorldK (vI f) k w b 0 m dk os).heap[b']? = w.heap[b']? := fun m os dk b' hb' => by
     obtain ⟨h1,h2⟩ := hR.imm b' hb'
     have hne : b' ≠ b := fun e9 => h2 ⟨j,e,_,hj,rfl,by rw [e9]; exact hK⟩
     have hs : (putRowK (vI f) k (Sort.ahead w m) b 0 dk).heap.size = w.heap.size := by simp [putRowK,Sort.ahead]
     have e1 : (sortWorldK (vI f) k w b 0 m dk os).heap = (putRowK (vI f) k (Sort.ahead w m) b 0 dk).heap ++ os := rfl
     rw [e1,Array.size_append,hs,Array.getElem?_append_left (by omega)]
     exact ⟨by omega,Jk hne⟩
    have hc := AnyQ.slices_SortFunc L k aE zE (vI f) hklen hone cf hO g #[] b 0 (G.C j) l.toArray w eg (SU (G := G) hcf _ _ _ _ hlays hR.glb) hH hblk (by simpa using hl)
    rw [hsz] at hc
    refine Calls.mono hc ?_
    rintro e1 w1 ⟨rfl,d',m,os,hperm,hsort,rfl⟩
    have hpl : d'.toList.Perm l := by
     have := Uu (by simp [hn]) hperm
     simpa using this
    have hdl : d'.size = l.length := by have := hpl.length_eq; simpa using this
    let w2 := putRowK (vI f) k (Sort.ahead w m) b 0 d'
    have hsame : ∀ k',k' ≠ j → G.E k' = G.E k' ∧ G.N k' = G.N k' := fun _ _ => ⟨rfl,rfl⟩
    have s4 : w2.heap.size = w.heap.size := by simp [w2,putRowK,Sort.ahead]
    have s5 : ∀ b',b' ≠ b → w2.heap[b']? = w.heap[b']? := fun b' hb' => Jk hb'
    have t1 := Tr.write (w' := w2) (e := e) (ao := .arr k (d'.toList.map (cI f))) (E' := G.E) (N' := G.N) hR hj rfl hK hsame (.inl ⟨rfl,rfl⟩) rfl ⟨rfl,Nat.le_add_right _ _⟩ rfl s4 s5
    have hcell2 : ∀ t,t < d'.size * k → w2.cell? ⟨b,t,none⟩ = some ((flatK (vI f) k d')[t]!) := fun t ht => by
     have := cell?_putRow id (Sort.ahead w m) b 0 (flatK (vI f) k l.toArray) (flatK (vI f) k d') (fun q hq => hH q hq) (by simp [hdl]) t (by simpa using ht)
     rwa [Nat.zero_add] at this
    obtain ⟨cs3,hb2,hcs3⟩ : ∃ cs3,w2.heap[b]? = some (.cells cs3 T0 (0,0)) ∧ cs3.size = cs.size := by
     have e1 : w2.heap[b]? = some (onCells (putCells id 0 (flatK (vI f) k d')) (.cells cs T0 (0,0))) := by
      show ((Sort.ahead w m).heap.modify b _)[b]? = _
      rw [Array.getElem?_modify,if_pos rfl]
      show (w.heap[b]?).map _ = _
      rw [hb]; rfl
     exact ⟨_,e1,by simp [putCells]⟩
    have hrel : HRel G w2 (upd H j (some (e,.arr k (d'.toList.map (cI f))))) := by
     refine hR.write hj rfl hK hsame (.inl ⟨rfl,rfl⟩) rfl ⟨rfl,Nat.le_add_right _ _⟩ rfl s4 s5 ⟨hE0,hN0⟩ ?_ (fun _ _ _ _ _ h => by cases h) (fun _ _ h => by cases h)
     refine ⟨fun i es hi => ?_,?_⟩
     ·rw [List.getElem?_map,Option.map_eq_some_iff] at hi
      obtain ⟨x,_,rfl⟩ := hi
      simp [cI,hk]
     ·simp only [hK]
      refine ⟨⟨cs3,T0,hb2,by rw [hcs3,hcs2]⟩,by simpa [hdl] using hle,fun i es hi => ?_⟩
      rw [List.getElem?_map,Option.map_eq_some_iff] at hi
      obtain ⟨x,hx,rfl⟩ := hi
      intro q v hq
      simp only [cI,List.getElem?_map,Option.map_eq_some_iff] at hq
      obtain ⟨p,hp,rfl⟩ := hq
      have hql : q < k := by have := (List.getElem?_eq_some_iff.1 hp).1; rwa [hk] at this
      have hil : i < d'.size := by have := (List.getElem?_eq_some_iff.1 hx).1; simpa using this
      have hlt : i * k + q < d'.size * k := by
       have : (i + 1) * k ≤ d'.size * k := Nat.mul_le_mul_right k hil
       rw [Nat.add_mul,Nat.one_mul] at this
       omega
      refine ⟨.int p.1 p.2,?_,rfl,.int _ _⟩
      rw [hcell2 _ hlt,get_flatK _ _ _ _ hlt]
      have hk0 : 0 < k := by omega
      have e1 : (i * k + q) / k = i := by rw [Nat.add_comm,Nat.add_mul_div_right _ _ hk0,Nat.div_eq_of_lt hql,Nat.zero_add]
      have e2 : (i * k + q) % k = q := by rw [Nat.add_comm,Nat.add_mul_mod_self_right,Nat.mod_eq_of_lt hql]
      rw [e1,e2,getElem!_pos d' i hil]
      have e3 : d'[i] = x := by
       have := hx
       rw [Array.getElem?_toList,Array.getElem?_eq_getElem hil] at this
       simpa using this
      rw [e3,getElem!_pos (vI f x) q (by rw [hklen]; exact hql)]
      have e4 : (vI f x)[q]? = some (.int p.1 p.2) := by simp only [vI,List.getElem?_map,hp]; rfl
      rw [List.getElem?_eq_getElem (by rw [hklen]; exact hql)] at e4
      simpa using e4
    have hgrow : ∀ b',b' < w2.heap.size → (grow w2 os).heap[b']? = w2.heap[b']? := fun b' hb' => by
     show (w2.heap ++ os)[b']? = _
     rw [Array.getElem?_append_left hb']
    have t2 : Tr G (upd H j (some (e,.arr k (d'.toList.map (cI f))))) w2 G (upd H j (some (e,.arr k (d'.toList.map (cI f))))) (grow w2 os) :=
     ⟨rfl,⟨rfl,Nat.le_refl _⟩,rfl,by show w2.heap.size ≤ (w2.heap ++ os).size; simp,fun b' hb' _ => hgrow b' hb',fun b' hb' => .inl hb',fun _ h => h,fun _ h => .inl h,fun _ => Nat.le_refl _,fun _ => .inl ⟨rfl,rfl,rfl⟩,[],rfl⟩
    have hrel2 := hrel.still t2 rfl (fun _ => ⟨rfl,rfl,rfl⟩) hgrow (fun b' hb' => ⟨Nat.lt_of_lt_of_le (hrel.imm b' hb').1 t2.size,(hrel.imm b' hb').2⟩)
    refine ⟨.tup [],_,G,_,rfl,t1.trans t2,hrel2,rfl,.tup _ _ rfl (fun i v h => by simp at h),rfl,d'.toList,hpl,?_,rfl⟩
    rw [List.pairwise_iff_getElem]
    intro i q hi hq hiq
    have hq' : q < d'.size := by simpa using hq
    have hi' : i < d'.size := by simpa using hi
    have := hsort i q (Nat.zero_le _) hiq (by omega)
    rw [getElem!_pos d' q hq',getElem!_pos d' i hi'] at this
    simp only [ltOf,decide_eq_false_iff_not] at this
    simp only [Array.getElem_toList]
    omega
end
end Cp
namespace Cp
open Go Go.Proofs
set_option maxRecDepth 10000
def sortB_ren : Go.Shelf.Ren := ⟨fun | 6 => 83 | 14 => 114 | 15 => 115 | 20 => 124 | 21 => 125 | 22 => 126 | 23 => 127 | 24 => 128 | 25 => 129 | 26 => 130 | 27 => 131 | 28 => 132 | 29 => 133 | 46 => 135 | 47 => 136 | 48 => 137 | 49 => 138 | 50 => 139 | 57 => 140 | n => n,fun | 0 => 0 | 3 => 3 | 4 => 4 | 5 => 5 | 9 => 9 | 22 => 116 | 24 => 120 | 25 => 160 | 39 => 190 | 45 => 200 | 46 => 201 | 50 => 90 | 53 => 122 | 55 => 208 | 66 => 209 | 70 => 213 | 76 => 215 | 77 => 216 | n => n,fun n => n⟩
theorem sortB : Go.Proofs.SlLaysF0.n6 Tryz.prog sortB_ren := {
 mixed := by kernel_rfl,
 f6 := ⟨Tryz.f83.name,by decide,Tryz.func83.trans (congrArg some (by kernel_rfl))⟩,
 f14 := ⟨Tryz.f114.name,by decide,Tryz.func114.trans (congrArg some (by kernel_rfl))⟩,
 f15 := Tryz.func115.trans (congrArg some (by kernel_rfl)),
 f20 := ⟨Tryz.f124.name,by decide,Tryz.func124.trans (congrArg some (by kernel_rfl))⟩,
 f21 := ⟨Tryz.f125.name,by decide,Tryz.func125.trans (congrArg some (by kernel_rfl))⟩,
 f22 := ⟨Tryz.f126.name,by decide,Tryz.func126.trans (congrArg some (by kernel_rfl))⟩,
 f23 := ⟨Tryz.f127.name,by decide,Tryz.func127.trans (congrArg some (by kernel_rfl))⟩,
 f24 := ⟨Tryz.f128.name,by decide,Tryz.func128.trans (congrArg some (by kernel_rfl))⟩,
 f25 := ⟨Tryz.f129.name,by decide,Tryz.func129.trans (congrArg some (by kernel_rfl))⟩,
 f26 := ⟨Tryz.f130.name,by decide,Tryz.func130.trans (congrArg some (by kernel_rfl))⟩,
 f27 := ⟨Tryz.f131.name,by decide,Tryz.func131.trans (congrArg some (by kernel_rfl))⟩,
 f28 := Tryz.func132.trans (congrArg some (by kernel_rfl)),
 f29 := Tryz.func133.trans (congrArg some (by kernel_rfl)),
 f46 := ⟨Tryz.f135.name,by decide,Tryz.func135.trans (congrArg some (by kernel_rfl))⟩,
 f47 := Tryz.func136.trans (congrArg some (by kernel_rfl)),
 f48 := Tryz.func137.trans (congrArg some (by kernel_rfl)),
 f49 := ⟨Tryz.f138.name,by decide,Tryz.func138.trans (congrArg some (by kernel_rfl))⟩,
 f50 := ⟨Tryz.f139.name,by decide,Tryz.func139.trans (congrArg some (by kernel_rfl))⟩,
 f57 := ⟨Tryz.f140.name,by decide,Tryz.func140.trans (congrArg some (by kernel_rfl))⟩,
 t0 := Tryz.underlying0,
 a0 := Tryz.isAgg0,
 z0 := Tryz.sizeOf0,
 v0 := Tryz.zeroValue0,
 t3 := Tryz.underlying3,
 a3 := Tryz.isAgg3,
 z3 := Tryz.sizeOf3,
 v3 := Tryz.zeroValue3,
 t4 := Tryz.underlying4,
 a4 := Tryz.isAgg4,
 z4 := Tryz.sizeOf4,
 v4 := Tryz.zeroValue4,
 t5 := Tryz.underlying5,
 a5 := Tryz.isAgg5,
 z5 := Tryz.sizeOf5,
 v5 := Tryz.zeroValue5,
 t9 := Tryz.underlying9,
 a9 := Tryz.isAgg9,
 z9 := Tryz.sizeOf9,
 v9 := Tryz.zeroValue9,
 t22 := Tryz.underlying116,
 a22 := Tryz.isAgg116,
 z22 := Tryz.sizeOf116,
 v22 := Tryz.zeroValue116,
 t25 := Tryz.underlying160,
 a25 := Tryz.isAgg160,
 z25 := Tryz.sizeOf160,
 v25 := Tryz.zeroValue160,
 t39 := Tryz.underlying190,
 a39 := Tryz.isAgg190,
 z39 := Tryz.sizeOf190,
 v39 := Tryz.zeroValue190,
 t45 := Tryz.underlying200,
 a45 := Tryz.isAgg200,
 z45 := Tryz.sizeOf200,
 v45 := Tryz.zeroValue200,
 t46 := Tryz.underlying201,
 a46 := Tryz.isAgg201,
 z46 := Tryz.sizeOf201,
 v46 := Tryz.zeroValue201,
 t50 := Tryz.underlying90,
 a50 := Tryz.isAgg90,
 z50 := Tryz.sizeOf90,
 v50 := Tryz.zeroValue90,
 t53 := Tryz.underlying122,
 a53 := Tryz.isAgg122,
 z53 := Tryz.sizeOf122,
 v53 := Tryz.zeroValue122,
 t55 := Tryz.underlying208,
 a55 := Tryz.isAgg208,
 z55 := Tryz.sizeOf208,
 v55 := Tryz.zeroValue208,
 t66 := Tryz.underlying209,
 a66 := Tryz.isAgg209,
 z66 := Tryz.sizeOf209,
 v66 := Tryz.zeroValue209,
 t70 := Tryz.underlying213,
 a70 := Tryz.isAgg213,
 z70 := Tryz.sizeOf213,
 v70 := Tryz.zeroValue213,
 t76 := Tryz.underlying215,
 a76 := Tryz.isAgg215,
 z76 := Tryz.sizeOf215,
 v76 := Tryz.zeroValue215,
 t77 := Tryz.underlying216,
 a77 := Tryz.isAgg216,
 z77 := Tryz.sizeOf216,
 v77 := Tryz.zeroValue216 }
def BrB := { b : Brc // 0 ≤ b.kind ∧ b.kind ≤ 255 }
instance : Inhabited BrB := ⟨⟨⟨0,0,0,0⟩,by decide⟩⟩
def brI (b : BrB) : List (IntKind × Int) := [(.i64,b.1.m),(.u8,b.1.kind),(.i64,b.1.cpl),(.u8,b.1.known)]
theorem Gx (a b : Int) : (a < b ∧ Fe a b = -1) ∨ (a = b ∧ Fe a b = 0) ∨ (b < a ∧ Fe a b = 1) := by
 unfold Fe
 by_cases h : a < b
 ·simp [h]
 ·by_cases h2 : b < a
  ·simp [h,h2]
  ·simp [h,h2]; omega
def brLt (a b : Brc) : Prop := a.m < b.m ∨ a.m = b.m ∧ (a.kind < b.kind ∨ a.kind = b.kind ∧ a.cpl < b.cpl)
theorem I0 (a b : Brc) : KO a b < 0 ↔ brLt a b := by
 unfold KO brLt
 rcases Gx a.m b.m with ⟨h,e⟩ | ⟨h,e⟩ | ⟨h,e⟩ <;> rw [e]
 ·simp; omega
 ·rcases Gx a.kind b.kind with ⟨h2,e⟩ | ⟨h2,e⟩ | ⟨h2,e⟩ <;> rw [e]
  ·simp; omega
  ·rcases Gx a.cpl b.cpl with ⟨h3,e⟩ | ⟨h3,e⟩ | ⟨h3,e⟩ <;> rw [e] <;> simp <;> omega
  ·simp; omega
 ·simp; omega
theorem brSWO : Go.Sort.SWO (ltOf fun a b : BrB => KO a.1 b.1) where
 irrefl x := by simp only [ltOf,decide_eq_false_iff_not,I0,brLt]; omega
 trans x y z h1 h2 := by simp only [ltOf,decide_eq_true_eq,I0,brLt] at *; omega
 ntrans x y z h1 h2 := by simp only [ltOf,decide_eq_false_iff_not,I0,brLt] at *; omega
theorem WU (H : Hp) (j e n : Nat) (l : List Brc) (hl : ∀ b ∈ l,0 ≤ b.kind ∧ b.kind ≤ 255) (hj : H j = some (e,.arr 4 (l.map cBrc))) (hn : n = l.length) (hlen : l.length < 4611686018427387904) :
  BD Tryz.prog 83 [.gr j e n,.fn 84 []] H (fun v H' => ∃ l' : List Brc,l'.Perm l ∧ l'.Pairwise (fun a b => ¬ brLt b a) ∧ H' = upd H j (some (e,.arr 4 (l'.map cBrc)))) := by
 obtain ⟨lb,rfl⟩ : ∃ lb : List BrB,l = lb.map (·.1) := by
  clear hj hn hlen
  induction l with
  | nil => exact ⟨[],rfl⟩
  | cons a l ih =>
   obtain ⟨lb,rfl⟩ := ih fun b hb => hl b (by simp [hb])
   exact ⟨⟨a,hl a (by simp)⟩ :: lb,rfl⟩
 have hS := Ov (P := Tryz.prog) (ρ := sortB_ren) (H := H) sortB (k := 4) (fun w => Tryz.isAgg120 w) (fun w => Tryz.sizeOf120 w) ⟨Tryz.f83,by kernel_rfl,by kernel_rfl,by kernel_rfl⟩ (f := brI) (fun _ => rfl) (g := 84) (cf := fun a b => KO a.1 b.1) brSWO
  (fun x y => XG x.1 y.1 x.2 y.2) (j := j) (e := e) (n := n) (l := lb) (by rw [hj,List.map_map]; rfl) (by simpa using hn) (by simpa using hlen)
 refine ⟨hS.1,fun G w xs hR hv => Calls.mono (hS.2 G w xs hR hv) ?_⟩
 rintro e1 w1 ⟨v,x,G',H',h1,h2,h3,h4,h5,rfl,l',hp,hs,rfl⟩
 refine ⟨_,x,G',_,h1,h2,h3,h4,h5,l'.map (·.1),hp.map _,?_,by rw [List.map_map]; rfl⟩
 rw [List.pairwise_map]
 refine hs.imp fun {a b} h => ?_
 rw [← I0]
 omega
theorem UH (H : Hp) (g : FuncId) : BD Tryz.prog 83 [.nils,.fn g []] H (fun v H' => H' = H) := by
 refine ⟨⟨Tryz.f83,by kernel_rfl,by kernel_rfl,by kernel_rfl⟩,fun G w xs hR hv => ?_⟩
 obtain ⟨hs,hv⟩ := hv
 obtain ⟨x0,x1,rfl⟩ : ∃ x0 x1,xs = #[x0,x1] := by
  obtain ⟨xs⟩ := xs
  match xs,hs with
  | [a,b],_ => exact ⟨a,b,rfl⟩
 have h0 := hv 0 _ rfl
 simp only [show (#[x0,x1] : Array Value).getD 0 undef = x0 from rfl] at h0
 cases h0 with
 | nils a =>
  refine Calls.mono (AnyF.slices_SortFunc_none (P := Tryz.prog) (ρ := sortB_ren) sortB a 0 x1 w) ?_
  rintro e1 w1 ⟨rfl,rfl⟩
  exact ⟨.tup [],_,G,H,rfl,Tr.refl G H w1,hR,rfl,.tup _ _ rfl (fun i v h => by simp at h),rfl⟩
end Cp
namespace Cp
open Go
theorem sorted_uniq : ∀ (S l : List Brc),l.Perm S → S.Pairwise brLt → l.Pairwise (fun a b => ¬ brLt b a) → l = S
 | [],l,hp,_,_ => hp.eq_nil
 | s :: S,[],hp,_,_ => absurd hp.symm.eq_nil (by simp)
 | s :: S,a :: l,hp,hS,hl => by
  rw [List.pairwise_cons] at hS hl
  have hs : s = a := by
   have h1 := hp.mem_iff.1 (List.mem_cons_self (a := a) (l := l))
   have h2 := hp.mem_iff.2 (List.mem_cons_self (a := s) (l := S))
   rcases List.mem_cons.1 h1 with h1 | h1
   ·exact h1.symm
   ·rcases List.mem_cons.1 h2 with h2 | h2
    ·exact h2
    ·exact absurd (hS.1 a h1) (hl.1 s h2)
  subst hs
  rw [sorted_uniq S l (List.perm_cons s |>.1 hp) hS.2 hl.2]
theorem CX {m q c n : Int} {b : Brc} (h : b ∈ Fg m q c n) : b = ⟨m,q,c,n⟩ ∧ n ≠ 0 := by
 unfold Fg at h
 split at h
 ·simp at h
 ·rename_i hn; simp at h; exact ⟨h,hn⟩
theorem J2 {m q c n : Int} : (Fg m q c n).Pairwise brLt := by unfold Fg; split <;> simp
theorem FM {r : RunT} {u : RulesT} {m : Int} : ∀ {l : List Nat} {b : Brc},b ∈ Fc r u m l → ∃ i c,i ∈ l ∧ r.cpls[i]? = some c ∧ b = ⟨m,3,c.id,JU r u c i m⟩ ∧ JU r u c i m ≠ 0
 | [],b,h => by simp [Fc] at h
 | i :: l,b,h => by
  simp only [Fc,List.mem_append] at h
  rcases h with h | h
  ·unfold Ku at h
   split at h
   ·rename_i c hc
    obtain ⟨h1,h2⟩ := CX h
    exact ⟨i,c,by simp,hc,h1,h2⟩
   ·simp at h
  ·obtain ⟨j,c,h1,h2⟩ := FM h
   exact ⟨j,c,by simp [h1],h2⟩
theorem Ko {r : RunT} (hF : RunF r) {u : RulesT} {m : Int} : ∀ {l : List Nat},l.Pairwise (· < ·) → (Fc r u m l).Pairwise brLt
 | [],_ => .nil
 | i :: l,h => by
  rw [List.pairwise_cons] at h
  simp only [Fc]
  rw [List.pairwise_append]
  refine ⟨by unfold Ku; split; exact J2; exact .nil,Ko hF h.2,fun a ha b hb => ?_⟩
  obtain ⟨j,c,h1,h2,rfl,_⟩ := FM hb
  unfold Ku at ha
  split at ha
  ·rename_i c0 hc0
   obtain ⟨rfl,_⟩ := CX ha
   have := hF.ids i j c0 c (h.1 j h1) hc0 h2
   exact .inr ⟨rfl,.inr ⟨rfl,this⟩⟩
  ·simp at ha
theorem GS {r : RunT} {u : RulesT} {k : Nat} {b : Brc} (h : b ∈ M0 r u k) : b.m = k ∧ ((b ∈ DA r (k : Int) ∧ b.kind = 1) ∨ (b ∈ Fg (k : Int) 2 (-1) (MK r u k) ∧ b.kind = 2) ∨ (b ∈ Fw r u (k : Int) ∧ b.kind = 3) ∨ (b ∈ Dx r u (k : Int) ∧ b.kind = 4)) := by
 simp only [M0,List.mem_append] at h
 rcases h with ((h | h) | h) | h
 ·have h' := h
  unfold DA at h; split at h
  ·simp at h; subst h; exact ⟨rfl,.inl ⟨h',rfl⟩⟩
  ·simp at h
 ·obtain ⟨rfl,_⟩ := CX h; exact ⟨rfl,.inr (.inl ⟨h,rfl⟩)⟩
 ·have h' := h
  unfold Fw at h; split at h
  ·simp at h
  ·obtain ⟨i,c,_,_,rfl,_⟩ := FM h; exact ⟨rfl,.inr (.inr (.inl ⟨h',rfl⟩))⟩
 ·have h' := h
  unfold Dx at h; split at h
  ·simp at h
  ·obtain ⟨rfl,_⟩ := CX h; exact ⟨rfl,.inr (.inr (.inr ⟨h',rfl⟩))⟩
theorem FI {r : RunT} {m : Int} {b : Brc} (h : b ∈ DA r m) : b.m = m ∧ b.kind = 1 := by
 unfold DA at h; split at h <;> simp at h; subst h; exact ⟨rfl,rfl⟩
theorem Ki {r : RunT} {u : RulesT} {m : Int} {b : Brc} (h : b ∈ Fw r u m) : b.m = m ∧ b.kind = 3 := by
 unfold Fw at h; split at h
 ·simp at h
 ·obtain ⟨i,c,_,_,rfl,_⟩ := FM h; exact ⟨rfl,rfl⟩
theorem Nd {r : RunT} {u : RulesT} {m : Int} {b : Brc} (h : b ∈ Dx r u m) : b.m = m ∧ b.kind = 4 := by
 unfold Dx at h; split at h
 ·simp at h
 ·obtain ⟨rfl,_⟩ := CX h; exact ⟨rfl,rfl⟩
theorem PZ {r : RunT} (hF : RunF r) {u : RulesT} {k : Nat} : (M0 r u k).Pairwise brLt := by
 have h1 : (DA r (k : Int)).Pairwise brLt := by unfold DA; split <;> simp
 have h3 : (Fw r u (k : Int)).Pairwise brLt := by unfold Fw; split; exact .nil; exact Ko hF L7
 have h4 : (Dx r u (k : Int)).Pairwise brLt := by unfold Dx; split; exact .nil; exact J2
 simp only [M0]
 rw [List.pairwise_append,List.pairwise_append,List.pairwise_append]
 refine ⟨⟨⟨h1,J2,fun a ha b hb => ?_⟩,h3,fun a ha b hb => ?_⟩,h4,fun a ha b hb => ?_⟩
 ·obtain ⟨q1,q2⟩ := FI ha; obtain ⟨rfl,_⟩ := CX hb
  exact .inr ⟨q1,.inl (by rw [q2]; simp)⟩
 ·obtain ⟨q1,q2⟩ := Ki hb
  rcases List.mem_append.1 ha with ha | ha
  ·obtain ⟨p1,p2⟩ := FI ha; exact .inr ⟨by rw [p1,q1],.inl (by omega)⟩
  ·obtain ⟨rfl,_⟩ := CX ha; exact .inr ⟨by rw [q1],.inl (by simp only; omega)⟩
 ·obtain ⟨q1,q2⟩ := Nd hb
  rcases List.mem_append.1 ha with ha | ha
  ·rcases List.mem_append.1 ha with ha | ha
   ·obtain ⟨p1,p2⟩ := FI ha; exact .inr ⟨by rw [p1,q1],.inl (by omega)⟩
   ·obtain ⟨rfl,_⟩ := CX ha; exact .inr ⟨by rw [q1],.inl (by simp only; omega)⟩
  ·obtain ⟨p1,p2⟩ := Ki ha; exact .inr ⟨by rw [p1,q1],.inl (by omega)⟩
theorem G7 {r : RunT} {u : RulesT} : ∀ {k : Nat} {b : Brc},b ∈ DG r u k → ∃ j,1 ≤ j ∧ j ≤ k ∧ b ∈ M0 r u j
 | 0,b,h => by simp [DG] at h
 | k + 1,b,h => by
  simp only [DG,List.mem_append] at h
  rcases h with h | h
  ·obtain ⟨j,h1,h2,h3⟩ := G7 h; exact ⟨j,h1,by omega,h3⟩
  ·exact ⟨k + 1,by omega,Nat.le_refl _,h⟩
theorem GI {r : RunT} (hF : RunF r) {u : RulesT} : ∀ {k : Nat},(DG r u k).Pairwise brLt
 | 0 => .nil
 | k + 1 => by
  simp only [DG]
  rw [List.pairwise_append]
  refine ⟨GI hF,PZ hF,fun a ha b hb => ?_⟩
  obtain ⟨j,h1,h2,h3⟩ := G7 ha
  obtain ⟨q1,_⟩ := GS h3
  obtain ⟨q2,_⟩ := GS hb
  exact .inl (by omega)
theorem OD {r : RunT} {u : RulesT} {b : Brc} (h : b ∈ D8 r u) : 0 ≤ b.kind ∧ b.kind ≤ 255 := by
 obtain ⟨j,_,_,h3⟩ := G7 h
 obtain ⟨_,h4⟩ := GS h3
 rcases h4 with h | h | h | h <;> omega
end Cp
namespace Cp
open Go
theorem PureC.weak {P : Program} {fid : FuncId} {args : List Val} {v v' : Val} (h : PureC P fid args v) (hn : noid v' = true) (hw : ∀ G w x,VR G w v x → VR G w v' x) : PureC P fid args v' :=
 ⟨h.1,h.2.1,hn,fun G w xs hR hv => Calls.mono (h.2.2.2 G w xs hR hv) (by rintro e w' ⟨x,I',h1,h2,h3,h4⟩; exact ⟨x,I',h1,h2,h3,hw _ _ _ h4⟩)⟩
theorem VR.tup_nils {G : Gh} {w : World} {n : Nat} {cs : List Val} {x : Value} (h : VR G w (.tup (.nils :: cs)) x) : VR G w (.tup (.lst n [] :: cs)) x := by
 cases h with
 | tup _ xs hs hv =>
  refine .tup _ xs (by simpa using hs) (fun i v hi => ?_)
  cases i with
  | zero => cases hi; exact (hv 0 .nils rfl).nils_lst _
  | succ i => exact hv (i + 1) v hi
def p2 (b : Brc) : Bool := !decide (b.known = 2)
def Kv (l : List Brc) : Nat := (l.takeWhile p2).length
def AP (l : List Brc) (t : Int) : Int × Int := match l[0]? with | some b => if b.m ≤ t then (1,b.m) else (2,0) | none => (2,0)
def Dg (l : List Brc) (t : Int) : Int × Int := match l[Kv l]? with | some b => if b.m ≤ t then (0,b.m) else AP l t | none => AP l t
def Fl (l : List Brc) (n : Int) : Int := match l[0]? with | some b => b.m - 1 | none => n
theorem RO {l : List Brc} (hs : l.Pairwise brLt) {i j : Nat} {a b : Brc} (hij : i ≤ j) (ha : l[i]? = some a) (hb : l[j]? = some b) : a.m ≤ b.m := by
 rcases Nat.eq_or_lt_of_le hij with rfl | hlt
 ·rw [ha] at hb; cases hb; exact Int.le_refl _
 ·obtain ⟨h1,rfl⟩ := List.getElem?_eq_some_iff.1 ha
  obtain ⟨h2,rfl⟩ := List.getElem?_eq_some_iff.1 hb
  have := (List.pairwise_iff_getElem.1 hs) i j h1 h2 hlt
  unfold brLt at this
  omega
end Cp
namespace Cp
open Go
variable {l : List Brc} {t x : Int} {j : Nat} {b : Brc}
theorem O0 {t t' : Int} (h : t ≤ t') : (Dg l t').1 ≤ (Dg l t).1 ∧ 0 ≤ (Dg l t').1 ∧ (Dg l t).1 ≤ 2 := by
 have hF : ∀ s,AP l s = (1,(AP l s).2) ∨ AP l s = (2,(AP l s).2) := fun s => by
  unfold AP; split
  ·split
   ·exact .inl rfl
   ·exact .inr rfl
  ·exact .inr rfl
 have hF2 : (AP l t').1 ≤ (AP l t).1 := by
  unfold AP; split
  ·split <;> split <;> first | omega | simp
  ·simp
 have e1 := hF t
 have e2 := hF t'
 have h1 : (AP l t).1 = 1 ∨ (AP l t).1 = 2 := by rcases e1 with e | e <;> rw [e] <;> simp
 have h2 : (AP l t').1 = 1 ∨ (AP l t').1 = 2 := by rcases e2 with e | e <;> rw [e] <;> simp
 unfold Dg
 split
 ·split <;> split <;> first | (exfalso; omega) | (refine ⟨?_,?_,?_⟩ <;> (try simp only) <;> omega)
 ·omega
theorem KQ {n : Int} (hm : ∀ b ∈ l,1 ≤ b.m ∧ b.m ≤ n) (hn : (0:Int) ≤ n) : 0 ≤ Fl l n ∧ Fl l n ≤ n := by
 unfold Fl
 split
 ·rename_i b hb; have := hm b (List.mem_of_getElem? hb); omega
 ·omega
end Cp
namespace Cp
open Go
def clsL : List Int := [5,10,15,20,30,45,60]
def AR (t : TestT) (c : Int) : Int := if (t.run.rows.length : Int) < c then 0 else (Dg (D8 t.run t.rules) c).1
def Ek (t : TestT) (f : FailT) (c : Int) : Bool := (decide (f.held = 2) || decide (60 * c < f.at1.lo)) && (decide (60 * c ≤ t.fin - t.clock.hi) && decide (AR t c = 2))
def Gi (t : TestT) (f : FailT) (c : Int) : Bool := (!decide (f.held = 0) || decide (60 * c < f.at1.hi)) && (decide (60 * c ≤ t.fin - t.clock.lo) && !decide (AR t c = 0))
def Pn (t : TestT) (l : Nat) (c : Int) : Bool := Ek t (Aa t l) c
def UI (t : TestT) (l : Nat) (c : Int) : Bool := Gi t (Aa t l) c
def grt (p : Int → Bool) : List Int → Int → Int
 | [],b => b
 | x :: l,b => if p x = true then grt p l x else b
def P7 (p : Int → Bool) (l : List Int) (b : Int) : Int := l.foldl (fun b x => if p x = true then x else b) b
def BB (t : TestT) (l : Nat) : Int := grt (Pn t l) clsL 0
def IK (t : TestT) (l : Nat) : Int := grt (UI t l) clsL 0
theorem K5 {p : Int → Bool} : ∀ {l : List Int} {b : Int},(∀ x ∈ l,p x = false) → P7 p l b = b
 | [],b,_ => rfl
 | x :: l,b,h => by
  unfold P7
  rw [List.foldl_cons,h x (by simp)]
  exact K5 fun y hy => h y (by simp [hy])
theorem NE {p : Int → Bool} : ∀ {l : List Int} {b : Int},l.Pairwise (fun x y => p y = true → p x = true) → grt p l b = P7 p l b
 | [],b,_ => rfl
 | x :: l,b,h => by
  obtain ⟨h1,h2⟩ := List.pairwise_cons.1 h
  simp only [grt]
  by_cases hx : p x = true
  ·rw [if_pos hx,NE h2]
   show _ = l.foldl _ (if p x = true then x else b)
   rw [if_pos hx]; rfl
  ·rw [if_neg hx]
   show _ = l.foldl _ (if p x = true then x else b)
   rw [if_neg hx]
   exact (K5 fun y hy => by
    cases hy' : p y with
    | false => rfl
    | true => exact absurd (h1 y hy hy') hx).symm
theorem clsL_up : clsL.Pairwise (· ≤ ·) := by decide
theorem Fs {c : Int} (h : c ∈ clsL) : 5 ≤ c ∧ c ≤ 60 := by
 simp only [clsL,List.mem_cons,List.not_mem_nil,or_false] at h
 omega
def Down (p : Int → Bool) : Prop := ∀ x y,x ≤ y → p y = true → p x = true
theorem Down.pair {p : Int → Bool} (h : Down p) : clsL.Pairwise (fun x y => p y = true → p x = true) := clsL_up.imp fun hxy => h _ _ hxy
theorem EW {t : TestT} {x y : Int} (h : x ≤ y) : AR t y ≤ AR t x ∧ 0 ≤ AR t y ∧ AR t x ≤ 2 := by
 have hm := O0 (l := D8 t.run t.rules) h
 unfold AR
 split <;> split <;> omega
theorem D6 {t : TestT} {f : FailT} : Down (Ek t f) := by
 intro x y h hy
 have := EW (t := t) h
 simp only [Ek,Bool.and_eq_true,Bool.or_eq_true,decide_eq_true_eq] at hy ⊢
 omega
theorem DC {t : TestT} {f : FailT} : Down (Gi t f) := by
 intro x y h hy
 have := EW (t := t) h
 simp only [Gi,Bool.and_eq_true,Bool.or_eq_true,decide_eq_true_eq,Bool.not_eq_true',decide_eq_false_iff_not] at hy ⊢
 omega
theorem JL {p : Int → Bool} (h : Down p) : (grt p clsL 0 = 0 ∧ ∀ c ∈ clsL,p c = false) ∨ (grt p clsL 0 ∈ clsL ∧ p (grt p clsL 0) = true ∧ ∀ c ∈ clsL,grt p clsL 0 < c → p c = false) := by
 have gen : ∀ (l : List Int) (b : Int),l.Pairwise (· < ·) → l.Pairwise (fun x y => p y = true → p x = true) → (∀ x ∈ l,b < x) → (grt p l b = b ∧ ∀ c ∈ l,p c = false) ∨ (grt p l b ∈ l ∧ p (grt p l b) = true ∧ ∀ c ∈ l,grt p l b < c → p c = false) := by
  intro l
  induction l with
  | nil => intro b _ _ _; exact .inl ⟨rfl,by simp⟩
  | cons x l ih =>
   intro b hs hp hb
   obtain ⟨s1,s2⟩ := List.pairwise_cons.1 hs
   obtain ⟨p1,p2⟩ := List.pairwise_cons.1 hp
   simp only [grt]
   by_cases hx : p x = true
   ·rw [if_pos hx]
    rcases ih x s2 p2 s1 with ⟨h1,h2⟩ | ⟨h1,h2,h3⟩
    ·rw [h1]
     refine .inr ⟨by simp,hx,fun c hc hlt => ?_⟩
     rcases List.mem_cons.1 hc with rfl | hc
     ·omega
     ·exact h2 c hc
    ·refine .inr ⟨List.mem_cons_of_mem _ h1,h2,fun c hc hlt => ?_⟩
     rcases List.mem_cons.1 hc with rfl | hc
     ·have := s1 _ h1; omega
     ·exact h3 c hc hlt
   ·rw [if_neg hx]
    refine .inl ⟨rfl,fun c hc => ?_⟩
    rcases List.mem_cons.1 hc with rfl | hc
    ·exact Bool.eq_false_iff.2 hx
    ·cases hy' : p c with
     | false => rfl
     | true => exact absurd (p1 c hc hy') hx
 exact gen clsL 0 (by decide) h.pair (fun x hx => by have := Fs hx; omega)
theorem UT {p : Int → Bool} (h : Down p) : 0 ≤ grt p clsL 0 ∧ grt p clsL 0 ≤ 60 := by
 rcases JL h with ⟨h1,_⟩ | ⟨h1,_⟩
 ·omega
 ·have := Fs h1; omega
theorem J0 {p q : Int → Bool} (hp : Down p) (hq : Down q) (h : ∀ c ∈ clsL,p c = true → q c = true) : grt p clsL 0 ≤ grt q clsL 0 := by
 rcases JL hp with ⟨h1,_⟩ | ⟨h1,h2,_⟩
 ·have := (UT hq).1; omega
 ·have h3 := h _ h1 h2
  rcases JL hq with ⟨_,h4⟩ | ⟨_,_,h4⟩
  ·rw [h4 _ h1] at h3; cases h3
  ·by_cases hlt : grt q clsL 0 < grt p clsL 0
   ·rw [h4 _ h1 hlt] at h3; cases h3
   ·omega
structure FirstOf (fs : List FailT) (F : FailT) : Prop where
 none : (∀ f ∈ fs,f.held = 2) → F = ⟨2,⟨0,0⟩⟩
 some : ¬ (∀ f ∈ fs,f.held = 2) → F.held = 0 ∨ F.held = 1
 lo1 : ∀ f ∈ fs,¬ f.held = 2 → F.at1.lo ≤ f.at1.lo
 lo2 : ¬ (∀ f ∈ fs,f.held = 2) → ∃ f ∈ fs,¬ f.held = 2 ∧ F.at1.lo = f.at1.lo
 sure : F.held = 0 ↔ ∃ f ∈ fs,f.held = 0
 hi1 : ∀ f ∈ fs,f.held = 0 → F.at1.hi ≤ f.at1.hi
 hi2 : F.held = 0 → ∃ f ∈ fs,f.held = 0 ∧ F.at1.hi = f.at1.hi
 hi3 : ¬ F.held = 0 → ∀ f ∈ fs,¬ f.held = 2 → f.at1.hi ≤ F.at1.hi
 hi4 : F.held = 1 → ∃ f ∈ fs,¬ f.held = 2 ∧ F.at1.hi = f.at1.hi
theorem firstOf_nil : FirstOf [] ⟨2,⟨0,0⟩⟩ := by
 constructor <;> simp
theorem Si {a : Int} (h : a = 0 ∨ a = 1 ∨ a = 2) (h2 : ¬ a = 2) : a = 0 ∨ a = 1 := by omega
theorem WZ {a b : Int} (h : a = 0 ∨ a = 1) (h2 : b = 0 ∨ b = 1) : min a b = 0 ∨ min a b = 1 := by omega
theorem KK {a b : Int} (h : a = 0 ∨ a = 1) (h2 : b = 0 ∨ b = 1) : min a b = 0 ↔ a = 0 ∨ b = 0 := by omega
theorem PC {a b : Int} (h : a = 0 ∨ a = 1) (h2 : b = 0 ∨ b = 1) : ¬ min a b = 0 ↔ ¬ a = 0 ∧ ¬ b = 0 := by omega
theorem LW {fs : List FailT} {F x : FailT} (h : FirstOf fs F) (hx : x.held = 0 ∨ x.held = 1 ∨ x.held = 2) : FirstOf (fs ++ [x]) (Jb F x) := by
 have hall : (∀ f ∈ fs ++ [x],f.held = 2) ↔ (∀ f ∈ fs,f.held = 2) ∧ x.held = 2 := by
  simp only [List.mem_append,List.mem_singleton]
  exact ⟨fun q => ⟨fun f hf => q f (.inl hf),q x (.inr rfl)⟩,fun ⟨q1,q2⟩ f hf => by rcases hf with hf | rfl; exact q1 f hf; exact q2⟩
 have hmem : ∀ f,f ∈ fs ++ [x] ↔ f ∈ fs ∨ f = x := by simp
 obtain ⟨n1,n2,n3,n4,n5,n6,n7,n8,n9⟩ := h
 unfold Jb
 by_cases h2 : x.held = 2
 ·rw [if_pos h2]
  refine ⟨fun q => n1 (hall.1 q).1,fun q => n2 fun r => q (hall.2 ⟨r,h2⟩),fun f hf hf2 => ?_,fun q => ?_,?_,fun f hf hf2 => ?_,fun q => ?_,fun q f hf hf2 => ?_,fun q => ?_⟩
  ·rcases (hmem f).1 hf with hf | rfl
   ·exact n3 f hf hf2
   ·exact absurd h2 hf2
  ·obtain ⟨f,a,b⟩ := n4 fun r => q (hall.2 ⟨r,h2⟩)
   exact ⟨f,(hmem f).2 (.inl a),b⟩
  ·rw [n5]
   exact ⟨fun ⟨f,a,b⟩ => ⟨f,(hmem f).2 (.inl a),b⟩,fun ⟨f,a,b⟩ => by
    rcases (hmem f).1 a with a | rfl
    ·exact ⟨f,a,b⟩
    ·omega⟩
  ·rcases (hmem f).1 hf with hf | rfl
   ·exact n6 f hf hf2
   ·omega
  ·obtain ⟨f,a,b⟩ := n7 q
   exact ⟨f,(hmem f).2 (.inl a),b⟩
  ·rcases (hmem f).1 hf with hf | rfl
   ·exact n8 q f hf hf2
   ·exact absurd h2 hf2
  ·obtain ⟨f,a,b⟩ := n9 q
   exact ⟨f,(hmem f).2 (.inl a),b⟩
 ·rw [if_neg h2]
  by_cases hF2 : F.held = 2
  ·rw [if_pos hF2]
   have hn : ∀ f ∈ fs,f.held = 2 := by
    refine Classical.byContradiction fun q => ?_
    have := n2 q; omega
   refine ⟨fun q => absurd (hall.1 q).2 h2,fun _ => Si hx h2,fun f hf hf2 => ?_,fun q => ⟨x,(hmem x).2 (.inr rfl),h2,rfl⟩,?_,fun f hf hf2 => ?_,fun q => ⟨x,(hmem x).2 (.inr rfl),q,rfl⟩,fun q f hf hf2 => ?_,fun q => ⟨x,(hmem x).2 (.inr rfl),h2,rfl⟩⟩
   ·rcases (hmem f).1 hf with hf | rfl
    ·exact absurd (hn f hf) hf2
    ·exact Int.le_refl _
   ·exact ⟨fun q => ⟨x,(hmem x).2 (.inr rfl),q⟩,fun ⟨f,a,b⟩ => by
     rcases (hmem f).1 a with a | rfl
     ·have := hn f a; omega
     ·exact b⟩
   ·rcases (hmem f).1 hf with hf | rfl
    ·have := hn f hf; omega
    ·exact Int.le_refl _
   ·rcases (hmem f).1 hf with hf | rfl
    ·exact absurd (hn f hf) hf2
    ·exact Int.le_refl _
  ·rw [if_neg hF2]
   have hq : ¬ ∀ f ∈ fs,f.held = 2 := fun q => hF2 (by rw [n1 q])
   have hF := n2 hq
   have hx2 := Si hx h2
   obtain ⟨g,g1,g2,g3⟩ := n4 hq
   refine ⟨fun q => absurd (hall.1 q).2 h2,fun _ => WZ hF hx2,fun f hf hf2 => ?_,fun _ => ?_,?_,fun f hf hf2 => ?_,fun q => ?_,fun q f hf hf2 => ?_,fun q => ?_⟩
   ·rcases (hmem f).1 hf with hf | rfl
    ·have := n3 f hf hf2; simp only; omega
    ·simp only; omega
   ·by_cases hlt : F.at1.lo ≤ x.at1.lo
    ·exact ⟨g,(hmem g).2 (.inl g1),g2,by simp only; omega⟩
    ·exact ⟨x,(hmem x).2 (.inr rfl),h2,by simp only; omega⟩
   ·constructor
    ·intro q
     rcases (KK hF hx2).1 q with h0 | h0
     ·obtain ⟨f,a,b⟩ := n5.1 h0
      exact ⟨f,(hmem f).2 (.inl a),b⟩
     ·exact ⟨x,(hmem x).2 (.inr rfl),h0⟩
    ·rintro ⟨f,a,b⟩
     rcases (hmem f).1 a with a | rfl
     ·exact (KK hF hx2).2 (.inl (n5.2 ⟨f,a,b⟩))
     ·exact (KK hF hx2).2 (.inr b)
   ·simp only
    rcases (hmem f).1 hf with hf | rfl
    ·have h0 := n5.2 ⟨f,hf,hf2⟩
     have := n6 f hf hf2
     by_cases hx0 : x.held = 0
     ·rw [if_pos ⟨hx0,h0⟩]; omega
     ·rw [if_neg (fun q => hx0 q.1),if_neg hx0,if_neg (by omega)]; exact this
    ·by_cases h0 : F.held = 0
     ·rw [if_pos ⟨hf2,h0⟩]; omega
     ·rw [if_neg (fun q => h0 q.2),if_pos hf2]; omega
   ·simp only at q ⊢
    by_cases hx0 : x.held = 0
    ·by_cases h0 : F.held = 0
     ·rw [if_pos ⟨hx0,h0⟩]
      obtain ⟨f,a,b,c⟩ := n7 h0
      by_cases hlt : F.at1.hi ≤ x.at1.hi
      ·exact ⟨f,(hmem f).2 (.inl a),b,by omega⟩
      ·exact ⟨x,(hmem x).2 (.inr rfl),hx0,by omega⟩
     ·rw [if_neg (fun q => h0 q.2),if_pos hx0]
      exact ⟨x,(hmem x).2 (.inr rfl),hx0,rfl⟩
    ·have h0 : F.held = 0 := by omega
     rw [if_neg (fun q => hx0 q.1),if_neg hx0,if_neg (by omega)]
     obtain ⟨f,a,b,c⟩ := n7 h0
     exact ⟨f,(hmem f).2 (.inl a),b,c⟩
   ·obtain ⟨h0,hx0⟩ := (PC hF hx2).1 q
    simp only
    rw [if_neg (fun q => hx0 q.1),if_neg hx0,if_pos (hF.resolve_left h0)]
    rcases (hmem f).1 hf with hf | rfl
    ·have := n8 h0 f hf hf2; omega
    ·omega
   ·obtain ⟨h0,hx0⟩ := (PC hF hx2).1 (show ¬ min F.held x.held = 0 from fun h => by rw [show (min F.held x.held) = 1 from q] at h; cases h)
    simp only
    rw [if_neg (fun q => hx0 q.1),if_neg hx0,if_pos (hF.resolve_left h0)]
    obtain ⟨f,a,b,c⟩ := n9 (hF.resolve_left h0)
    by_cases hlt : x.at1.hi ≤ F.at1.hi
    ·exact ⟨f,(hmem f).2 (.inl a),b,by omega⟩
    ·exact ⟨x,(hmem x).2 (.inr rfl),h2,by omega⟩
theorem U5 (fs : List FailT) (hb : ∀ f ∈ fs,MB f) : FirstOf fs (Ev fs) := by
 rw [← OT fs hb]
 have gen : ∀ n,FirstOf (fs.take n) ((fs.take n).foldl Jb ⟨2,⟨0,0⟩⟩) := by
  intro n
  induction n with
  | zero => exact firstOf_nil
  | succ n ih =>
   by_cases h : n < fs.length
   ·have hx : fs[n]? = some fs[n] := List.getElem?_eq_getElem h
    rw [BL hx,List.foldl_append]
    exact LW ih (hb _ (List.getElem_mem h)).1
   ·rw [List.take_of_length_le (by omega)] at ih ⊢
    exact ih
 have := gen fs.length
 rwa [List.take_of_length_le (Nat.le_refl _)] at this
end Cp
namespace Cp
open Go Go.Proofs
set_option maxRecDepth 10000
set_option maxHeartbeats 1000000
theorem FJ (lo hi : Int) (b : Bool) : PureC Tryz.prog 157 [.agg [.int .i64 lo,.int .i64 hi,.bool b]] (Ac ⟨if b = true then 0 else 1,⟨lo,hi⟩⟩) := by
 refine A8 (fn := Tryz.f157) tabOK (by kernel_rfl) rfl (by kernel_rfl) (by simp [Tryz.f157]) (by simp [noids,noid,noidss,go_sem,Ac,Ag]) (by first | rfl | simp [noids,noid,noidss,go_sem,Ac,Ag]) ?_
 intro X hX0 hXs
 cases b with
 | true =>
  repeat' (first | with_reducible (first | (refine sk ?_; intro K hK) | intro (ep : Nat → Nat) | apply_assumption -exfalso -symm only [*]) | ((with_reducible first | refine rg (h := ?_) | refine nx ?_); try simp (disch := omega) only [Ac,Ag,go_sem,simprocAttr]) | ((with_reducible refine' cE ?hv ?_ ?_); (case hv => rfl); all_goals (intro hc; (try simp only [go_sem,simprocAttr] at hc))) | ((with_reducible refine fe ?_); refine ⟨_,(by simp only [Tryz.f157,Ac,Ag,go_sem,simprocAttr]; rfl),?_⟩; rfl) | fail)
 | false =>
  repeat' (first | with_reducible (first | (refine sk ?_; intro K hK) | intro (ep : Nat → Nat) | apply_assumption -exfalso -symm only [*]) | ((with_reducible first | refine rg (h := ?_) | refine nx ?_); try simp (disch := omega) only [Ac,Ag,go_sem,simprocAttr]) | ((with_reducible refine' cE ?hv ?_ ?_); (case hv => rfl); all_goals (intro hc; (try simp only [go_sem,simprocAttr] at hc))) | ((with_reducible refine fe ?_); refine ⟨_,(by simp only [Tryz.f157,Ac,Ag,go_sem,simprocAttr]; rfl),?_⟩; rfl) | fail)
theorem ktold_ok : PureC Tryz.prog 158 [.agg []] (Ac ⟨2,⟨0,0⟩⟩) := by
 refine A8 (fn := Tryz.f158) tabOK (by kernel_rfl) rfl (by kernel_rfl) (by simp [Tryz.f158]) (by simp [noids,noid,noidss,go_sem,Ac,Ag]) (by first | rfl | simp [noids,noid,noidss,go_sem,Ac,Ag]) ?_
 intro X hX0 hXs
 repeat' (first | with_reducible (first | (refine sk ?_; intro K hK) | intro (ep : Nat → Nat) | apply_assumption -exfalso -symm only [*]) | ((with_reducible first | refine rg (h := ?_) | refine nx ?_); try simp (disch := omega) only [Ac,Ag,go_sem,simprocAttr]) | ((with_reducible refine fe ?_); refine ⟨_,(by simp only [Tryz.f158,Ac,Ag,go_sem,simprocAttr]; rfl),?_⟩; rfl) | fail)
theorem meth_b : O2 Tryz.prog 104 "cottonpad/class.told" 157 := by
 intro v w
 kernel_rfl
theorem meth_k : O2 Tryz.prog 133 "cottonpad/class.told" 158 := by
 intro v w
 kernel_rfl
theorem Ma {t : TestT} (h : Ap t = 0) : AZ t = true ∧ t.run.rows.length ≤ 60 := by
 unfold Ap at h
 split at h
 ·rename_i hE
  split at h
  ·rename_i hT
   refine ⟨hT,?_⟩
   have h1 : CK t.run = true := by unfold AV at hE; split at hE <;> simp_all
   exact (Ew h1).rows.2.1
  ·omega
 ·rename_i hE; exact absurd h hE
def EF (t : TestT) (c : Int) : Val := if Ap t = 0 then (if 1 ≤ c ∧ c ≤ 6 then .tup [Ac (Ah t (c - 1).toNat),.int .i64 0] else .tup [Ac ⟨0,⟨0,0⟩⟩,.int .i64 2]) else .tup [Ac ⟨0,⟨0,0⟩⟩,.int .i64 (Ap t)]
theorem LC (t : TestT) (hb : TestB t) (c : Int) (hc : 0 ≤ c ∧ c ≤ 255) : PureC Tryz.prog 30 [A3 t,.int .u8 c] (EF t c) := by
 have hnv : noid (EF t c) = true := by unfold EF; (repeat' split) <;> rfl
 have ho := MC t hb
 simp only [A3,A2] at ho
 refine A8 (fn := Tryz.f30) tabOK (by kernel_rfl) rfl (by kernel_rfl) (by simp [Tryz.f30]) (by simp [noids,noid,noidss,go_sem,A3,A2,hnv]) (by first | rfl | simp [noids,noid,noidss,go_sem,A3,A2,hnv]) ?_
 intro X hX0 hXs
 unfold EF at hnv ⊢
 by_cases h : Ap t = 0
 ·rw [if_pos h] at hnv ⊢
  obtain ⟨hT,hR⟩ := Ma h
  by_cases hcr : 1 ≤ c ∧ c ≤ 6
  ·rw [if_pos hcr] at hnv ⊢
   obtain ⟨k,rfl⟩ : ∃ k : Nat,c = ((k + 1 : Nat) : Int) := ⟨(c - 1).toNat,by omega⟩
   have hk : (((k + 1 : Nat) : Int) - 1).toNat = k := by omega
   rw [hk] at hnv ⊢
   by_cases h2 : (Ah t k).held = 2
   ·have hf : Ah t k = ⟨2,⟨0,0⟩⟩ := by
     unfold Ah at h2 ⊢
     split at h2
     ·rename_i hx; rw [if_pos hx]
     ·exfalso; simp only at h2; split at h2 <;> omega
    have he : Bu (Ah t k) = .iface 133 (.agg []) := if_pos h2
    rw [hf] at hnv ⊢
    repeat' (first | with_reducible (first | (refine sk ?_; intro K hK) | intro (ep : Nat → Nat) | apply_assumption -exfalso -symm only [*]) | ((with_reducible refine rgL [] [25] (md := { base := 0,own := [4],imp := [10] }) (h := ?_)); try simp (disch := omega) only [A3,A2,go_sem,simprocAttr]) | fail)
    refine iK (ho _) ?_
    rintro v H2 ⟨hlow,hv⟩
    rw [if_pos h] at hv
    obtain ⟨eb,em,ver,m,rfl,h4,h2',hS⟩ := hv
    have H24 := hlow 4 (by decide)
    have cl := E4 t hT hR k (by omega) eb em ver m hS
    rw [he] at cl
    have hH : ∀ q,D9 t eb em ver m (upd H2 4 q) := fun q => ⟨(A0 _ _ (by decide)).trans h4,(A0 _ _ (by decide)).trans h2'⟩
    simp only [go_sem,simprocAttr] at H24 ⊢
    repeat' (first | with_reducible (first | (refine sk ?_; intro K hK) | apply_assumption -exfalso -symm only [*]) | ((first | (with_reducible first | refine F3 (id := 6) tabOK { base := 0,own := [4],imp := [10] } [] [25] (by rw [hXs]; decide +kernel) ?_ | refine rgL [] [25] (md := { base := 0,own := [4],imp := [10] }) (h := ?_) | refine nx ?_) | refine pK (KA _ _ _) ?_ | refine lK (cl _ ⟨h4,h2'⟩) ?_); try simp (disch := omega) only [H24,h4,h2',go_sem,simprocAttr]) | ((with_reducible refine' cE ?hv ?_ ?_); (case hv => rfl); all_goals (intro hc; (try simp only [go_sem,simprocAttr] at hc); try (exfalso; omega))) | fail)
    refine ⟨_,meth_k,pK ktold_ok ?_⟩
    simp only [go_sem,simprocAttr,Ac,Ag,H24]
    repeat' (first | with_reducible apply_assumption -exfalso -symm only [*] | ((with_reducible refine nx ?_); try simp (disch := omega) only [Ac,Ag,H24,go_sem,simprocAttr]) | ((with_reducible refine fe ?_); refine ⟨_,(by simp only [Tryz.f30,Ac,Ag,H24,go_sem,simprocAttr]; rfl),?_⟩; rfl) | fail)
   ·have he : Bu (Ah t k) = .iface 104 (.agg [.int .i64 (Ah t k).at1.lo,.int .i64 (Ah t k).at1.hi,.bool (decide ((Ah t k).held = 0))]) := if_neg h2
    have hf : Ah t k = ⟨if decide ((Ah t k).held = 0) = true then 0 else 1,⟨(Ah t k).at1.lo,(Ah t k).at1.hi⟩⟩ := by
     have hh := CP t k
     generalize Ah t k = F at hh h2
     obtain ⟨a,b,c⟩ := F
     simp only at hh h2 ⊢
     rcases hh with rfl | rfl | rfl
     ·simp
     ·simp
     ·exact absurd rfl h2
    rw [hf] at hnv ⊢
    generalize (Ah t k).at1.lo = lo at *
    generalize (Ah t k).at1.hi = hi at *
    generalize decide ((Ah t k).held = 0) = sure at *
    repeat' (first | with_reducible (first | (refine sk ?_; intro K hK) | intro (ep : Nat → Nat) | apply_assumption -exfalso -symm only [*]) | ((with_reducible refine rgL [] [25] (md := { base := 0,own := [4],imp := [10] }) (h := ?_)); try simp (disch := omega) only [A3,A2,go_sem,simprocAttr]) | fail)
    refine iK (ho _) ?_
    rintro v H2 ⟨hlow,hv⟩
    rw [if_pos h] at hv
    obtain ⟨eb,em,ver,m,rfl,h4,h2',hS⟩ := hv
    have H24 := hlow 4 (by decide)
    have cl := E4 t hT hR k (by omega) eb em ver m hS
    rw [he] at cl
    simp only [go_sem,simprocAttr] at H24 ⊢
    repeat' (first | with_reducible (first | (refine sk ?_; intro K hK) | apply_assumption -exfalso -symm only [*]) | ((first | (with_reducible first | refine F3 (id := 6) tabOK { base := 0,own := [4],imp := [10] } [] [25] (by rw [hXs]; decide +kernel) ?_ | refine rgL [] [25] (md := { base := 0,own := [4],imp := [10] }) (h := ?_) | refine nx ?_) | refine pK (KA _ _ _) ?_ | refine lK (cl _ ⟨h4,h2'⟩) ?_); try simp (disch := omega) only [H24,h4,h2',go_sem,simprocAttr]) | ((with_reducible refine' cE ?hv ?_ ?_); (case hv => rfl); all_goals (intro hc; (try simp only [go_sem,simprocAttr] at hc); try (exfalso; omega))) | fail)
    refine ⟨_,meth_b,pK (FJ lo hi sure) ?_⟩
    simp only [go_sem,simprocAttr,Ac,Ag,H24]
    repeat' (first | with_reducible apply_assumption -exfalso -symm only [*] | ((with_reducible refine nx ?_); try simp (disch := omega) only [Ac,Ag,H24,go_sem,simprocAttr]) | ((with_reducible refine fe ?_); refine ⟨_,(by simp only [Tryz.f30,Ac,Ag,H24,go_sem,simprocAttr]; rfl),?_⟩; rfl) | fail)
  ·rw [if_neg hcr] at hnv ⊢
   repeat' (first | with_reducible (first | (refine sk ?_; intro K hK) | intro (ep : Nat → Nat) | apply_assumption -exfalso -symm only [*]) | ((with_reducible refine rgL [] [25] (md := { base := 0,own := [4],imp := [10] }) (h := ?_)); try simp (disch := omega) only [A3,A2,go_sem,simprocAttr]) | fail)
   refine iK (ho _) ?_
   rintro v H2 ⟨hlow,hv⟩
   rw [if_pos h] at hv
   obtain ⟨eb,em,ver,m,rfl,h4,h2',hS⟩ := hv
   have H24 := hlow 4 (by decide)
   simp only [go_sem,simprocAttr] at H24 ⊢
   repeat' (first | with_reducible (first | (refine sk ?_; intro K hK) | apply_assumption -exfalso -symm only [*]) | ((first | (with_reducible first | refine rgL [] [25] (md := { base := 0,own := [4],imp := [10] }) (h := ?_) | refine nx ?_) | refine pK (KA _ _ _) ?_); try simp (disch := omega) only [h,H24,Ac,Ag,hcr,go_sem,simprocAttr]) | ((with_reducible refine' cE ?hv ?_ ?_); (case hv => rfl); all_goals (intro hc; (try simp only [go_sem,simprocAttr] at hc))) | ((with_reducible refine fe ?_); refine ⟨_,(by simp only [Tryz.f30,h,H24,Ac,Ag,hcr,go_sem,simprocAttr]; rfl),?_⟩; rfl) | fail)
 ·rw [if_neg h] at hnv ⊢
  repeat' (first | with_reducible (first | (refine sk ?_; intro K hK) | intro (ep : Nat → Nat) | apply_assumption -exfalso -symm only [*]) | ((with_reducible refine rgL [] [25] (md := { base := 0,own := [4],imp := [10] }) (h := ?_)); try simp (disch := omega) only [A3,A2,go_sem,simprocAttr]) | fail)
  refine iK (ho _) ?_
  rintro v H2 ⟨hlow,hv⟩
  rw [if_neg h] at hv
  subst hv
  have H24 := hlow 4 (by decide)
  simp only [go_sem,simprocAttr] at H24 ⊢
  repeat' (first | with_reducible (first | (refine sk ?_; intro K hK) | apply_assumption -exfalso -symm only [*]) | ((with_reducible first | refine rgL [] [25] (md := { base := 0,own := [4],imp := [10] }) (h := ?_) | refine nx ?_); try simp (disch := omega) only [h,H24,Ac,Ag,go_sem,simprocAttr]) | ((with_reducible refine' cE ?hv ?_ ?_); (case hv => rfl); all_goals (intro hc; (try simp only [go_sem,simprocAttr] at hc))) | ((with_reducible refine fe ?_); refine ⟨_,(by simp only [Tryz.f30,h,H24,Ac,Ag,go_sem,simprocAttr]; rfl),?_⟩; rfl) | fail)
end Cp
namespace Cp
open Go Go.Proofs
set_option maxRecDepth 10000
set_option maxHeartbeats 1000000
def VE (t : TestT) (l : Int) (H0 : Hp) (v : Val) (H' : Hp) : Prop :=
 (∀ j,j < 2100 → H' j = H0 j) ∧ if Ap t = 0 then (if 1 ≤ l ∧ l ≤ 3 then ∃ eb em ver m,v = .tup [.ptr 2204 eb 24 0 0,.int .i64 0] ∧ D9 t eb em ver m H' ∧ SeenM t 6 m else v = .tup [.nilp,.int .i64 2]) else v = .tup [.nilp,.int .i64 (Ap t)]
theorem FE (t : TestT) (hb : TestB t) (l : Int) (hl : 0 ≤ l ∧ l ≤ 255) (H0 : Hp) : BD Tryz.prog 38 [A3 t,.int .u8 l] H0 (VE t l H0) := by
 have ho := MC t hb
 simp only [A3,A2] at ho
 unfold VE
 refine BN (fn := Tryz.f38) tabOK (by kernel_rfl) rfl (by kernel_rfl) (by simp [Tryz.f38]) ?_
 intro X hX0 hXs
 obtain ⟨e,he⟩ : ∃ e,Ap t = e := ⟨_,rfl⟩
 rw [he]
 repeat' (first | with_reducible (first | (refine sk ?_; intro K hK) | apply_assumption -exfalso -symm only [*]) | ((with_reducible refine rg (md := { base := 2700,own := [],imp := [10] }) (h := ?_)); try simp (disch := omega) only [A3,A2,go_sem,simprocAttr]) | fail)
 refine iK (ho _) ?_
 rintro v H2 ⟨hlow,hv⟩
 rw [he] at hv
 by_cases h : e = 0
 ·rw [if_pos h] at hv
  obtain ⟨eb,em,ver,m,rfl,h4,h2,hS⟩ := hv
  subst h
  simp only [go_sem,simprocAttr]
  by_cases hc' : 1 ≤ l ∧ l ≤ 3
  ·repeat' (first | with_reducible (first | (refine sk ?_; intro K hK) | apply_assumption -exfalso -symm only [*]) | ((first | (with_reducible first | refine rg (md := { base := 2700,own := [],imp := [10] }) (h := ?_) | refine nx ?_) | refine pK (KA _ _ _) ?_); try simp (disch := omega) only [hc',h4,go_sem,simprocAttr]) | ((with_reducible refine' cE ?hv ?_ ?_); (case hv => rfl); all_goals (intro hc; (try simp only [go_sem,simprocAttr] at hc))) | fail)
   refine AM (Or.inl rfl) (.refl _) (by simp only [Tryz.f38,go_sem,simprocAttr]; rfl) ?_
   refine ⟨hlow,?_⟩
   exact ⟨eb,em,ver,m,by simp only [go_sem,simprocAttr,h4]; rfl,⟨h4,h2⟩,hS⟩
  ·repeat' (first | with_reducible (first | (refine sk ?_; intro K hK) | apply_assumption -exfalso -symm only [*]) | ((first | (with_reducible first | refine rg (md := { base := 2700,own := [],imp := [10] }) (h := ?_) | refine nx ?_) | refine pK (KA _ _ _) ?_); try simp (disch := omega) only [hc',go_sem,simprocAttr]) | ((with_reducible refine' cE ?hv ?_ ?_); (case hv => rfl); all_goals (intro hc; (try simp only [go_sem,simprocAttr] at hc))) | fail)
   refine AM (Or.inl rfl) (.refl _) (by simp only [Tryz.f38,go_sem,simprocAttr]; rfl) ?_
   refine ⟨hlow,?_⟩
   simp only [go_sem,simprocAttr]
 ·rw [if_neg h] at hv
  subst hv
  simp only [go_sem,simprocAttr]
  repeat' (first | with_reducible (first | (refine sk ?_; intro K hK) | apply_assumption -exfalso -symm only [*]) | ((with_reducible first | refine rg (md := { base := 2700,own := [],imp := [10] }) (h := ?_) | refine nx ?_); try simp (disch := omega) only [h,go_sem,simprocAttr]) | ((with_reducible refine' cE ?hv ?_ ?_); (case hv => rfl); all_goals (intro hc; (try simp only [go_sem,simprocAttr] at hc))) | fail)
  refine AM (Or.inl rfl) (.refl _) (by simp only [Tryz.f38,go_sem,simprocAttr]; rfl) ?_
  refine ⟨hlow,?_⟩
  simp only [go_sem,simprocAttr]
def GH (t : TestT) (l : Int) : Val := if Ap t = 0 then (if 1 ≤ l ∧ l ≤ 3 then .tup [Ac (Aa t l.toNat),.int .i64 0] else .tup [Ac ⟨0,⟨0,0⟩⟩,.int .i64 2]) else .tup [Ac ⟨0,⟨0,0⟩⟩,.int .i64 (Ap t)]
theorem Dt (fs : List FailT) : (Ev fs).held = 0 ∨ (Ev fs).held = 1 ∨ (Ev fs = ⟨2,⟨0,0⟩⟩) := by
 unfold Ev
 split
 ·exact .inr (.inr rfl)
 ·cases CA fs <;> simp
theorem Lc (t : TestT) (hb : TestB t) (l : Int) (hl : 0 ≤ l ∧ l ≤ 255) : PureC Tryz.prog 22 [A3 t,.int .u8 l] (GH t l) := by
 have hnv : noid (GH t l) = true := by unfold GH; (repeat' split) <;> rfl
 have ho := FE t hb l hl
 simp only [A3,A2] at ho
 refine A8 (fn := Tryz.f22) tabOK (by kernel_rfl) rfl (by kernel_rfl) (by simp [Tryz.f22]) (by simp [noids,noid,noidss,go_sem,A3,A2,hnv]) (by first | rfl | simp [noids,noid,noidss,go_sem,A3,A2,hnv]) ?_
 intro X hX0 hXs
 unfold GH at hnv ⊢
 by_cases h : Ap t = 0
 ·rw [if_pos h] at hnv ⊢
  obtain ⟨hT,hR⟩ := Ma h
  by_cases hcr : 1 ≤ l ∧ l ≤ 3
  ·rw [if_pos hcr] at hnv ⊢
   obtain ⟨k,rfl⟩ : ∃ k : Nat,l = (k : Int) := ⟨l.toNat,by omega⟩
   rw [Int.toNat_natCast] at hnv ⊢
   have hfh := Dt (AB t (2 * k))
   have hle : Aa t k = Ev (AB t (2 * k)) := rfl
   rw [← hle] at hfh
   clear hle
   have cl := fun eb em ver m hS H h => IW t hT hR k (by omega) eb em ver m hS H h
   generalize Aa t k = F at hfh hnv cl ⊢
   repeat' (first | with_reducible (first | (refine sk ?_; intro K hK) | intro (ep : Nat → Nat) | apply_assumption -exfalso -symm only [*]) | ((with_reducible refine rg (md := { base := 0,own := [4],imp := [11,20] }) (h := ?_)); try simp (disch := omega) only [A3,A2,go_sem,simprocAttr]) | fail)
   refine iK (ho _) ?_
   rintro v H2 ⟨hlow,hv⟩
   rw [if_pos h,if_pos hcr] at hv
   obtain ⟨eb,em,ver,m,rfl,hTL,hS⟩ := hv
   have H24 := hlow 4 (by decide)
   simp only [go_sem,simprocAttr] at H24 ⊢
   repeat' (first | with_reducible (first | (refine sk ?_; intro K hK) | apply_assumption -exfalso -symm only [*]) | ((with_reducible first | refine F3 (id := 4) tabOK { base := 0,own := [4],imp := [11,20] } [] [] (by rw [hXs]; decide +kernel) ?_ | refine rg (md := { base := 0,own := [4],imp := [11,20] }) (h := ?_) | refine nx ?_); try simp (disch := omega) only [H24,go_sem,simprocAttr]) | ((with_reducible refine' cE ?hv ?_ ?_); (case hv => rfl); all_goals (intro hc; (try simp only [go_sem,simprocAttr] at hc))) | fail)
   refine iK (cl eb em ver m hS _ hTL) ?_
   rintro v H3 ⟨rfl,hlo⟩
   have H34 := (hlo 4 (by decide)).trans H24
   rcases hfh with hF | hF | hF
   ·have he : Bu F = .iface 104 (.agg [.int .i64 F.at1.lo,.int .i64 F.at1.hi,.bool true]) := by rw [Bu,if_neg (by omega),hF]; rfl
    have hf : F = ⟨if true = true then 0 else 1,⟨F.at1.lo,F.at1.hi⟩⟩ := by obtain ⟨a,b⟩ := F; simp only at hF; rw [hF]; rfl
    rw [he]
    simp only [go_sem,simprocAttr]
    refine ⟨_,meth_b,pK (FJ F.at1.lo F.at1.hi true) ?_⟩
    rw [← hf]
    simp only [go_sem,simprocAttr,Ac,Ag,H34]
    repeat' (first | with_reducible apply_assumption -exfalso -symm only [*] | ((with_reducible refine nx ?_); try simp (disch := omega) only [Ac,Ag,H34,go_sem,simprocAttr]) | ((with_reducible refine fe ?_); refine ⟨_,(by simp only [Tryz.f22,Ac,Ag,H34,go_sem,simprocAttr]; rfl),?_⟩; rfl) | fail)
   ·have he : Bu F = .iface 104 (.agg [.int .i64 F.at1.lo,.int .i64 F.at1.hi,.bool false]) := by rw [Bu,if_neg (by omega),hF]; rfl
    have hf : F = ⟨if false = true then 0 else 1,⟨F.at1.lo,F.at1.hi⟩⟩ := by obtain ⟨a,b⟩ := F; simp only at hF; rw [hF]; rfl
    rw [he]
    simp only [go_sem,simprocAttr]
    refine ⟨_,meth_b,pK (FJ F.at1.lo F.at1.hi false) ?_⟩
    rw [← hf]
    simp only [go_sem,simprocAttr,Ac,Ag,H34]
    repeat' (first | with_reducible apply_assumption -exfalso -symm only [*] | ((with_reducible refine nx ?_); try simp (disch := omega) only [Ac,Ag,H34,go_sem,simprocAttr]) | ((with_reducible refine fe ?_); refine ⟨_,(by simp only [Tryz.f22,Ac,Ag,H34,go_sem,simprocAttr]; rfl),?_⟩; rfl) | fail)
   ·subst hF
    have he : Bu ⟨2,⟨0,0⟩⟩ = .iface 133 (.agg []) := if_pos rfl
    rw [he]
    simp only [go_sem,simprocAttr]
    refine ⟨_,meth_k,pK ktold_ok ?_⟩
    simp only [go_sem,simprocAttr,Ac,Ag,H34]
    repeat' (first | with_reducible apply_assumption -exfalso -symm only [*] | ((with_reducible refine nx ?_); try simp (disch := omega) only [Ac,Ag,H34,go_sem,simprocAttr]) | ((with_reducible refine fe ?_); refine ⟨_,(by simp only [Tryz.f22,Ac,Ag,H34,go_sem,simprocAttr]; rfl),?_⟩; rfl) | fail)
  ·rw [if_neg hcr] at hnv ⊢
   repeat' (first | with_reducible (first | (refine sk ?_; intro K hK) | intro (ep : Nat → Nat) | apply_assumption -exfalso -symm only [*]) | ((with_reducible refine rg (md := { base := 0,own := [4],imp := [11,20] }) (h := ?_)); try simp (disch := omega) only [A3,A2,go_sem,simprocAttr]) | fail)
   refine iK (ho _) ?_
   rintro v H2 ⟨hlow,hv⟩
   rw [if_pos h,if_neg hcr] at hv
   subst hv
   have H24 := hlow 4 (by decide)
   simp only [go_sem,simprocAttr] at H24 ⊢
   repeat' (first | with_reducible (first | (refine sk ?_; intro K hK) | apply_assumption -exfalso -symm only [*]) | ((with_reducible first | refine rg (md := { base := 0,own := [4],imp := [11,20] }) (h := ?_) | refine nx ?_); try simp (disch := omega) only [h,H24,Ac,Ag,go_sem,simprocAttr]) | ((with_reducible refine' cE ?hv ?_ ?_); (case hv => rfl); all_goals (intro hc; (try simp only [go_sem,simprocAttr] at hc))) | ((with_reducible refine fe ?_); refine ⟨_,(by simp only [Tryz.f22,h,H24,Ac,Ag,go_sem,simprocAttr]; rfl),?_⟩; rfl) | fail)
 ·rw [if_neg h] at hnv ⊢
  repeat' (first | with_reducible (first | (refine sk ?_; intro K hK) | intro (ep : Nat → Nat) | apply_assumption -exfalso -symm only [*]) | ((with_reducible refine rg (md := { base := 0,own := [4],imp := [11,20] }) (h := ?_)); try simp (disch := omega) only [A3,A2,go_sem,simprocAttr]) | fail)
  refine iK (ho _) ?_
  rintro v H2 ⟨hlow,hv⟩
  rw [if_neg h] at hv
  subst hv
  have H24 := hlow 4 (by decide)
  simp only [go_sem,simprocAttr] at H24 ⊢
  repeat' (first | with_reducible (first | (refine sk ?_; intro K hK) | apply_assumption -exfalso -symm only [*]) | ((with_reducible first | refine rg (md := { base := 0,own := [4],imp := [11,20] }) (h := ?_) | refine nx ?_); try simp (disch := omega) only [h,H24,Ac,Ag,go_sem,simprocAttr]) | ((with_reducible refine' cE ?hv ?_ ?_); (case hv => rfl); all_goals (intro hc; (try simp only [go_sem,simprocAttr] at hc))) | ((with_reducible refine fe ?_); refine ⟨_,(by simp only [Tryz.f22,h,H24,Ac,Ag,go_sem,simprocAttr]; rfl),?_⟩; rfl) | fail)
end Cp
namespace Cp
open Go Go.Proofs
set_option maxRecDepth 10000
set_option maxHeartbeats 1000000
theorem CY (n lo hi : Int) : PureC Tryz.prog 46 [.int .i64 n,.int .i64 lo,.int .i64 hi] (.bool (decide (lo ≤ n ∧ n ≤ hi))) := by
 refine A8 (fn := Tryz.f46) tabOK (by kernel_rfl) rfl (by kernel_rfl) (by simp [Tryz.f46]) (by simp [noids,noid,noidss,go_sem]) (by first | rfl | simp [noids,noid,noidss,go_sem]) ?_
 intro X hX0 hXs
 repeat' (first | with_reducible (first | (refine sk ?_; intro K hK) | apply_assumption -exfalso -symm only [*]) | ((with_reducible first | refine rg (h := ?_) | refine nx ?_); try simp (disch := omega) only [go_sem,simprocAttr]) | ((with_reducible refine Ab ?_ ?_) <;> intro hg <;> (try simp (disch := omega) only [hg,go_sem,simprocAttr]) <;> (try simp only [go_sem,simprocAttr] at hg) <;> (try (exfalso; omega))) | ((with_reducible refine fe ?_); refine ⟨_,(by simp only [Tryz.f46,go_sem,simprocAttr]; rfl),?_⟩; (try simp only [go_sem,simprocAttr,seval])) | fail)
 all_goals (rw [Bool.eq_iff_iff]; simp; omega)
theorem I4 (s : Span) (lo hi : Int) : PureC Tryz.prog 63 [A6 s,.int .i64 lo,.int .i64 hi] (.bool (decide (lo ≤ s.lo ∧ s.lo ≤ s.hi ∧ s.hi ≤ hi))) := by
 refine A8 (fn := Tryz.f63) tabOK (by kernel_rfl) rfl (by kernel_rfl) (by simp [Tryz.f63]) (by simp [noids,noid,noidss,go_sem,A6]) (by first | rfl | simp [noids,noid,noidss,go_sem,A6]) ?_
 intro X hX0 hXs
 repeat' (first | with_reducible (first | (refine sk ?_; intro K hK) | apply_assumption -exfalso -symm only [*]) | ((with_reducible first | refine rg (h := ?_) | refine nx ?_); try simp (disch := omega) only [A6,go_sem,simprocAttr]) | ((with_reducible refine Ab ?_ ?_) <;> intro hg <;> (try simp (disch := omega) only [hg,A6,go_sem,simprocAttr]) <;> (try simp only [go_sem,simprocAttr] at hg) <;> (try (exfalso; omega))) | ((with_reducible refine fe ?_); refine ⟨_,(by simp only [Tryz.f63,A6,go_sem,simprocAttr]; rfl),?_⟩; (try simp only [A6,go_sem,simprocAttr,seval])) | fail)
 all_goals (rw [Bool.eq_iff_iff]; simp; omega)
def PH (n : NoteT) : Prop := (0 ≤ n.val ∧ n.val ≤ 10000) ∧ -200 ≤ n.off.lo ∧ n.off.lo ≤ n.off.hi ∧ n.off.hi ≤ 200
theorem Oz (t : TestT) (n : NoteT) (h : PH n) (k : Nat) (hk : k < 6) (hn : n.kind = ((k + 1 : Nat) : Int)) : PureC Tryz.prog 31 [A3 t,AE n] (.bool (decide (n.val - n.off.lo ≤ DZ t k))) := by
 unfold PH at h
 have hw : IntKind.u8.wrap (k : Int) = (k : Int) := IntWalk.u8_in _ (by omega)
 have hlim := LZ t hk
 have e : AE n = .agg [.int .i64 n.sec,.int .u8 ((k + 1 : Nat) : Int),.int .i64 n.val,.int .i64 n.off.lo,.int .i64 n.off.hi] := by simp only [AE,cNote,hn]
 rw [e]
 clear e
 refine A8 (fn := Tryz.f31) tabOK (by kernel_rfl) rfl (by kernel_rfl) (by simp [Tryz.f31]) (by simp [noids,noid,noidss,go_sem,A3,A2]) (by first | rfl | simp [noids,noid,noidss,go_sem,A3,A2]) ?_
 intro X hX0 hXs
 repeat' (first | with_reducible (first | (refine sk ?_; intro K hK) | apply_assumption -exfalso -symm only [*]) | ((with_reducible first | refine rg (h := ?_) | refine nx ?_); try simp (disch := omega) only [A3,A2,AE,cNote,hw,hlim,hk,hn,go_sem,simprocAttr]) | ((with_reducible refine fe ?_); refine ⟨_,(by simp only [Tryz.f31,A3,A2,AE,cNote,hw,hlim,hk,hn,go_sem,simprocAttr]; rfl),?_⟩; rfl) | fail)
theorem MZ (t : TestT) (n : NoteT) (h : PH n) (k : Nat) (hk : k < 6) (hn : n.kind = ((k + 1 : Nat) : Int)) : PureC Tryz.prog 32 [A3 t,AE n] (.bool (decide (DZ t k < n.val - n.off.hi))) := by
 unfold PH at h
 have hw : IntKind.u8.wrap (k : Int) = (k : Int) := IntWalk.u8_in _ (by omega)
 have hlim := LZ t hk
 have e : AE n = .agg [.int .i64 n.sec,.int .u8 ((k + 1 : Nat) : Int),.int .i64 n.val,.int .i64 n.off.lo,.int .i64 n.off.hi] := by simp only [AE,cNote,hn]
 rw [e]
 clear e
 refine A8 (fn := Tryz.f32) tabOK (by kernel_rfl) rfl (by kernel_rfl) (by simp [Tryz.f32]) (by simp [noids,noid,noidss,go_sem,A3,A2]) (by first | rfl | simp [noids,noid,noidss,go_sem,A3,A2]) ?_
 intro X hX0 hXs
 repeat' (first | with_reducible (first | (refine sk ?_; intro K hK) | apply_assumption -exfalso -symm only [*]) | ((with_reducible first | refine rg (h := ?_) | refine nx ?_); try simp (disch := omega) only [A3,A2,AE,cNote,hw,hlim,hk,hn,go_sem,simprocAttr]) | ((with_reducible refine fe ?_); refine ⟨_,(by simp only [Tryz.f32,A3,A2,AE,cNote,hw,hlim,hk,hn,go_sem,simprocAttr]; rfl),?_⟩; rfl) | fail)
end Cp
namespace Cp
open Go Go.Proofs
set_option maxRecDepth 10000
set_option maxHeartbeats 1000000
def Fi (t : TestT) (c : Nat) (l : List NoteT) : Int × Int × Bool := l.foldl (Cj t c) (0,t.fin,false)
theorem PW {t : TestT} {c i : Nat} {n : NoteT} (h : t.notes[i]? = some n) : Fi t c (t.notes.take (i + 1)) = Cj t c (Fi t c (t.notes.take i)) n := by
 rw [BL h,Fi,List.foldl_append]; rfl
theorem Qn {t : TestT} (h : Ae t.fin 0 t.notes = true) : ∀ n ∈ t.notes,0 ≤ n.sec ∧ n.sec ≤ t.fin := by
 have hs : ∀ {l : List NoteT} {last : Int},0 ≤ last → Ae t.fin last l = true → ∀ n ∈ l,0 ≤ n.sec ∧ n.sec ≤ t.fin := by
  intro l
  induction l with
  | nil => intro _ _ _ n hn; cases hn
  | cons x l ih =>
   intro last h0 h n hn
   simp only [Ae,Cw,Jh,Bool.and_eq_true,decide_eq_true_eq] at h
   rcases List.mem_cons.1 hn with rfl | hn
   ·omega
   ·exact ih (by omega) h.2 n hn
 exact hs (Int.le_refl 0) h
theorem LP (t : TestT) (hl : t.notes.length ≤ 100000) (hN : Ae t.fin 0 t.notes = true) (hf : t.fin ≤ 3600) (k : Nat) (hk : k < 6) :
  PureC Tryz.prog 69 [A3 t,.int .u8 ((k + 1 : Nat) : Int)] (.tup [.int .i64 (Fi t k t.notes).1,.int .i64 (Fi t k t.notes).2.1,.bool (Fi t k t.notes).2.2]) := by
 refine A8 (fn := Tryz.f69) tabOK (by kernel_rfl) rfl (by kernel_rfl) (by simp [Tryz.f69]) (by simp [noids,noid,noidss,go_sem,A3,A2]) (by first | rfl | simp [noids,noid,noidss,go_sem,A3,A2]) ?_
 intro X hX0 hXs
 repeat' (first | with_reducible (first | (refine sk ?_; intro K hK) | apply_assumption -exfalso -symm only [*]) | ((with_reducible refine rg (h := ?_)); try simp (disch := omega) only [A3,A2,go_sem,simprocAttr]) | fail)
 refine An (AK (fun m f H => ∃ i : Nat,m = t.notes.length - i ∧ i ≤ t.notes.length ∧ (f 1 = .int .u8 ((k + 1 : Nat) : Int) ∧ f 2 = .pim (A2 t) ∧ f 10 = .int .i64 (i : Int)) ∧ f 7 = .int .i64 (Fi t k (t.notes.take i)).1 ∧ f 8 = .int .i64 (Fi t k (t.notes.take i)).2.1 ∧ f 9 = .bool (Fi t k (t.notes.take i)).2.2) t.notes.length
  ⟨0,rfl,Nat.zero_le _,by (and_intros <;> first | rfl | (simp only [A2,go_sem,simprocAttr]; done) | (simp only [A2,go_sem,simprocAttr]; rfl)),by (first | rfl | (simp only [Fi,List.take_zero,List.foldl_nil,go_sem,simprocAttr]; done) | (simp only [Fi,List.take_zero,List.foldl_nil,go_sem,simprocAttr]; rfl)),by (first | rfl | (simp only [Fi,List.take_zero,List.foldl_nil,go_sem,simprocAttr]; done) | (simp only [Fi,List.take_zero,List.foldl_nil,go_sem,simprocAttr]; rfl)),by (first | rfl | (simp only [Fi,List.take_zero,List.foldl_nil,go_sem,simprocAttr]; done) | (simp only [Fi,List.take_zero,List.foldl_nil,go_sem,simprocAttr]; rfl))⟩ ?_)
 rintro m f H ⟨i,rfl,hi,⟨h1,h2,h10⟩,h7,h8,h9⟩
 by_cases hlt : i < t.notes.length
 ·obtain ⟨n,hn⟩ : ∃ x,t.notes[i]? = some x := ⟨_,List.getElem?_eq_getElem hlt⟩
  have hsn := PW (c := k) hn
  have hna := Ih hn
  have hnb := IA hN n (List.mem_of_getElem? hn)
  have hns := Qn hN n (List.mem_of_getElem? hn)
  generalize Fi t k (t.notes.take i) = s at *
  obtain ⟨lo,hi',fl⟩ := s
  simp only at h7 h8 h9
  refine Bn [] ?_
  simp only [cNote] at hna
  by_cases hkd : n.kind = ((k + 1 : Nat) : Int)
  ·have c1 := Oz t n hnb.2 k hk hkd
   have c2 := MZ t n hnb.2 k hk hkd
   simp only [A3,A2,AE,cNote,hkd] at c1 c2 hna
   simp only [Cj,GJ,DL,hkd,decide_true,Bool.true_and,decide_eq_true_eq] at hsn
   repeat' (first | with_reducible (first | (refine sk ?_; intro K hK) | refine bk ?_ | intro (ep : Nat → Nat) | apply_assumption -exfalso -symm only [*]) | ((first | (with_reducible first | refine rg (h := ?_) | refine nx ?_) | refine pK (c1) ?_ | refine pK (c2) ?_); try simp (disch := omega) only [h1,h2,h7,h8,h9,h10,hna,hlt,A2,go_sem,simprocAttr]) | ((with_reducible refine' cE ?hv ?_ ?_); (case hv => rfl); all_goals (intro hc; (try simp only [go_sem,simprocAttr] at hc); try (exfalso; omega))) | fail)
   all_goals
    refine ⟨t.notes.length - (i + 1),by omega,i + 1,rfl,by omega,rfl,?_⟩
    rw [hsn]
    by_cases hA : n.val - n.off.lo ≤ DZ t k <;> by_cases hC : DZ t k < n.val - n.off.hi <;> first | (exfalso; omega) | simp [hA,hC]
  ·simp only [Cj,GJ,DL,decide_eq_false hkd,Bool.false_and,Bool.or_false,Bool.false_eq_true,if_false] at hsn
   repeat' (first | with_reducible (first | (refine sk ?_; intro K hK) | refine bk ?_ | intro (ep : Nat → Nat) | apply_assumption -exfalso -symm only [*]) | ((with_reducible first | refine rg (h := ?_) | refine nx ?_); try simp (disch := omega) only [h1,h2,h7,h8,h9,h10,hna,hlt,hkd,A2,go_sem,simprocAttr]) | ((with_reducible refine' cE ?hv ?_ ?_); (case hv => rfl); all_goals (intro hc; (try simp only [go_sem,simprocAttr] at hc); try (exfalso; omega))) | fail)
   exact ⟨t.notes.length - (i + 1),by omega,i + 1,rfl,by omega,by (and_intros <;> first | rfl | (simp only [h1,h2,h10,go_sem,simprocAttr]; done) | (simp only [h1,h2,h10,go_sem,simprocAttr]; rfl)),by (first | rfl | (simp only [h7,hsn,go_sem,simprocAttr]; done) | (simp only [h7,hsn,go_sem,simprocAttr]; rfl)),by (first | rfl | (simp only [h8,hsn,go_sem,simprocAttr]; done) | (simp only [h8,hsn,go_sem,simprocAttr]; rfl)),by (first | rfl | (simp only [h9,hsn,go_sem,simprocAttr]; done) | (simp only [h9,hsn,go_sem,simprocAttr]; rfl))⟩
 ·obtain rfl : i = t.notes.length := by omega
  rw [List.take_of_length_le (Nat.le_refl _)] at h7 h8 h9
  repeat' (first | with_reducible (first | (refine sk ?_; intro K hK) | apply_assumption -exfalso -symm only [*]) | ((with_reducible first | refine rg (h := ?_) | refine nx ?_); try simp (disch := omega) only [h1,h2,h7,h8,h9,h10,A2,go_sem,simprocAttr]) | ((with_reducible refine' cE ?hv ?_ ?_); (case hv => rfl); all_goals (intro hc; (try simp only [go_sem,simprocAttr] at hc); try (exfalso; omega))) | ((with_reducible refine fe ?_); refine ⟨_,(by simp only [Tryz.f69,h1,h2,h7,h8,h9,h10,A2,go_sem,simprocAttr]; rfl),?_⟩; rfl) | fail)
end Cp
namespace Cp
open Go Go.Proofs
set_option maxRecDepth 10000
set_option maxHeartbeats 1000000
theorem S9 {t : TestT} (h : Ae t.fin 0 t.notes = true) (k : Nat) : Fi t k t.notes = (frC t k,toC t k,(BV t k).isSome) := RP k h
theorem Wg {t : TestT} (h : Ae t.fin 0 t.notes = true) (hf : 0 ≤ t.fin ∧ t.fin ≤ 3600) (k : Nat) : (0 ≤ frC t k ∧ frC t k ≤ 3601) ∧ 0 ≤ toC t k ∧ toC t k ≤ 3600 := by
 obtain ⟨g,b⟩ := NI h k
 unfold frC toC
 refine ⟨?_,?_⟩
 ·cases hg : I7 t k with
  | none => simp
  | some x => have := g x hg; simp only; omega
 ·cases hb : BV t k with
  | none => simp only; omega
  | some x => have := b x hb; simp only; omega
end Cp
