/- Rules,facts and contracts that the statement's proof leans on. Conditions: none. -/
import Derived.LoopNIn
import Derived.Test.YtopgldaekcmekaaGreatDoorP4
set_option linter.unusedVariables false
set_option linter.unusedSimpArgs false
set_option linter.unusedSectionVars false
namespace Cp
open Go
def P1 (X : Cx) (inr : Bool) (outs : List (Exit × Sx)) : Exit → Act → World → Prop := fun e a w => ∃ s G,(e,s) ∈ outs ∧ StT X inr G (frI s.f) (hpI s.h) a w
def Nn (X : Cx) (inr : Bool) (outs : List Sx) : Act → World → Prop := fun a w => ∃ s G,s ∈ outs ∧ StT X inr G (frI s.f) (hpI s.h) a w
def DP (P : Program) (run : Run) : Prop :=
 ∀ sz inr c s outs,run sz inr c s = some outs → ∀ (X : Cx) (ro : Option Nat) (G : Gh) (a : Act) (w : World),X.sz = sz → (inr = false → ro = none) → StT X inr G (frI s.f) (hpI s.h) a w →
  c.wpIn (FW ro) 0 P (P1 X inr outs) a w
structure LookOK (P : Program) (look : Look) : Prop where
 fn : ∀ f fn,look.fn f = some fn → P.funcs[f]? = some fn
 memo : ∀ fid as v,(as,v) ∈ look.memo fid → PureC P fid as v
 pmemo : ∀ fid as v,(as,v) ∈ look.pmemo fid → PureC P fid as v
def LO (P : Program) (fid : FuncId) (args : List Val) (h : Ht) (outs : List Rx) : Prop :=
 Ent P fid ∧ ∀ G w xs,HRel G w (hpI h) → (∀ k,G.N k ≤ epH (hpI h) k) → VRs G w args xs →
  Calls P fid xs w fun e w' => ∃ r x G',r ∈ outs ∧ e = .returned x ∧ Tr G (hpI h) w G' (hpI r.h) w' ∧ HRel G' w' (hpI r.h) ∧ G'.D = G.D ∧ (∀ k,G'.N k ≤ epH (hpI r.h) k) ∧ VR G' w' r.v x
section
variable {P : Program} {T : Tab} {G G' : Gh} {w w' : World} {H H' : Hp} {X : Cx} {ro : Option Nat} {inr : Bool} {f : Fr} {look : Look} {ih : Run}
theorem Io {F : Fence} {n : Nat} {fn : Func} {tmps : Array Value} {R : Ending → World → Prop} (hT : Ad P T) {v : Val} (hres : Fx T f H fn.results.toList = some v)
  (hD0 : ∀ r ∈ X.G0.D,r < X.w0.heap.size) (N0 : Nat → Nat)
  (hR : ∀ G' w' y,Tr X.G0 X.H0 X.w0 G' H w' → HRel G' w' H → G'.D = X.G0.D → G'.N = N0 → VR G' w' v y → R (.returned y) w') : ∀ (l : List Nat) (G : Gh) (w : World),G.D = l ++ X.G0.D → l.Nodup → (∀ r ∈ l,X.w0.heap.size ≤ r) →
  Tr X.G0 X.H0 X.w0 G H w → HRel G w H → G.N = N0 → (∀ t,VR G w (f t) (tmps.getD t undef)) → LeavesInM F n P fn tmps R (l.map Ms) .returning w
 | [],G,w,hD,hnd,hfr,t,r,hN,hf => by
  obtain ⟨y,h1,h2⟩ := Pl (P := P) hT r hf hres
  exact ⟨y,h1,hR G w y t r hD hN h2⟩
 | q :: l,G,w,hD,hnd,hfr,t,r,hN,hf => by
  rw [List.nodup_cons] at hnd
  have hq : q ∈ G.D := by rw [hD]; simp
  obtain ⟨d1,d2,d3⟩ := r.dfr q hq
  have hq0 := hfr q (by simp)
  have hqn : q ∉ l ++ X.G0.D := by
   intro hm
   rcases List.mem_append.1 hm with h | h
   ·exact hnd.1 h
   ·have := hD0 q h; omega
  obtain ⟨hR',hv⟩ := HRel.shut (G' := { G with D := l ++ X.G0.D }) r (fun x hx => by rw [hD]; simp at hx ⊢; exact .inr hx) hq hqn rfl rfl rfl rfl rfl
  refine ⟨by simp,.inl ⟨q,_,rfl,run_takeDeferred d1,?_⟩⟩
  refine Io hT hres hD0 N0 hR l { G with D := l ++ X.G0.D } _ rfl hnd.2 (fun r hr => hfr r (by simp [hr])) ?_ hR' hN (fun t => hv _ _ (hf t))
  exact ⟨t.os,t.tape,t.output,by rw [World.putObj_size]; exact t.size,fun b hb hn => by rw [World.putObj_heap_other (by omega)]; exact t.same b hb hn,t.own,t.I1,t.I2,t.N,t.eps,l,rfl⟩
theorem Fj (hT : Ad P T) (hl : LookOK P look) (hI : DP P ih) {fid : FuncId} {args : List Val} {h : Ht} {n : Nat} {outs : List Rx}
  (hc : Je ih T look fid args h n = some outs) : LO P fid args h outs := by
 unfold Je at hc
 cases hlk : look.fn fid with
 | none => rw [hlk] at hc; cases hc
 | some fn =>
  rw [hlk] at hc
  simp only at hc
  have hf := hl.fn fid fn hlk
  cases hb : fn.body with
  | none => rw [hb] at hc; cases hc
  | some c =>
   rw [hb] at hc
   simp only at hc
   split at hc
   case isFalse => cases hc
   rename_i hcond
   simp only [Bool.and_eq_true,Bool.not_eq_true',Nat.ble_eq] at hcond
   obtain ⟨⟨hsz,hmx⟩,hnm⟩ := hcond
   obtain ⟨l,hrun,hall⟩ := Bq hc
   refine ⟨⟨fn,hf,by rw [hb]; rfl,hnm⟩,fun G w xs hR hti hv => ?_⟩
   have hD0 : ∀ r ∈ G.D,r < w.heap.size := fun r hr => Aj (hR.dfr r hr).1
   rw [← callsIn_wide (n := 0)]
   refine callsIn_of_wp_marks hf hb trivial ?_
   let X : Cx := { G0 := G,H0 := hpI h,w0 := w,sz := fn.ntmps }
   have hs := hv.1
   have s : St X G (frI (Gm args 0 .nil)) (hpI h) { tmps := xs ++ Array.replicate (fn.ntmps - xs.size) undef,defers := [] } w := {
    tr := Tr.refl G _ w
    rel := hR
    fr := fun t => by
     rw [Ld,MW (by omega)]
     unfold Co
     cases hi : args[t]? with
     | none => exact .any _
     | some v => exact hv.2 t v hi
    size := by
     simp only [Array.size_append,Array.size_replicate]
     show xs.size + (fn.ntmps - xs.size) = fn.ntmps
     omega
    dfr := ⟨[],rfl,rfl,List.nodup_nil,fun r h => by simp at h⟩ }
   have hwp := hI fn.ntmps false c _ l hrun X none G _ w rfl (fun _ => rfl) ⟨s,hti,(fun h => by cases h),rfl⟩
   refine wpIn_mono hwp fun e a w' hp => ?_
   obtain ⟨s1,G1,hmem,st1⟩ := hp
   obtain ⟨m,hm,hsub⟩ := hall _ hmem
   have fin : (∃ v,Fx T (frI s1.f) (hpI s1.h) fn.results.toList = some v ∧ (⟨v,s1.h,s1.n⟩ : Rx) ∈ outs) → LeavesInM Fence.wide 0 P fn a.tmps (fun e w' => ∃ r x G',r ∈ outs ∧ e = .returned x ∧ Tr G (hpI h) w G' (hpI r.h) w' ∧ HRel G' w' (hpI r.h) ∧ G'.D = G.D ∧ (∀ k,G'.N k ≤ epH (hpI r.h) k) ∧ VR G' w' r.v x) a.defers .returning w' := by
    rintro ⟨v,hres,hmo⟩
    obtain ⟨l,hD,hdf,hnd,hfr⟩ := st1.st.dfr
    rw [hdf]
    refine Io (X := X) (f := frI s1.f) (H := hpI s1.h) hT hres hD0 G1.N (fun G' w' y t r hD hN hy => ?_) l G1 w' hD hnd (fun r hr => (hfr r hr).1) st1.st.tr st1.st.rel rfl st1.st.fr
    exact ⟨_,y,G',hmo,rfl,t,r,hD,fun k => by rw [hN]; exact st1.tight k,hy⟩
   cases e with
   | normal =>
    simp only at hm
    cases hx : Fx T (frI s1.f) (hpI s1.h) fn.results.toList with
    | none => rw [hx] at hm; cases hm
    | some v => rw [hx] at hm; cases hm; exact fin ⟨v,hx,hsub _ (by simp)⟩
   | ret =>
    simp only at hm
    cases hx : Fx T (frI s1.f) (hpI s1.h) fn.results.toList with
    | none => rw [hx] at hm; cases hm
    | some v => rw [hx] at hm; cases hm; exact fin ⟨v,hx,hsub _ (by simp)⟩
   | exit id => cases hm
   | goto l => cases hm
   | panic c => cases hm
   | outgrown => cases hm
theorem TA {fid : FuncId} {args : List Val} {r : Rx} (hc : LO P fid args .nil [r]) (hna : noids args = true) (hnv : noid r.v = true) : PureC P fid args r.v := by
 refine ⟨hc.1,hna,hnv,fun G w xs hR hv => ?_⟩
 let G0 : Gh := { I := G.I,K := fun _ => none,C := fun _ => 0,E := fun _ => 0,N := fun _ => 0,D := G.D }
 have hh : hpI .nil = none0 := rfl
 have hR0 : HRel G0 w none0 := ⟨fun k e o hk => (by cases hk),fun k e km em ver left cur e' es hk => (by cases hk),fun k k' e e' o o' b hk => (by cases hk),fun b hb => ⟨(hR.imm b hb).1,Own.none0⟩,fun b hb => (Own.none0 hb).elim,
  fun q hq => ⟨(hR.dfr q hq).1,Own.none0,(hR.dfr q hq).2.2⟩,fun g cs hg => (hR.glb g cs hg).noid_mono (I9 g cs hg) fun b hb => ⟨hb,fun _ => rfl⟩⟩
 have hv0 : VRs G0 w args xs := ⟨hv.1,fun i v hi => (hv.2 i v hi).noid_mono (noids_get hna i v hi) fun b hb => ⟨hb,fun _ => rfl⟩⟩
 refine Calls.mono (hc.2 G0 w xs (hh ▸ hR0) (fun k => Nat.zero_le _) hv0) ?_
 rintro e w' ⟨r',x,G',hmem,rfl,t,r1,hD,_,hvr⟩
 have : r' = r := by simpa using hmem
 subst this
 rw [hh] at t
 have hsame : ∀ b,b < w.heap.size → w'.heap[b]? = w.heap[b]? := fun b hb => t.same b hb Own.none0
 refine ⟨x,G'.I,rfl,⟨t.os,t.tape,t.output,t.size,fun b hb _ => hsame b hb,fun b hb => (Own.none0 hb).elim,t.I1,fun b hb => ?_,fun _ => Nat.le_refl _,fun _ => .inl ⟨rfl,rfl,rfl⟩,[],rfl⟩,
  ⟨fun k e o hk => (by cases hk),fun k e km em ver left cur e' es hk => (by cases hk),fun k k' e e' o o' b hk => (by cases hk),fun b hb => ⟨(r1.imm b hb).1,Own.none0⟩,fun b hb => (Own.none0 hb).elim,fun q hq => ?_,fun g cs hg => (hR.glb g cs hg).noid_mono (I9 g cs hg) fun b hb => ⟨t.I1 b hb,fun off => Ca (hsame b (hR.imm b hb).1) off⟩⟩,
  hvr.noid_mono hnv fun b hb => ⟨hb,fun _ => rfl⟩⟩
 ·rcases t.I2 b hb with q | q | q
  ·exact .inl q
  ·exact (Own.none0 q).elim
  ·exact .inr (.inr q)
 ·have hq' : q ∈ G'.D := by rw [hD]; exact hq
  exact ⟨(r1.dfr q hq').1,Own.none0,(r1.dfr q hq').2.2⟩
theorem StT.step {a : Act} (s : StT X inr G f H a w) (t : Tr G H w G' H' w') (r : HRel G' w' H') (hD : G'.D = G.D) (hN : ∀ k,G'.N k ≤ epH H' k) : StT X inr G' f H' a w' :=
 ⟨⟨s.st.tr.trans t,r,fun u => (s.st.fr u).mono s.st.rel.imm t,s.st.size,by
  obtain ⟨l,h1,h2,h3⟩ := s.st.dfr
  exact ⟨l,by rw [hD]; exact h1,h2,h3⟩⟩,hN,fun h => hD.trans (s.d h),s.x⟩
theorem StT.write {a : Act} (s : StT X inr G f H a w) {v : Val} {x : Value} (hv : VR G w v x) (d : Option Tmp) (hd : ∀ t,d = some t → t < X.sz) : StT X inr G (Cp.put f d v) H (a.put d x) w :=
 s.put (u := none) (Tr.refl G H w) s.st.rel (.same rfl rfl) goodU_none hv d hd
mutual
theorem veq_ok : ∀ (x y : Val),veq x y = true → x = y
 | .int k a,y,h => by cases y <;> simp only [veq,Bool.and_eq_true,decide_eq_true_eq,Bool.false_eq_true] at h; rw [h.1,h.2]
 | .bool a,y,h => by cases y <;> simp only [veq,decide_eq_true_eq,Bool.false_eq_true] at h; rw [h]
 | .str a,y,h => by cases y <;> simp only [veq,decide_eq_true_eq,Bool.false_eq_true] at h; rw [h]
 | .nilp,y,h => by cases y <;> simp only [veq,Bool.false_eq_true] at h; rfl
 | .nils,y,h => by cases y <;> simp only [veq,Bool.false_eq_true] at h; rfl
 | .nilm,y,h => by cases y <;> simp only [veq,Bool.false_eq_true] at h; rfl
 | .nilf,y,h => by cases y <;> simp only [veq,Bool.false_eq_true] at h; rfl
 | .nili,y,h => by cases y <;> simp only [veq,Bool.false_eq_true] at h; rfl
 | .lst s xss,y,h => by cases y <;> simp only [veq,Bool.and_eq_true,decide_eq_true_eq,Bool.false_eq_true] at h; rw [h.1,veqss_ok _ _ h.2]
 | .pim cs,y,h => by cases y <;> simp only [veq,Bool.false_eq_true] at h; rw [veqs_ok _ _ h]
 | .agg cs,y,h => by cases y <;> simp only [veq,Bool.false_eq_true] at h; rw [veqs_ok _ _ h]
 | .tup cs,y,h => by cases y <;> simp only [veq,Bool.false_eq_true] at h; rw [veqs_ok _ _ h]
 | .fn f cs,y,h => by cases y <;> simp only [veq,Bool.and_eq_true,decide_eq_true_eq,Bool.false_eq_true] at h; rw [h.1,veqs_ok _ _ h.2]
 | .iface t v,y,h => by cases y <;> simp only [veq,Bool.and_eq_true,decide_eq_true_eq,Bool.false_eq_true] at h; rw [h.1,veq_ok _ _ h.2]
 | .any,y,h => by cases y <;> simp [veq] at h
 | .ptr ..,y,h => by cases y <;> simp [veq] at h
 | .exl ..,y,h => by cases y <;> simp [veq] at h
 | .gr ..,y,h => by cases y <;> simp [veq] at h
 | .map ..,y,h => by cases y <;> simp [veq] at h
 | .itr ..,y,h => by cases y <;> simp [veq] at h
 | .yld ..,y,h => by cases y <;> simp [veq] at h
theorem veqs_ok : ∀ (x y : List Val),veqs x y = true → x = y
 | [],[],h => rfl
 | [],_ :: _,h => by simp [veqs] at h
 | _ :: _,[],h => by simp [veqs] at h
 | v :: vs,u :: us,h => by simp only [veqs,Bool.and_eq_true] at h; rw [veq_ok _ _ h.1,veqs_ok _ _ h.2]
theorem veqss_ok : ∀ (x y : List (List Val)),veqss x y = true → x = y
 | [],[],h => rfl
 | [],_ :: _,h => by simp [veqss] at h
 | _ :: _,[],h => by simp [veqss] at h
 | v :: vs,u :: us,h => by simp only [veqss,Bool.and_eq_true] at h; rw [veqs_ok _ _ h.1,veqss_ok _ _ h.2]
end
theorem Kg {as : List Val} {v : Val} : ∀ {l : List (List Val × Val)},Np as l = some v → (as,v) ∈ l
 | [],h => by cases h
 | (bs,u) :: l,h => by
  simp only [Np] at h
  split at h
  ·rename_i he; cases h; rw [veqs_ok _ _ he]; simp
  ·exact List.mem_cons_of_mem _ (Kg h)
theorem StT.frz {a : Act} (st : StT X inr G f H a w) {k e sz : Nat} {xss : List (List Val)} (hk : H k = some (e,.arr sz xss)) : StT X inr (G.frz k) f (upd H k (some (e,.fro sz xss))) a w :=
 ⟨st.st.frz hk,fun k' => by
  have := st.tight k'
  by_cases hkk : k' = k
  ·subst hkk
   simp only [epH,hk,A4] at this ⊢
   exact this
  ·simp only [epH] at this ⊢
   rw [A0 _ _ hkk]
   exact this,st.d,st.x⟩
theorem BT {a : Act} : ∀ (n : Nat) (l : List Val) (h : Ht) (G : Gh),StT X inr G f (hpI h) a w → ∃ G',StT X inr G' f (hpI (reachF n l h)) a w
 | 0,l,h,G,st => ⟨G,st⟩
 | n + 1,l,h,G,st => by
  induction l generalizing h G with
  | nil => exact ⟨G,st⟩
  | cons v l ih =>
   have key : ∀ h',(∃ G',StT X inr G' f (hpI h') a w) → ∃ G',StT X inr G' f (hpI (reachF (n + 1) l h')) a w := fun h' ⟨G',st'⟩ => ih h' G' st'
   have arrk : ∀ k,∃ G',StT X inr G' f (hpI (match h.get k with | some (e',.arr sz xss) => if DS k then reachF n xss.flatten (h.set bitsK k (some (e',.fro sz xss))) else h | _ => h)) a w := by
    intro k
    split
    ·rename_i e' sz xss hk
     split
     ·rename_i hr
      have := st.frz (show hpI h k = _ from hk)
      rw [← Dn (Ch hr)] at this
      exact BT n _ _ _ this
     ·exact ⟨G,st⟩
    ·exact ⟨G,st⟩
   cases v with
   | gr k e m => exact key _ (arrk k)
   | ptr k e sz i j => exact key _ (arrk k)
   | agg cs => exact key _ (BT n cs h G st)
   | tup cs => exact key _ (BT n cs h G st)
   | fn _ cs => exact key _ (BT n cs h G st)
   | pim cs => exact key _ (BT n cs h G st)
   | lst _ xss => exact key _ (BT n _ h G st)
   | exl _ xss => exact key _ (BT n _ h G st)
   | iface _ v => exact key _ (BT n _ h G st)
   | _ => exact key h ⟨G,st⟩
theorem Sh {a : Act} (hl : LookOK P look) {h h' : Ht} {fid : FuncId} {args : List Val} {v : Val} (hm : R4 look fid args h = some (v,h')) (st : StT X inr G f (hpI h) a w) :
  (∃ G',StT X inr G' f (hpI h') a w) ∧ PureC P fid (args.map (fzd (hpI h') 6)) v := by
 unfold R4 at hm
 split at hm
 ·cases hm
 ·split at hm
  ·rename_i v' hf
   cases hm
   exact ⟨BT 6 args h G st,hl.memo _ _ _ (Kg hf)⟩
  ·cases hm
theorem MM (hT : Ad P T) (hl : LookOK P look) (hI : DP P ih) {s : Sx} {a : Act} (st : StT X inr G (frI s.f) (hpI s.h) a w) {o : Oper} (hd : ∀ t,o.dst = some t → t < X.sz) {c : Call} {g : Operand} {fid : FuncId} {caps : List Val}
  {outs : List Sx} {Q : Exit → Act → World → Prop} (ho : o.op = .call c) (hc : c.callee = .value g) (hg : ev (frI s.f) g = .fn fid caps) (h : Pf ih T look o c.args.toList fid caps s = some outs) : o.wpIn (FW ro) 0 P a w (Nn X inr outs) Q := by
 unfold Pf at h
 split at h
 ·rename_i v h' hm
  obtain ⟨⟨G',st'⟩,hP⟩ := Sh hl hm st
  cases hp : Dr s.f o.dst v with
  | none => rw [hp] at h; cases h
  | some f' =>
   rw [hp] at h
   cases h
   refine Oper.wpIn_mono (K := KonT X inr fun f H => f = put (frI s.f) o.dst v ∧ H = hpI h') ?_ (Nq st' hd ho hc hg (fun xs hxs => hxs.map fun v x hv => JJ st'.st.rel 6 v x hv) hP ⟨rfl,rfl⟩)
   rintro a' w' ⟨G2,f2,H2,st2,rfl,rfl⟩
   exact ⟨_,G2,List.mem_singleton.2 rfl,by simp only [CC hp]; exact st2⟩
 obtain ⟨l,hcall,hall⟩ := Bq h
 obtain ⟨hE,hA⟩ := Fj hT hl hI hcall
 refine ⟨fun _ _ => trivial,?_⟩
 have hv := st.st.er g
 rw [hg] at hv
 generalize hx : a.eval g = x at hv
 cases hv with
 | fn _ _ xs hs hcaps =>
  have hnd : ∀ d,o.op ≠ .defer d := fun d e => by rw [ho] at e; cases e
  rw [show (FW ro).round = ro from rfl,Oper.semAt_eq ro _ o hnd,Iv ho hc hx hE,Oper.uponIn_enter]
  refine ⟨fun h => by simp [FW,Fence.wide] at h,Cn ?_⟩
  refine Calls.mono (hA G w _ st.st.rel st.tight (LX st.st.er hs hcaps)) fun e w' he => ?_
  obtain ⟨r,x,G',hr,rfl,h1,h2,h3,h4,h5⟩ := he
  obtain ⟨m,hm,hsub⟩ := hall r hr
  cases hp : Dr s.f o.dst r.v with
  | none => rw [hp] at hm; cases hm
  | some f' =>
   rw [hp] at hm
   cases hm
   refine ⟨⟨f',r.h,r.n⟩,G',hsub _ (by simp),?_⟩
   rw [CC hp]
   exact (st.step h1 h2 h3 h4).write h5 o.dst hd
end
end Cp
namespace Cp
open Go
section
variable {P : Program} {T : Tab} {G G' : Gh} {w w' : World} {H H' : Hp} {X : Cx} {ro : Option Nat} {inr : Bool} {f : Fr} {look : Look} {ih : Run}
theorem HRel.setLoop (hR : HRel G w H) {k e b : Nat} {fs : List Val} {ps : Array Tmp} {asg body : Code} {st st' : LoopState} {pend pend' : Option Code} {r r' : Loop} (hk : H k = some (e,.loop fs ps asg body st pend)) (hK : G.K k = some b) (hb : w.heap[b]? = some (.loop r))
  (hp : r'.params = ps) (ha : r'.assign = asg) (hbo : r'.body = body) (hs : r'.state = st') (hpe : r'.pending = pend') (ht : r'.tmps.size = fs.length) (hv : ∀ (i : Nat) (v : Val),fs[i]? = some v → VR G w v (r'.tmps.getD i undef)) :
  Tr G H w G (upd H k (some (e,.loop fs ps asg body st' pend'))) (w.putObj b (.loop r')) ∧ HRel G (w.putObj b (.loop r')) (upd H k (some (e,.loop fs ps asg body st' pend'))) := by
 have h5 : ∀ b',b' ≠ b → (w.putObj b (.loop r')).heap[b']? = w.heap[b']? := fun b' hb' => World.putObj_heap_other hb'
 have hsame : ∀ k',k' ≠ k → G.E k' = G.E k' ∧ G.N k' = G.N k' := fun _ _ => ⟨rfl,rfl⟩
 obtain ⟨hE,hN,_⟩ := hR.obj k e _ hk
 have t := Tr.write (w' := w.putObj b (.loop r')) (e := e) (ao := .loop fs ps asg body st' pend') (E' := G.E) (N' := G.N) hR hk rfl hK hsame (.inl ⟨rfl,rfl⟩) rfl ⟨rfl,Nat.le_refl _⟩ rfl World.putObj_size h5
 refine ⟨t,hR.write hk rfl hK hsame (.inl ⟨rfl,rfl⟩) rfl ⟨rfl,Nat.le_refl _⟩ rfl World.putObj_size h5 ⟨hE,hN⟩ ⟨b,r',hK,World.putObj_heap_same (Aj hb),hp,ha,hbo,hs,hpe,ht,fun i v hi => (hv i v hi).mono hR.imm t⟩
  (fun _ _ _ _ _ h => by cases h) (fun _ _ h => by cases h)⟩
theorem StT.setLoop {a : Act} (s : StT X inr G f H a w) {k e b : Nat} {fs : List Val} {ps : Array Tmp} {asg body : Code} {st st' : LoopState} {pend pend' : Option Code} {r r' : Loop} (hk : H k = some (e,.loop fs ps asg body st pend)) (hK : G.K k = some b)
  (hb : w.heap[b]? = some (.loop r)) (hp : r'.params = ps) (ha : r'.assign = asg) (hbo : r'.body = body) (hs : r'.state = st') (hpe : r'.pending = pend') (ht : r'.tmps.size = fs.length) (hv : ∀ (i : Nat) (v : Val),fs[i]? = some v → VR G w v (r'.tmps.getD i undef)) :
  StT X inr G f (upd H k (some (e,.loop fs ps asg body st' pend'))) a (w.putObj b (.loop r')) := by
 obtain ⟨t,r1⟩ := s.st.rel.setLoop hk hK hb hp ha hbo hs hpe ht hv
 refine s.step t r1 rfl fun k' => ?_
 have := s.tight k'
 by_cases hkk : k' = k
 ·subst hkk
  simp only [epH,hk,A4] at this ⊢
  exact this
 ·simp only [epH] at this ⊢
  rw [A0 _ _ hkk]
  exact this
theorem Lx {c : Call} {g : Operand} {ρ : Operand → Value} {l : Nat} {r : Loop} {o : Oper} (ho : o.op = .call c) (hc : c.callee = .value g) (hg : ρ g = .func (.yield l) #[] #[]) (h : w.heap[l]? = some (.loop r)) (hs : c.args.size = r.params.size) :
  (execOp ρ o).run P w = .ok (.round l r.fn ((r.params.zip (c.args.map ρ)).foldl (fun tmps (t,a) => tmps.setIfInBounds t a) r.tmps) r.assign r.body) w := by
 have hr : resolve ρ c o.type = pure { target := .fn (.yield l) #[],args := #[] ++ c.args.map ρ } := by
  simp only [resolve,hc,hg,Deferred.ofValue]
 unfold execOp
 rw [ho]
 simp only [hr,Sem.run_bind,Sem.run_pure,Result.andThen,invoke]
 rw [run_yield h (by simpa using hs)]
 simp
theorem LF {G : Gh} {w : World} : ∀ (ts : List Tmp) (vs : List Val) (xs : List Value) (g : Fr) (tmps : Array Value),ts.length = vs.length → xs.length = vs.length → (∀ t ∈ ts,t < tmps.size) →
  (∀ (i : Nat) (v : Val),vs[i]? = some v → ∃ x : Value,xs[i]? = some x ∧ VR G w v x) → (∀ t,VR G w (g t) (tmps.getD t undef)) →
  ((ts.zip xs).foldl (fun tmps (t,a) => tmps.setIfInBounds t a) tmps).size = tmps.size ∧ ∀ t,VR G w ((ts.zip vs).foldl (fun g p => upd g p.1 p.2) g t) (((ts.zip xs).foldl (fun tmps (t,a) => tmps.setIfInBounds t a) tmps).getD t undef)
 | [],_,xs,g,tmps,h1,h2,h3,h4,h5 => ⟨rfl,h5⟩
 | t :: ts,[],xs,g,tmps,h1,h2,h3,h4,h5 => by simp at h1
 | t :: ts,v :: vs,[],g,tmps,h1,h2,h3,h4,h5 => by simp at h2
 | t :: ts,v :: vs,x :: xs,g,tmps,h1,h2,h3,h4,h5 => by
  simp only [List.zip_cons_cons,List.foldl_cons]
  have ht : t < tmps.size := h3 t (by simp)
  obtain ⟨x',hx,hvx⟩ := h4 0 v rfl
  cases hx
  have := LF ts vs xs (upd g t v) (tmps.setIfInBounds t x) (by simpa using h1) (by simpa using h2) (fun t' ht' => by rw [Array.size_setIfInBounds]; exact h3 t' (by simp [ht'])) (fun i v hi => h4 (i + 1) v (by simpa using hi)) (fun u => by
   rw [Array.getD_eq_getD_getElem?,Array.getElem?_setIfInBounds]
   by_cases hu : t = u
   ·subst hu; simp [ht]; exact hvx
   ·rw [if_neg hu,A0 _ _ (fun e => hu e.symm),← Array.getD_eq_getD_getElem?]; exact h5 u)
  rw [Array.size_setIfInBounds] at this
  exact this
theorem CM {k e b b1 : Nat} (t : Tr G H w G' H' w') (he : e < G.N k) (hK : G.K k = some b) (hE : G.E k = e) (hE1 : G'.E k = e) (hK1 : G'.K k = some b1) : b1 = b := by
 rcases t.eps k with ⟨_,q,_⟩ | q
 ·rw [q,hK] at hK1; cases hK1; rfl
 ·omega
theorem Q3 (hI : DP P ih) {s : Sx} {a : Act} (st : StT X inr G (frI s.f) (hpI s.h) a w) {o : Oper} (hd : ∀ t,o.dst = some t → t < X.sz) {c : Call} {g : Operand} {k e : Nat} {l : List Rx} {Q : Exit → Act → World → Prop}
  (ho : o.op = .call c) (hc : c.callee = .value g) (hg : ev (frI s.f) g = .yld k e) (h : O7 ih k e (c.args.toList.map (ev (frI s.f))) s.h s.n = some l)
  {K : Act → World → Prop} (hK : ∀ r ∈ l,∀ x w' G',Tr G (hpI s.h) w G' (hpI r.h) w' → HRel G' w' (hpI r.h) → G'.D = G.D → (∀ k,G'.N k ≤ epH (hpI r.h) k) → VR G' w' r.v x → K (a.put o.dst x) w') : o.wpIn (FW ro) 0 P a w K Q := by
 unfold O7 at h
 cases hk : s.h.get k with
 | none => rw [hk] at h; cases h
 | some en =>
  obtain ⟨e',ob⟩ := en
  rw [hk] at h
  cases ob <;> try (cases h; done)
  rename_i fs ps asg body lst pend
  cases lst <;> try (cases h; done)
  simp only at h
  split at h
  case isFalse => cases h
  rename_i hcond
  simp only [Bool.and_eq_true,Nat.beq_eq,Nat.ble_eq] at hcond
  obtain ⟨⟨rfl,hroom⟩,hfs⟩ := hcond
  cases hpar : parI ps.toList (c.args.toList.map (ev (frI s.f))) fs.length (Gm fs 0 .nil) with
  | none => rw [hpar] at h; cases h
  | some f1 =>
   rw [hpar] at h
   simp only at h
   obtain ⟨l1,hasg,hall1⟩ := Bq h
   have hHk : hpI s.h k = some (e,.loop fs ps asg body .ready pend) := hk
   obtain ⟨hE,hN,b,r,hKb,hr,r1,r2,r3,r4,r5,r6,r7⟩ := st.st.rel.obj k e _ hHk
   have hv := st.st.er g
   rw [hg] at hv
   generalize hx : a.eval g = x at hv
   cases hv with
   | yld _ _ b' he' hp =>
    have := hp hE
    rw [hKb] at this
    cases this
    obtain ⟨p1,p2,p3⟩ := parI_ok hfs hpar
    have hnd : ∀ d,o.op ≠ .defer d := fun d e => by rw [ho] at e; cases e
    have hsz : c.args.size = r.params.size := by
     rw [r1]
     simp only [List.length_map,Array.length_toList] at p1
     exact p1.symm
    refine ⟨fun _ _ => trivial,?_⟩
    rw [show (FW ro).round = ro from rfl,Oper.semAt_eq ro _ o hnd,Lx ho hc hx hr hsz,Oper.uponIn_round]
    refine ⟨fun h => by simp [FW,Fence.wide] at h,roundIn_of_wpIn trivial ?_⟩
    have hfold : (r.params.zip (c.args.map a.eval)).foldl (fun tmps (t,a) => tmps.setIfInBounds t a) r.tmps = (ps.toList.zip (c.args.toList.map a.eval)).foldl (fun tmps (t,a) => tmps.setIfInBounds t a) r.tmps := by
     rw [← Array.foldl_toList,Array.toList_zip,r1]
     simp
    rw [hfold]
    obtain ⟨q1,q2⟩ := LF ps.toList (c.args.toList.map (ev (frI s.f))) (c.args.toList.map a.eval) (frI (Gm fs 0 .nil)) r.tmps p1 (by simp) (fun t ht => by rw [r6]; exact p2 t ht)
     (fun i v hi => by
      rw [List.getElem?_map,Option.map_eq_some_iff] at hi
      obtain ⟨y,hy,rfl⟩ := hi
      exact ⟨a.eval y,by simp [hy],st.st.er y⟩)
     (fun t => by
      rw [MW hfs]
      unfold Co
      cases hi : fs[t]? with
      | none => exact .any _
      | some v => exact r7 t v hi)
    rw [← p3] at q2
    generalize hTm : (ps.toList.zip (c.args.toList.map a.eval)).foldl (fun tmps (t,a) => tmps.setIfInBounds t a) r.tmps = tmps at q1 q2 ⊢
    let X1 : Cx := { G0 := G,H0 := hpI s.h,w0 := w,sz := fs.length }
    have st1 : StT X1 true G (frI f1) (hpI s.h) { tmps := tmps,defers := [] } w := ⟨⟨Tr.refl G _ w,st.st.rel,q2,by rw [q1,r6],[],rfl,rfl,List.nodup_nil,fun r h => by simp at h⟩,st.tight,(fun _ => rfl),rfl⟩
    rw [r2,r3]
    have hin : (FW ro).inRound b = FW (some b) := rfl
    rw [hin]
    refine wpIn_mono (hI fs.length true asg _ _ hasg X1 (some b) G _ w rfl (fun h => by cases h) st1) fun ex a1 w1 hq => ?_
    obtain ⟨s1,G1,hm1,st2⟩ := hq
    obtain ⟨m1,hb1,hsub1⟩ := hall1 _ hm1
    unfold Ra at hb1
    cases ex <;> try (cases hb1; done)
    simp only at hb1
    simp only [Exit.then]
    cases hk1 : s1.h.get k with
    | none => rw [hk1] at hb1; cases hb1
    | some en1 =>
     obtain ⟨e1,ob1⟩ := en1
     rw [hk1] at hb1
     cases ob1 <;> try (cases hb1; done)
     rename_i fs1 ps1 asg1 body1 lst1 pend1
     cases lst1 <;> try (cases hb1; done)
     simp only at hb1
     split at hb1
     case isFalse => cases hb1
     rename_i hee
     simp only [Nat.beq_eq] at hee
     subst hee
     obtain ⟨l2,hbody,hall2⟩ := Bq hb1
     have hHk1 : hpI s1.h k = some (e,.loop fs1 ps1 asg1 body1 .ready pend1) := hk1
     obtain ⟨hE1,hN1,b1,rr1,hKb1,hr1,z1,z2,z3,z4,z5,z6,z7⟩ := st2.st.rel.obj k e _ hHk1
     have hbb := CM st2.st.tr hN hKb hE hE1 hKb1
     subst hbb
     refine ⟨_,run_beginRound hr1 z4,?_⟩
     have st3 := st2.setLoop (st' := .busy) (pend' := pend1) (r' := { rr1 with state := .busy }) hHk1 hKb1 hr1 z1 z2 z3 rfl z5 z6 z7
     rw [← Dn (Ch hroom)] at st3
     refine wpIn_mono (hI fs.length true body { s1 with h := s1.h.set bitsK k (some (e,.loop fs1 ps1 asg1 body1 .busy pend1)) } _ hbody X1 (some b1) G1 _ _ rfl (fun h => by cases h) st3) fun ex2 a2 w2 hq2 => ?_
     obtain ⟨s2,G2,hm2,st4⟩ := hq2
     obtain ⟨m2,hb2,hsub2⟩ := hall2 _ hm2
     unfold bc at hb2
     simp only at hb2
     cases hk2 : s2.h.get k with
     | none => rw [hk2] at hb2; cases hb2
     | some en2 =>
      obtain ⟨e2,ob2⟩ := en2
      rw [hk2] at hb2
      cases ob2 <;> try (cases hb2; done)
      simp only at hb2
      rename_i fs2 ps2 asg2 body2 lst2 pend2
      split at hb2
      case isFalse => cases hb2
      rename_i hee
      simp only [Nat.beq_eq] at hee
      subst hee
      have hHk2 : hpI s2.h k = some (e,.loop fs2 ps2 asg2 body2 lst2 pend2) := hk2
      obtain ⟨hE2,hN2,b2,rr2,hKb2,hr2,y1,y2,y3,y4,y5,y6,y7⟩ := st4.st.rel.obj k e _ hHk2
      have hbb := CM st4.st.tr hN hKb hE hE2 hKb2
      subst hbb
      have fin : ∀ (jump : Option Code) (sj : LoopState) (r : Rx),sj = (if jump.isNone then .ready else .done) → r.v = .bool jump.isNone → r.h = s2.h.set bitsK k (some (e,.loop fs2 ps2 asg2 body2 sj jump)) → m2 = [r] →
        ∃ v w',(Instr.endRound b2 jump).run P w2 = .ok v w' ∧ K (a.put o.dst v) w' := by
       intro jump sj r hsj hrv hrh hrm
       subst hsj
       refine ⟨_,_,run_endRound jump hr2,?_⟩
       have st5 := st4.setLoop (st' := if jump.isNone then .ready else .done) (pend' := jump) (r' := { rr2 with state := if jump.isNone then .ready else .done,pending := jump }) hHk2 hKb2 hr2 y1 y2 y3 rfl rfl y6 y7
       rw [← Dn (Ch hroom),← hrh] at st5
       refine hK r (hsub1 _ (hsub2 _ (by rw [hrm]; simp))) _ _ G2 st5.st.tr st5.st.rel (st5.d rfl) st5.tight ?_
       rw [hrv]
       exact .bool _
      cases ex2 with
      | normal => cases hb2; exact fin none .ready _ rfl rfl rfl rfl
      | ret => cases hb2; exact fin (some .ret) .done _ rfl rfl rfl rfl
      | exit id => cases hb2; exact fin (some (.exit id)) .done _ rfl rfl rfl rfl
      | goto l => cases hb2
      | panic ch => cases hb2
      | outgrown => cases hb2
end
end Cp
namespace Cp
open Go
section
variable {P : Program} {T : Tab} {G G' : Gh} {w w' : World} {H H' : Hp} {X : Cx} {ro : Option Nat} {inr : Bool} {f : Fr} {look : Look} {ih : Run} {s : Sx} {a : Act} {o : Oper}
theorem UC {own : List Nat} {v : Val} {u : Up} (h : Ny T s o own = some (v,u)) : xop T { base := s.n,own } (epH (hpI s.h)) (frI s.f) (hpI s.h) o = some (v,u) ∧ Fb (hpI s.h) u := by
 unfold Ny at h
 rw [P6] at h
 split at h
 ·rename_i v' u' hx
  split at h
  ·rename_i hm
   cases h
   exact ⟨hx,Mg hm⟩
  ·cases h
 ·cases h
theorem LK {v : Val} {u : Up} {outs : List Sx} (h : wrI s o v u = some outs) : ∃ s',s' ∈ outs ∧ frI s'.f = put (frI s.f) o.dst v ∧ hpI s'.h = app (hpI s.h) u := by
 unfold wrI at h
 split at h
 ·rename_i f' h' hf hh
  cases h
  exact ⟨_,List.mem_singleton.2 rfl,CC hf,P5 hh⟩
 ·cases h
theorem Kr (hT : Ad P T) (st : StT X inr G (frI s.f) (hpI s.h) a w) (hd : ∀ t,o.dst = some t → t < X.sz) {own : List Nat} {v : Val} {u : Up} {outs : List Sx} {Q : Exit → Act → World → Prop}
  (h : Ny T s o own = some (v,u)) (hw : wrI s o v u = some outs) : o.wpIn (FW ro) 0 P a w (Nn X inr outs) Q := by
 obtain ⟨h1,h2⟩ := UC h
 obtain ⟨s',hs,e1,e2⟩ := LK hw
 refine Oper.wpIn_mono (K := KonT X inr fun f H => f = put (frI s.f) o.dst v ∧ H = app (hpI s.h) u) ?_ (QV hT st hd h1 h2 ⟨rfl,rfl⟩)
 rintro a' w' ⟨G',f',H',st',rfl,rfl⟩
 exact ⟨s',G',hs,by rw [e1,e2]; exact st'⟩
theorem JA {it : Operand} {isS : Bool} (ho : o.op = .next it isS) (ρ : Operand → Value) : execOp ρ o = (do pure (Next.value (← Instr.next (ρ it) isS o.type))) := by
 unfold execOp; rw [ho]
theorem RN (st : StT X inr G (frI s.f) (hpI s.h) a w) (hd : ∀ t,o.dst = some t → t < X.sz) {it : Operand} (ho : o.op = .next it false) {outs : List Sx} {Q : Exit → Act → World → Prop}
    (h : RR s o (ev (frI s.f) it) = some outs) : o.wpIn (FW ro) 0 P a w (Nn X inr outs) Q := by
  refine ⟨fun _ _ => trivial,?_⟩
  have hnd : ∀ d,o.op ≠ .defer d := fun d e => by rw [ho] at e; cases e
  have hv := st.st.er it
  unfold RR at h
  generalize hit : ev (frI s.f) it = iv at h hv
  cases iv <;> try (cases h; done)
  rename_i k e
  simp only at h
  have over : ∀ {outs},(Instr.next (a.eval it) false o.type).run P w = .ok (.tuple #[.bool false]) w → wrI s o (.tup [.bool false]) none = some outs →
      o.uponIn (FW ro) 0 P a (Nn X inr outs) Q ((o.semAt (FW ro).round a.eval).run P w) := by
    intro outs hr hw
    obtain ⟨s',hs,e1,e2⟩ := LK hw
    rw [show (FW ro).round = ro from rfl,Oper.semAt_eq ro _ o hnd,JA ho]
    simp only [Sem.run_bind,hr,Result.andThen,Sem.run_pure]
    refine ⟨s',G,hs,?_⟩
    rw [e1,e2]
    exact st.write (.tup _ _ (by rfl) (fun i v hi => by
      cases i with
      | zero => simp at hi; subst hi; exact .bool _
      | succ i => simp at hi)) o.dst hd
  cases hk : s.h.get k with
  | none => rw [hk] at h; cases h
  | some en =>
    obtain ⟨e',ob⟩ := en
    rw [hk] at h
    cases ob <;> try (cases h; done)
    case nit =>
      simp only at h
      split at h
      · rename_i he
        subst he
        exact over (Lo st.st.rel hv (show hpI s.h k = _ from hk) _) h
      · cases h
    rename_i km em ver left cur
    simp only at h
    cases hm : s.h.get km with
    | none => rw [hm] at h; cases h
    | some en2 =>
      obtain ⟨em',ob2⟩ := en2
      rw [hm] at h
      cases ob2 <;> try (cases h; done)
      rename_i ver' es
      simp only at h
      split at h
      case isFalse => cases h
      rename_i hc
      obtain ⟨rfl,rfl,rfl⟩ := hc
      rcases ML (P := P) st.st.rel hv (show hpI s.h k = _ from hk) (show hpI s.h km = _ from hm) o.type with ⟨rfl,hr⟩ | ⟨i,ka,va,hi,hes,z,w',hr,t,r,hvr⟩
      · exact over hr h
      · have hb : BP (some left) (fun i => match es[i]? with
            | some (a,v) => wrI s o (.tup [.bool true,a,v]) (some (k,some (e,.itr km em ver (left.erase i) (some i))))
            | none => none) = some outs := by
          cases left with
          | nil => simp at hi
          | cons x l => exact h
        obtain ⟨m,hw,hsub⟩ := KH hb i hi
        rw [hes] at hw
        obtain ⟨s',hs,e1,e2⟩ := LK hw
        rw [show (FW ro).round = ro from rfl,Oper.semAt_eq ro _ o hnd,JA ho]
        simp only [Sem.run_bind,hr,Result.andThen,Sem.run_pure]
        refine ⟨s',G,hsub _ hs,?_⟩
        rw [e1,e2]
        refine (st.step t r rfl fun k' => ?_).write hvr o.dst hd
        have := st.tight k'
        by_cases hkk : k' = k
        · subst hkk
          simp only [epH,show hpI s.h k' = _ from hk,A4] at this ⊢
          exact this
        · simp only [epH] at this ⊢
          rw [A0 _ _ hkk]
          exact this
theorem Mv {it : Operand} (ho : o.op = .entry it) (ρ : Operand → Value) : execOp ρ o = (do pure (Next.value (← Instr.entry (ρ it)))) := by
 unfold execOp; rw [ho]
theorem Qo (st : StT X inr G (frI s.f) (hpI s.h) a w) (hd : ∀ t,o.dst = some t → t < X.sz) {it : Operand} (ho : o.op = .entry it) {outs : List Sx} {Q : Exit → Act → World → Prop}
  (h : Ol s o (ev (frI s.f) it) = some outs) : o.wpIn (FW ro) 0 P a w (Nn X inr outs) Q := by
 refine ⟨fun _ _ => trivial,?_⟩
 have hnd : ∀ d,o.op ≠ .defer d := fun d e => by rw [ho] at e; cases e
 have hv := st.st.er it
 unfold Ol at h
 generalize hit : ev (frI s.f) it = iv at h hv
 cases iv <;> try (cases h; done)
 rename_i k e
 simp only at h
 cases hk : s.h.get k with
 | none => rw [hk] at h; cases h
 | some en =>
  obtain ⟨e',ob⟩ := en
  rw [hk] at h
  cases ob <;> try (cases h; done)
  rename_i km em ver left cur
  cases cur <;> try (cases h; done)
  rename_i i
  simp only at h
  cases hm : s.h.get km with
  | none => rw [hm] at h; cases h
  | some en2 =>
   obtain ⟨em',ob2⟩ := en2
   rw [hm] at h
   cases ob2 <;> try (cases h; done)
   rename_i ver' es
   simp only at h
   split at h
   case isFalse => cases h
   rename_i hc
   obtain ⟨rfl,rfl,rfl⟩ := hc
   cases hes : es[i]? with
   | none => rw [hes] at h; cases h
   | some p =>
    obtain ⟨ka,va⟩ := p
    rw [hes] at h
    simp only at h
    have hHk : hpI s.h k = some (e,.itr km em ver left (some i)) := hk
    have hHm : hpI s.h km = some (em,.map ver es) := hm
    obtain ⟨b,bm,clk,seen,xs,i1,i2,i3,i4,_,_,_,hcur,_⟩ := st.st.rel.itr k e km em ver left (some i) em es hHk hHm rfl
    obtain ⟨x,hx,hback⟩ := hcur i rfl
    obtain ⟨hE,hN,_⟩ := st.st.rel.obj k e _ hHk
    obtain ⟨_,_,_,bm',xs',clk',m1,m2,m3,m4,m5⟩ := st.st.rel.obj km em _ hHm
    rw [i3] at m1; cases m1
    rw [i4] at m2; cases m2
    obtain ⟨x',q1,q2,q3⟩ := m3.2 i ka va hes
    rw [Array.getElem?_toList,hx] at q1
    cases q1
    generalize hxa : a.eval it = y at hv
    cases hv with
    | itr _ _ ad he hp =>
     obtain ⟨b',hb',rfl⟩ := hp hE
     rw [i1] at hb'; cases hb'
     have hmem : x ∈ xs.toList := List.mem_of_getElem? (by rw [Array.getElem?_toList]; exact hx)
     have hfind : xs.find? (·.born == x.born) = some x := by rw [← Array.find?_toList]; exact find_born x xs.toList m4 hmem
     have hrun : (Instr.entry (.pointer (some ⟨b,0,none⟩))).run P w = .ok (.tuple #[x.key,x.val]) w := by
      simp [Instr.entry,getObj,Sem.run_bind,Sem.run,i2,i4,Result.andThen,hback,hfind]
     obtain ⟨s',hs,e1,e2⟩ := LK h
     rw [show (FW ro).round = ro from rfl,Oper.semAt_eq ro _ o hnd,Mv ho,hxa]
     simp only [Sem.run_bind,hrun,Result.andThen,Sem.run_pure]
     refine ⟨s',G,hs,?_⟩
     rw [e1,e2]
     exact st.write (.tup _ _ rfl (fun i v hi => by
      cases i with
      | zero => simp at hi; subst hi; exact q2
      | succ i =>
       cases i with
       | zero => simp at hi; subst hi; exact q3
       | succ i => simp at hi)) o.dst hd
theorem TX (st : StT X inr G f (hpI s.h) a w) {v : Val} {h' : Ht} (h : Xq s.h v = some h') : ∃ G',StT X inr G' f (hpI h') a w := by
 unfold Xq at h
 split at h
 ·rename_i k e n
  split at h
  ·rename_i e' sz xss hk
   split at h
   ·rename_i hr
    cases h
    rw [Dn (Ch hr)]
    exact ⟨_,st.frz hk⟩
   ·cases h
  ·cases h
 ·cases h
theorem QS (hT : Ad P T) (hl : LookOK P look) (hI : DP P ih) (st : StT X inr G (frI s.f) (hpI s.h) a w) (hd : ∀ t,o.dst = some t → t < X.sz) {outs : List Sx} {Q : Exit → Act → World → Prop}
  (h : opI ih T look o s = some outs) : o.wpIn (FW ro) 0 P a w (Nn X inr outs) Q := by
 unfold opI at h
 split at h
 ·rename_i g args ts ho
  split at h
  ·rename_i fid caps hg
   exact MM hT hl hI st hd ho rfl hg h
  ·rename_i k e hg
   obtain ⟨l,hy,hall⟩ := Bq h
   refine Q3 hI st hd ho rfl hg hy fun r hr x w' G' t r1 hD hN hv => ?_
   obtain ⟨m,hm,hsub⟩ := hall r hr
   cases hp : Dr s.f o.dst r.v with
   | none => rw [hp] at hm; cases hm
   | some f' =>
    rw [hp] at hm
    cases hm
    refine ⟨⟨f',r.h,r.n⟩,G',hsub _ (by simp),?_⟩
    rw [CC hp]
    exact (st.step t r1 hD hN).write hv o.dst hd
  ·cases h
 ·rename_i it ho
  exact RN st hd ho h
 ·rename_i it ho
  exact Qo st hd ho h
 ·split at h
  ·rename_i v u hx; exact Kr hT st hd hx h
  ·cases h
 ·split at h
  ·rename_i v u hx; exact Kr hT st hd hx h
  ·split at h
   ·cases h
   ·rename_i h' hf
    split at h
    ·rename_i v u hx
     obtain ⟨G',st'⟩ := TX st hf
     exact Kr (s := { s with h := h' }) hT st' hd hx h
    ·cases h
 ·split at h
  ·rename_i v u hx; exact Kr hT st hd hx h
  ·split at h
   ·rename_i v u hx; exact Kr hT st hd hx h
   ·cases h
theorem RB (hT : Ad P T) (hl : LookOK P look) (hI : DP P ih) (st : StT X inr G (frI s.f) (hpI s.h) a w) {ops : Array Oper} {i : Nat} (hi : ops[i]? = some o) {outs : List Sx} {Q : Exit → Act → World → Prop}
  (h : PM ih T look X.sz ops.toList o s = some outs) : wpOpIn (FW ro) 0 P ops Q i (Nn X inr outs) a w := by
 unfold wpOpIn
 rw [hi]
 simp only
 unfold PM at h
 split at h
 case isFalse => cases h
 rename_i hdc
 have hd : ∀ t,o.dst = some t → t < X.sz := fun t ht => by unfold ah at hdc; rw [ht] at hdc; simpa using hdc
 cases hg : o.guard with
 | none =>
  rw [hg] at h
  have hw : Region.wanted o (yielded ops a.tmps) = true := by simp [Region.wanted,hg]
  rw [if_pos hw]
  exact QS hT hl hI st hd h
 | some p =>
  obtain ⟨j,b⟩ := p
  rw [hg] at h
  simp only at h
  have skip : ∀ {outs},(match Dr s.f o.dst (.tup []) with | some f => some [{ s with f }] | none => none) = some outs → (∀ f,o.about P w a.eval = some f → (FW ro).fn f) ∧ Nn X inr outs (a.put o.dst undef) w := by
   intro outs h
   cases hp : Dr s.f o.dst (.tup []) with
   | none => rw [hp] at h; cases h
   | some f' =>
    rw [hp] at h
    cases h
    refine ⟨fun _ _ => trivial,{ s with f := f' },G,by simp,?_⟩
    rw [CC hp]
    exact st.write (.tup [] #[] rfl (fun i v hi => by simp at hi)) o.dst hd
  split at h
  ·rename_i c hc
   have hy := Dv st.st hc
   have hw : Region.wanted o (yielded ops a.tmps) = (c == b) := by simp only [Region.wanted,hg,hy]; cases c <;> cases b <;> rfl
   by_cases hcb : c = b
   ·subst hcb
    rw [if_pos rfl] at h
    rw [if_pos (by rw [hw]; simp)]
    exact QS hT hl hI st hd h
   ·rw [if_neg hcb] at h
    rw [if_neg (by rw [hw]; simpa using hcb)]
    exact skip h
  ·rename_i hc
   have hw : Region.wanted o (yielded ops a.tmps) = false := by
    have hy : yielded ops a.tmps j = none := by
     rw [Option.map_eq_some_iff] at hc
     obtain ⟨t,ht,hf⟩ := hc
     unfold opd at ht
     rw [Array.getElem?_toList] at ht
     have hv := st.st.fr t
     rw [hf] at hv
     unfold yielded
     rw [ht]
     simp only [Option.bind_some]
     generalize hx : a.tmps.getD t undef = x at hv
     cases hv
     rw [Array.getD_eq_getD_getElem?] at hx
     cases hq : a.tmps[t]? with
     | none => rfl
     | some y => rw [hq] at hx; simp at hx; subst hx; rfl
    simp only [Region.wanted,hg,hy]
    rfl
   rw [if_neg (by rw [hw]; simp)]
   exact skip h
  ·cases h
theorem PN (hT : Ad P T) (hl : LookOK P look) (hI : DP P ih) {ops : Array Oper} {Q : Exit → Act → World → Prop} : ∀ (n i : Nat) (s : Sx) (outs : List Sx) (G : Gh) (a : Act) (w : World),i + n = ops.toList.length →
  Tk ih T look X.sz ops.toList (ops.toList.drop i) s = some outs → StT X inr G (frI s.f) (hpI s.h) a w → (∀ s' ∈ outs,∀ G a w,StT X inr G (frI s'.f) (hpI s'.h) a w → Q .normal a w) → wpOpsIn (FW ro) 0 P ops Q (List.range' i n) a w
 | 0,i,s,outs,G,a,w,hn,h,st,hQ => by
  rw [List.drop_eq_nil_of_le (by omega)] at h
  cases h
  exact hQ s (by simp) G a w st
 | n + 1,i,s,outs,G,a,w,hn,h,st,hQ => by
  have hi : i < ops.toList.length := by omega
  rw [List.drop_eq_getElem_cons hi] at h
  obtain ⟨l,hs,hall⟩ := Bq (show BP (PM ih T look X.sz ops.toList ops.toList[i] s) (fun s => Tk ih T look X.sz ops.toList (ops.toList.drop (i + 1)) s) = some outs from h)
  rw [List.range'_succ,wpOpsIn_cons]
  refine wpOpIn_mono ?_ (RB hT hl hI st (o := ops.toList[i]) (by rw [← Array.getElem?_toList]; exact List.getElem?_eq_getElem hi) hs)
  rintro a' w' ⟨s',G',hm,st'⟩
  obtain ⟨m,hm1,hsub⟩ := hall s' hm
  exact PN hT hl hI n (i + 1) s' m G' a' w' (by omega) hm1 st' fun s2 h2 => hQ s2 (hsub s2 h2)
end
end Cp
namespace Cp
open Go
section
variable {P : Program} {T : Tab} {G G' : Gh} {w w' : World} {H H' : Hp} {X : Cx} {ro : Option Nat} {inr : Bool} {f : Fr} {look : Look} {ih : Run} {s : Sx} {a : Act} {o : Oper} {md md' : Me}
theorem KU {rd : Rds} (h : ∀ o,cls md o = cls md' o) (hi : md.imp = md'.imp) (os : List Oper) (x i : Oper) : Dk rd md os x i = Dk rd md' os x i := by
 simp only [Dk,CU,El,CG,Ia,h,hi]
 rfl
theorem Gf {rd : Rds} (h : ∀ o,cls md o = cls md' o) (hi : md.imp = md'.imp) (os : List Oper) (i : Nat) (o : Oper) : ∀ (l : List Oper) (x : Nat),E7 rd md os i o x l = E7 rd md' os i o x l
 | [],x => rfl
 | ox :: l,x => by simp only [E7,KU h hi,Gf h hi os i o l]
theorem FK {rd : Rds} (h : ∀ o,cls md o = cls md' o) (hi : md.imp = md'.imp) (os : List Oper) : ∀ (l : List Oper) (i : Nat),DR rd md os i l = DR rd md' os i l
 | [],i => rfl
 | o :: l,i => by simp only [DR,Gf h hi,FK h hi os l]
theorem M9 {rd : Rds} (h : ∀ o,cls md o = cls md' o) (hi : md.imp = md'.imp) (os : List Oper) : Eg rd md os = Eg rd md' os := by
 simp only [Eg,FK h hi]
theorem frzA_get : ∀ (h : Ht) (k : Nat),(Ic h).get k = frz1 (h.get k)
 | .nil,k => rfl
 | .node l v r,k => by
  rw [show Ic (.node l v r) = .node (Ic l) (frz1 v) (Ic r) from rfl,Bt.get_node,Bt.get_node]
  split
  ·rfl
  ·split
   ·exact frzA_get l _
   ·exact frzA_get r _
theorem CQ {x : Option (Nat × AObj)} {e : Nat} {o : AObj} (h : frz1 x = some (e,o)) : o.owned = false ∧ ∃ o0,x = some (e,o0) := by
 cases x with
 | none => cases h
 | some p =>
  obtain ⟨e0,o0⟩ := p
  cases o0 <;> (simp only [frz1,Option.some.injEq,Prod.mk.injEq] at h; obtain ⟨rfl,rfl⟩ := h; exact ⟨rfl,_,rfl⟩)
theorem flats_get : ∀ {cs : List Val},flats cs = true → ∀ (j : Nat) (v : Val),cs[j]? = some v → flat v = true
 | [],_,j,v,h => by simp at h
 | c :: cs,hn,j,v,h => by
  simp only [flats,Bool.and_eq_true] at hn
  cases j with
  | zero => simp at h; subst h; exact hn.1
  | succ j => exact flats_get hn.2 j v (by simpa using h)
theorem VR.flat {G2 : Gh} {w2 : World} {v : Val} {x : Value} (h : VR G w v x) (hf : Cp.flat v = true) : VR G2 w2 v x := by
 induction h with
 | int k n => exact .int k n
 | bool b => exact .bool b
 | str s => exact .str s
 | nilp => exact .nilp
 | nilm => exact .nilm
 | nilf => exact .nilf
 | nili => exact .nili
 | agg cs xs hs hc hv ih => simp only [Cp.flat] at hf; exact .agg cs xs hs hc (fun i v hi => ih i v hi (flats_get hf i v hi))
 | tup vs xs hs hv ih => simp only [Cp.flat] at hf; exact .tup vs xs hs (fun i v hi => ih i v hi (flats_get hf i v hi))
 | iface t v x hv ih => simp only [Cp.flat] at hf; exact .iface t v x (ih hf)
 | _ => cases hf
theorem P3 {en : Option (Nat × AObj)} (h : lowE en = true) : low1 en := by
 cases en with
 | none => trivial
 | some p =>
  obtain ⟨e,o⟩ := p
  simp only [lowE,Bool.and_eq_true,Nat.beq_eq] at h
  obtain ⟨rfl,h⟩ := h
  refine ⟨rfl,fun k => ?_⟩
  cases o <;> simp only [Ju,if_true] <;> first | exact Nat.le_refl _ | (simp only [Nat.beq_eq] at h; subst h; exact Nat.le_refl _)
theorem Lh {base : Nat} {h : Ht} : ∀ (ls : List Nat),(∀ d ∈ ls,DS (base + d) = true) → ∀ k,((∃ d ∈ ls,k = base + d) → hpI (Ez base ls h) k = some (0,.dead)) ∧ (¬ (∃ d ∈ ls,k = base + d) → hpI (Ez base ls h) k = hpI h k)
 | [],hr,k => ⟨fun ⟨d,hd,_⟩ => by simp at hd,fun _ => rfl⟩
 | d :: ls,hr,k => by
  obtain ⟨h1,h2⟩ := Lh (base := base) (h := h) ls (fun d hd => hr d (by simp [hd])) k
  have e : hpI (Ez base (d :: ls) h) = upd (hpI (Ez base ls h)) (base + d) (some (0,.dead)) := Dn (Ch (hr d (by simp)))
  rw [e]
  by_cases hk : k = base + d
  ·subst hk
   rw [A4]
   exact ⟨fun _ => rfl,fun hn => (hn ⟨d,by simp,rfl⟩).elim⟩
  ·rw [A0 _ _ hk]
   refine ⟨fun ⟨d',hd',e'⟩ => h1 ⟨d',?_,e'⟩,fun hn => h2 fun ⟨d',hd',e'⟩ => hn ⟨d',by simp [hd'],e'⟩⟩
   rcases List.mem_cons.1 hd' with rfl | hd'
   ·exact (hk e').elim
   ·exact hd'
theorem P0 {base : Nat} {ls : List Nat} {h : Ht} (hl : Uv base ls h = true) : (∀ d ∈ ls,DS (base + d) = true) ∧ ∀ k,(∃ d ∈ ls,k = base + d) → low1 (hpI h k) := by
 have := List.all_eq_true.1 hl
 refine ⟨fun d hd => ?_,fun k ⟨d,hd,e⟩ => ?_⟩
 ·have := this d hd
  simp only [Bool.and_eq_true] at this
  exact this.1
 ·subst e
  have := this d hd
  simp only [Bool.and_eq_true] at this
  exact P3 this.2
open Classical in
theorem UQ {fid : FuncId} {args : List Val} {h : Ht} {r : Rx} {base : Nat} {ls : List Nat} (hroom : ∀ d ∈ ls,DS (base + d) = true) (hc : LO P fid args (Ez base ls (Ic h)) [r]) (hf : Cp.flat r.v = true) :
  ReadC P (fun k => ∃ d ∈ ls,k = base + d) fid args (hpI h) r.v := by
 refine ⟨hc.1,fun H' hsim G w xs hR hti hv => ?_⟩
 generalize hks : (fun k => ∃ d ∈ ls,k = base + d) = ks at hsim
 let bad : Nat → Prop := fun k => ks k ∧ H' k = none
 have hN0 : ∀ k,bad k → G.N k = 0 := fun k hb => by
  have := hti k
  simp only [epH,hb.2] at this
  omega
 let Ga : Gh := { G with K := fun k => if bad k then none else G.K k,E := fun k => if bad k then 0 else G.E k,N := fun k => if bad k then 1 else G.N k }
 let G1 : Gh := { Ga with I := fun b => b < w.heap.size ∧ b ∉ G.D }
 have hNle : ∀ k,G.N k ≤ G1.N k := fun k => by
  show G.N k ≤ if bad k then 1 else G.N k
  by_cases hb : bad k
  ·rw [if_pos hb,hN0 k hb]; omega
  ·rw [if_neg hb]; exact Nat.le_refl _
 have ta : Tr G H' w Ga H' w := ⟨rfl,⟨rfl,Nat.le_refl _⟩,rfl,Nat.le_refl _,fun _ _ _ => rfl,fun b ⟨k,e,o,q1,q2,q3⟩ => by
  have hb : ¬ bad k := fun hb => by rw [hb.2] at q1; cases q1
  have q3' : (if bad k then none else G.K k) = some b := q3
  rw [if_neg hb] at q3'
  exact .inl ⟨k,e,o,q1,q2,q3'⟩,fun _ h => h,fun _ h => .inl h,hNle,fun k => by
  by_cases hb : bad k
  ·right
   show G.N k ≤ if bad k then 0 else G.E k
   rw [hN0 k hb]; omega
  ·left
   exact ⟨if_neg hb,if_neg hb,rfl⟩,[],rfl⟩
 have hvr : ∀ v x,VR G w v x → VR G1 w v x := fun v x hx => (hx.mono hR.imm ta).congr (fun b hb => ⟨⟨(hR.imm b hb).1,fun hd => (hR.dfr b hd).2.2 hb⟩,fun _ => rfl⟩) rfl rfl rfl rfl
 have hg : ∀ k,(ks k → hpI (Ez base ls (Ic h)) k = some (0,.dead)) ∧ (¬ ks k → hpI (Ez base ls (Ic h)) k = frz1 (H' k)) := fun k => by
  obtain ⟨h1,h2⟩ := Lh (h := Ic h) ls hroom k
  subst hks
  refine ⟨h1,fun hk => ?_⟩
  rw [h2 hk,(hsim k).1 hk]
  exact frzA_get h k
 have hown : ∀ k e o,hpI (Ez base ls (Ic h)) k = some (e,o) → o.owned = false := fun k e o hk => by
  by_cases hkk : ks k
  ·rw [(hg k).1 hkk] at hk; cases hk; rfl
  ·rw [(hg k).2 hkk] at hk; exact (CQ hk).1
 have hnoitr : ∀ k e km em ver left cur,hpI (Ez base ls (Ic h)) k ≠ some (e,.itr km em ver left cur) := fun k e km em ver left cur hk => by
  have := hown k e _ hk
  cases this
 have hno : ∀ b,¬ Own G1 (hpI (Ez base ls (Ic h))) b := fun b ⟨k,e,o,h1,h2,_⟩ => by
  rw [hown k e o h1] at h2
  cases h2
 have hI : ∀ k e o b,H' k = some (e,o) → G.K k = some b → G1.I b := fun k e o b hk hb => by
  refine ⟨hR.lt hk hb,fun hd => ?_⟩
  cases ho : o.owned with
  | true => exact (hR.dfr b hd).2.1 ⟨k,e,o,hk,ho,hb⟩
  | false =>
   cases o <;> simp [AObj.owned] at ho
   all_goals exact (hR.dfr b hd).2.2 ((hR.obj k e _ hk).2.2.2 b hb)
 have hR1 : HRel G1 w (hpI (Ez base ls (Ic h))) := by
  refine ⟨fun k e o hk => ?_,fun k e km em ver left cur e' es h1 _ _ => (hnoitr k e km em ver left cur h1).elim,fun k k' e e' o o' b h1 _ w1 _ _ _ => ?_,fun b hb => ⟨hb.1,hno b⟩,fun b hb => (hno b hb).elim,fun q hq => ⟨(hR.dfr q hq).1,hno q,fun hi => hi.2 hq⟩,fun g cs hg => hvr _ _ (hR.glb g cs hg)⟩
  ·by_cases hkk : ks k
   ·rw [(hg k).1 hkk] at hk
    cases hk
    cases hH : H' k with
    | none =>
     have hb : bad k := ⟨hkk,hH⟩
     refine ⟨if_pos hb,?_,trivial,fun b hbk => ?_⟩
     ·show 0 < if bad k then 1 else G.N k
      rw [if_pos hb]; omega
     ·have hbk' : (if bad k then none else G.K k) = some b := hbk
      rw [if_pos hb] at hbk'
      cases hbk'
    | some p =>
     obtain ⟨e0,o0⟩ := p
     have hb : ¬ bad k := fun hb => by rw [hb.2] at hH; cases hH
     have hlow := (hsim k).2 hkk
     rw [hH] at hlow
     obtain ⟨rfl,_⟩ := hlow
     obtain ⟨a1,a2,a3⟩ := hR.obj k 0 o0 hH
     refine ⟨(if_neg hb).trans a1,?_,trivial,fun b hbk => ?_⟩
     ·show 0 < if bad k then 1 else G.N k
      rw [if_neg hb]; exact a2
     ·have hbk' : (if bad k then none else G.K k) = some b := hbk
      rw [if_neg hb] at hbk'
      exact hI k 0 o0 b hH hbk'
   ·rw [(hg k).2 hkk] at hk
    have hb : ¬ bad k := fun hb => hkk hb.1
    obtain ⟨_,o0,h0⟩ := CQ hk
    obtain ⟨a1,a2,a3⟩ := hR.obj k e o0 h0
    have hKe : G1.K k = G.K k := if_neg hb
    refine ⟨(if_neg hb).trans a1,Nat.lt_of_lt_of_le a2 (hNle k),?_⟩
    have hm := ORel.mono' (G' := G1) (w' := w) a3 hvr hNle (fun b hb => ⟨(hR.imm b hb).1,fun hd => (hR.dfr b hd).2.2 hb⟩) hKe rfl (fun _ _ => rfl)
    have hIk : ∀ b,G1.K k = some b → G1.I b := fun b hb => hI k e o0 b h0 (hKe ▸ hb)
    rw [h0] at hk
    cases o0 <;> (simp only [frz1,Option.some.injEq,Prod.mk.injEq] at hk; obtain ⟨_,rfl⟩ := hk)
    ·exact ⟨hm,hIk⟩
    ·exact hm
    ·exact ⟨hm,hIk⟩
    ·exact ⟨trivial,hIk⟩
    ·exact ⟨trivial,hIk⟩
    ·exact ⟨trivial,hIk⟩
    ·exact hm
    ·exact hm
  ·rw [hown k e o h1] at w1
   cases w1
 have hti1 : ∀ k,G1.N k ≤ epH (hpI (Ez base ls (Ic h))) k := fun k => by
  have := hti k
  show (if bad k then 1 else G.N k) ≤ _
  by_cases hkk : ks k
  ·simp only [epH,(hg k).1 hkk]
   by_cases hb : bad k
   ·rw [if_pos hb]; omega
   ·rw [if_neg hb]
    cases hH : H' k with
    | none => exact (hb ⟨hkk,hH⟩).elim
    | some p =>
     obtain ⟨e0,o0⟩ := p
     have hlow := (hsim k).2 hkk
     rw [hH] at hlow
     obtain ⟨rfl,hl⟩ := hlow
     have hl := hl k
     simp only [epH,hH] at this
     cases o0 <;> simp only [Ju,if_true] at hl <;> simp only at this <;> omega
  ·have hb : ¬ bad k := fun hb => hkk hb.1
   rw [if_neg hb]
   simp only [epH,(hg k).2 hkk] at this ⊢
   cases hk : H' k with
   | none => rw [hk] at this; exact this
   | some p =>
    obtain ⟨e,o⟩ := p
    rw [hk] at this
    cases o <;> exact this
 refine Calls.mono (hc.2 G1 w xs hR1 hti1 ⟨hv.1,fun i v hi => hvr _ _ (hv.2 i v hi)⟩) ?_
 rintro e w' ⟨r',x,G',hmem,rfl,t,r1,hD,_,hx⟩
 have : r' = r := by simpa using hmem
 subst this
 have hsame : ∀ b,b < w.heap.size → w'.heap[b]? = w.heap[b]? := fun b hb => t.same b hb (hno b)
 have t' : Tr G H' w G H' w' := ⟨t.os,t.tape,t.output,t.size,fun b hb _ => hsame b hb,fun b hb => .inl hb,fun _ hb => hb,fun _ hb => .inl hb,fun _ => Nat.le_refl _,fun _ => .inl ⟨rfl,rfl,rfl⟩,[],rfl⟩
 exact ⟨x,rfl,t',hR.still t' rfl (fun _ => ⟨rfl,rfl,rfl⟩) hsame (fun b hb => ⟨Nat.lt_of_lt_of_le (hR.imm b hb).1 t.size,(hR.imm b hb).2⟩),hx.flat hf⟩
theorem V1 {rd : Rds} {u : Up} (h : WA rd o u = true) : VZ rd o u := fun d hd hc k p hu => by
 subst hu
 unfold WA at h
 rw [hd] at h
 simp only [hc,Bool.not_true,Bool.false_or] at h
 exact P3 h
theorem Sr {rd : Rds} {k : Nat} : ssB rd md k = true ↔ ksS rd md k := by
 unfold ssB ksS
 rw [List.any_eq_true]
 exact ⟨fun ⟨t,h1,h2⟩ => ⟨t,h1,Nat.eq_of_beq_eq_true h2⟩,fun ⟨t,h1,h2⟩ => ⟨t,h1,by rw [h2]; exact Nat.beq_refl _⟩⟩
theorem Ws {rd : Rds} {u : Up} (h : stB rd md o u = true) : KW rd o = true → ∀ k p,u = some (k,p) → ksS rd md k := fun hs k p hu => by
 subst hu
 unfold stB at h
 simp only [hs,Bool.not_true,Bool.false_or] at h
 exact Sr.1 h
theorem Wu {rd : Rds} {f : Bt Val} (h : ldB rd md o f = true) : G9 o = true → ∀ y ∈ o.op.operands.toList,∀ k,dk (ev (frI f) y) = some k → ¬ ksS rd md k := fun hl y hy k hk hn => by
 unfold ldB at h
 simp only [hl,Bool.not_true,Bool.false_or] at h
 have := List.all_eq_true.1 h y hy
 simp only [hk,Bool.not_eq_true'] at this
 rw [Sr.2 hn] at this
 cases this
theorem RS {rd : Rds} (hT : Ad P T) (hl : LookOK P look) (hI : DP P ih) {os : List Oper} {outs : List Sx} {K : Fr → Hp → Prop} (hlow : CG rd md o = true → Uv md.base rd.ls s.h = true) (h : opD ih T look rd md o s = some outs) (hK : ∀ s' ∈ outs,K (frI s'.f) (hpI s'.h)) :
  (Cy md o = true → CallT P o K (frI s.f) (hpI s.h)) ∧ (¬ Cy md o = true → ∃ v u,CJ P T rd md o (frI s.f) (hpI s.h) v u ∧ Fb (hpI s.h) u ∧ (VZ rd o u ∧ (KW rd o = true → ∀ k p,u = some (k,p) → ksS rd md k)) ∧ K (put (frI s.f) o.dst v) (app (hpI s.h) u)) := by
 unfold opD at h
 split at h
 ·rename_i g args ts ho
  have hfn : BC o = true := by unfold BC; rw [ho]
  split at h
  ·rename_i fid caps hg
   split at h
   ·rename_i himp
    refine ⟨fun _ => fun X inr ro G a w Q hd st => ?_,fun hn => (hn (by simp only [Cy,hfn,himp,Bool.and_self])).elim⟩
    refine Oper.wpIn_mono ?_ (MM hT hl hI st hd ho rfl hg h)
    rintro a' w' ⟨s',G',hm,st'⟩
    exact ⟨G',_,_,st',hK s' hm⟩
   ·rename_i himp
    refine ⟨fun hi => ?_,fun _ => ?_⟩
    ·simp only [Cy,hfn,Bool.true_and] at hi
     exact (himp hi).elim
    ·split at h
     ·rename_i hrd
      have hr : CG rd md o = true := by simp only [CG,hfn,hrd]; simpa using himp
      split at h
      ·rename_i r hc
       split at h
       case isFalse => cases h
       rename_i hfl
       cases hp : Dr s.f o.dst r.v with
       | none => rw [hp] at h; cases h
       | some f' =>
        rw [hp] at h
        cases h
        refine ⟨r.v,none,?_,goodU_none,⟨(fun d _ _ k p h => by cases h),(fun _ k p h => by cases h)⟩,?_⟩
        ·unfold CJ
         rw [if_pos hr,ho]
         simp only [hg]
         exact ⟨UQ (P0 (hlow hr)).1 (Fj hT hl hI hc) hfl,trivial⟩
        ·have := hK _ (List.mem_singleton.2 rfl)
         simp only [CC hp] at this
         exact this
      ·cases h
     rename_i hrd
     have hr : ¬ CG rd md o = true := fun hi => hrd (by simp only [CG,Bool.and_eq_true] at hi; exact hi.1.2)
     generalize hA : (args.toList.map (ev (frI s.f)) ++ caps).map (if md.fz.contains (o.dst.getD 0) = true then fzv (hpI s.h) else id) = as at h
     split at h
     case isFalse => cases h
     rename_i hna
     split at h
     ·rename_i v hfm
      cases hp : Dr s.f o.dst v with
      | none => rw [hp] at h; cases h
      | some f' =>
       rw [hp] at h
       cases h
       refine ⟨v,none,?_,goodU_none,⟨(fun d _ _ k p h => by cases h),(fun _ k p h => by cases h)⟩,?_⟩
       ·unfold CJ Dq
        rw [if_neg hr,ho]
        simp only [hg,hA]
        exact ⟨hl.pmemo _ _ _ (Kg hfm),trivial⟩
       ·have := hK _ (List.mem_singleton.2 rfl)
        simp only [CC hp] at this
        exact this
     split at h
     ·rename_i r hc
      split at h
      case isFalse => cases h
      rename_i hnv
      cases hp : Dr s.f o.dst r.v with
      | none => rw [hp] at h; cases h
      | some f' =>
       rw [hp] at h
       cases h
       refine ⟨r.v,none,?_,goodU_none,⟨(fun d _ _ k p h => by cases h),(fun _ k p h => by cases h)⟩,?_⟩
       ·unfold CJ Dq
        rw [if_neg hr,ho]
        simp only [hg,hA]
        exact ⟨TA (Fj hT hl hI hc) hna hnv,trivial⟩
       ·have := hK _ (List.mem_singleton.2 rfl)
        simp only [CC hp] at this
        exact this
     ·cases h
  ·cases h
 ·rename_i hno
  have hfn : BC o = false := by
   unfold BC
   split
   ·rename_i g args ts ho; exact (hno _ _ _ ho).elim
   ·rfl
  refine ⟨fun hi => by simp [Cy,hfn] at hi,fun _ => ?_⟩
  rw [P6] at h
  split at h
  ·rename_i v u hx
   split at h
   case isFalse => cases h
   rename_i hm
   simp only [Bool.and_eq_true] at hm
   split at h
   ·rename_i f' h' hp ha
    cases h
    refine ⟨v,u,by unfold CJ; rw [if_neg (by simp [CG,hfn]),BZ hfn]; exact hx,Mg hm.1.1,⟨V1 hm.1.2,Ws hm.2⟩,?_⟩
    have := hK _ (List.mem_singleton.2 rfl)
    simp only [CC hp,P5 ha] at this
    exact this
   ·cases h
  ·cases h
theorem S7 {rd : Rds} (hT : Ad P T) (hl : LookOK P look) (hI : DP P ih) {os : List Oper} {outs : List Sx} {K : Fr → Hp → Prop} (h : PK ih T look rd md os o s = some outs) (hK : ∀ s' ∈ outs,K (frI s'.f) (hpI s'.h)) :
  AQ P T rd md os o K (frI s.f) (hpI s.h) := by
 unfold PK at h
 split at h
 ·cases h
 rename_i hlw
 simp only [Bool.or_eq_true,not_or] at hlw
 obtain ⟨hlw,hld⟩ := hlw
 have hld := Wu (rd := rd) (md := md) (o := o) (f := s.f) (by simpa using hld)
 have hlow : CG rd md o = true → Uv md.base rd.ls s.h = true := fun hr => by
  simp only [hr,Bool.true_and,Bool.not_eq_true',Bool.not_eq_false] at hlw
  exact hlw
 have hsim : CG rd md o = true → SimH (ksD rd md) (hpI s.h) (hpI s.h) := fun hr k => ⟨fun _ => rfl,fun hk => (P0 (hlow hr)).2 k hk⟩
 unfold AQ
 cases hg : o.guard with
 | none =>
  rw [hg] at h
  obtain ⟨h1,h2⟩ := RS (os := os) hT hl hI hlow h hK
  by_cases hi : Cy md o = true
  ·rw [if_pos hi]; exact h1 hi
  ·rw [if_neg hi]
   obtain ⟨v,u,q1,q2,q4,q3⟩ := h2 hi
   exact ⟨v,u,⟨hsim,by unfold FA; rw [hg]; exact q1⟩,q2,⟨q4.1,hld,q4.2⟩,q3⟩
 | some p =>
  obtain ⟨j,b⟩ := p
  rw [hg] at h
  simp only at h ⊢
  split at h
  ·rename_i c hc
   by_cases hcb : c = b
   ·rw [if_pos hcb] at h
    obtain ⟨h1,h2⟩ := RS (os := os) hT hl hI hlow h hK
    by_cases hi : Cy md o = true
    ·rw [if_pos hi]; (try rw [hc]); (try simp only); rw [if_pos hcb]; exact h1 hi
    ·rw [if_neg hi]
     obtain ⟨v,u,q1,q2,q4,q3⟩ := h2 hi
     exact ⟨v,u,⟨hsim,by unfold FA; rw [hg]; simp only; rw [hc]; simp only; rw [if_pos hcb]; exact q1⟩,q2,⟨q4.1,hld,q4.2⟩,q3⟩
   ·rw [if_neg hcb] at h
    cases hp : Dr s.f o.dst (.tup []) with
    | none => rw [hp] at h; cases h
    | some f' =>
     rw [hp] at h
     cases h
     have := hK _ (List.mem_singleton.2 rfl)
     simp only [CC hp] at this
     by_cases hi : Cy md o = true
     ·rw [if_pos hi]; (try rw [hc]); (try simp only); rw [if_neg hcb]; exact this
     ·rw [if_neg hi]
      exact ⟨.tup [],none,⟨hsim,by unfold FA; rw [hg]; simp [hc,hcb]⟩,goodU_none,⟨(fun d _ _ k p h => by cases h),hld,(fun _ k p h => by cases h)⟩,this⟩
  ·rename_i hc
   cases hp : Dr s.f o.dst (.tup []) with
   | none => rw [hp] at h; cases h
   | some f' =>
    rw [hp] at h
    cases h
    have := hK _ (List.mem_singleton.2 rfl)
    simp only [CC hp] at this
    by_cases hi : Cy md o = true
    ·rw [if_pos hi]; (try rw [hc]); (try simp only); exact this
    ·rw [if_neg hi]
     exact ⟨.tup [],none,⟨hsim,by unfold FA; rw [hg]; simp [hc]⟩,goodU_none,⟨(fun d _ _ k p h => by cases h),hld,(fun _ k p h => by cases h)⟩,this⟩
  ·cases h
theorem Pr {rd : Rds} (hT : Ad P T) (hl : LookOK P look) (hI : DP P ih) {os : List Oper} {K : Fr → Hp → Prop} : ∀ (n i : Nat) (s : Sx) (outs : List Sx),i + n = os.length → Xn ih T look rd md os (os.drop i) s = some outs →
  (∀ s' ∈ outs,K (frI s'.f) (hpI s'.h)) → DX P T rd md os K (List.range' i n) (frI s.f) (hpI s.h)
 | 0,i,s,outs,hn,h,hK => by
  rw [List.drop_eq_nil_of_le (by omega)] at h
  cases h
  exact hK s (by simp)
 | n + 1,i,s,outs,hn,h,hK => by
  have hi : i < os.length := by omega
  rw [List.drop_eq_getElem_cons hi] at h
  obtain ⟨l,hs,hall⟩ := Bq (show BP (PK ih T look rd md os os[i] s) (fun s => Xn ih T look rd md os (os.drop (i + 1)) s) = some outs from h)
  simp only [List.range'_succ,DX,List.getElem?_eq_getElem hi]
  refine S7 hT hl hI hs fun s' hs' => ?_
  obtain ⟨m,hm,hsub⟩ := hall s' hs'
  exact Pr hT hl hI n (i + 1) s' m (by omega) hm fun s2 h2 => hK s2 (hsub s2 h2)
theorem Fo {rd : Rds} (hT : Ad P T) (hmix : P.follows .mixedOrders = true) (hl : LookOK P look) (hI : DP P ih) (st : StT X inr G (frI s.f) (hpI s.h) a w) {ow fz : List Nat} {id : Nat} {ops : Array Oper} {outs : List Sx}
  (h : K0 ih T look ow fz rd X.sz ops.toList s = some outs) {Q : Exit → Act → World → Prop} (hQ : ∀ s' ∈ outs,∀ G a w,StT X inr G (frI s'.f) (hpI s'.h) a w → Q .normal a w) : (Code.region id ops true).wpIn (FW ro) 0 P Q a w := by
 unfold K0 at h
 split at h
 case isFalse => cases h
 rename_i hc
 simp only [Bool.and_eq_true] at hc
 have hok : Eg rd (mdD s.n ow fz rd ops.toList) ops.toList = true :=
  (M9 (md := mdD s.n ow fz rd ops.toList) (md' := mdD 0 ow fz rd ops.toList) (fun o => rfl) rfl _).trans hc.1
 refine wpIn_mono (Ro (Q := fun e f H => e = .normal ∧ ∃ s' ∈ outs,f = frI s'.f ∧ H = hpI s'.h) hT hmix hc.2 hok st ?_) fun e a w hp => ?_
 ·rw [List.range_eq_range']
  exact Pr hT hl hI ops.toList.length 0 { s with n := s.n + X.sz } outs (by omega) h fun s' hs' => ⟨rfl,s',hs',rfl,rfl⟩
 ·obtain ⟨G',f',H',st',rfl,s',hs',rfl,rfl⟩ := hp
  exact hQ s' hs' G' a w st'
theorem Ea {f0 : Bt Val} : ∀ (l : List Operand) (h : Ht) (G : Gh),StT X inr G f (hpI h) a w → ∃ G',StT X inr G' f (hpI (QG f0 h l)) a w
 | [],h,G,st => ⟨G,st⟩
 | .tmp t :: l,h,G,st => by
  simp only [QG]
  split
  ·rename_i k e n hk
   split
   ·rename_i e' sz xss hh
    split
    ·rename_i hr
     have := st.frz (show hpI h k = _ from hh)
     rw [← Dn (Ch hr)] at this
     exact Ea l _ _ this
    ·exact Ea l h G st
   ·exact Ea l h G st
  ·exact Ea l h G st
 | .const v :: l,h,G,st => Ea l h G st
 | .global g :: l,h,G,st => Ea l h G st
 | .func g :: l,h,G,st => Ea l h G st
theorem MN (hI : DP P ih) {c : Code} {Q : Exit → Act → World → Prop} (hro : inr = false → ro = none) : ∀ (m : Nat) (s : Sx) (outs : List (Exit × Sx)) (G : Gh) (a : Act) (w : World),RZ (ih X.sz inr c) m s = some outs → StT X inr G (frI s.f) (hpI s.h) a w →
  (∀ e s',(e,s') ∈ outs → ∀ G a w,StT X inr G (frI s'.f) (hpI s'.h) a w → Q e a w) → Code.roundsIn (FW ro) 0 P c Q m a w
 | 0,s,outs,G,a,w,h,st,hQ => by cases h
 | m + 1,s,outs,G,a,w,h,st,hQ => by
  obtain ⟨l,hb,hall⟩ := Bq (show BP (ih X.sz inr c s) (fun p => match p.1 with | .normal => RZ (ih X.sz inr c) m p.2 | e => some [(e,p.2)]) = some outs from h)
  rw [roundsIn_succ]
  refine wpIn_mono (hI _ _ _ _ _ hb X ro G a w rfl hro st) fun e a' w' hp => ?_
  obtain ⟨s',G',hm,st'⟩ := hp
  obtain ⟨m',hm',hsub⟩ := hall _ hm
  cases e with
  | normal => exact MN hI hro m s' m' G' a' w' hm' st' fun e s2 h2 => hQ e s2 (hsub _ h2)
  | _ => cases hm'; exact hQ _ s' (hsub _ (by simp)) G' a' w' st'
theorem WG (hf : ∀ t,VR G w (f t) (a.tmps.getD t undef)) {b : Bt Val} (hb : f = frI b) (n : Nat) : ∀ (i : Nat) (v : Val),(toL b n)[i]? = some v → VR G w v (a.tmps.getD i undef) := fun i v h => by
 obtain ⟨h1,rfl⟩ := Py b n i v h
 subst hb
 exact hf i
theorem HRel.markD (hR : HRel G w H) : Tr G H w { G with D := w.heap.size :: G.D } H (w.alloc (.deferred (some []))) ∧ HRel { G with D := w.heap.size :: G.D } (w.alloc (.deferred (some []))) H ∧
  (∀ v x,VR G w v x → VR { G with D := w.heap.size :: G.D } (w.alloc (.deferred (some []))) v x) := by
 have hheap : ∀ b,b < w.heap.size → (w.alloc (.deferred (some []))).heap[b]? = w.heap[b]? := fun b hb => Go.RowKit.Below.heap_alloc w _ b hb
 have hsz : (w.alloc (.deferred (some []))).heap.size = w.heap.size + 1 := World.size_alloc _ _
 have hv : ∀ v x,VR G w v x → VR { G with D := w.heap.size :: G.D } (w.alloc (.deferred (some []))) v x := fun v x h =>
  h.congr (fun b hb => ⟨hb,fun off => Ca (hheap b (hR.imm b hb).1) off⟩) rfl rfl rfl rfl
 refine ⟨⟨rfl,⟨rfl,Nat.le_refl _⟩,rfl,by omega,fun b hb _ => hheap b hb,fun b hb => .inl hb,fun b hb => hb,fun b hb => .inl hb,fun _ => Nat.le_refl _,fun _ => .inl ⟨rfl,rfl,rfl⟩,[w.heap.size],rfl⟩,
  ⟨fun k e o hk => ?_,fun k e km em ver left cur e' es h1 h2 h3 => ?_,fun k k' e e' o o' b => hR.inj k k' e e' o o' b,fun b hb => ⟨by have := (hR.imm b hb).1; omega,(hR.imm b hb).2⟩,fun b hb => (by have := hR.own b hb; omega),fun q hq => ?_,fun g cs hg => hv _ _ (hR.glb g cs hg)⟩,hv⟩
 ·obtain ⟨a1,a2,a3⟩ := hR.obj k e o hk
  exact ⟨a1,a2,ORel.mono' a3 hv (fun k => Nat.le_refl _) (fun b hb => hb) rfl rfl (fun b hb => hheap b (hR.lt hk hb))⟩
 ·obtain ⟨b,bm,clk,seen,xs,i1,i2,i3,i4,i5⟩ := hR.itr k e km em ver left cur e' es h1 h2 h3
  exact ⟨b,bm,clk,seen,xs,i1,by rw [hheap b (Aj i2)]; exact i2,i3,by rw [hheap bm (Aj i4)]; exact i4,i5⟩
 ·rcases List.mem_cons.1 hq with rfl | hq
  ·exact ⟨World.alloc_heap_new w _,fun ho => by have := hR.own _ ho; omega,fun hi => by have := (hR.imm _ hi).1; omega⟩
  ·obtain ⟨q1,q2,q3⟩ := hR.dfr q hq
   exact ⟨by rw [hheap q (Aj q1)]; exact q1,q2,q3⟩
theorem Lu {c : Code} {e : Exit} (h : exitOf c = some e) {Q : Exit → Act → World → Prop} (hq : Q e a w) : c.wpIn (FW ro) 0 P Q a w := by
 cases c <;> cases h
 ·exact wpIn_exit hq
 ·exact wpIn_ret hq
theorem Qq (hT : Ad P T) (hl : LookOK P look) (hI : DP P ih) (st : StT X false G (frI s.f) (hpI s.h) a w) {g : Operand} {ps : Array Tmp} {asg body : Code} {fid : FuncId} {caps : List Val} (hg : ev (frI s.f) g = .fn fid caps)
  (hfree : s.h.get s.n = none) (hroom : DS s.n = true) {l : List Rx} {outs : List (Exit × Sx)}
  (hcall : Je ih T look fid ([.yld s.n 0] ++ caps) (s.h.set bitsK s.n (some (0,.loop (toL s.f X.sz) ps asg body .ready none))) (s.n + 1) = some l)
  (hall : ∀ r ∈ l,∃ m,QX s r = some m ∧ ∀ p ∈ m,p ∈ outs) : (Code.rangeFunc g ps asg body).wpIn (FW none) 0 P (P1 X false outs) a w := by
 refine wpIn_rangeFunc fun fn _ => ?_
 obtain ⟨hE,hA⟩ := Fj hT hl hI hcall
 have hv := st.st.er g
 rw [hg] at hv
 generalize hx : a.eval g = x at hv
 cases hv with
 | fn _ _ xs hs hcaps =>
  obtain ⟨fnr,f1,f2,f3⟩ := hE
  let rec0 : Loop := { state := .ready,pending := none,fn,tmps := a.tmps,params := ps,assign := asg,body,defers := w.heap.size }
  let wd := w.alloc (.deferred (some []))
  let Gd : Gh := { G with D := w.heap.size :: G.D }
  have hsz : wd.heap.size = w.heap.size + 1 := World.size_alloc _ _
  obtain ⟨tD,rD,vD⟩ := st.st.rel.markD
  have hHn : hpI s.h s.n = none := hfree
  have hN0 : Gd.N s.n ≤ 0 := by
   have := st.tight s.n
   simp only [epH,hHn] at this
   exact this
  have vL : ∀ v x,VR Gd wd v x → VR (Gd.lay s.n wd.heap.size 0 0) (wd.alloc (.loop rec0)) v x := fun v x h => h.mono rD.imm (Tr.lay rD s.n 0 0 (.loop rec0) (.loop (toL s.f X.sz) ps asg body .ready none) hN0)
  have tL := Tr.lay rD s.n 0 0 (.loop rec0) (.loop (toL s.f X.sz) ps asg body .ready none) hN0
  have rL : HRel (Gd.lay s.n wd.heap.size 0 0) (wd.alloc (.loop rec0)) (upd (hpI s.h) s.n (some (0,.loop (toL s.f X.sz) ps asg body .ready none))) :=
   rD.lay hN0 ⟨wd.heap.size,rec0,by simp only [Gh.lay,A4]; rfl,World.alloc_heap_new wd _,rfl,rfl,rfl,rfl,rfl,by rw [DV]; exact st.st.size,fun i v hi => vL _ _ (vD _ _ (WG st.st.fr rfl X.sz i v hi))⟩
    (fun _ _ _ _ _ h => by cases h) (fun _ _ h => by cases h)
  have hh1 : hpI (s.h.set bitsK s.n (some (0,.loop (toL s.f X.sz) ps asg body .ready none))) = upd (hpI s.h) s.n (some (0,.loop (toL s.f X.sz) ps asg body .ready none)) := Dn (Ch hroom)
  have hres : (resolve a.eval (rangeCall g (w.heap.size + 1)) 0).run P (wd.alloc (.loop rec0)) = .ok { target := .fn (.func fid) xs,args := #[.func (.yield (w.heap.size + 1)) #[] #[]] } (wd.alloc (.loop rec0)) := by
   have : resolve a.eval (rangeCall g (w.heap.size + 1)) 0 = pure { target := .fn (.func fid) xs,args := #[] ++ (#[Operand.const (.func (.yield (w.heap.size + 1)) #[] #[])]).map a.eval } := by
    simp only [resolve,rangeCall,hx,Deferred.ofValue]
   rw [this]
   simp [Sem.run_pure,Act.eval]
  refine ⟨w.heap.size + 1,[Ms w.heap.size],wd.alloc (.loop rec0),{ target := .fn (.func fid) xs,args := #[.func (.yield (w.heap.size + 1)) #[] #[]] },wd.alloc (.loop rec0),fid,#[.func (.yield (w.heap.size + 1)) #[] #[]] ++ xs,wd.alloc (.loop rec0),
   run_enterLoop_outer fn a.tmps ps asg body,hres,fun _ _ => trivial,?_,fun h => by simp [FW,Fence.wide] at h,Cn ?_⟩
  ·simp only [invoke,callFunc,Sem.run_bind,run_program,Result.andThen,f1,f3,f2,Bool.false_eq_true,if_false,Sem.run_pure]
  rw [hh1] at hA
  have hti : ∀ k,(Gd.lay s.n wd.heap.size 0 0).N k ≤ epH (upd (hpI s.h) s.n (some (0,.loop (toL s.f X.sz) ps asg body .ready none))) k := fun k => by
   by_cases hk : k = s.n
   ·subst hk; simp [Gh.lay,epH]
   ·simp only [Gh.lay,epH]
    rw [A0 _ _ hk,A0 _ _ hk]
    exact st.tight k
  have hvr : VRs (Gd.lay s.n wd.heap.size 0 0) (wd.alloc (.loop rec0)) ([.yld s.n 0] ++ caps) (#[.func (.yield (w.heap.size + 1)) #[] #[]] ++ xs) := by
   refine ⟨by simp [hs]; omega,fun i v hi => ?_⟩
   cases i with
   | zero =>
    simp at hi
    subst hi
    have : (#[Value.func (.yield (w.heap.size + 1)) #[] #[]] ++ xs).getD 0 undef = .func (.yield (w.heap.size + 1)) #[] #[] := by
     rw [Array.getD_eq_getD_getElem?,Array.getElem?_append_left (by simp)]; rfl
    rw [this]
    exact .yld _ _ _ (by simp [Gh.lay]) (fun _ => by simp [Gh.lay,hsz])
   | succ i =>
    simp at hi
    have : (#[Value.func (.yield (w.heap.size + 1)) #[] #[]] ++ xs).getD (i + 1) undef = xs.getD i undef := by
     rw [Array.getD_eq_getD_getElem?,Array.getD_eq_getD_getElem?,Array.getElem?_append]
     simp
    rw [this]
    exact vL _ _ (vD _ _ (hcaps i v hi))
  refine Calls.mono (hA (Gd.lay s.n wd.heap.size 0 0) (wd.alloc (.loop rec0)) _ rL hti hvr) fun e w2 he => ?_
  obtain ⟨r,x,G2,hr,rfl,t2,r2,d2,n2,v2⟩ := he
  obtain ⟨m,hm,hsub⟩ := hall r hr
  have tAll : Tr G (hpI s.h) w G2 (hpI r.h) w2 := tD.trans (tL.trans t2)
  obtain ⟨dl,h1,h2,h3,h4⟩ := st.st.dfr
  have st2 : StT X false G2 (frI s.f) (hpI r.h) { a with defers := [Ms w.heap.size] ++ a.defers } w2 := by
   refine ⟨⟨st.st.tr.trans tAll,r2,fun u => (st.st.fr u).mono st.st.rel.imm tAll,st.st.size,w.heap.size :: dl,?_,?_,?_,fun q hq => ?_⟩,n2,(fun h => by cases h),st.x⟩
   ·rw [d2]; show w.heap.size :: G.D = _; rw [h1]; rfl
   ·simp [h2]
   ·rw [List.nodup_cons]
    refine ⟨fun hmem => ?_,h3⟩
    have := Aj (st.st.rel.dfr w.heap.size (by rw [h1]; exact List.mem_append_left _ hmem)).1
    omega
   ·rcases List.mem_cons.1 hq with rfl | hq
    ·exact ⟨st.st.tr.size,st.x⟩
    ·exact h4 q hq
  unfold QX at hm
  cases hk2 : r.h.get s.n with
  | none => rw [hk2] at hm; cases hm
  | some en =>
   obtain ⟨e2,ob2⟩ := en
   rw [hk2] at hm
   cases e2 with
   | succ _ => cases hm
   | zero =>
    cases ob2 <;> try (cases hm; done)
    rename_i fs2 ps2 asg2 body2 lst2 pend2
    simp only at hm
    have hHk2 : hpI r.h s.n = some (0,.loop fs2 ps2 asg2 body2 lst2 pend2) := hk2
    obtain ⟨hE2,hN2,b2,rr2,hKb2,hr2,y1,y2,y3,y4,y5,y6,y7⟩ := r2.obj s.n 0 _ hHk2
    have hbb : b2 = w.heap.size + 1 := CM t2 (e := 0) (b := w.heap.size + 1) (by simp [Gh.lay]) (by simp [Gh.lay,hsz]) (by simp [Gh.lay]) hE2 hKb2
    have hnb : lst2 ≠ .busy := fun e => by subst e; cases hm
    subst hbb
    have st3 := st2.setLoop (st' := .exhausted) (pend' := pend2) (r' := { rr2 with state := .exhausted }) hHk2 hKb2 hr2 y1 y2 y3 rfl y5 y6 y7
    rw [← Dn (Ch hroom)] at st3
    refine ⟨rr2.pending,_,run_endLoop hr2 (by rw [y4]; exact hnb),?_⟩
    rw [y5]
    rw [y5] at st3
    have hm' : (match pend2 with
      | none => some [(Exit.normal,({ f := s.f,h := r.h.set bitsK s.n (some (0,.loop fs2 ps2 asg2 body2 .exhausted pend2)),n := r.n } : Sx))]
      | some c => match exitOf c with | some e => some [(e,{ f := s.f,h := r.h.set bitsK s.n (some (0,.loop fs2 ps2 asg2 body2 .exhausted pend2)),n := r.n })] | none => none) = some m := by
     cases pend2 <;> cases lst2 <;> first | exact (hnb rfl).elim | exact hm
    cases pend2 with
    | none => cases hm'; exact ⟨_,G2,hsub _ (List.mem_singleton.2 rfl),st3⟩
    | some c =>
     simp only at hm'
     cases he : exitOf c with
     | none => rw [he] at hm'; cases hm'
     | some e =>
      rw [he] at hm'
      cases hm'
      exact Lu he ⟨_,G2,hsub _ (List.mem_singleton.2 rfl),st3⟩
end
end Cp
namespace Cp
open Go
section
variable {P : Program} {T : Tab} {G G' : Gh} {w w' : World} {H H' : Hp} {X : Cx} {ro : Option Nat} {inr : Bool} {f : Fr} {look : Look} {ih : Run} {s : Sx} {a : Act} {o : Oper} {md md' : Me}
theorem Ct {b : Frame} {a : Act} {k : List Item} {cs : List Frame} {w : World} {c : Code} : step P (lone (b.atR a (.code (.scope c) :: k)) cs w) = .next (lone (b.atR a (.code c :: .inScope c :: k)) cs w) :=
 step_lone_go (by simp [stepG,stepG.exec,Frame.atR])
theorem KV {b : Frame} {a : Act} {k : List Item} {cs : List Frame} {w : World} {c : Code} : step P (lone (b.atR a (.inScope c :: k)) cs w) = .next (lone (b.atR a k) cs w) :=
 step_lone_go (by simp [stepG,stepG.exec,Frame.atR])
theorem Kh {F : Fence} {n : Nat} {Q : Exit → Act → World → Prop} {c : Code} (h : c.wpIn F n P (fun e a w => (∀ l,e ≠ .goto l) ∧ Q e a w) a w) : (Code.scope c).wpIn F n P Q a w := by
 intro b k cs hro hb hr
 have h0 : (lone (b.atR a (.code (.scope c) :: k)) cs w).fenced P F := fenced_calm hb hr rfl
 obtain ⟨e,a₁,w₁,⟨hg,hq⟩,harr⟩ := h b (.inScope c :: k) cs hro hb hr
 cases e with
 | normal => exact ⟨.normal,a₁,w₁,hq,.head h0 Ct (StepsIn.trans harr (.one (fenced_calm hb hr rfl) KV))⟩
 | exit id =>
  have hx : exitTo id (.inScope c :: k) = exitTo id k := by simp [exitTo]
  exact ⟨.exit id,a₁,w₁,hq,fun k' hk => .head h0 Ct (harr.1 k' (by rw [hx]; exact hk)),
   fun hr' hk => let ⟨k₁,h1,h2⟩ := harr.2 hr' (by rw [hx]; exact hk); ⟨k₁,h1,.head h0 Ct h2⟩⟩
 | goto l => exact (hg l rfl).elim
 | ret => exact ⟨_,a₁,w₁,hq,.of_steps (.one h0 Ct) harr⟩
 | panic ch => exact ⟨_,a₁,w₁,hq,.of_steps (.one h0 Ct) harr⟩
 | outgrown => exact ⟨_,a₁,w₁,hq,.of_steps (.one h0 Ct) harr⟩
theorem RC (hT : Ad P T) (hmix : P.follows .mixedOrders = true) (hl : LookOK P look) (hI : DP P ih) : DP P (Nj ih T look) := by
 intro sz inr c s outs h X ro G a w hX hro st
 subst hX
 have post : ∀ {outs' outs : List (Exit × Sx)},(∀ p ∈ outs',p ∈ outs) → ∀ e a w,P1 X inr outs' e a w → P1 X inr outs e a w := fun hs e a w ⟨s,G,hm,st⟩ => ⟨s,G,hs _ hm,st⟩
 cases c with
 | skip => cases h; exact wpIn_skip ⟨s,G,by simp,st⟩
 | exit id => cases h; exact wpIn_exit ⟨s,G,by simp,st⟩
 | ret => cases h; exact wpIn_ret ⟨s,G,by simp,st⟩
 | region id ops draw =>
  cases draw with
  | false =>
   obtain ⟨l,hb,hall⟩ := Bq (show BP (Tk ih T look X.sz ops.toList ops.toList s) (fun s => some [(Exit.normal,s)]) = some outs from h)
   refine wpIn_region ?_
   have e : ops.size = ops.toList.length := by simp
   rw [e,List.range_eq_range']
   refine PN hT hl hI _ 0 s l G a w (by omega) hb st fun s' hs' G' a' w' st' => ?_
   obtain ⟨m,hm,hsub⟩ := hall s' hs'
   cases hm
   exact ⟨s',G',hsub _ (by simp),st'⟩
  | true =>
   simp only [Nj] at h
   split at h
   ·rename_i l hd
    cases h
    exact Fo hT hmix hl hI st hd fun s' hs' G' a' w' st' => ⟨s',G',List.mem_map.2 ⟨s',hs',rfl⟩,st'⟩
   split at h
   ·rename_i l hd
    cases h
    exact Fo hT hmix hl hI st hd fun s' hs' G' a' w' st' => ⟨s',G',List.mem_map.2 ⟨s',hs',rfl⟩,st'⟩
   split at h
   ·rename_i l hd
    cases h
    exact Fo hT hmix hl hI st hd fun s' hs' G' a' w' st' => ⟨s',G',List.mem_map.2 ⟨s',hs',rfl⟩,st'⟩
   split at h
   ·rename_i l hd
    cases h
    exact Fo hT hmix hl hI st hd fun s' hs' G' a' w' st' => ⟨s',G',List.mem_map.2 ⟨s',hs',rfl⟩,st'⟩
   ·obtain ⟨l,hb,hall⟩ := Bq h
    obtain ⟨G1,st1⟩ := Ea (f0 := s.f) (opdsD ops.toList) s.h G st
    refine Fo (s := { s with h := QG s.f s.h (opdsD ops.toList) }) hT hmix hl hI st1 hb fun s' hs' G' a' w' st' => ?_
    obtain ⟨m,hm,hsub⟩ := hall s' hs'
    cases hm
    exact ⟨s',G',hsub _ (by simp),st'⟩
 | seq x y =>
  obtain ⟨l,hb,hall⟩ := Bq (show BP (ih X.sz inr x s) (fun p => match p.1 with | .normal => ih X.sz inr y p.2 | e => some [(e,p.2)]) = some outs from h)
  refine wpIn_seq (wpIn_mono (hI _ _ _ _ _ hb X ro G a w rfl hro st) fun e a' w' hp => ?_)
  obtain ⟨s',G',hm,st'⟩ := hp
  obtain ⟨m',hm',hsub⟩ := hall _ hm
  cases e with
  | normal => exact wpIn_mono (hI _ _ _ _ _ hm' X ro G' a' w' rfl hro st') (post hsub)
  | _ => cases hm'; exact ⟨s',G',hsub _ (by simp),st'⟩
 | cond c x y =>
  simp only [Nj] at h
  have hv := st.st.er c
  generalize hc : ev (frI s.f) c = cv at h hv
  generalize hx : a.eval c = xv at hv
  cases cv <;> try (cases h; done)
  cases hv
  rename_i b
  cases b with
  | true => exact wpIn_cond_true hx (hI _ _ _ _ _ h X ro G a w rfl hro st)
  | false => exact wpIn_cond_false hx (hI _ _ _ _ _ h X ro G a w rfl hro st)
 | block id c =>
  obtain ⟨l,hb,hall⟩ := Bq (show BP (ih X.sz inr c s) (fun p => match p.1 with | .exit id' => if id' = id then some [(Exit.normal,p.2)] else some [(.exit id',p.2)] | e => some [(e,p.2)]) = some outs from h)
  refine wpIn_block (wpIn_mono (hI _ _ _ _ _ hb X ro G a w rfl hro st) fun e a' w' hp => ?_)
  obtain ⟨s',G',hm,st'⟩ := hp
  obtain ⟨m',hm',hsub⟩ := hall _ hm
  cases e with
  | exit id' =>
   simp only at hm'
   simp only [Exit.inBlock]
   split at hm'
   ·rename_i e; cases hm'; rw [if_pos e]; exact ⟨s',G',hsub _ (by simp),st'⟩
   ·rename_i e; cases hm'; rw [if_neg e]; exact ⟨s',G',hsub _ (by simp),st'⟩
  | _ => cases hm'; exact ⟨s',G',hsub _ (by simp),st'⟩
 | loop c => exact wpIn_loop_rounds _ (MN hI hro maxL s outs G a w h st fun e s' hm G' a' w' st' => ⟨s',G',hm,st'⟩)
 | rangeFunc g ps asg body =>
  simp only [Nj] at h
  split at h
  ·rename_i fid caps hg
   split at h
   ·cases h
   ·rename_i hfree
    split at h
    case isFalse => cases h
    rename_i hc
    simp only [Bool.and_eq_true] at hc
    obtain ⟨l,hb,hall⟩ := Bq h
    have := hro rfl
    subst this
    exact Qq hT hl hI st hg hfree hc.1 hb hall
  ·cases h
 | label l => cases h; exact wpIn_label ⟨s,G,by simp,st⟩
 | scope c =>
  obtain ⟨l,hb,hall⟩ := Bq (show BP (ih X.sz inr c s) (fun p => match p.1 with | .goto _ => none | e => some [(e,p.2)]) = some outs from h)
  refine Kh (wpIn_mono (hI _ _ _ _ _ hb X ro G a w rfl hro st) fun e a' w' hp => ?_)
  obtain ⟨s',G',hm,st'⟩ := hp
  obtain ⟨m',hm',hsub⟩ := hall _ hm
  cases e with
  | goto l => cases hm'
  | _ => cases hm'; exact ⟨(fun l h => by cases h),s',G',hsub _ (by simp),st'⟩
 | _ => cases h
theorem PO (hT : Ad P T) (hmix : P.follows .mixedOrders = true) (hl : LookOK P look) : ∀ n,DP P (Zi T look n)
 | 0 => fun sz inr c s outs h => by cases h
 | n + 1 => RC hT hmix hl (PO hT hmix hl n)
end
end Cp
namespace Cp
open Go
def ZM (x : Option (List Rx)) : Bool :=
 match x with
 | some [r] => (match r.v with | .bool true => true | _ => false)
 | _ => false
noncomputable def aa (r : Rx) : Val := fzd (hpI (reachF 6 [r.v] r.h)) 6 r.v
noncomputable def RK (x : Option (List Rx)) (v : Val) : Bool :=
 match x with
 | some l => l.all fun r => veq (aa r) v
 | _ => false
theorem S0 {P : Program} {fid : FuncId} {args : List Val} {v : Val} {outs : List Rx} (hc : LO P fid args .nil outs) (hna : noids args = true) (hnv : noid v = true) (hall : ∀ r ∈ outs,aa r = v) : PureC P fid args v := by
 refine ⟨hc.1,hna,hnv,fun G w xs hR hv => ?_⟩
 let G0 : Gh := { I := G.I,K := fun _ => none,C := fun _ => 0,E := fun _ => 0,N := fun _ => 0,D := G.D }
 have hh : hpI .nil = none0 := rfl
 have hR0 : HRel G0 w none0 := ⟨fun k e o hk => (by cases hk),fun k e km em ver left cur e' es hk => (by cases hk),fun k k' e e' o o' b hk => (by cases hk),fun b hb => ⟨(hR.imm b hb).1,Own.none0⟩,fun b hb => (Own.none0 hb).elim,
  fun q hq => ⟨(hR.dfr q hq).1,Own.none0,(hR.dfr q hq).2.2⟩,fun g cs hg => (hR.glb g cs hg).noid_mono (I9 g cs hg) fun b hb => ⟨hb,fun _ => rfl⟩⟩
 have hv0 : VRs G0 w args xs := ⟨hv.1,fun i v hi => (hv.2 i v hi).noid_mono (noids_get hna i v hi) fun b hb => ⟨hb,fun _ => rfl⟩⟩
 refine Calls.mono (hc.2 G0 w xs (hh ▸ hR0) (fun k => Nat.zero_le _) hv0) ?_
 rintro e w' ⟨r,x,G1,hmem,rfl,t1,r1,hD1,hti,hvr1⟩
 rw [hh] at t1
 let X : Cx := { G0 := G1,H0 := hpI r.h,w0 := w',sz := 0 }
 have st : StT X false G1 (fun _ => .any) (hpI r.h) { tmps := #[],defers := [] } w' := ⟨⟨Tr.refl G1 _ w',r1,fun t => .any _,rfl,[],rfl,rfl,List.nodup_nil,fun r h => by simp at h⟩,hti,(fun h => by cases h),rfl⟩
 obtain ⟨G',st'⟩ := BT 6 [r.v] r.h G1 st
 have t : Tr G0 none0 w G' (hpI (reachF 6 [r.v] r.h)) w' := t1.trans st'.st.tr
 have hD : G'.D = G0.D := by
  obtain ⟨l,h1,h2,_⟩ := st'.st.dfr
  have : l = [] := by
   cases l with
   | nil => rfl
   | cons q l => simp at h2
  subst this
  rw [h1]
  exact hD1
 have hvr : VR G' w' v x := by
  have := JJ st'.st.rel 6 r.v x (hvr1.mono r1.imm st'.st.tr)
  rwa [show fzd (hpI (reachF 6 [r.v] r.h)) 6 r.v = v from hall r hmem] at this
 have r2 := st'.st.rel
 have hsame : ∀ b,b < w.heap.size → w'.heap[b]? = w.heap[b]? := fun b hb => t.same b hb Own.none0
 refine ⟨x,G'.I,rfl,⟨t.os,t.tape,t.output,t.size,fun b hb _ => hsame b hb,fun b hb => (Own.none0 hb).elim,t.I1,fun b hb => ?_,fun _ => Nat.le_refl _,fun _ => .inl ⟨rfl,rfl,rfl⟩,[],rfl⟩,
  ⟨fun k e o hk => (by cases hk),fun k e km em ver left cur e' es hk => (by cases hk),fun k k' e e' o o' b hk => (by cases hk),fun b hb => ⟨(r2.imm b hb).1,Own.none0⟩,fun b hb => (Own.none0 hb).elim,fun q hq => ?_,fun g cs hg => (hR.glb g cs hg).noid_mono (I9 g cs hg) fun b hb => ⟨t.I1 b hb,fun off => Ca (hsame b (hR.imm b hb).1) off⟩⟩,
  hvr.noid_mono hnv fun b hb => ⟨hb,fun _ => rfl⟩⟩
 ·rcases t.I2 b hb with q | q | q
  ·exact .inl q
  ·exact (Own.none0 q).elim
  ·exact .inr (.inr q)
 ·have hq' : q ∈ G'.D := by rw [hD]; exact hq
  exact ⟨(r2.dfr q hq').1,Own.none0,(r2.dfr q hq').2.2⟩
theorem Uh {P : Program} {T : Tab} {look : Look} (hT : Ad P T) (hmix : P.follows .mixedOrders = true) (hl : LookOK P look) {n fid : Nat} {args : List Val} {v : Val} (hna : noids args = true) (hnv : noid v = true)
  (h : RK (Je (Zi T look n) T look fid args .nil 0) v = true) : PureC P fid args v := by
 unfold RK at h
 split at h
 ·rename_i l hr
  exact S0 (Fj hT hl (PO hT hmix hl n) hr) hna hnv fun r hm => veq_ok _ _ (List.all_eq_true.1 h r hm)
 ·cases h
end Cp
