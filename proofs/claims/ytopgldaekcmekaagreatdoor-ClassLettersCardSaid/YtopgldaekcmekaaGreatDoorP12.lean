/- Rules,facts and contracts that the statement's proof leans on. Conditions: none. -/
import Derived.Test.YtopgldaekcmekaaGreatDoorP11
set_option linter.unusedVariables false
set_option linter.unusedSimpArgs false
set_option linter.unusedSectionVars false
namespace Cp
open Go
structure TestF (t : TestT) : Prop where
 ok : AZ t = true
 notes : Ae t.fin 0 t.notes = true
 fin : 1 ≤ t.fin ∧ t.fin ≤ 3600
 rows : t.fin ≤ 60 * (t.run.rows.length : Int) ∧ t.run.rows.length ≤ 60
 clock : -120 ≤ t.clock.lo ∧ t.clock.lo ≤ t.clock.hi ∧ t.clock.hi ≤ 120
 check : AV t.run t.rules = 0
 run : CK t.run = true
 rules : Bz t.rules = true
 fr : ∀ k,0 ≤ frC t k ∧ frC t k ≤ 3601
 to : ∀ k,0 ≤ toC t k ∧ toC t k ≤ 3600
 sure : ∀ k,k < 6 → (BV t k).isSome = true → frC t k ≤ toC t k
theorem O1 {t : TestT} (h : Ap t = 0) : AV t.run t.rules = 0 ∧ AZ t = true ∧ Cl t = false := by
 unfold Ap at h
 split at h
 ·rename_i h1
  split at h
  ·rename_i h2
   split at h
   ·omega
   ·rename_i h3; exact ⟨h1,h2,Bool.eq_false_iff.2 h3⟩
  ·omega
 ·rename_i h1; exact absurd h h1
theorem Rs {t : TestT} (h : Ap t = 0) : TestF t := by
 obtain ⟨h1,h2,h3⟩ := O1 h
 obtain ⟨_,hR⟩ := Ma h
 have hT := h2
 simp only [AZ,Em,Bool.and_eq_true,decide_eq_true_eq] at hT
 obtain ⟨hH,hN⟩ := hT
 have hE : CK t.run = true ∧ Bz t.rules = true := by
  unfold AV at h1
  split at h1
  ·rename_i q1
   split at h1
   ·rename_i q2; exact ⟨q1,q2⟩
   ·omega
  ·omega
 have hb := fun k => Wg hN (by omega) k
 refine ⟨h2,hN,by omega,by omega,by omega,h1,hE.1,hE.2,fun k => (hb k).1,fun k => (hb k).2,fun k hk hs => ?_⟩
 have htw : CO t k = false := by
  rw [Cl,List.any_eq_false] at h3
  exact Bool.eq_false_iff.2 (h3 k (by simpa using hk))
 rw [Mt k hN,hs,Bool.true_and,decide_eq_false_iff_not] at htw
 omega
theorem UY {t : TestT} (hF : TestF t) (c : Nat) : MB (Ah t c) := by
 refine ⟨CP t c,?_⟩
 have h1 := hF.fr c
 have h2 := hF.to c
 have h3 := hF.clock
 unfold Ah
 split
 ·simp
 ·simp only; omega
theorem Bf {t : TestT} {c : Nat} : (Ah t c).held = 2 ↔ toC t c < frC t c := by
 unfold Ah
 split
 ·simp only [true_iff]; assumption
 ·rename_i h; simp only
  constructor
  ·intro q; split at q <;> omega
  ·intro q; exact absurd q h
theorem BS {t : TestT} {c : Nat} (h : ¬ toC t c < frC t c) : Ah t c = ⟨if (BV t c).isSome = true then 0 else 1,⟨frC t c - t.clock.hi,toC t c - t.clock.lo⟩⟩ := by
 unfold Ah; rw [if_neg h]
theorem C5 {t : TestT} (hF : TestF t) {c : Nat} (hc : c < 6) : (Ah t c).held = 0 ↔ (BV t c).isSome = true := by
 have hs := hF.sure c hc
 constructor
 ·intro q
  have h : ¬ toC t c < frC t c := fun h => by have := Bf.2 h; omega
  rw [BS h] at q
  simp only at q
  split at q
  ·assumption
  ·omega
 ·intro q
  have := hs q
  rw [BS (by omega)]
  simp [q]
theorem Cb {t : TestT} (hF : TestF t) (l : Nat) : FirstOf (AB t (2 * l)) (Aa t l) :=
 U5 _ fun f hf => by
  unfold AB at hf
  obtain ⟨c,_,rfl⟩ := List.mem_map.1 hf
  exact UY hF c
theorem Ai {t : TestT} {n : Nat} {f : FailT} : f ∈ AB t n ↔ ∃ c,c < n ∧ Ah t c = f := by simp [AB]
def nvr : Int := 1073741824
def M8 (a : Nat → Int) (fast : Int) (x : Int) (c : Nat) : Int := if a c = nvr then x else min x (a c - fast)
def Ck (a : Nat → Int) (fast : Int) (n : Nat) : Int := (List.range n).foldl (M8 a fast) nvr
theorem Lb {a : Nat → Int} {fast : Int} {n : Nat} : Ck a fast (n + 1) = M8 a fast (Ck a fast n) n := by
 unfold Ck; rw [List.range_succ,List.foldl_append]; rfl
theorem FT {a : Nat → Int} {fast : Int} : ∀ (n : Nat),(∀ c,c < n → a c ≠ nvr → a c - fast < nvr) →
  ((Ck a fast n = nvr ∧ ∀ c,c < n → a c = nvr) ∨ (Ck a fast n < nvr ∧ ∃ c,c < n ∧ a c ≠ nvr ∧ Ck a fast n = a c - fast)) ∧ ∀ c,c < n → a c ≠ nvr → Ck a fast n ≤ a c - fast
 | 0,_ => ⟨.inl ⟨rfl,fun c h => by omega⟩,fun c h => by omega⟩
 | n + 1,h => by
  obtain ⟨h1,h2⟩ := FT n fun c hc => h c (by omega)
  have hn := h n (by omega)
  rw [Lb]
  unfold M8
  by_cases ha : a n = nvr
  ·rw [if_pos ha]
   refine ⟨?_,fun c hc hx => ?_⟩
   ·rcases h1 with ⟨q1,q2⟩ | ⟨q1,c,q2,q3⟩
    ·exact .inl ⟨q1,fun c hc => by
      by_cases hcn : c = n
      ·subst hcn; exact ha
      ·exact q2 c (by omega)⟩
    ·exact .inr ⟨q1,c,by omega,q3⟩
   ·by_cases hcn : c = n
    ·subst hcn; exact absurd ha hx
    ·exact h2 c (by omega) hx
  ·rw [if_neg ha]
   have hn := hn ha
   refine ⟨.inr ?_,fun c hc hx => ?_⟩
   ·by_cases hlt : Ck a fast n ≤ a n - fast
    ·rcases h1 with ⟨q1,q2⟩ | ⟨q1,c,q2,q3,q4⟩
     ·omega
     ·exact ⟨by omega,c,by omega,q3,by omega⟩
    ·exact ⟨by omega,n,by omega,ha,by omega⟩
   ·by_cases hcn : c = n
    ·subst hcn; omega
    ·have := h2 c (by omega) hx; omega
def PU (first e mins : Int) (c : Int) : Bool := decide (60 * c < first) && (decide (60 * c ≤ e) && decide (c ≤ mins))
def W7 (first e mins : Int) : Int := P7 (PU first e mins) clsL 0
theorem rchP_down {first e mins : Int} : Down (PU first e mins) := by
 intro x y h hy
 simp only [PU,Bool.and_eq_true,decide_eq_true_eq] at hy ⊢
 omega
theorem TZ {first e mins : Int} : W7 first e mins = grt (PU first e mins) clsL 0 := (NE rchP_down.pair).symm
def SV (t : TestT) (a : Nat → Int) : Prop := ∀ c,c < 6 → (a c = nvr ∧ ¬ (BV t c).isSome = true) ∨ (¬ toC t c < frC t c ∧ frC t c ≤ a c ∧ a c ≤ toC t c)
theorem WK {t : TestT} (hF : TestF t) {l : Nat} (hl : l ≤ 3) {a : Nat → Int} (ha : SV t a) {fast : Int} (hf : t.clock.lo ≤ fast ∧ fast ≤ t.clock.hi) :
  (Ck a fast (2 * l) = nvr → (Aa t l).held ≠ 0) ∧ (Ck a fast (2 * l) ≠ nvr → Ck a fast (2 * l) < nvr ∧ (Aa t l).held ≠ 2 ∧ (Aa t l).at1.lo ≤ Ck a fast (2 * l) ∧ Ck a fast (2 * l) ≤ (Aa t l).at1.hi) := by
 have hck := hF.clock
 have hlt : ∀ c,c < 2 * l → a c ≠ nvr → a c - fast < nvr := fun c hc hx => by
  have h2 := hF.to c
  rcases ha c (by omega) with h | h
  ·exact absurd h.1 hx
  ·unfold nvr; omega
 obtain ⟨h1,h2⟩ := FT (2 * l) hlt
 have hL := Cb hF l
 have hz : (Aa t l).held = 0 → ∃ c,c < 2 * l ∧ a c ≠ nvr ∧ ∀ x,(Aa t l).at1.hi = x → a c - t.clock.lo ≤ (toC t c - t.clock.lo) := fun h => by
  obtain ⟨f,hm,h0⟩ := hL.sure.1 h
  obtain ⟨c,hc,rfl⟩ := Ai.1 hm
  have hs := (C5 hF (c := c) (by omega)).1 h0
  rcases ha c (by omega) with q | q
  ·exact absurd hs q.2
  ·have := hF.to c
   exact ⟨c,hc,by unfold nvr; omega,fun x _ => by omega⟩
 refine ⟨fun h h0 => ?_,fun h => ?_⟩
 ·obtain ⟨c,hc,hx,_⟩ := hz h0
  rcases h1 with ⟨_,q⟩ | ⟨q,_⟩
  ·exact hx (q c hc)
  ·omega
 ·rcases h1 with ⟨q,_⟩ | ⟨q,c,hc,hx,e⟩
  ·exact absurd q h
  ·rcases ha c (by omega) with r | ⟨r1,r2,r3⟩
   ·exact absurd r.1 hx
   ·have hm : Ah t c ∈ AB t (2 * l) := Ai.2 ⟨c,hc,rfl⟩
    have hn2 : ¬ (Ah t c).held = 2 := fun h => r1 (Bf.1 h)
    have hne : ¬ ∀ f ∈ AB t (2 * l),f.held = 2 := fun h => hn2 (h _ hm)
    have hs := hL.some hne
    have hlo := hL.lo1 _ hm hn2
    rw [BS r1] at hlo
    simp only at hlo
    refine ⟨q,by omega,by omega,?_⟩
    rcases hs with hs | hs
    ·obtain ⟨f,hfm,hf0,hfe⟩ := hL.hi2 hs
     obtain ⟨d,hd,rfl⟩ := Ai.1 hfm
     have hds := (C5 hF (c := d) (by omega)).1 hf0
     have hdn : ¬ toC t d < frC t d := fun h => by have := Bf.2 h; omega
     rw [BS hdn] at hfe
     simp only at hfe
     rcases ha d (by omega) with w | ⟨w1,w2,w3⟩
     ·exact absurd hds w.2
     ·have := hF.to d
      have := h2 d hd (by unfold nvr; omega)
      omega
    ·have := hL.hi3 (by omega) _ hm hn2
     rw [BS r1] at this
     simp only at this
     omega
theorem OU {l : List Brc} (hs : l.Pairwise brLt) (hm : ∀ b ∈ l,1 ≤ b.m) {c n : Int} (hc : c ≤ n) : ((Dg l c).1 = 2 ↔ c ≤ Fl l n) := by
 have hf : (AP l c).1 = 2 ↔ c ≤ Fl l n := by
  unfold AP Fl
  cases hq : l[0]? with
  | none => simp only [true_iff]; exact hc
  | some b =>
   simp only
   split
   ·simp only; constructor
    ·intro h; omega
    ·intro h; omega
   ·simp only [true_iff]; omega
 unfold Dg
 cases hk : l[Kv l]? with
 | none => exact hf
 | some b =>
  simp only
  split
  ·rename_i hb
   simp only
   obtain ⟨a,ha⟩ : ∃ a,l[0]? = some a := ⟨_,List.getElem?_eq_getElem (by have := (List.getElem?_eq_some_iff.1 hk).1; omega)⟩
   have := RO hs (Nat.zero_le _) ha hk
   unfold Fl
   rw [ha]
   simp only
   constructor
   ·intro h; omega
   ·intro h; omega
  ·exact hf
theorem P4 {r : RunT} {u : RulesT} {b : Brc} (h : b ∈ D8 r u) : 1 ≤ b.m ∧ b.m ≤ r.rows.length := by
 obtain ⟨j,h1,h2,h3⟩ := G7 h
 obtain ⟨h4,_⟩ := GS h3
 omega
def SM (t : TestT) : Int := Fl (D8 t.run t.rules) t.run.rows.length
theorem UV {t : TestT} (hF : TestF t) : 0 ≤ SM t ∧ SM t ≤ t.run.rows.length := KQ (fun b hb => P4 hb) (by omega)
theorem Jm {t : TestT} (hF : TestF t) {c : Int} : AR t c = 2 ↔ c ≤ SM t := by
 have hp : (D8 t.run t.rules).Pairwise brLt := GI (Ew hF.run)
 have hb := UV hF
 unfold AR
 split
 ·constructor
  ·intro h; omega
  ·intro h; omega
 ·exact OU hp (fun b hb => (P4 hb).1) (by omega)
theorem Oq {t : TestT} (hF : TestF t) {l : Nat} (hl : l ≤ 3) {a : Nat → Int} (ha : SV t a) {fast : Int} (hf : t.clock.lo ≤ fast ∧ fast ≤ t.clock.hi) :
  BB t l ≤ W7 (Ck a fast (2 * l)) (t.fin - fast) (SM t) ∧ W7 (Ck a fast (2 * l)) (t.fin - fast) (SM t) ≤ IK t l := by
 obtain ⟨h1,h2⟩ := WK hF hl ha hf
 rw [TZ]
 generalize Ck a fast (2 * l) = x at *
 constructor
 ·refine J0 D6 rchP_down fun c hc h => ?_
  have hcb := Fs hc
  have hkc := Jm hF (c := c)
  simp only [Pn,Ek,PU,Bool.and_eq_true,Bool.or_eq_true,decide_eq_true_eq] at h ⊢
  refine ⟨?_,by omega,hkc.1 h.2.2⟩
  by_cases hx : x = nvr
  ·unfold nvr at hx; omega
  ·have := h2 hx; omega
 ·refine J0 rchP_down DC fun c hc h => ?_
  have hcb := Fs hc
  have hkc := Jm hF (c := c)
  simp only [UI,Gi,PU,Bool.and_eq_true,Bool.or_eq_true,decide_eq_true_eq,Bool.not_eq_true',decide_eq_false_iff_not] at h ⊢
  refine ⟨?_,by omega,by have := hkc.2 h.2.2; omega⟩
  by_cases hx : x = nvr
  ·exact .inl (h1 hx)
  ·have := h2 hx; omega
end Cp
namespace Cp
open Go Go.Proofs
set_option maxRecDepth 10000
theorem Nu {a b : Pt} {m : Int} (h0 : 0 ≤ (b.d - a.d) * (m - a.m)) (h : a.m < b.m) (hd : a.d ≤ b.d) : F5 a b m ≤ F5 a b (m + 1) := by
 have e : (b.d - a.d) * (m + 1 - a.m) = (b.d - a.d) * (m - a.m) + (b.d - a.d) := by
  rw [show m + 1 - a.m = (m - a.m) + 1 by omega,Int.mul_add,Int.mul_one]
 unfold F5
 rw [e,Int.tdiv_eq_ediv_of_nonneg h0,Int.tdiv_eq_ediv_of_nonneg (by omega)]
 have := Int.ediv_le_ediv (c := b.m - a.m) (by omega) (show (b.d - a.d) * (m - a.m) ≤ (b.d - a.d) * (m - a.m) + (b.d - a.d) by omega)
 omega
theorem LD {l : List Pt} (hc : CurveF l) {m : Int} (h0 : 0 ≤ m) (h1 : m < Gq l) : ∃ (k : Nat) (a b : Pt),l[k]? = some a ∧ l[k + 1]? = some b ∧ a.m ≤ m ∧ m < b.m := by
 obtain ⟨p,hp,hp0⟩ := hc.zero
 have key : ∀ n,n < l.length → (∃ q,l[n]? = some q ∧ q.m ≤ m) ∨ (∃ (k : Nat) (a b : Pt),l[k]? = some a ∧ l[k + 1]? = some b ∧ a.m ≤ m ∧ m < b.m) := by
  intro n
  induction n with
  | zero => exact fun _ => .inl ⟨p,hp,by omega⟩
  | succ n ih =>
   intro hn
   rcases ih (by omega) with ⟨q,hq,hqm⟩ | h
   ·have hb : l[n + 1]? = some l[n + 1] := List.getElem?_eq_getElem hn
    by_cases hm : (l[n + 1]).m ≤ m
    ·exact .inl ⟨_,hb,hm⟩
    ·exact .inr ⟨n,q,_,hq,hb,hqm,by omega⟩
   ·exact .inr h
 have hlen := hc.len
 rcases key (l.length - 1) (by omega) with ⟨q,hq,hqm⟩ | h
 ·rw [Et hq] at h1; omega
 ·exact h
theorem LL {l : List Pt} (hc : CurveF l) {k : Nat} {a b : Pt} {m : Int} (ha : l[k]? = some a) (hb : l[k + 1]? = some b) (h1 : a.m ≤ m) (h2 : m < b.m) : Bv l m = F5 a b m := by
 by_cases he : a.m = m
 ·rw [(I5 hc (i := k) (b := a) (m := m) (fun j p hj hp => by have := (hc.inc j k p a hj hp ha).1; omega) ha).1 he]
  unfold F5
  rw [show m - a.m = 0 by omega]; simp
 ·refine (I5 hc (i := k + 1) (b := b) (m := m) (fun j p hj hp => ?_) hb).2 k a rfl ha h2
  by_cases hjk : j = k
  ·subst hjk; rw [ha] at hp; cases hp; omega
  ·have := (hc.inc j k p a (by omega) hp ha).1; omega
theorem Lw {l : List Pt} (hc : CurveF l) {k : Nat} {b : Pt} (hb : l[k]? = some b) : Bv l b.m = b.d :=
 (I5 hc (i := k) (b := b) (m := b.m) (fun j p hj hp => (hc.inc j k p b hj hp hb).1) hb).1 rfl
theorem Y9 {l : List Pt} (hc : CurveF l) {m : Int} (h0 : 0 ≤ m) (h1 : m < Gq l) : Bv l m ≤ Bv l (m + 1) := by
 obtain ⟨k,a,b,ha,hb,h2,h3⟩ := LD hc h0 h1
 have hab := hc.inc k (k + 1) a b (by omega) ha hb
 obtain ⟨⟨b1,b2⟩,b3,b4⟩ := Ej (hc.all _ _ ha) (hc.all _ _ hb) hab.2 h2 h3
 rw [LL hc ha hb h2 h3]
 by_cases he : m + 1 = b.m
 ·rw [he,Lw hc hb]; unfold F5; omega
 ·rw [LL hc ha hb (by omega) (by omega)]
  exact Nu b1 hab.1 hab.2
theorem PG {l : List Pt} (hc : CurveF l) {m : Int} (h0 : 0 ≤ m) (h1 : m ≤ Gq l) : 0 ≤ Bv l m ∧ Bv l m ≤ 2000 := by
 by_cases he : m = Gq l
 ·have hlen := hc.len
  obtain ⟨z,hz⟩ : ∃ z,l[l.length - 1]? = some z := ⟨_,List.getElem?_eq_getElem (by omega)⟩
  rw [he,Et hz,Lw hc hz]
  have := hc.all _ _ hz; omega
 ·obtain ⟨k,a,b,ha,hb,h2,h3⟩ := LD hc h0 (by omega)
  have hab := hc.inc k (k + 1) a b (by omega) ha hb
  obtain ⟨_,b3,b4⟩ := Ej (hc.all _ _ ha) (hc.all _ _ hb) hab.2 h2 h3
  rw [LL hc ha hb h2 h3]
  have := hc.all _ _ ha; have := hc.all _ _ hb
  unfold F5; omega
end Cp
namespace Cp
open Go Go.Proofs
set_option maxRecDepth 10000
def I3 (r : RunT) (k : Nat) : List Val := [.int .i64 (Bv r.curve (k : Int)),.int .i64 (E0 r k),.int .i64 (Dc r k),.int .i64 (Da r k)]
theorem N3 (r : RunT) (hF : RunF r) (H0 : Hp) (ky ey : Nat) (J : Nat → Hp → Prop) (hJ0 : J 0 H0) (hloc : ∀ k H H',J k H → (∀ j,(j < 200 ∨ 300 ≤ j) → H' j = H j) → J k H')
  (hY : ∀ k H,k < r.rows.length → J k H → JV Tryz.prog ky ey [.int .i64 ((k + 1 : Nat) : Int),.agg (I3 r (k + 1))] H (fun v H' => v = .bool true ∧ J (k + 1) H' ∧ ∀ j,200 ≤ j → j < 300 → H' j = H j)) :
  BD Tryz.prog 105 [.yld ky ey,.pim [.pim (Af r r.rows.length)]] H0 (fun v H' => J r.rows.length H') := by
 refine BN (fn := Tryz.f105) tabOK (by kernel_rfl) rfl (by kernel_rfl) (by simp [Tryz.f105]) ?_
 intro X hX0 hXs
 have hrl := hF.rows
 have hcl := hF.cpls
 have hdeg := fun m => PG (l := r.curve) hF.curve (m := m)
 refine Aw 203 fun H1 g3 hs1 => ?_
 have hJ1 : J 0 H1 := hloc _ _ _ hJ0 fun j hj => hs1 j (by omega)
 clear hJ0 hs1
 repeat' (first | with_reducible (first | (refine sk ?_; intro K hK) | intro (ep : Nat → Nat) | apply_assumption -exfalso -symm only [*]) | ((with_reducible refine rg (md := { base := 200,own := [] }) (h := ?_)); try simp (disch := omega) only [g3,go_sem,simprocAttr]) | fail)
 refine An (AK (fun n f H => ∃ k : Nat,n = r.rows.length - k ∧ k ≤ r.rows.length ∧ (f 0 = .yld ky ey ∧ f 1 = .pim [.pim (Af r r.rows.length)] ∧ f 4 = .int .i64 ((k + 1 : Nat) : Int)) ∧ ∃ e3 a,f 3 = .ptr 203 e3 4 0 0 ∧ H 203 = some (e3,.arr 4 [[.int .i64 a,.int .i64 (E0 r k),.int .i64 (Dc r k),.int .i64 (Da r k)]]) ∧ J k H) r.rows.length
  ⟨0,by simp,Nat.zero_le _,by (and_intros <;> first | rfl | (simp only [go_sem,simprocAttr]; done) | (simp only [go_sem,simprocAttr]; rfl)),_,0,by (first | rfl | (simp only [go_sem,simprocAttr]; done) | (simp only [go_sem,simprocAttr]; rfl)),by (first | rfl | (simp only [go_sem,simprocAttr]; done) | (simp only [go_sem,simprocAttr]; rfl)),hloc _ _ _ hJ1 fun j hj => A0 _ _ (by omega)⟩ ?_)
 clear hJ1 g3
 rintro n f H ⟨k,rfl,hk,⟨h0,h1,h4⟩,e3,a,h3,hH3,hJ⟩
 obtain ⟨rest,hrest⟩ := @DF r r.rows.length
 by_cases hlt : k < r.rows.length
 ·have hwg := Am (I8 (r := r) (m := k + 1) (by omega) (n := r.rows.length) (by omega) (by omega))
  have h61 : k + 1 < 61 := by omega
  have hcb := Gw hF hdeg k (by omega)
  have hd1 := hdeg ((k + 1 : Nat) : Int) (by omega) (by omega)
  have h1' := h1
  have hY' := fun H => hY k H hlt
  rw [hrest] at h1'
  by_cases hne : wk r ((k + 1 : Nat) : Int) = []
  ·have hwg' : ((Af r r.rows.length).drop 128).drop ((k + 1) * 1) = .bool false :: (Af r r.rows.length).drop (128 + (k + 1) + 1) := by rw [List.drop_drop,Nat.mul_one,hwg,hne]; rfl
   rw [hrest] at hwg'
   have hwg2 : (rest.drop 122).drop ((k + 1) * 1) = .bool false :: (A7 r ++ rest).drop (128 + (k + 1) + 1) := hwg'
   have hnow : I3 r (k + 1) = [.int .i64 (Bv r.curve ((k + 1 : Nat) : Int)),.int .i64 (E0 r k),.int .i64 (Dc r k),.int .i64 (Da r k)] := by simp only [I3,E0,Dc,Da,if_pos hne,Int.add_zero]
   rw [hnow] at hY'
   repeat' (first | with_reducible (first | (refine sk ?_; intro K hK) | refine bk ?_ | apply_assumption -exfalso -symm only [*]) | ((first | (with_reducible first | refine OV (id := 8) tabOK { base := 200,own := [] } [] [] (by rw [hXs]; decide +kernel) ?_ | refine rg (md := { base := 200,own := [] }) (h := ?_) | refine nx ?_) | refine pK (Lf r.curve hF.curve ((k + 1 : Nat) : Int) (by omega) (by omega)) ?_); try simp (disch := omega) only [h0,h1',h3,h4,hH3,h61,hwg2,A7,go_sem,simprocAttr]) | ((with_reducible refine' cE ?hv ?_ ?_); (case hv => rfl); all_goals (intro hc; (try simp only [go_sem,simprocAttr] at hc); try (exfalso; omega))) | fail)
   refine GL (hY' _ (hloc _ _ _ hJ fun j hj => by repeat rw [A0 _ _ (by omega)])) ?_
   rintro v H3 ⟨rfl,hJ3,hk3⟩
   have hH4 := hk3 203 (by decide) (by decide)
   simp only [hH3,go_sem,simprocAttr] at hH4
   simp only [go_sem,simprocAttr]
   repeat' (first | with_reducible apply_assumption -exfalso -symm only [*] | ((with_reducible first | refine rg (md := { base := 200,own := [] }) (h := ?_) | refine nx ?_); try simp (disch := omega) only [h0,h1,h3,h4,hH4,go_sem,simprocAttr]) | ((with_reducible refine' cE ?hv ?_ ?_); (case hv => rfl); all_goals (intro hc; (try simp only [go_sem,simprocAttr] at hc))) | fail)
   exact ⟨r.rows.length - (k + 1),by omega,k + 1,rfl,by omega,rfl,_,Bv r.curve ((k + 1 : Nat) : Int),rfl,by simp only [E0,Dc,Da,if_pos hne,Int.add_zero],hJ3⟩
  ·have hn0 : 0 < (wk r ((k + 1 : Nat) : Int)).length := List.length_pos_iff.2 hne
   obtain ⟨g1,g2⟩ := KL (r := r) (m := k + 1) (by omega) hn0 (n := r.rows.length) (by omega) (by omega)
   have g1' := Am g1
   rw [Am g2] at g1'
   have hwg' : ((Af r r.rows.length).drop 128).drop ((k + 1) * 1) = .bool true :: (Af r r.rows.length).drop (128 + (k + 1) + 1) := by rw [List.drop_drop,Nat.mul_one,hwg,decide_eq_true hn0]
   have g1'' : ((Af r r.rows.length).drop 6).drop ((k + 1) * 2) = .int .i64 (C4 r ((k + 1 : Nat) : Int)).lo :: .int .i64 (C4 r ((k + 1 : Nat) : Int)).hi :: (Af r r.rows.length).drop (6 + (k + 1) * 2 + 1 + 1) := by rw [List.drop_drop]; exact g1'
   rw [hrest] at hwg' g1''
   have hwg2 : (rest.drop 122).drop ((k + 1) * 1) = .bool true :: (A7 r ++ rest).drop (128 + (k + 1) + 1) := hwg'
   have g2'' : rest.drop ((k + 1) * 2) = .int .i64 (C4 r ((k + 1 : Nat) : Int)).lo :: .int .i64 (C4 r ((k + 1 : Nat) : Int)).hi :: (A7 r ++ rest).drop (6 + (k + 1) * 2 + 1 + 1) := g1''
   have hmb := Jn hF (m := ((k + 1 : Nat) : Int)) (by omega) (by omega) hne
   have hnow : I3 r (k + 1) = [.int .i64 (Bv r.curve ((k + 1 : Nat) : Int)),.int .i64 (E0 r k + Bv r.curve ((k + 1 : Nat) : Int)),.int .i64 (Dc r k + (C4 r ((k + 1 : Nat) : Int)).lo),.int .i64 (Da r k + (C4 r ((k + 1 : Nat) : Int)).hi)] := by simp only [I3,E0,Dc,Da,if_neg hne]
   rw [hnow] at hY'
   repeat' (first | with_reducible (first | (refine sk ?_; intro K hK) | refine bk ?_ | apply_assumption -exfalso -symm only [*]) | ((first | (with_reducible first | refine OV (id := 8) tabOK { base := 200,own := [] } [] [] (by rw [hXs]; decide +kernel) ?_ | refine rg (md := { base := 200,own := [] }) (h := ?_) | refine nx ?_) | refine pK (Lf r.curve hF.curve ((k + 1 : Nat) : Int) (by omega) (by omega)) ?_ | refine pK (JB ⟨Dc r k,Da r k⟩ (C4 r ((k + 1 : Nat) : Int)) (by simp only; omega)) ?_); try simp (disch := omega) only [h0,h1',h3,h4,hH3,h61,hwg2,g2'',A7,A6,go_sem,simprocAttr]) | ((with_reducible refine' cE ?hv ?_ ?_); (case hv => rfl); all_goals (intro hc; (try simp only [go_sem,simprocAttr] at hc); try (exfalso; omega))) | fail)
   refine GL (hY' _ (hloc _ _ _ hJ fun j hj => by repeat rw [A0 _ _ (by omega)])) ?_
   rintro v H3 ⟨rfl,hJ3,hk3⟩
   have hH4 := hk3 203 (by decide) (by decide)
   simp only [hH3,go_sem,simprocAttr] at hH4
   simp only [go_sem,simprocAttr]
   repeat' (first | with_reducible apply_assumption -exfalso -symm only [*] | ((with_reducible first | refine rg (md := { base := 200,own := [] }) (h := ?_) | refine nx ?_); try simp (disch := omega) only [h0,h1,h3,h4,hH4,go_sem,simprocAttr]) | ((with_reducible refine' cE ?hv ?_ ?_); (case hv => rfl); all_goals (intro hc; (try simp only [go_sem,simprocAttr] at hc))) | fail)
   exact ⟨r.rows.length - (k + 1),by omega,k + 1,rfl,by omega,rfl,_,Bv r.curve ((k + 1 : Nat) : Int),rfl,by simp only [E0,Dc,Da,if_neg hne],hJ3⟩
 ·obtain rfl : k = r.rows.length := by omega
  rw [hrest] at h1
  repeat' (first | with_reducible (first | (refine sk ?_; intro K hK) | apply_assumption -exfalso -symm only [*]) | ((with_reducible first | refine rg (md := { base := 200,own := [] }) (h := ?_) | refine nx ?_); try simp (disch := omega) only [h0,h1,h3,h4,hH3,A7,go_sem,simprocAttr]) | ((with_reducible refine' cE ?hv ?_ ?_); (case hv => rfl); all_goals (intro hc; (try simp only [go_sem,simprocAttr] at hc); try (exfalso; omega))) | fail)
  exact AM (Or.inr rfl) (.refl _) (by simp only [Tryz.f105,go_sem,simprocAttr]; rfl) hJ
end Cp
namespace Cp
open Go Go.Proofs
set_option maxRecDepth 10000
def Qd (l : List Brc) : Val := if l = [] then .nils else .lst 4 (l.map cBrc)
theorem TL (r : RunT) (hF : RunF r) (u : RulesT) (hU : RulesF u) (k i : Nat) (hk : k + 1 ≤ r.rows.length) (hi : i < 4) : ∃ g,chkV[i]? = some [.int .u8 ((i + 1 : Nat) : Int),.fn g []] ∧
  ∀ H0,F4 H0 1000 100 → BD Tryz.prog g [.pim (Af r r.rows.length),A1 u,.int .i64 ((k + 1 : Nat) : Int),.agg (I3 r (k + 1))] H0 (Sv H0 (D0 r u k i)) := by
 have hrl := hF.rows
 have hdeg := fun m => PG (l := r.curve) hF.curve (m := m)
 have hcb := Gw hF hdeg (k + 1) hk
 match i,hi with
 | 0,_ => exact ⟨_,rfl,fun H0 _ => U3 r hF u k hk _ _ _ _ H0⟩
 | 1,_ => exact ⟨_,rfl,fun H0 _ => U0 u hU _ k _ _ _ _ (by omega) (by omega) (by omega) H0⟩
 | 2,_ => exact ⟨_,rfl,fun H0 hroom => V4 r hF u hU k hk (hdeg _ (by omega) (by omega)) _ _ _ H0 hroom⟩
 | 3,_ => exact ⟨_,rfl,fun H0 _ => Ts r hF u hU k hk _ rfl H0⟩
def LJ (r : RunT) (u : RulesT) (e5 e6 ey : Nat) (L : AObj) (k : Nat) (H : Hp) : Prop :=
 H 5 = some (e5,.arr 1 [[.pim (Af r r.rows.length)]]) ∧ H 100 = some (ey,L) ∧ F4 H 1000 100 ∧ ∃ l : List Brc,l.Perm (DG r u k) ∧ AllL e6 l H
theorem TN (r : RunT) (hF : RunF r) (u : RulesT) (hU : RulesF u) : PureC Tryz.prog 60 [A9 r,A1 u] (Qd (D8 r u)) := by
 have hrl := hF.rows
 have hcl := hF.cpls
 have hnn : noids (Af r r.rows.length) = true := noids_still Dm
 have hnv : noid (Qd (D8 r u)) = true := by
  unfold Qd; split
  ·rfl
  ·simp only [noid,Lr]
 refine Ll (fn := Tryz.f60) tabOK (by kernel_rfl) rfl (by kernel_rfl) (by simp [Tryz.f60]) (by simp [noids,noid,noidss,go_sem,A9,A7,A1,A5]) hnv ?_
 intro X hX0 hXs hXr
 repeat' (first | with_reducible (first | (refine sk ?_; intro K hK) | intro (ep : Nat → Nat) | apply_assumption -exfalso -symm only [*]) | ((first | (with_reducible refine rg (h := ?_)) | refine pK (Um r hF) ?_ | refine pK (Oi (Af r r.rows.length) hnn) ?_); try simp (disch := omega) only [A9,A7,A1,A5,hnn,go_sem,simprocAttr]) | fail)
 have hXs0 : X.sz = 60 := hXs
 refine An ?_
 refine GV 100 (by simp only [go_sem,simprocAttr]; rfl) hXr fun ey => ?_
 generalize hf0 : (upd _ _ _ : Fr) = f0
 generalize hH : (upd (upd (upd none0 _ _) _ _) _ _ : Hp) = HH
 obtain ⟨e5,e6,g3,g5,g6,G5,G6,G0⟩ : ∃ e5 e6,f0 3 = .pim (A5 u) ∧ f0 5 = .ptr 5 e5 1 0 0 ∧ f0 6 = .ptr 6 e6 1 0 0 ∧ HH 5 = some (e5,.arr 1 [[.pim (Af r r.rows.length)]]) ∧ HH 6 = some (e6,.arr 1 [[.nils]]) ∧ ∀ j,7 ≤ j → HH j = none := by
  refine ⟨_,_,by rw [← hf0]; rfl,by rw [← hf0]; rfl,by rw [← hf0]; rfl,by rw [← hH]; rfl,by rw [← hH]; rfl,fun j hj => ?_⟩
  rw [← hH,A0 _ _ (by omega),A0 _ _ (by omega),A0 _ _ (by omega)]; rfl
 clear hf0 hH hXs
 generalize hL : AObj.loop _ _ _ _ _ _ = L
 refine ⟨fun v H' => LJ r u e5 e6 ey L r.rows.length H',N3 r hF _ 100 ey (LJ r u e5 e6 ey L) ?_ ?_ ?_,?_⟩
 ·exact ⟨by rw [A0 _ _ (by decide),G5],A4 _ _ _,fun d hd => by rw [A0 _ _ (by omega)]; exact G0 _ (by omega),[],.refl _,.inl ⟨rfl,by rw [A0 _ _ (by decide),G6]⟩⟩
 ·rintro k H H' ⟨q1,q2,q3,l,q4,q5⟩ h
  exact ⟨by rw [h _ (by omega),q1],by rw [h _ (by omega),q2],fun d hd => by rw [h _ (by omega)]; exact q3 d hd,l,q4,q5.same (h _ (by omega)) (h _ (by omega))⟩
 ·rintro k Hs hk ⟨q1,q2,q3,l,q4,q5⟩
  subst hL
  refine ⟨_,_,_,_,_,q2,rfl,fun t ht => ?_,fun X1 b h10 h1s h1r => ?_⟩
  ·rw [Ix,hXs0]
   have ht' : t = 18 ∨ t = 19 := by simpa using ht
   rcases ht' with rfl | rfl <;> decide
  have hXs : X1.sz = 60 := by rw [h1s,Ix,hXs0]
  show AW _ _ _ _ _ (upd (upd (Co (frL f0 X.sz)) 18 (.int .i64 ((k + 1 : Nat) : Int))) 19 (.agg (I3 r (k + 1)))) Hs
  have k3 : Co (frL f0 X.sz) 3 = .pim (A5 u) := by rw [Dz,hXs0,if_pos (by decide),g3]
  have k5 : Co (frL f0 X.sz) 5 = .ptr 5 e5 1 0 0 := by rw [Dz,hXs0,if_pos (by decide),g5]
  have k6 : Co (frL f0 X.sz) 6 = .ptr 6 e6 1 0 0 := by rw [Dz,hXs0,if_pos (by decide),g6]
  generalize Co (frL f0 X.sz) = f1 at k3 k5 k6
  refine Aw 308 fun H1 g8 hs1 => ?_
  have hs1' : ∀ j,¬ j = 308 → H1 j = Hs j := hs1
  repeat' (first | with_reducible (first | (refine sk ?_; intro K hK) | intro (ep : Nat → Nat) | apply_assumption -exfalso -symm only [*]) | ((with_reducible refine rg (md := { base := 300,own := [33,55],imp := [32] }) (h := ?_)); try simp (disch := omega) only [k3,k5,k6,g8,I3,go_sem,simprocAttr]) | fail)
  refine ⟨rfl,_,_,_,_,_,by rw [A0 _ _ (by decide),A0 _ _ (by decide),hs1 _ (by decide),q2],?_⟩
  generalize hHs : (upd (upd (upd H1 _ _) _ _) 100 _ : Hp) = HB
  generalize hfB : (upd _ _ _ : Fr) = fB
  obtain ⟨e8,b8,b7,b3,b5,b6,B8,B5,B100,Broom,BA,Bsame⟩ : ∃ e8,fB 8 = .ptr 308 e8 4 0 0 ∧ fB 7 = .int .i64 ((k + 1 : Nat) : Int) ∧ fB 3 = .pim (A5 u) ∧ fB 5 = .ptr 5 e5 1 0 0 ∧ fB 6 = .ptr 6 e6 1 0 0 ∧ HB 308 = some (e8,.arr 4 [I3 r (k + 1)]) ∧ HB 5 = some (e5,.arr 1 [[.pim (Af r r.rows.length)]]) ∧ HB 100 = _ ∧ F4 HB 1000 100 ∧ AllL e6 l HB ∧ (∀ j,200 ≤ j → j < 300 → HB j = Hs j) := by
   refine ⟨_,by rw [← hfB]; rfl,by rw [← hfB]; rfl,by rw [← hfB]; simp only [k3,go_sem,simprocAttr],by rw [← hfB]; simp only [k5,go_sem,simprocAttr],by rw [← hfB]; simp only [k6,go_sem,simprocAttr],by rw [← hHs]; rfl,?_,by rw [← hHs,A4],fun d hd => ?_,q5.same ?_ ?_,fun j h1 h2 => ?_⟩
   ·rw [← hHs,A0 _ _ (by decide),A0 _ _ (by decide),A0 _ _ (by decide),hs1 _ (by decide),q1]
   ·rw [← hHs,A0 _ _ (by omega),A0 _ _ (by omega),A0 _ _ (by omega),hs1 _ (by omega)]; exact q3 d hd
   ·rw [← hHs,A0 _ _ (by decide),A0 _ _ (by decide),A0 _ _ (by decide),hs1 _ (by decide)]
   ·rw [← hHs,A0 _ _ (by decide),A0 _ _ (by decide),A0 _ _ (by decide),hs1 _ (by decide)]
   ·rw [← hHs,A0 _ _ (by omega),A0 _ _ (by omega),A0 _ _ (by omega),hs1 _ (by omega)]
  generalize hLB : (some (ey,AObj.loop _ _ _ _ _ _) : Option (Nat × AObj)) = LB at B100
  clear hHs hfB q1 q3 q5 hs1 hs1' g8 k3 k5 k6
  repeat' (first | with_reducible (first | (refine sk ?_; intro K hK) | refine bk ?_ | apply_assumption -exfalso -symm only [*]) | ((first | (with_reducible refine rg (md := { base := 300,own := [33,55],imp := [32] }) (h := ?_)) | refine pK (checks_ok) ?_); try simp (disch := omega) only [b3,b5,b6,b7,b8,I3,go_sem,simprocAttr]) | fail)
  refine Av tabOK 4 (fun i f H => (f 3 = .pim (A5 u) ∧ f 5 = .ptr 5 e5 1 0 0 ∧ f 6 = .ptr 6 e6 1 0 0 ∧ f 7 = .int .i64 ((k + 1 : Nat) : Int) ∧ f 8 = .ptr 308 e8 4 0 0 ∧ f 20 = .lst 2 chkV) ∧ H 308 = some (e8,.arr 4 [I3 r (k + 1)]) ∧ H 5 = some (e5,.arr 1 [[.pim (Af r r.rows.length)]]) ∧ H 100 = LB ∧ F4 H 1000 100 ∧ (∀ j,200 ≤ j → j < 300 → H j = Hs j) ∧
    ∃ l,l.Perm (DG r u k ++ Gb r u k i) ∧ AllL e6 l H)
   (by omega) (by rw [hXs]; decide) (by decide) (by (first | rfl | (simp only [go_sem,simprocAttr]; done) | (simp only [go_sem,simprocAttr]; rfl))) (by (first | rfl | (simp only [chkV,go_sem,simprocAttr]; done) | (simp only [chkV,go_sem,simprocAttr]; rfl))) ⟨by (and_intros <;> first | rfl | (simp only [b3,b5,b6,b7,b8,chkV,go_sem,simprocAttr]; done) | (simp only [b3,b5,b6,b7,b8,chkV,go_sem,simprocAttr]; rfl)),B8,B5,B100,Broom,Bsame,l,by simpa [Gb] using q4,BA⟩ ?_ ?_
  ·rintro i f H hi h22 h21 ⟨⟨h3,h5,h6,h7,h8,h20⟩,H8,H5,H100,Hroom,Hsame,l,hl,hA⟩
   obtain ⟨g,hcv,hcall⟩ := TL r hF u hU k i (by omega) hi
   refine Aw 310 fun H1 g10 hs1 => ?_
   refine Aw 333 fun H2 g33 hs2 => ?_
   have hs : ∀ j,¬ j = 310 → ¬ j = 333 → H2 j = H j := fun j h1 h2 => by rw [hs2 _ h2,hs1 _ h1]
   have g10' : H2 310 = none := by rw [hs2 _ (by decide),g10]
   have H8' := (hs 308 (by decide) (by decide)).trans H8
   have H5' := (hs 5 (by decide) (by decide)).trans H5
   have Hroom' : F4 H2 1000 100 := fun d hd => by rw [hs _ (by omega) (by omega)]; exact Hroom d hd
   simp only [I3] at H8'
   simp only [I3,A1,A5] at hcall
   repeat' (first | with_reducible (first | (refine sk ?_; intro K hK) | intro (ep : Nat → Nat) | apply_assumption -exfalso -symm only [*]) | ((with_reducible refine rg (md := { base := 300,own := [33,55],imp := [32] }) (h := ?_)); try simp (disch := omega) only [h3,h5,h6,h7,h8,h20,h21,h22,H8',H5',g10',hcv,A5,go_sem,simprocAttr]) | fail)
   refine KI (hcall _ fun d hd => by rw [A0 _ _ (by omega),A0 _ _ (by omega)]; exact Hroom' d hd) ?_
   rintro v H3 ⟨hlow,es,hperm,hres⟩
   have hlow' : ∀ j,j < 400 → ¬ j = 310 → ¬ j = 333 → H3 j = H j := fun j h1 h2 h3 => by rw [hlow _ h1,A0 _ _ h2,A0 _ _ h2,hs _ h2 h3]
   have g33' : H3 333 = none := by rw [hlow _ (by decide),A0 _ _ (by decide),A0 _ _ (by decide),g33]
   have w10 := (hlow 310 (by decide)).trans (A4 _ _ _)
   have hkn : VG es := fun p hp => TQ p (hperm.mem_iff.1 hp)
   have hel : es.length ≤ 8 := by rw [hperm.length_eq]; exact R9 hF
   have hb1 := FZ (u := u) hF k
   have hb2 := QU (u := u) (k := k) hF (i := i) (by omega)
   have hll := hl.length_eq
   rw [List.length_append] at hll
   have hll0 : l.length ≤ 1000 := by omega
   have hB2 : ∀ l' : List Brc,l'.Perm (DG r u k ++ Gb r u k i ++ toB ((k + 1 : Nat) : Int) ((i + 1 : Nat) : Int) es) → l'.Perm (DG r u k ++ Gb r u k (i + 1)) := fun l' h => by
    refine h.trans ?_
    rw [List.append_assoc]
    exact .append_left _ (.append_left _ (Nl hperm))
   have c8 := (hlow' 308 (by decide) (by decide) (by decide)).trans H8
   have c5 := (hlow' 5 (by decide) (by decide) (by decide)).trans H5
   have c100 := (hlow' 100 (by decide) (by decide) (by decide)).trans H100
   have cA := hA.same (hlow' 6 (by decide) (by decide) (by decide)) (hlow' 355 (by decide) (by decide) (by decide))
   have csame : ∀ j,200 ≤ j → j < 300 → H3 j = Hs j := fun j h1 h2 => by rw [hlow' j (by omega) (by omega) (by omega)]; exact Hsame j h1 h2
   clear hs hs1 hs2 g10 g10' g33 H8' H5' Hroom' hlow hlow' hcall H8 H5 H100 hA Hsame Hroom
   rcases hres with ⟨rfl,rfl⟩ | ⟨km,em,ver,hkm1,hkm2,rfl,hmap⟩
   ·simp only [g33',go_sem,simprocAttr]
    repeat' (first | with_reducible (first | intro (ep : Nat → Nat) | apply_assumption -exfalso -symm only [*]) | fail)
    refine Rj 400 fun H4 hlt4 hge4 => ?_
    generalize hfC : (upd _ _ _ : Fr) = fC
    obtain ⟨e33,t33,t3,t5,t6,t7,t8,t20,t21,t22,T33⟩ : ∃ e33,fC 33 = .itr 333 e33 ∧ fC 3 = .pim (A5 u) ∧ fC 5 = .ptr 5 e5 1 0 0 ∧ fC 6 = .ptr 6 e6 1 0 0 ∧ fC 7 = .int .i64 ((k + 1 : Nat) : Int) ∧ fC 8 = .ptr 308 e8 4 0 0 ∧ fC 20 = .lst 2 chkV ∧ fC 21 = .int .i64 (4 : Nat) ∧ fC 22 = .int .i64 i ∧ H4 333 = some (e33,.nit) :=
     ⟨_,by rw [← hfC]; rfl,by rw [← hfC]; simp only [h3,go_sem,simprocAttr],by rw [← hfC]; simp only [h5,go_sem,simprocAttr],by rw [← hfC]; simp only [h6,go_sem,simprocAttr],by rw [← hfC]; simp only [h7,go_sem,simprocAttr],by rw [← hfC]; simp only [h8,go_sem,simprocAttr],by rw [← hfC]; simp only [h20,go_sem,simprocAttr],by rw [← hfC]; simp only [h21,go_sem,simprocAttr],by rw [← hfC]; simp only [h22,go_sem,simprocAttr],by rw [hlt4 _ (by decide),A4]⟩
    have d8 := (hlt4 308 (by decide)).trans ((A0 _ _ (by decide)).trans c8)
    have d5 := (hlt4 5 (by decide)).trans ((A0 _ _ (by decide)).trans c5)
    have d100 := (hlt4 100 (by decide)).trans ((A0 _ _ (by decide)).trans c100)
    have dA := cA.same ((hlt4 6 (by decide)).trans (A0 _ _ (by decide))) ((hlt4 355 (by decide)).trans (A0 _ _ (by decide)))
    have dsame : ∀ j,200 ≤ j → j < 300 → H4 j = Hs j := fun j h1 h2 => by rw [hlt4 j (by omega),A0 _ _ (by omega)]; exact csame j h1 h2
    clear hfC hlt4
    refine An (AK (fun n f1 H1 => n = 0 ∧ f1 = fC ∧ H1 = H4) 0 ⟨rfl,rfl,rfl⟩ ?_)
    rintro n f1 H1' ⟨rfl,rfl,rfl⟩
    repeat' (first | with_reducible (first | (refine sk ?_; intro K hK) | apply_assumption -exfalso -symm only [*]) | ((with_reducible first | refine E1 (id := 10) tabOK { base := 300,own := [33,55],imp := [32] } [] [] (by rw [hXs]; decide +kernel) ?_ | refine nx ?_); try simp (disch := omega) only [t33,T33,go_sem,simprocAttr]) | ((with_reducible refine' cE ?hv ?_ ?_); (case hv => rfl); all_goals (intro hc; (try simp only [go_sem,simprocAttr] at hc))) | fail)
    exact ⟨t22,t21,⟨t3,t5,t6,t7,t8,t20⟩,d8,d5,d100,fun d hd => hge4 _ (by omega),dsame,l,hB2 l (by simpa [toB] using hl),dA⟩
   ·have n333 : ¬ km = 333 := by omega
    simp only [g33',hmap,n333,go_sem,simprocAttr]
    repeat' (first | with_reducible (first | intro (ep : Nat → Nat) | apply_assumption -exfalso -symm only [*]) | fail)
    refine Rj 500 fun H4 hlt4 hge4 => ?_
    generalize hfC : (upd _ _ _ : Fr) = fC
    obtain ⟨e33,e10,t33,t10,t3,t5,t6,t7,t8,t20,t21,t22,T33,d10⟩ : ∃ e33 e10,fC 33 = .itr 333 e33 ∧ fC 10 = .ptr 310 e10 2 0 0 ∧ fC 3 = .pim (A5 u) ∧ fC 5 = .ptr 5 e5 1 0 0 ∧ fC 6 = .ptr 6 e6 1 0 0 ∧ fC 7 = .int .i64 ((k + 1 : Nat) : Int) ∧ fC 8 = .ptr 308 e8 4 0 0 ∧ fC 20 = .lst 2 chkV ∧ fC 21 = .int .i64 (4 : Nat) ∧ fC 22 = .int .i64 i ∧ H4 333 = some (e33,.itr km em ver (List.range es.length) none) ∧ H4 310 = some (e10,.arr 2 [[.int .u8 ((i + 1 : Nat) : Int),.fn g []]]) :=
     ⟨_,_,by rw [← hfC]; rfl,by rw [← hfC]; rfl,by rw [← hfC]; simp only [h3,go_sem,simprocAttr],by rw [← hfC]; simp only [h5,go_sem,simprocAttr],by rw [← hfC]; simp only [h6,go_sem,simprocAttr],by rw [← hfC]; simp only [h7,go_sem,simprocAttr],by rw [← hfC]; simp only [h8,go_sem,simprocAttr],by rw [← hfC]; simp only [h20,go_sem,simprocAttr],by rw [← hfC]; simp only [h21,go_sem,simprocAttr],by rw [← hfC]; simp only [h22,go_sem,simprocAttr],by rw [hlt4 _ (by decide),A4],by rw [hlt4 _ (by decide),A0 _ _ (by decide),w10]⟩
    have d8 := (hlt4 308 (by decide)).trans ((A0 _ _ (by decide)).trans c8)
    have d5 := (hlt4 5 (by decide)).trans ((A0 _ _ (by decide)).trans c5)
    have d100 := (hlt4 100 (by decide)).trans ((A0 _ _ (by decide)).trans c100)
    have dmap := (hlt4 km (by omega)).trans ((A0 _ _ n333).trans hmap)
    have dA := cA.same ((hlt4 6 (by decide)).trans (A0 _ _ (by decide))) ((hlt4 355 (by decide)).trans (A0 _ _ (by decide)))
    have dsame : ∀ j,200 ≤ j → j < 300 → H4 j = Hs j := fun j h1 h2 => by rw [hlt4 j (by omega),A0 _ _ (by omega)]; exact csame j h1 h2
    have droom : F4 H4 1000 100 := fun d hd => hge4 _ (by omega)
    clear hfC hlt4 hge4 c8 c5 c100 cA csame w10 g33' hmap h3 h5 h6 h7 h8 h20 h21 h22
    have n6 : ¬ km = 6 := by omega
    have n313 : ¬ km = 313 := by omega
    have n355 : ¬ km = 355 := by omega
    refine An (AK (fun n f H => ∃ left : List Nat,n = left.length ∧ (∀ p ∈ left,p < es.length) ∧ (f 10 = .ptr 310 e10 2 0 0 ∧ f 3 = .pim (A5 u) ∧ f 5 = .ptr 5 e5 1 0 0 ∧ f 6 = .ptr 6 e6 1 0 0 ∧ f 7 = .int .i64 ((k + 1 : Nat) : Int) ∧ f 8 = .ptr 308 e8 4 0 0 ∧ f 20 = .lst 2 chkV ∧ f 21 = .int .i64 (4 : Nat) ∧ f 22 = .int .i64 i) ∧
      H 310 = some (e10,.arr 2 [[.int .u8 ((i + 1 : Nat) : Int),.fn g []]]) ∧ H 308 = some (e8,.arr 4 [I3 r (k + 1)]) ∧ H 5 = some (e5,.arr 1 [[.pim (Af r r.rows.length)]]) ∧ H 100 = LB ∧ H km = some (em,.map ver (CH .i64 es)) ∧ F4 H 1000 100 ∧ (∀ j,200 ≤ j → j < 300 → H j = Hs j) ∧
      ∃ l cur,(l ++ toB ((k + 1 : Nat) : Int) ((i + 1 : Nat) : Int) (lfE es left)).Perm (DG r u k ++ Gb r u k i ++ toB ((k + 1 : Nat) : Int) ((i + 1 : Nat) : Int) es) ∧ AllL e6 l H ∧ f 33 = .itr 333 e33 ∧ H 333 = some (e33,.itr km em ver left cur)) es.length
     ⟨List.range es.length,by simp,by simp,⟨t10,t3,t5,t6,t7,t8,t20,t21,t22⟩,d10,d8,d5,d100,dmap,droom,dsame,l,none,by rw [TJ]; exact hl.append_right _,dA,t33,T33⟩ ?_)
    clear t10 t3 t5 t6 t7 t8 t20 t21 t22 d10 d8 d5 d100 dmap droom dsame dA t33 T33 hl
    rintro n f H ⟨left,rfl,hmem,⟨t10,t3,t5,t6,t7,t8,t20,t21,t22⟩,d10,d8,d5,d100,dmap,droom,dsame,l,cur,hl,hA,t33,T33⟩
    repeat' (first | with_reducible (refine sk ?_; intro K hK) | ((with_reducible refine E1 (id := 10) tabOK { base := 300,own := [33,55],imp := [32] } [] [] (by rw [hXs]; decide +kernel) ?_); try simp (disch := omega) only [t33,T33,dmap,go_sem,simprocAttr]) | fail)
    refine ⟨fun hlz => ?_,fun p hp a v hav => ?_⟩
    ·subst hlz
     repeat' (first | with_reducible (first | (refine sk ?_; intro K hK) | apply_assumption -exfalso -symm only [*]) | ((with_reducible refine nx ?_); try simp (disch := omega) only [t33,T33,dmap,go_sem,simprocAttr]) | ((with_reducible refine' cE ?hv ?_ ?_); (case hv => rfl); all_goals (intro hc; (try simp only [go_sem,simprocAttr] at hc))) | fail)
     exact ⟨t22,t21,⟨t3,t5,t6,t7,t8,t20⟩,d8,d5,d100,droom,dsame,l,hB2 l (by simpa [lfE,toB] using hl),hA⟩
    ·obtain ⟨cp,hcp⟩ : ∃ x,es[p]? = some x := ⟨_,List.getElem?_eq_getElem (hmem p hp)⟩
     obtain ⟨kv,hkv,hk0,hk255⟩ := hkn cp (List.mem_of_getElem? hcp)
     obtain ⟨c,v2⟩ := cp
     simp only at hkv
     subst hkv
     have htk := R7 (m := ((k + 1 : Nat) : Int)) (q := ((i + 1 : Nat) : Int)) hp hcp hl
     have hle := List.length_erase_of_mem hp
     have hpos := List.length_pos_of_mem hp
     rw [hcp] at hav
     simp only [Option.map_some,Option.some.injEq,Prod.mk.injEq] at hav
     obtain ⟨rfl,rfl⟩ := hav
     have hl0 := hl
     refine hK _ _ ?_
     refine Aw 313 fun H5 g13 hs5 => ?_
     have x333 := (hs5 333 (by decide)).trans (A4 _ _ _)
     have x310 := (hs5 310 (by decide)).trans ((A0 _ _ (by decide)).trans d10)
     have x308 := (hs5 308 (by decide)).trans ((A0 _ _ (by decide)).trans d8)
     have x5 := (hs5 5 (by decide)).trans ((A0 _ _ (by decide)).trans d5)
     have x100 := (hs5 100 (by decide)).trans ((A0 _ _ (by decide)).trans d100)
     have xmap := (hs5 km n313).trans ((A0 _ _ n333).trans dmap)
     have xroom : F4 H5 1000 100 := fun d hd => by rw [hs5 _ (by omega),A0 _ _ (by omega)]; exact droom d hd
     have xsame : ∀ j,200 ≤ j → j < 300 → H5 j = Hs j := fun j h1 h2 => by rw [hs5 _ (by omega),A0 _ _ (by omega)]; exact dsame j h1 h2
     have xA := hA.same ((hs5 6 (by decide)).trans (A0 _ _ (by decide))) ((hs5 355 (by decide)).trans (A0 _ _ (by decide)))
     clear hs5 d10 d8 d5 d100 dmap droom dsame hA T33 hl
     have hlb : l.length + 1 ≤ 1073741824 := by
      have := hl0.length_eq
      simp only [List.length_append] at this
      have h3 : (toB ((k + 1 : Nat) : Int) ((i + 1 : Nat) : Int) es).length ≤ 8 := Nat.le_trans (Pe _) hel
      omega
     rcases xA with ⟨rfl,x6⟩ | ⟨hlne,ea,x6,x355⟩
     ·repeat' (first | with_reducible (first | (refine sk ?_; intro K hK) | refine bk ?_ | apply_assumption -exfalso -symm only [*]) | ((with_reducible first | refine E1 (id := 11) tabOK { base := 300,own := [33,55],imp := [32] } [] [] (by rw [hXs]; decide +kernel) ?_ | refine nx ?_); try simp (disch := omega) only [t33,t10,t7,t6,x333,x310,xmap,x6,hcp,g13,go_sem,simprocAttr]) | ((with_reducible refine' cE ?hv ?_ ?_); (case hv => rfl); all_goals (intro hc; (try simp only [go_sem,simprocAttr] at hc))) | fail)
      refine ⟨_,_,rfl,?_⟩
      repeat' (first | with_reducible (first | (refine sk ?_; intro K hK) | intro (ep : Nat → Nat) | apply_assumption -exfalso -symm only [*]) | ((with_reducible first | refine rg (md := { base := 300,own := [33,55],imp := [32] }) (h := ?_) | refine nx ?_); try simp (disch := omega) only [t33,t10,t7,t6,x333,x310,xmap,x6,hcp,g13,n6,n313,n355,kn,go_sem,simprocAttr]) | ((with_reducible refine' cE ?hv ?_ ?_); (case hv => rfl); all_goals (intro hc; (try simp only [go_sem,simprocAttr] at hc))) | fail)
      ·exact ⟨(left.erase p).length,by omega,left.erase p,rfl,fun q hq => hmem q (List.mem_of_mem_erase hq),⟨t3,t5,t8,t20,t21,t22⟩,x308,x5,x100,fun d hd => by rw [A0 _ _ (by omega),A0 _ _ (by omega),A0 _ _ (by omega),A0 _ _ (by omega)]; exact xroom d hd,fun j h1 h2 => by rw [if_neg (by omega),if_neg (by omega),if_neg (by omega),if_neg (by omega)]; exact xsame j h1 h2,[⟨((k + 1 : Nat) : Int),((i + 1 : Nat) : Int),c,kv⟩],some p,by have h := htk; rw [Fg,if_neg (by simpa using hc)] at h; exact h,.inr ⟨by simp,_,rfl,rfl⟩,rfl⟩
      ·exact ⟨(left.erase p).length,by omega,left.erase p,rfl,fun q hq => hmem q (List.mem_of_mem_erase hq),⟨t3,t5,t8,t20,t21,t22⟩,x308,x5,x100,fun d hd => by rw [A0 _ _ (by omega),A0 _ _ (by omega)]; exact xroom d hd,fun j h1 h2 => by rw [if_neg (by omega),if_neg (by omega)]; exact xsame j h1 h2,[],some p,by have h := htk; rw [Fg,if_pos (by simpa using hc),List.append_nil] at h; exact h,.inl ⟨rfl,by rw [A0 _ _ (by decide),A0 _ _ (by decide)]; exact x6⟩,rfl⟩
     ·repeat' (first | with_reducible (first | (refine sk ?_; intro K hK) | refine bk ?_ | apply_assumption -exfalso -symm only [*]) | ((with_reducible first | refine E1 (id := 11) tabOK { base := 300,own := [33,55],imp := [32] } [] [] (by rw [hXs]; decide +kernel) ?_ | refine nx ?_); try simp (disch := omega) only [t33,t10,t7,t6,x333,x310,xmap,x6,x355,hcp,g13,go_sem,simprocAttr]) | ((with_reducible refine' cE ?hv ?_ ?_); (case hv => rfl); all_goals (intro hc; (try simp only [go_sem,simprocAttr] at hc))) | fail)
      refine ⟨_,_,rfl,?_⟩
      repeat' (first | with_reducible (first | (refine sk ?_; intro K hK) | intro (ep : Nat → Nat) | apply_assumption -exfalso -symm only [*]) | ((with_reducible first | refine rg (md := { base := 300,own := [33,55],imp := [32] }) (h := ?_) | refine nx ?_); try simp (disch := omega) only [t33,t10,t7,t6,x333,x310,xmap,x6,x355,hcp,g13,hlb,n6,n313,n355,kn,go_sem,simprocAttr]) | ((with_reducible refine' cE ?hv ?_ ?_); (case hv => rfl); all_goals (intro hc; (try simp only [go_sem,simprocAttr] at hc))) | fail)
      ·exact ⟨(left.erase p).length,by omega,left.erase p,rfl,fun q hq => hmem q (List.mem_of_mem_erase hq),⟨t3,t5,t8,t20,t21,t22⟩,x308,x5,x100,fun d hd => by rw [A0 _ _ (by omega),A0 _ _ (by omega),A0 _ _ (by omega),A0 _ _ (by omega)]; exact xroom d hd,fun j h1 h2 => by rw [if_neg (by omega),if_neg (by omega),if_neg (by omega),if_neg (by omega)]; exact xsame j h1 h2,l ++ [⟨((k + 1 : Nat) : Int),((i + 1 : Nat) : Int),c,kv⟩],some p,by have h := htk; rw [Fg,if_neg (by simpa using hc)] at h; exact h,.inr ⟨by simp,_,by rw [List.length_append]; rfl,by rw [List.map_append]; rfl⟩,rfl⟩
      ·exact ⟨(left.erase p).length,by omega,left.erase p,rfl,fun q hq => hmem q (List.mem_of_mem_erase hq),⟨t3,t5,t8,t20,t21,t22⟩,x308,x5,x100,fun d hd => by rw [A0 _ _ (by omega),A0 _ _ (by omega)]; exact xroom d hd,fun j h1 h2 => by rw [if_neg (by omega),if_neg (by omega)]; exact xsame j h1 h2,l,some p,by have h := htk; rw [Fg,if_pos (by simpa using hc),List.append_nil] at h; exact h,.inr ⟨hlne,_,by rw [A0 _ _ (by decide),A0 _ _ (by decide)]; exact x6,by rw [A0 _ _ (by decide),A0 _ _ (by decide)]; exact x355⟩,rfl⟩
  ·rintro f H h22 h21 ⟨⟨h3,h5,h6,h7,h8,h20⟩,H8,H5,H100,Hroom,Hsame,l,hl,hA⟩
   refine ⟨_,_,_,_,_,_,by rw [H100,← hLB],?_⟩
   refine ⟨rfl,⟨by rw [A0 _ _ (by decide),H5],A4 _ _ _,fun d hd => by rw [A0 _ _ (by omega)]; exact Hroom d hd,l,?_,hA.same (A0 _ _ (by decide)) (A0 _ _ (by decide))⟩,fun j h1 h2 => by rw [A0 _ _ (by omega)]; exact Hsame j h1 h2⟩
   rw [NN] at hl
   exact hl
 ·rintro v H' ⟨p5,p100,proom,l,hl,hA⟩
  subst hL
  refine ⟨_,_,_,_,_,_,p100,by simp,?_⟩
  have hXs : X.sz = 60 := hXs0
  have hA' : AllL e6 l (upd H' 100 none) := hA.same (A0 _ _ (by decide)) (A0 _ _ (by decide))
  generalize upd H' 100 none = H2 at hA'
  clear hA p5 p100 proom
  have hkd : ∀ b ∈ l,0 ≤ b.kind ∧ b.kind ≤ 255 := fun b hb => OD (hl.mem_iff.1 hb)
  rcases hA' with ⟨rfl,x6⟩ | ⟨hlne,ea,x6,x355⟩
  ·have hS : D8 r u = [] := hl.symm.eq_nil
   rw [hS]
   repeat' (first | with_reducible (first | (refine sk ?_; intro K hK) | apply_assumption -exfalso -symm only [*]) | ((with_reducible refine rg (md := { base := 0,own := [],imp := [58] }) (h := ?_)); try simp (disch := omega) only [g6,x6,go_sem,simprocAttr]) | refine iK (UH _ _) ?_ | fail)
   rintro v H3 rfl
   simp only [go_sem,simprocAttr]
   repeat' (first | with_reducible (first | (refine sk ?_; intro K hK) | apply_assumption -exfalso -symm only [*]) | ((with_reducible first | refine rg (md := { base := 0,own := [],imp := [58] }) (h := ?_) | refine nx ?_); try simp (disch := omega) only [g6,x6,go_sem,simprocAttr]) | ((with_reducible refine fe ?_); refine ⟨_,(by simp only [Tryz.f60,g6,x6,go_sem,simprocAttr]; rfl),?_⟩; (try simp only [g6,x6,go_sem,simprocAttr,seval])) | fail)
   rw [Qd,if_pos hS]
  ·have hlen := hl.length_eq
   have hb := FZ (u := u) hF r.rows.length
   repeat' (first | with_reducible (first | (refine sk ?_; intro K hK) | apply_assumption -exfalso -symm only [*]) | ((with_reducible refine rg (md := { base := 0,own := [],imp := [58] }) (h := ?_)); try simp (disch := omega) only [g6,x6,go_sem,simprocAttr]) | refine iK (WU _ 355 ea l.length l hkd x355 rfl (by omega)) ?_ | fail)
   rintro v H3 ⟨l',hp,hs,rfl⟩
   have hS : l' = D8 r u := sorted_uniq _ _ (hp.trans hl) (GI hF) hs
   have hne : D8 r u ≠ [] := fun e => by
    rw [← hS] at e; subst e; exact hlne hp.symm.eq_nil
   have hll : l.length = (D8 r u).length := by rw [← hS]; exact hp.length_eq.symm
   rw [hll] at x6
   subst hS
   simp only [go_sem,simprocAttr]
   repeat' (first | with_reducible (first | (refine sk ?_; intro K hK) | apply_assumption -exfalso -symm only [*]) | ((with_reducible first | refine rg (md := { base := 0,own := [],imp := [58] }) (h := ?_) | refine nx ?_); try simp (disch := omega) only [g6,x6,x355,go_sem,simprocAttr]) | fail)
   refine Pk 355 (Or.inl rfl) (by simp only [go_sem,simprocAttr]; rfl) ⟨_,(by simp only [Tryz.f60,go_sem,simprocAttr]; rfl),?_⟩
   rw [Qd,if_neg hne]
   simp only [go_sem,simprocAttr]
end Cp
namespace Cp
open Go Go.Proofs
set_option maxRecDepth 10000
set_option maxHeartbeats 4000000
end Cp
namespace Cp
open Go Go.Proofs
set_option maxRecDepth 10000
set_option maxHeartbeats 4000000
theorem VW {r : RunT} {u : RulesT} (h : AV r u = 0) : CK r = true ∧ Bz u = true := by
 unfold AV at h
 split at h
 ·split at h
  ·rename_i h1 h2; exact ⟨h1,h2⟩
  ·omega
 ·omega
theorem Rb (r : RunT) (hF : RunF r) (u : RulesT) (hU : RulesF u) : PureC Tryz.prog 60 [A9 r,A1 u] (.lst 4 ((D8 r u).map cBrc)) := by
 refine (TN r hF u hU).weak (by simp only [noid,Lr]) fun G w x h => ?_
 unfold Qd at h
 split at h
 ·rename_i he; rw [he]; exact h.nils_lst _
 ·exact h
end Cp
namespace Cp
open Go Go.Proofs
set_option maxRecDepth 10000
set_option maxHeartbeats 4000000
theorem MX (xs : List Brc) (hx : xs.length ≤ 4611686018427387904) (g : FuncId) (caps : List Val) (hcp : noids caps = true) (p : Brc → Bool) (hp : ∀ x ∈ xs,PureC Tryz.prog g (.agg (cBrc x) :: caps) (.bool (p x))) :
  PureC Tryz.prog 61 [.lst 4 (xs.map cBrc),.fn g caps] (.int .i64 (Ay p xs 0)) := by
 simp only [cBrc] at hp
 refine A8 (fn := Tryz.f61) tabOK (by kernel_rfl) rfl (by kernel_rfl) (by simp [Tryz.f61]) (by simp [noids,noid,noidss,go_sem,hcp]) (by first | rfl | simp [noids,noid,noidss,go_sem,hcp]) ?_
 intro X hX0 hXs
 repeat' (first | with_reducible (first | (refine sk ?_; intro K hK) | apply_assumption -exfalso -symm only [*]) | ((with_reducible refine rg (h := ?_)); try simp (disch := omega) only [go_sem,simprocAttr]) | fail)
 refine Av tabOK xs.length (fun k f H => f 0 = .lst 4 (xs.map cBrc) ∧ f 1 = .fn g caps ∧ H = none0 ∧ Ay p xs 0 = Ay p (xs.drop k) k) hx (by rw [hXs]; decide) (by decide) (by simp only [go_sem,simprocAttr]) (by simp only [go_sem,simprocAttr]) ⟨by simp only [go_sem,simprocAttr],by simp only [go_sem,simprocAttr],rfl,by simp⟩ ?_ ?_
 ·rintro k f H hk h8 h7 ⟨h0,h1,rfl,hr⟩
  obtain ⟨x,hx⟩ : ∃ x,xs[k]? = some x := ⟨_,List.getElem?_eq_getElem hk⟩
  repeat' (first | with_reducible (first | (refine sk ?_; intro K hK) | apply_assumption -exfalso -symm only [*]) | ((first | (with_reducible first | refine rg (h := ?_) | refine nx ?_) | refine pK (hp x (List.mem_of_getElem? hx)) ?_); try simp (disch := omega) only [h0,h1,h8,h7,hx,cBrc,go_sem,simprocAttr]) | ((with_reducible refine' cE ?hv ?_ ?_); (case hv => rfl); all_goals (intro hc)) | ((with_reducible refine fe ?_); refine ⟨_,(by simp only [Tryz.f61,h0,h1,h8,h7,hx,cBrc,go_sem,simprocAttr]; rfl),?_⟩; (try simp only [h0,h1,h8,h7,hx,cBrc,go_sem,simprocAttr,seval])) | fail)
  ·rw [hr,Am hx]; simp [Ay,hc]
  ·rw [hr,Am hx]; simp [Ay,hc]
 ·rintro f H h8 h7 ⟨h0,h1,rfl,hr⟩
  repeat' (first | with_reducible (first | (refine sk ?_; intro K hK) | apply_assumption -exfalso -symm only [*]) | ((with_reducible first | refine rg (h := ?_) | refine nx ?_); try simp (disch := omega) only [go_sem,simprocAttr]) | ((with_reducible refine fe ?_); refine ⟨_,(by simp only [Tryz.f61,go_sem,simprocAttr]; rfl),?_⟩; (try simp only [go_sem,simprocAttr,seval])) | fail)
  rw [hr]; simp [Ay]
theorem R6 (b : Brc) : PureC Tryz.prog 62 [.agg (cBrc b)] (.bool (!p2 b)) := by
 refine A8 (fn := Tryz.f62) tabOK (by kernel_rfl) rfl (by kernel_rfl) (by simp [Tryz.f62]) (by simp [noids,noid,noidss,go_sem,cBrc]) (by first | rfl | simp [noids,noid,noidss,go_sem,cBrc]) ?_
 intro X hX0 hXs
 repeat' (first | with_reducible (first | (refine sk ?_; intro K hK) | apply_assumption -exfalso -symm only [*]) | ((with_reducible first | refine rg (h := ?_) | refine nx ?_); try simp (disch := omega) only [cBrc,go_sem,simprocAttr]) | ((with_reducible refine fe ?_); refine ⟨_,(by simp only [Tryz.f62,cBrc,go_sem,simprocAttr]; rfl),?_⟩; (try simp only [cBrc,go_sem,simprocAttr,seval])) | fail)
 simp [p2]
def Px (r : RunT) (u : RulesT) (t : Int) : Val :=
 if AV r u = 0 then (if 0 ≤ t ∧ t ≤ r.rows.length then .tup [.int .u8 (Dg (D8 r u) t).1,.int .i64 (Dg (D8 r u) t).2,.int .i64 0] else .tup [.int .u8 0,.int .i64 0,.int .i64 2]) else .tup [.int .u8 0,.int .i64 0,.int .i64 (AV r u)]
theorem TY (r : RunT) (u : RulesT) (hb : RunB r) (hu : RulesB u) (t : Int) : PureC Tryz.prog 25 [A9 r,A1 u,.int .i64 t] (Px r u t) := by
 by_cases hc0 : AV r u = 0
 ·obtain ⟨h1,h2⟩ := VW hc0
  have hF := Ew h1
  have hrl := hF.rows
  rw [Px,if_pos hc0]
  by_cases ht : 0 ≤ t ∧ t ≤ r.rows.length
  ·rw [if_pos ht]
   obtain ⟨l,hl⟩ : ∃ l,D8 r u = l := ⟨_,rfl⟩
   have hlk := Rb r hF u (MF h2)
   have hll : l.length ≤ 1000 := by
    have := FZ (u := u) hF r.rows.length
    have : (D8 r u).length ≤ 11 * r.rows.length := this
    rw [← hl]; omega
   rw [hl] at hlk ⊢
   have hix := MX l (by omega) 62 [] rfl (fun b => !p2 b) (fun b _ => R6 b)
   rw [KG] at hix
   have hfl : (l.takeWhile p2).length = Kv l := rfl
   rw [hfl] at hix
   by_cases hk : Kv l < l.length
   ·rw [if_pos hk,Int.zero_add] at hix
    obtain ⟨b,hbk⟩ : ∃ b,l[Kv l]? = some b := ⟨_,List.getElem?_eq_getElem hk⟩
    by_cases hbm : b.m ≤ t
    ·have hs : Dg l t = (0,b.m) := by unfold Dg; rw [hbk]; simp only; rw [if_pos hbm]
     rw [hs]
     refine A8 (fn := Tryz.f25) tabOK (by kernel_rfl) rfl (by kernel_rfl) (by simp [Tryz.f25]) (by simp [noids,noid,noidss,go_sem,A9,A7,A1,A5]) (by first | rfl | simp [noids,noid,noidss,go_sem,A9,A7,A1,A5]) ?_
     intro X hX0 hXs
     repeat' (first | with_reducible (first | (refine sk ?_; intro K hK) | apply_assumption -exfalso -symm only [*]) | ((first | (with_reducible first | refine rg (h := ?_) | refine nx ?_) | refine pK (CI r u hb hu) ?_ | refine pK (Ge _ _ _) ?_ | refine pK (hlk) ?_ | refine pK (hix) ?_); try simp (disch := omega) only [A9,A7,A1,A5,hc0,ht.1,ht.2,hbk,hbm,cBrc,go_sem,simprocAttr]) | ((with_reducible refine' cE ?hv ?_ ?_); (case hv => rfl); all_goals (intro hc; (try simp only [go_sem,simprocAttr] at hc))) | ((with_reducible refine fe ?_); refine ⟨_,(by simp only [Tryz.f25,A9,A7,A1,A5,hc0,ht.1,ht.2,hbk,hbm,cBrc,go_sem,simprocAttr]; rfl),?_⟩; rfl) | fail)
    ·have hs : Dg l t = AP l t := by unfold Dg; rw [hbk]; simp only; rw [if_neg hbm]
     rw [hs]
     obtain ⟨a,hak⟩ : ∃ a,l[0]? = some a := ⟨_,List.getElem?_eq_getElem (by omega)⟩
     have hpos : (0 : Int) < (l.length : Int) := by omega
     by_cases ham : a.m ≤ t
     ·have hf : AP l t = (1,a.m) := by unfold AP; rw [hak]; simp only; rw [if_pos ham]
      rw [hf]
      refine A8 (fn := Tryz.f25) tabOK (by kernel_rfl) rfl (by kernel_rfl) (by simp [Tryz.f25]) (by simp [noids,noid,noidss,go_sem,A9,A7,A1,A5]) (by first | rfl | simp [noids,noid,noidss,go_sem,A9,A7,A1,A5]) ?_
      intro X hX0 hXs
      repeat' (first | with_reducible (first | (refine sk ?_; intro K hK) | apply_assumption -exfalso -symm only [*]) | ((first | (with_reducible first | refine rg (h := ?_) | refine nx ?_) | refine pK (CI r u hb hu) ?_ | refine pK (Ge _ _ _) ?_ | refine pK (hlk) ?_ | refine pK (hix) ?_); try simp (disch := omega) only [A9,A7,A1,A5,hc0,ht.1,ht.2,hbk,hbm,hak,ham,hpos,cBrc,go_sem,simprocAttr]) | ((with_reducible refine' cE ?hv ?_ ?_); (case hv => rfl); all_goals (intro hc; (try simp only [go_sem,simprocAttr] at hc))) | ((with_reducible refine fe ?_); refine ⟨_,(by simp only [Tryz.f25,A9,A7,A1,A5,hc0,ht.1,ht.2,hbk,hbm,hak,ham,hpos,cBrc,go_sem,simprocAttr]; rfl),?_⟩; rfl) | fail)
     ·have hf : AP l t = (2,0) := by unfold AP; rw [hak]; simp only; rw [if_neg ham]
      rw [hf]
      refine A8 (fn := Tryz.f25) tabOK (by kernel_rfl) rfl (by kernel_rfl) (by simp [Tryz.f25]) (by simp [noids,noid,noidss,go_sem,A9,A7,A1,A5]) (by first | rfl | simp [noids,noid,noidss,go_sem,A9,A7,A1,A5]) ?_
      intro X hX0 hXs
      repeat' (first | with_reducible (first | (refine sk ?_; intro K hK) | apply_assumption -exfalso -symm only [*]) | ((first | (with_reducible first | refine rg (h := ?_) | refine nx ?_) | refine pK (CI r u hb hu) ?_ | refine pK (Ge _ _ _) ?_ | refine pK (hlk) ?_ | refine pK (hix) ?_); try simp (disch := omega) only [A9,A7,A1,A5,hc0,ht.1,ht.2,hbk,hbm,hak,ham,hpos,cBrc,go_sem,simprocAttr]) | ((with_reducible refine' cE ?hv ?_ ?_); (case hv => rfl); all_goals (intro hc; (try simp only [go_sem,simprocAttr] at hc))) | ((with_reducible refine fe ?_); refine ⟨_,(by simp only [Tryz.f25,A9,A7,A1,A5,hc0,ht.1,ht.2,hbk,hbm,hak,ham,hpos,cBrc,go_sem,simprocAttr]; rfl),?_⟩; rfl) | fail)
   ·rw [if_neg hk] at hix
    have hs : Dg l t = AP l t := by unfold Dg; rw [List.getElem?_eq_none (by omega)]
    rw [hs]
    by_cases hpos : (0 : Int) < (l.length : Int)
    ·obtain ⟨a,hak⟩ : ∃ a,l[0]? = some a := ⟨_,List.getElem?_eq_getElem (by omega)⟩
     by_cases ham : a.m ≤ t
     ·have hf : AP l t = (1,a.m) := by unfold AP; rw [hak]; simp only; rw [if_pos ham]
      rw [hf]
      refine A8 (fn := Tryz.f25) tabOK (by kernel_rfl) rfl (by kernel_rfl) (by simp [Tryz.f25]) (by simp [noids,noid,noidss,go_sem,A9,A7,A1,A5]) (by first | rfl | simp [noids,noid,noidss,go_sem,A9,A7,A1,A5]) ?_
      intro X hX0 hXs
      repeat' (first | with_reducible (first | (refine sk ?_; intro K hK) | apply_assumption -exfalso -symm only [*]) | ((first | (with_reducible first | refine rg (h := ?_) | refine nx ?_) | refine pK (CI r u hb hu) ?_ | refine pK (Ge _ _ _) ?_ | refine pK (hlk) ?_ | refine pK (hix) ?_); try simp (disch := omega) only [A9,A7,A1,A5,hc0,ht.1,ht.2,hak,ham,hpos,cBrc,go_sem,simprocAttr]) | ((with_reducible refine' cE ?hv ?_ ?_); (case hv => rfl); all_goals (intro hc; (try simp only [go_sem,simprocAttr] at hc))) | ((with_reducible refine fe ?_); refine ⟨_,(by simp only [Tryz.f25,A9,A7,A1,A5,hc0,ht.1,ht.2,hak,ham,hpos,cBrc,go_sem,simprocAttr]; rfl),?_⟩; rfl) | fail)
     ·have hf : AP l t = (2,0) := by unfold AP; rw [hak]; simp only; rw [if_neg ham]
      rw [hf]
      refine A8 (fn := Tryz.f25) tabOK (by kernel_rfl) rfl (by kernel_rfl) (by simp [Tryz.f25]) (by simp [noids,noid,noidss,go_sem,A9,A7,A1,A5]) (by first | rfl | simp [noids,noid,noidss,go_sem,A9,A7,A1,A5]) ?_
      intro X hX0 hXs
      repeat' (first | with_reducible (first | (refine sk ?_; intro K hK) | apply_assumption -exfalso -symm only [*]) | ((first | (with_reducible first | refine rg (h := ?_) | refine nx ?_) | refine pK (CI r u hb hu) ?_ | refine pK (Ge _ _ _) ?_ | refine pK (hlk) ?_ | refine pK (hix) ?_); try simp (disch := omega) only [A9,A7,A1,A5,hc0,ht.1,ht.2,hak,ham,hpos,cBrc,go_sem,simprocAttr]) | ((with_reducible refine' cE ?hv ?_ ?_); (case hv => rfl); all_goals (intro hc; (try simp only [go_sem,simprocAttr] at hc))) | ((with_reducible refine fe ?_); refine ⟨_,(by simp only [Tryz.f25,A9,A7,A1,A5,hc0,ht.1,ht.2,hak,ham,hpos,cBrc,go_sem,simprocAttr]; rfl),?_⟩; rfl) | fail)
    ·have hf : AP l t = (2,0) := by unfold AP; rw [List.getElem?_eq_none (by omega)]
     rw [hf]
     refine A8 (fn := Tryz.f25) tabOK (by kernel_rfl) rfl (by kernel_rfl) (by simp [Tryz.f25]) (by simp [noids,noid,noidss,go_sem,A9,A7,A1,A5]) (by first | rfl | simp [noids,noid,noidss,go_sem,A9,A7,A1,A5]) ?_
     intro X hX0 hXs
     repeat' (first | with_reducible (first | (refine sk ?_; intro K hK) | apply_assumption -exfalso -symm only [*]) | ((first | (with_reducible first | refine rg (h := ?_) | refine nx ?_) | refine pK (CI r u hb hu) ?_ | refine pK (Ge _ _ _) ?_ | refine pK (hlk) ?_ | refine pK (hix) ?_); try simp (disch := omega) only [A9,A7,A1,A5,hc0,ht.1,ht.2,hpos,cBrc,go_sem,simprocAttr]) | ((with_reducible refine' cE ?hv ?_ ?_); (case hv => rfl); all_goals (intro hc; (try simp only [go_sem,simprocAttr] at hc))) | ((with_reducible refine fe ?_); refine ⟨_,(by simp only [Tryz.f25,A9,A7,A1,A5,hc0,ht.1,ht.2,hpos,cBrc,go_sem,simprocAttr]; rfl),?_⟩; rfl) | fail)
  ·rw [if_neg ht]
   refine A8 (fn := Tryz.f25) tabOK (by kernel_rfl) rfl (by kernel_rfl) (by simp [Tryz.f25]) (by simp [noids,noid,noidss,go_sem,A9,A7,A1,A5]) (by first | rfl | simp [noids,noid,noidss,go_sem,A9,A7,A1,A5]) ?_
   intro X hX0 hXs
   repeat' (first | with_reducible (first | (refine sk ?_; intro K hK) | apply_assumption -exfalso -symm only [*]) | ((first | (with_reducible first | refine rg (h := ?_) | refine nx ?_) | refine pK (CI r u hb hu) ?_ | refine pK (Ge _ _ _) ?_); try simp (disch := omega) only [A9,A7,A1,A5,hc0,go_sem,simprocAttr]) | ((with_reducible refine' cE ?hv ?_ ?_); (case hv => rfl); all_goals (intro hc; (try simp only [go_sem,simprocAttr] at hc); try (exfalso; omega))) | ((with_reducible refine fe ?_); refine ⟨_,(by simp only [Tryz.f25,A9,A7,A1,A5,hc0,go_sem,simprocAttr]; rfl),?_⟩; rfl) | fail)
 ·rw [Px,if_neg hc0]
  refine A8 (fn := Tryz.f25) tabOK (by kernel_rfl) rfl (by kernel_rfl) (by simp [Tryz.f25]) (by simp [noids,noid,noidss,go_sem,A9,A7,A1,A5]) (by first | rfl | simp [noids,noid,noidss,go_sem,A9,A7,A1,A5]) ?_
  intro X hX0 hXs
  repeat' (first | with_reducible (first | (refine sk ?_; intro K hK) | apply_assumption -exfalso -symm only [*]) | ((first | (with_reducible first | refine rg (h := ?_) | refine nx ?_) | refine pK (CI r u hb hu) ?_); try simp (disch := omega) only [A9,A7,A1,A5,hc0,go_sem,simprocAttr]) | ((with_reducible refine' cE ?hv ?_ ?_); (case hv => rfl); all_goals (intro hc; (try simp only [go_sem,simprocAttr] at hc))) | ((with_reducible refine fe ?_); refine ⟨_,(by simp only [Tryz.f25,A9,A7,A1,A5,hc0,go_sem,simprocAttr]; rfl),?_⟩; rfl) | fail)
end Cp
namespace Cp
open Go Go.Proofs
set_option maxRecDepth 10000
set_option maxHeartbeats 1000000
theorem Qc (H : Hp) : frzH (frzH H) = frzH H := by
 funext k
 unfold frzH
 cases H k with
 | none => rfl
 | some p => obtain ⟨e,o⟩ := p; cases o <;> rfl
theorem LookC.frz {P : Program} {fid : FuncId} {args : List Val} {H : Hp} {v : Val} (h : LookC P fid args H v) : LookC P fid args (frzH H) v :=
 ⟨h.1,h.2.1,fun G w xs hR hv => h.2.2 G w xs (by rw [Qc] at hR; exact hR) hv⟩
theorem classes_ok : PureC Tryz.prog 41 [] (.lst 1 (Cv clsL)) := by
 refine A8 (fn := Tryz.f41) tabOK (by kernel_rfl) rfl (by kernel_rfl) (by simp [Tryz.f41]) (by simp [noids,noid,noidss,go_sem,clsL,Cv]) (by first | rfl | simp [noids,noid,noidss,go_sem,clsL,Cv]) ?_
 intro X hX0 hXs
 repeat' (first | with_reducible (first | (refine sk ?_; intro K hK) | apply_assumption -exfalso -symm only [*]) | ((with_reducible first | refine rg (h := ?_) | refine nx ?_); try simp (disch := omega) only [clsL,Cv,go_sem,simprocAttr]) | ((with_reducible refine fe ?_); refine ⟨_,(by simp only [Tryz.f41,clsL,Cv,go_sem,simprocAttr]; rfl),?_⟩; rfl) | fail)
theorem PL {l : List Int} {k : Nat} {x : Int} (h : l[k]? = some x) : (Cv l)[k]? = some [.int .i64 x] := by rw [Cv,List.getElem?_map,h]; rfl
def tw (p : Int → Bool) (l : List Int) : Bool := !(l.takeWhile p).isEmpty
theorem gc {p : Int → Bool} {x : Int} {l : List Int} (h : p x = true) : tw p (x :: l) = true := by simp [tw,List.takeWhile_cons,h]
theorem dX {p : Int → Bool} {x : Int} {l : List Int} (h : p x = false) : tw p (x :: l) = false := by simp [tw,List.takeWhile_cons,h]
theorem Gn (xs : List Int) (hx : xs.length ≤ 1000) (g : FuncId) (caps : List Val) (p : Int → Bool) (H : Hp) (hp : ∀ x ∈ xs,LookC Tryz.prog g (.int .i64 x :: caps) H (.bool (p x))) :
  LookC Tryz.prog 40 [.lst 1 (Cv xs),.fn g caps] H (.tup [.int .i64 (grt p xs 0),.bool (tw p xs)]) := by
 refine Dw (fn := Tryz.f40) tabOK (by kernel_rfl) rfl (by kernel_rfl) (by simp [Tryz.f40]) rfl ?_
 intro X hX0 hXs
 have hil : (Cv xs).length = xs.length := by simp [Cv]
 repeat' (first | with_reducible (first | (refine sk ?_; intro K hK) | apply_assumption -exfalso -symm only [*]) | ((with_reducible refine rgL [] [18] (h := ?_)); try simp (disch := omega) only [hil,go_sem,simprocAttr]) | fail)
 refine Av tabOK xs.length (fun k f H1 => (f 1 = .fn g caps ∧ f 10 = .lst 1 (Cv xs) ∧ H1 = frzH H) ∧ ∃ b fd,f 6 = .int .i64 b ∧ f 7 = .bool fd ∧ grt p xs 0 = grt p (xs.drop k) b ∧ tw p xs = (fd || tw p (xs.drop k))) (by omega) (by rw [hXs]; decide) (by decide) (by (first | rfl | (simp only [go_sem,simprocAttr]; done) | (simp only [go_sem,simprocAttr]; rfl))) (by (first | rfl | (simp only [hil,go_sem,simprocAttr]; done) | (simp only [hil,go_sem,simprocAttr]; rfl)))
  ⟨⟨by (first | rfl | (simp only [go_sem,simprocAttr]; done) | (simp only [go_sem,simprocAttr]; rfl)),by (first | rfl | (simp only [go_sem,simprocAttr]; done) | (simp only [go_sem,simprocAttr]; rfl)),rfl⟩,0,false,by (first | rfl | (simp only [go_sem,simprocAttr]; done) | (simp only [go_sem,simprocAttr]; rfl)),by (first | rfl | (simp only [go_sem,simprocAttr]; done) | (simp only [go_sem,simprocAttr]; rfl)),rfl,rfl⟩ ?_ ?_
 ·rintro k f H1 hk h12 h11 ⟨⟨h1,h10,rfl⟩,b,fd,h6,h7,hg,hf⟩
  obtain ⟨x,hx⟩ : ∃ x,xs[k]? = some x := ⟨_,List.getElem?_eq_getElem hk⟩
  have hxa := PL hx
  have hpx := (hp x (List.mem_of_getElem? hx)).frz
  rw [Am hx] at hg hf
  simp only [grt] at hg
  cases hb : p x with
  | true =>
   rw [hb] at hpx hg
   rw [gc hb] at hf
   simp only [if_true,Bool.or_true] at hg hf
   repeat' (first | with_reducible (first | (refine sk ?_; intro K hK) | apply_assumption -exfalso -symm only [*]) | ((first | (with_reducible first | refine rgL [] [18] (h := ?_) | refine nx ?_) | refine lK (hpx) ?_); try simp (disch := omega) only [h1,h6,h7,h10,h11,h12,hxa,go_sem,simprocAttr]) | ((with_reducible refine' cE ?hv ?_ ?_); (case hv => rfl); all_goals (intro hc; (try simp only [go_sem,simprocAttr] at hc))) | fail)
   exact ⟨x,true,rfl,rfl,hg,by rw [hf]; rfl⟩
  | false =>
   rw [hb] at hpx hg
   rw [dX hb] at hf
   simp only [Bool.false_eq_true,if_false,Bool.or_false] at hg hf
   repeat' (first | with_reducible (first | (refine sk ?_; intro K hK) | apply_assumption -exfalso -symm only [*]) | ((first | (with_reducible first | refine rgL [] [18] (h := ?_) | refine nx ?_) | refine lK (hpx) ?_); try simp (disch := omega) only [h1,h6,h7,h10,h11,h12,hxa,go_sem,simprocAttr]) | ((with_reducible refine' cE ?hv ?_ ?_); (case hv => rfl); all_goals (intro hc; (try simp only [go_sem,simprocAttr] at hc))) | ((with_reducible refine fe ?_); refine ⟨_,(by simp only [Tryz.f40,h1,h6,h7,h10,h11,h12,hxa,go_sem,simprocAttr]; rfl),?_⟩; (try simp only [h1,h6,h7,h10,h11,h12,hxa,go_sem,simprocAttr,seval])) | fail)
   rw [hg,hf]; exact ⟨rfl,rfl⟩
 ·rintro f H1 h12 h11 ⟨⟨h1,h10,rfl⟩,b,fd,h6,h7,hg,hf⟩
  rw [Bg (Nat.le_refl _)] at hg hf
  have e0 : tw p [] = false := rfl
  rw [e0] at hf
  simp only [grt,Bool.or_false] at hg hf
  repeat' (first | with_reducible (first | (refine sk ?_; intro K hK) | apply_assumption -exfalso -symm only [*]) | ((with_reducible first | refine rgL [] [18] (h := ?_) | refine nx ?_); try simp (disch := omega) only [h6,h7,go_sem,simprocAttr]) | ((with_reducible refine fe ?_); refine ⟨_,(by simp only [Tryz.f40,h6,h7,go_sem,simprocAttr]; rfl),?_⟩; (try simp only [h6,h7,go_sem,simprocAttr,seval])) | fail)
  rw [hg,hf]; exact ⟨rfl,rfl⟩
theorem Ee (t : TestT) (hF : TestF t) (hb : TestB t) (c : Int) (hc : 1 ≤ c ∧ c ≤ 60) (eb em ver : Nat) (m : List SeenT) (H : Hp) (hL : D9 t eb em ver m H) :
  LookC Tryz.prog 43 [.ptr 2204 eb 24 0 0,.int .i64 c] H (.int .u8 (AR t c)) := by
 have h4 := Es hL.1
 have hk := TY t.run t.rules hb.run hb.rules c
 have hrl := hF.rows
 refine Dw (fn := Tryz.f43) tabOK (by kernel_rfl) rfl (by kernel_rfl) (by simp [Tryz.f43]) rfl ?_
 intro X hX0 hXs
 unfold AR
 by_cases hlt : (t.run.rows.length : Int) < c
 ·rw [if_pos hlt]
  repeat' (first | with_reducible (first | (refine sk ?_; intro K hK) | apply_assumption -exfalso -symm only [*]) | ((with_reducible first | refine rg (md := { base := 2900,own := [] }) (h := ?_) | refine nx ?_); try simp (disch := omega) only [h4,Au,A2,hlt,go_sem,simprocAttr]) | ((with_reducible refine' cE ?hv ?_ ?_); (case hv => rfl); all_goals (intro hc; (try simp only [go_sem,simprocAttr] at hc))) | ((with_reducible refine fe ?_); refine ⟨_,(by simp only [Tryz.f43,h4,Au,A2,hlt,go_sem,simprocAttr]; rfl),?_⟩; rfl) | fail)
 ·rw [if_neg hlt]
  rw [Px,if_pos hF.check,if_pos (by omega)] at hk
  simp only [A9,A7,A1,A5] at hk
  repeat' (first | with_reducible (first | (refine sk ?_; intro K hK) | apply_assumption -exfalso -symm only [*]) | ((first | (with_reducible first | refine rg (md := { base := 2900,own := [] }) (h := ?_) | refine nx ?_) | refine pK (hk) ?_); try simp (disch := omega) only [h4,Au,A2,hlt,A9,A7,A1,A5,go_sem,simprocAttr]) | ((with_reducible refine' cE ?hv ?_ ?_); (case hv => rfl); all_goals (intro hc; (try simp only [go_sem,simprocAttr] at hc))) | ((with_reducible refine fe ?_); refine ⟨_,(by simp only [Tryz.f43,h4,Au,A2,hlt,A9,A7,A1,A5,go_sem,simprocAttr]; rfl),?_⟩; rfl) | fail)
theorem FF {t : TestT} {c : Int} : 0 ≤ AR t c ∧ AR t c ≤ 2 := by
 have := EW (t := t) (Int.le_refl c); omega
theorem OA (t : TestT) (hF : TestF t) (hb : TestB t) (F : FailT) (c : Int) (hc : 1 ≤ c ∧ c ≤ 60) (eb em ver : Nat) (m : List SeenT) (H : Hp) (hL : D9 t eb em ver m H) (kf ef : Nat) (hf : H kf = some (ef,.arr 3 [Ag F])) :
  LookC Tryz.prog 67 [.int .i64 c,.ptr kf ef 3 0 0,.pim [.ptr 2204 eb 24 0 0]] H (.bool (Ek t F c)) := by
 refine Dw (fn := Tryz.f67) tabOK (by kernel_rfl) rfl (by kernel_rfl) (by simp [Tryz.f67]) rfl ?_
 unfold Ek
 have h4 := Es hL.1
 have h5 := Es hf
 have hkn := (Ee t hF hb c hc eb em ver m H hL).frz
 have hfin := hF.fin
 have hck := hF.clock
 have hkb := @FF t c
 intro X hX0 hXs
 generalize AR t c = kn at *
 simp only [Au,A2,Ag] at h4 h5
 by_cases h2 : F.held = 2
 ·by_cases h3 : 60 * c ≤ t.fin - t.clock.hi
  ·repeat' (first | with_reducible (first | (refine sk ?_; intro K hK) | apply_assumption -exfalso -symm only [*]) | ((first | (with_reducible first | refine rgL [] [36] (md := { base := 2950,own := [] }) (h := ?_) | refine nx ?_) | refine lK (hkn) ?_); try simp (disch := omega) only [h4,h5,h2,h3,go_sem,simprocAttr]) | ((with_reducible refine fe ?_); refine ⟨_,(by simp only [Tryz.f67,h4,h5,h2,h3,go_sem,simprocAttr]; rfl),?_⟩; rfl) | fail)
  ·repeat' (first | with_reducible (first | (refine sk ?_; intro K hK) | apply_assumption -exfalso -symm only [*]) | ((with_reducible first | refine rgL [] [36] (md := { base := 2950,own := [] }) (h := ?_) | refine nx ?_); try simp (disch := omega) only [h4,h5,h2,h3,go_sem,simprocAttr]) | ((with_reducible refine fe ?_); refine ⟨_,(by simp only [Tryz.f67,h4,h5,h2,h3,go_sem,simprocAttr]; rfl),?_⟩; rfl) | fail)
 ·by_cases hlo : 60 * c < F.at1.lo
  ·by_cases h3 : 60 * c ≤ t.fin - t.clock.hi
   ·repeat' (first | with_reducible (first | (refine sk ?_; intro K hK) | apply_assumption -exfalso -symm only [*]) | ((first | (with_reducible first | refine rgL [] [36] (md := { base := 2950,own := [] }) (h := ?_) | refine nx ?_) | refine lK (hkn) ?_); try simp (disch := omega) only [h4,h5,h2,hlo,h3,go_sem,simprocAttr]) | ((with_reducible refine fe ?_); refine ⟨_,(by simp only [Tryz.f67,h4,h5,h2,hlo,h3,go_sem,simprocAttr]; rfl),?_⟩; rfl) | fail)
   ·repeat' (first | with_reducible (first | (refine sk ?_; intro K hK) | apply_assumption -exfalso -symm only [*]) | ((with_reducible first | refine rgL [] [36] (md := { base := 2950,own := [] }) (h := ?_) | refine nx ?_); try simp (disch := omega) only [h4,h5,h2,hlo,h3,go_sem,simprocAttr]) | ((with_reducible refine fe ?_); refine ⟨_,(by simp only [Tryz.f67,h4,h5,h2,hlo,h3,go_sem,simprocAttr]; rfl),?_⟩; rfl) | fail)
  ·repeat' (first | with_reducible (first | (refine sk ?_; intro K hK) | apply_assumption -exfalso -symm only [*]) | ((with_reducible first | refine rgL [] [36] (md := { base := 2950,own := [] }) (h := ?_) | refine nx ?_); try simp (disch := omega) only [h4,h5,h2,hlo,go_sem,simprocAttr]) | ((with_reducible refine fe ?_); refine ⟨_,(by simp only [Tryz.f67,h4,h5,h2,hlo,go_sem,simprocAttr]; rfl),?_⟩; rfl) | fail)
theorem My (t : TestT) (hF : TestF t) (hb : TestB t) (F : FailT) (c : Int) (hc : 1 ≤ c ∧ c ≤ 60) (eb em ver : Nat) (m : List SeenT) (H : Hp) (hL : D9 t eb em ver m H) (kf ef : Nat) (hf : H kf = some (ef,.arr 3 [Ag F])) (kx ex : Nat) (hx : H kx = some (ex,.arr 1 [[.ptr 2204 eb 24 0 0]])) :
  LookC Tryz.prog 42 [.int .i64 c,.ptr kf ef 3 0 0,.ptr kx ex 1 0 0] H (.bool (Gi t F c)) := by
 refine Dw (fn := Tryz.f42) tabOK (by kernel_rfl) rfl (by kernel_rfl) (by simp [Tryz.f42]) rfl ?_
 unfold Gi
 have h6 := Es hx
 have h4 := Es hL.1
 have h5 := Es hf
 have hkn := (Ee t hF hb c hc eb em ver m H hL).frz
 have hfin := hF.fin
 have hck := hF.clock
 have hkb := @FF t c
 intro X hX0 hXs
 generalize AR t c = kn at *
 simp only [Au,A2,Ag] at h4 h5
 by_cases h2 : F.held = 0
 ·by_cases hlo : 60 * c < F.at1.hi
  ·by_cases h3 : 60 * c ≤ t.fin - t.clock.lo
   ·repeat' (first | with_reducible (first | (refine sk ?_; intro K hK) | apply_assumption -exfalso -symm only [*]) | ((first | (with_reducible first | refine rgL [] [36] (md := { base := 2950,own := [] }) (h := ?_) | refine nx ?_) | refine lK (hkn) ?_); try simp (disch := omega) only [h4,h5,h6,h2,hlo,h3,go_sem,simprocAttr]) | ((with_reducible refine fe ?_); refine ⟨_,(by simp only [Tryz.f42,h4,h5,h6,h2,hlo,h3,go_sem,simprocAttr]; rfl),?_⟩; rfl) | fail)
   ·repeat' (first | with_reducible (first | (refine sk ?_; intro K hK) | apply_assumption -exfalso -symm only [*]) | ((with_reducible first | refine rgL [] [36] (md := { base := 2950,own := [] }) (h := ?_) | refine nx ?_); try simp (disch := omega) only [h4,h5,h6,h2,hlo,h3,go_sem,simprocAttr]) | ((with_reducible refine fe ?_); refine ⟨_,(by simp only [Tryz.f42,h4,h5,h6,h2,hlo,h3,go_sem,simprocAttr]; rfl),?_⟩; rfl) | fail)
  ·repeat' (first | with_reducible (first | (refine sk ?_; intro K hK) | apply_assumption -exfalso -symm only [*]) | ((with_reducible first | refine rgL [] [36] (md := { base := 2950,own := [] }) (h := ?_) | refine nx ?_); try simp (disch := omega) only [h4,h5,h6,h2,hlo,go_sem,simprocAttr]) | ((with_reducible refine fe ?_); refine ⟨_,(by simp only [Tryz.f42,h4,h5,h6,h2,hlo,go_sem,simprocAttr]; rfl),?_⟩; rfl) | fail)
 ·by_cases h3 : 60 * c ≤ t.fin - t.clock.lo
  ·repeat' (first | with_reducible (first | (refine sk ?_; intro K hK) | apply_assumption -exfalso -symm only [*]) | ((first | (with_reducible first | refine rgL [] [36] (md := { base := 2950,own := [] }) (h := ?_) | refine nx ?_) | refine lK (hkn) ?_); try simp (disch := omega) only [h4,h5,h6,h2,h3,go_sem,simprocAttr]) | ((with_reducible refine fe ?_); refine ⟨_,(by simp only [Tryz.f42,h4,h5,h6,h2,h3,go_sem,simprocAttr]; rfl),?_⟩; rfl) | fail)
  ·repeat' (first | with_reducible (first | (refine sk ?_; intro K hK) | apply_assumption -exfalso -symm only [*]) | ((with_reducible first | refine rgL [] [36] (md := { base := 2950,own := [] }) (h := ?_) | refine nx ?_); try simp (disch := omega) only [h4,h5,h6,h2,h3,go_sem,simprocAttr]) | ((with_reducible refine fe ?_); refine ⟨_,(by simp only [Tryz.f42,h4,h5,h6,h2,h3,go_sem,simprocAttr]; rfl),?_⟩; rfl) | fail)
end Cp
namespace Cp
open Go
def Cd (s : Int) : Int := (clsL.find? fun c => decide (s < c)).getD 0
def Kf (t : TestT) (next : Int) (c : Nat) : Bool := !decide ((Ah t c).held = 2) && decide ((Ah t c).at1.lo ≤ 60 * next)
def BM (t : TestT) (next : Int) (n : Nat) : List Int := ((List.range n).filter (Kf t next)).map fun c => ((c + 1 : Nat) : Int)
def JX (t : TestT) (next : Int) : List Int := if t.fin - t.clock.hi < 60 * next then [7] else []
def Sj (t : TestT) (next : Int) : List Int := if AR t next = 2 then [] else [8]
def II (t : TestT) (l : Nat) : List Int := if Cd (BB t l) = 0 then [] else BM t (Cd (BB t l)) (2 * l) ++ JX t (Cd (BB t l)) ++ Sj t (Cd (BB t l))
theorem Nw {t : TestT} {next : Int} {n : Nat} : BM t next (n + 1) = BM t next n ++ (if Kf t next n = true then [((n + 1 : Nat) : Int)] else []) := by
 unfold BM
 rw [List.range_succ,List.filter_append,List.map_append]
 by_cases h : Kf t next n = true <;> simp [h]
theorem Kz {t : TestT} {next : Int} {n : Nat} : (BM t next n).length ≤ n := by
 unfold BM
 rw [List.length_map]
 have := List.length_filter_le (Kf t next) (List.range n)
 rwa [List.length_range] at this
theorem NK (s : Int) : (Cd s = 0 ∧ ∀ c ∈ clsL,c ≤ s) ∨ (Cd s ∈ clsL ∧ s < Cd s ∧ ∀ c ∈ clsL,s < c → Cd s ≤ c) := by
 have gen : ∀ (l : List Int),l.Pairwise (· ≤ ·) → ((l.find? fun c => decide (s < c)) = none ∧ ∀ c ∈ l,c ≤ s) ∨ ∃ x,(l.find? fun c => decide (s < c)) = some x ∧ x ∈ l ∧ s < x ∧ ∀ c ∈ l,s < c → x ≤ c := by
  intro l
  induction l with
  | nil => intro _; exact .inl ⟨rfl,by simp⟩
  | cons a l ih =>
   intro hs
   obtain ⟨s1,s2⟩ := List.pairwise_cons.1 hs
   rw [List.find?_cons]
   by_cases h : s < a
   ·rw [decide_eq_true h]
    refine .inr ⟨a,rfl,by simp,h,fun c hc _ => ?_⟩
    rcases List.mem_cons.1 hc with rfl | hc
    ·exact Int.le_refl _
    ·exact s1 c hc
   ·rw [decide_eq_false h]
    rcases ih s2 with ⟨q1,q2⟩ | ⟨x,q1,q2,q3,q4⟩
    ·refine .inl ⟨q1,fun c hc => ?_⟩
     rcases List.mem_cons.1 hc with rfl | hc
     ·omega
     ·exact q2 c hc
    ·refine .inr ⟨x,q1,by simp [q2],q3,fun c hc hlt => ?_⟩
     rcases List.mem_cons.1 hc with rfl | hc
     ·exact absurd hlt h
     ·exact q4 c hc hlt
 unfold Cd
 rcases gen clsL clsL_up with ⟨q1,q2⟩ | ⟨x,q1,q2⟩
 ·rw [q1]; exact .inl ⟨rfl,q2⟩
 ·rw [q1]; exact .inr q2
theorem QF (s : Int) : Cd s = 0 ∧ Ay (fun c => decide (s < c)) clsL 0 = -1 ∨ ∃ k : Nat,k < 7 ∧ Ay (fun c => decide (s < c)) clsL 0 = (k : Int) ∧ clsL[k]? = some (Cd s) ∧ Cd s ≠ 0 := by
 unfold Cd clsL
 simp only [Ay,List.find?]
 by_cases h5 : s < 5
 ·exact .inr ⟨0,by decide,by simp [h5],by simp [h5],by simp [h5]⟩
 by_cases h10 : s < 10
 ·exact .inr ⟨1,by decide,by simp [h5,h10],by simp [h5,h10],by simp [h5,h10]⟩
 by_cases h15 : s < 15
 ·exact .inr ⟨2,by decide,by simp [h5,h10,h15],by simp [h5,h10,h15],by simp [h5,h10,h15]⟩
 by_cases h20 : s < 20
 ·exact .inr ⟨3,by decide,by simp [h5,h10,h15,h20],by simp [h5,h10,h15,h20],by simp [h5,h10,h15,h20]⟩
 by_cases h30 : s < 30
 ·exact .inr ⟨4,by decide,by simp [h5,h10,h15,h20,h30],by simp [h5,h10,h15,h20,h30],by simp [h5,h10,h15,h20,h30]⟩
 by_cases h45 : s < 45
 ·exact .inr ⟨5,by decide,by simp [h5,h10,h15,h20,h30,h45],by simp [h5,h10,h15,h20,h30,h45],by simp [h5,h10,h15,h20,h30,h45]⟩
 by_cases h60 : s < 60
 ·exact .inr ⟨6,by decide,by simp [h5,h10,h15,h20,h30,h45,h60],by simp [h5,h10,h15,h20,h30,h45,h60],by simp [h5,h10,h15,h20,h30,h45,h60]⟩
 exact .inl ⟨by simp [h5,h10,h15,h20,h30,h45,h60],by simp [h5,h10,h15,h20,h30,h45,h60]⟩
end Cp
namespace Cp
open Go Go.Proofs
set_option maxRecDepth 10000
set_option maxHeartbeats 1000000
theorem NB {F : FailT} (h : F.held = 0 ∨ F.held = 1 ∨ F = ⟨2,⟨0,0⟩⟩) : ∃ ty v fid,Bu F = .iface ty v ∧ O2 Tryz.prog ty "cottonpad/class.told" fid ∧ PureC Tryz.prog fid [v] (Ac F) := by
 rcases h with h | h | rfl
 ·refine ⟨_,_,_,if_neg (by omega),meth_b,?_⟩
  have := FJ F.at1.lo F.at1.hi (decide (F.held = 0))
  simp only [h,decide_true,if_true] at this ⊢
  obtain ⟨a,b,c⟩ := F
  simp only at h; subst h
  exact this
 ·refine ⟨_,_,_,if_neg (by omega),meth_b,?_⟩
  have := FJ F.at1.lo F.at1.hi (decide (F.held = 0))
  obtain ⟨a,b,c⟩ := F
  simp only at h; subst h
  simpa using this
 ·exact ⟨_,_,_,if_pos rfl,meth_k,ktold_ok⟩
theorem S8 {c : Int} (h : c ∈ clsL) : 1 ≤ c ∧ c ≤ 60 := by have := Fs h; omega
theorem NC (t : TestT) (hF : TestF t) (hb : TestB t) (l : Nat) (hl : 1 ≤ l ∧ l ≤ 3) (eb em ver : Nat) (m : List SeenT) (hS : SeenM t 6 m) (H0 : Hp) (hL : D9 t eb em ver m H0) :
  BD Tryz.prog 44 [.ptr 2204 eb 24 0 0,.int .u8 (l : Int)] H0 fun v H' => v = .int .i64 (BB t l) ∧ ∀ j,j < 2440 → H' j = H0 j := by
 refine BN (fn := Tryz.f44) tabOK (by kernel_rfl) rfl (by kernel_rfl) (by simp [Tryz.f44]) ?_
 intro X hX0 hXs
 obtain ⟨ty,fv,fid,he,hm,hp⟩ := NB (Dt (AB t (2 * l)))
 have hle : Aa t l = Ev (AB t (2 * l)) := rfl
 rw [← hle] at he hp
 have hsu : BB t l = grt (Ek t (Aa t l)) clsL 0 := rfl
 rw [hsu]
 have cl := IW t hF.ok hF.rows.2 l hl eb em ver m hS
 generalize Aa t l = F at *
 refine Aw 2445 fun H1 g5 hs1 => ?_
 have hL1 : D9 t eb em ver m H1 := ⟨(hs1 2204 (by decide)).trans hL.1,(hs1 2202 (by decide)).trans hL.2⟩
 have hlo1 : ∃ _ : Unit,∀ j,j < 2440 → H1 j = H0 j := ⟨(),fun j hj => hs1 j (by omega)⟩
 clear hs1 hL hle hsu
 repeat' (first | with_reducible (first | (refine sk ?_; intro K hK) | apply_assumption -exfalso -symm only [*]) | ((with_reducible first | refine F3 (id := 1) tabOK { base := 2440,own := [],imp := [10] } [] [15] (by rw [hXs]; decide +kernel) ?_ | refine rgL [] [15] (md := { base := 2440,own := [],imp := [10] }) (h := ?_)); try simp (disch := omega) only [go_sem,simprocAttr]) | fail)
 refine iK (cl _ hL1) ?_
 rintro v H3 ⟨rfl,hlo⟩
 have g5' := (hlo 2445 (by decide)).trans g5
 have hL3 : D9 t eb em ver m H3 := ⟨(hlo 2204 (by decide)).trans hL1.1,(hlo 2202 (by decide)).trans hL1.2⟩
 have hlo3 : ∃ _ : Unit,∀ j,j < 2440 → H3 j = H0 j := by obtain ⟨_,h⟩ := hlo1; exact ⟨(),fun j hj => (hlo j (by omega)).trans (h j hj)⟩
 clear hlo hlo1 cl hL1 g5
 rw [he]
 simp only [go_sem,simprocAttr]
 refine ⟨_,hm,pK hp ?_⟩
 simp only [go_sem,simprocAttr,Ac,Ag,g5']
 repeat' (first | with_reducible (first | (refine sk ?_; intro K hK) | intro (ep : Nat → Nat) | apply_assumption -exfalso -symm only [*]) | ((first | (with_reducible refine rgL [] [15] (md := { base := 2440,own := [],imp := [10] }) (h := ?_)) | refine pK (classes_ok) ?_); try simp (disch := omega) only [Ac,Ag,g5',go_sem,simprocAttr]) | fail)
 refine lK (Gn clsL (by decide) _ _ (Ek t F) _ fun x hx => OA t hF hb F x (S8 hx) eb em ver m _ ⟨?_,?_⟩ _ _ ?_) ?_
 ·exact (A0 _ _ (by decide)).trans hL3.1
 ·exact (A0 _ _ (by decide)).trans hL3.2
 ·exact A4 _ _ _
 simp only [go_sem,simprocAttr]
 repeat' (first | with_reducible (first | (refine sk ?_; intro K hK) | apply_assumption -exfalso -symm only [*]) | ((with_reducible first | refine rgL [] [15] (md := { base := 2440,own := [],imp := [10] }) (h := ?_) | refine nx ?_); try simp (disch := omega) only [go_sem,simprocAttr]) | fail)
 refine AM (Or.inl rfl) (.refl _) (by simp only [Tryz.f44,go_sem,simprocAttr]; rfl) ?_
 obtain ⟨_,hlo3⟩ := hlo3
 exact ⟨rfl,fun j hj => by first | exact hlo3 j hj | (simp only [upd]; (repeat rw [if_neg (by omega)]); exact hlo3 j hj)⟩
end Cp
namespace Cp
open Go Go.Proofs
set_option maxRecDepth 10000
set_option maxHeartbeats 1000000
def Eh (t : TestT) (l : Int) : Val := if Ap t = 0 then (if 1 ≤ l ∧ l ≤ 3 then .tup [A6 ⟨BB t l.toNat,IK t l.toNat⟩,.int .i64 0] else .tup [A6 ⟨0,0⟩,.int .i64 2]) else .tup [A6 ⟨0,0⟩,.int .i64 (Ap t)]
theorem Ly (t : TestT) (hb : TestB t) (l : Int) (hl : 0 ≤ l ∧ l ≤ 255) : PureC Tryz.prog 14 [A3 t,.int .u8 l] (Eh t l) := by
 have hnv : noid (Eh t l) = true := by unfold Eh; (repeat' split) <;> rfl
 have ho := FE t hb l hl
 simp only [A3,A2] at ho
 refine A8 (fn := Tryz.f14) tabOK (by kernel_rfl) rfl (by kernel_rfl) (by simp [Tryz.f14]) (by simp [noids,noid,noidss,go_sem,A3,A2,hnv]) (by first | rfl | simp [noids,noid,noidss,go_sem,A3,A2,hnv]) ?_
 intro X hX0 hXs
 unfold Eh at hnv ⊢
 by_cases h : Ap t = 0
 ·rw [if_pos h] at hnv ⊢
  have hF := Rs h
  by_cases hcr : 1 ≤ l ∧ l ≤ 3
  ·rw [if_pos hcr] at hnv ⊢
   obtain ⟨k,rfl⟩ : ∃ k : Nat,l = (k : Int) := ⟨l.toNat,by omega⟩
   have hk3 : 1 ≤ k ∧ k ≤ 3 := by omega
   rw [Int.toNat_natCast] at hnv ⊢
   obtain ⟨ty,fv,fid,he,hm,hp⟩ := NB (Dt (AB t (2 * k)))
   have hle : Aa t k = Ev (AB t (2 * k)) := rfl
   rw [← hle] at he hp
   have hsu : IK t k = grt (Gi t (Aa t k)) clsL 0 := rfl
   rw [hsu] at hnv ⊢
   have cs := fun eb em ver m hS H h => NC t hF hb k hk3 eb em ver m hS H h
   generalize BB t k = sr at *
   have cl := fun eb em ver m hS H h => IW t hF.ok hF.rows.2 k hk3 eb em ver m hS H h
   generalize Aa t k = F at *
   clear hsu hle
   repeat' (first | with_reducible (first | (refine sk ?_; intro K hK) | intro (ep : Nat → Nat) | apply_assumption -exfalso -symm only [*]) | ((with_reducible refine rgL [] [28] (md := { base := 0,own := [4],imp := [14,23,33] }) (h := ?_)); try simp (disch := omega) only [A3,A2,go_sem,simprocAttr]) | fail)
   refine iK (ho _) ?_
   rintro v H2 ⟨hlow,hv⟩
   rw [if_pos h,if_pos hcr] at hv
   obtain ⟨eb,em,ver,m,rfl,hTL,hS⟩ := hv
   have H24 := hlow 4 (by decide)
   have H26 := hlow 6 (by decide)
   have H28 := hlow 8 (by decide)
   clear hlow
   simp only [go_sem,simprocAttr] at H24 H26 H28
   simp only [go_sem,simprocAttr,H26]
   repeat' (first | with_reducible (first | (refine sk ?_; intro K hK) | intro (ep : Nat → Nat) | apply_assumption -exfalso -symm only [*]) | ((with_reducible first | refine F3 (id := 4) tabOK { base := 0,own := [4],imp := [14,23,33] } [] [28] (by rw [hXs]; decide +kernel) ?_ | refine rgL [] [28] (md := { base := 0,own := [4],imp := [14,23,33] }) (h := ?_) | refine nx ?_); try simp (disch := omega) only [H24,H26,go_sem,simprocAttr]) | ((with_reducible refine' cE ?hv ?_ ?_); (case hv => rfl); all_goals (intro hc; (try simp only [go_sem,simprocAttr] at hc))) | fail)
   refine iK (cl eb em ver m hS _ ⟨(A0 _ _ (by decide)).trans hTL.1,(A0 _ _ (by decide)).trans hTL.2⟩) ?_
   rintro v H3 ⟨rfl,hlo⟩
   have H34 := hlo 4 (by decide)
   have H36 := hlo 6 (by decide)
   have H38 := hlo 8 (by decide)
   have hTL3 : D9 t eb em ver m H3 := ⟨(hlo 2204 (by decide)).trans ((A0 _ _ (by decide)).trans hTL.1),(hlo 2202 (by decide)).trans ((A0 _ _ (by decide)).trans hTL.2)⟩
   clear hlo
   simp only [go_sem,simprocAttr,H24,H28] at H34 H36 H38
   rw [he]
   simp only [go_sem,simprocAttr]
   refine ⟨_,hm,pK hp ?_⟩
   simp only [go_sem,simprocAttr,Ac,Ag,H38]
   repeat' (first | with_reducible (first | (refine sk ?_; intro K hK) | intro (ep : Nat → Nat) | apply_assumption -exfalso -symm only [*]) | ((first | (with_reducible refine rgL [] [28] (md := { base := 0,own := [4],imp := [14,23,33] }) (h := ?_)) | refine pK (classes_ok) ?_); try simp (disch := omega) only [Ac,Ag,H34,H36,H38,go_sem,simprocAttr]) | fail)
   refine lK (Gn clsL (by decide) _ _ (Gi t F) _ fun x hx => My t hF hb F x (S8 hx) eb em ver m _ ⟨?_,?_⟩ _ _ ?_ _ _ ?_) ?_
   ·exact (A0 _ _ (by decide)).trans hTL3.1
   ·exact (A0 _ _ (by decide)).trans hTL3.2
   ·exact A4 _ _ _
   ·exact (A0 _ _ (by decide)).trans H36
   simp only [go_sem,simprocAttr]
   repeat' (first | with_reducible (first | (refine sk ?_; intro K hK) | apply_assumption -exfalso -symm only [*]) | ((with_reducible refine rgL [] [28] (md := { base := 0,own := [4],imp := [14,23,33] }) (h := ?_)); try simp (disch := omega) only [H34,H36,H38,go_sem,simprocAttr]) | fail)
   refine iK (cs eb em ver m hS _ ⟨(A0 _ _ (by decide)).trans hTL3.1,(A0 _ _ (by decide)).trans hTL3.2⟩) ?_
   rintro v H5 ⟨rfl,hlo⟩
   have H54 := hlo 4 (by decide)
   simp only [go_sem,simprocAttr,H34] at H54
   clear hlo
   simp only [go_sem,simprocAttr,H54]
   repeat' (first | with_reducible apply_assumption -exfalso -symm only [*] | ((with_reducible refine nx ?_); try simp (disch := omega) only [A6,H54,go_sem,simprocAttr]) | ((with_reducible refine fe ?_); refine ⟨_,(by simp only [Tryz.f14,A6,H54,go_sem,simprocAttr]; rfl),?_⟩; rfl) | fail)
  ·rw [if_neg hcr] at hnv ⊢
   repeat' (first | with_reducible (first | (refine sk ?_; intro K hK) | intro (ep : Nat → Nat) | apply_assumption -exfalso -symm only [*]) | ((with_reducible refine rgL [] [28] (md := { base := 0,own := [4],imp := [14,23,33] }) (h := ?_)); try simp (disch := omega) only [A3,A2,go_sem,simprocAttr]) | fail)
   refine iK (ho _) ?_
   rintro v H2 ⟨hlow,hv⟩
   rw [if_pos h,if_neg hcr] at hv
   subst hv
   have H24 := hlow 4 (by decide)
   have H26 := hlow 6 (by decide)
   simp only [go_sem,simprocAttr] at H24 H26
   simp only [go_sem,simprocAttr,H26]
   repeat' (first | with_reducible (first | (refine sk ?_; intro K hK) | intro (ep : Nat → Nat) | apply_assumption -exfalso -symm only [*]) | ((with_reducible first | refine rgL [] [28] (md := { base := 0,own := [4],imp := [14,23,33] }) (h := ?_) | refine nx ?_); try simp (disch := omega) only [h,H24,H26,A6,go_sem,simprocAttr]) | ((with_reducible refine' cE ?hv ?_ ?_); (case hv => rfl); all_goals (intro hc; (try simp only [go_sem,simprocAttr] at hc))) | ((with_reducible refine fe ?_); refine ⟨_,(by simp only [Tryz.f14,h,H24,H26,A6,go_sem,simprocAttr]; rfl),?_⟩; rfl) | fail)
 ·rw [if_neg h] at hnv ⊢
  repeat' (first | with_reducible (first | (refine sk ?_; intro K hK) | intro (ep : Nat → Nat) | apply_assumption -exfalso -symm only [*]) | ((with_reducible refine rgL [] [28] (md := { base := 0,own := [4],imp := [14,23,33] }) (h := ?_)); try simp (disch := omega) only [A3,A2,go_sem,simprocAttr]) | fail)
  refine iK (ho _) ?_
  rintro v H2 ⟨hlow,hv⟩
  rw [if_neg h] at hv
  subst hv
  have H24 := hlow 4 (by decide)
  have H26 := hlow 6 (by decide)
  simp only [go_sem,simprocAttr] at H24 H26
  simp only [go_sem,simprocAttr,H26]
  repeat' (first | with_reducible (first | (refine sk ?_; intro K hK) | intro (ep : Nat → Nat) | apply_assumption -exfalso -symm only [*]) | ((with_reducible first | refine rgL [] [28] (md := { base := 0,own := [4],imp := [14,23,33] }) (h := ?_) | refine nx ?_); try simp (disch := omega) only [h,H24,H26,A6,go_sem,simprocAttr]) | ((with_reducible refine' cE ?hv ?_ ?_); (case hv => rfl); all_goals (intro hc; (try simp only [go_sem,simprocAttr] at hc))) | ((with_reducible refine fe ?_); refine ⟨_,(by simp only [Tryz.f14,h,H24,H26,A6,go_sem,simprocAttr]; rfl),?_⟩; rfl) | fail)
end Cp
namespace Cp
open Go
section
variable {P : Program} {T : Tab} {md : Me} {os : List Oper} {K : Fr → Hp → Prop} {f : Fr} {H : Hp} {d : Option Tmp} {ty : TypeId} {pos : String} {af : Array Edge} {g : Option (Nat × Bool)} {ss lk : List Nat}
@[go_sem] theorem QN {t u : TypeId} {x : Operand} {c : Bool} : Ak P T md os ss lk { dst := d,op := .typeAssert x t u c,type := ty,pos := pos,after := af,guard := g } K f H = Bo P T md os { dst := d,op := .typeAssert x t u c,type := ty,pos := pos,after := af,guard := g } K f H :=
 propext ⟨fun h => h.2,fun h => ⟨trivial,h⟩⟩
@[go_sem] theorem Oj {t : TypeId} {x : Operand} : Ak P T md os ss lk { dst := d,op := .makeInterface t x,type := ty,pos := pos,after := af,guard := g } K f H = Bo P T md os { dst := d,op := .makeInterface t x,type := ty,pos := pos,after := af,guard := g } K f H :=
 propext ⟨fun h => h.2,fun h => ⟨trivial,h⟩⟩
end
section
variable {P : Program} {ro : Option Nat} {X : Cx} {Q : Exit → Fr → Hp → Prop} {f : Fr} {H : Hp} {c : Code}
theorem MP (k' t : Nat) {k sz : Nat} {L : List (List Val)} (h : LstC k sz L (f t) H) (hk' : H k' = none) (hne : k ≠ k')
  (hc : ∀ f' H',LstC k' sz L (f' t) H' → (∀ j,¬ j = t → f' j = f j) → (∀ j,¬ j = k → ¬ j = k' → H' j = H j) → AW P ro X c Q f' H') : AW P ro X c Q f H := by
 rcases h with ⟨rfl,h⟩ | ⟨h0,ea,h,hk⟩
 ·exact hc f H (.inl ⟨rfl,h⟩) (fun _ _ => rfl) fun _ _ _ => rfl
 ·refine RA k k' t h hk hk' hne fun e' => ?_
  exact hc _ _ (.inr ⟨h0,e',A4 _ _ _,A4 _ _ _⟩) (fun j hj => A0 _ _ hj) fun j hj hj' => (A0 _ _ hj').trans (A0 _ _ hj)
end
end Cp
namespace Cp
open Go Go.Proofs
set_option maxRecDepth 10000
set_option maxHeartbeats 1000000
def c8 (m : Int) : List Val := [.int .u8 m]
@[go_sem] theorem dc {l : List Int} : noidss (l.map c8) = true := Bl fun _ => rfl
@[go_sem] theorem gz {H : Hp} {n : Nat} {l : List Int} : ((l.map c8).map fun es => es.map (fzd H (n + 1))) = l.map c8 := CF (fun _ => rfl) l
def IR (t : TestT) (l : Int) : Val := if Ap t = 0 then (if 1 ≤ l ∧ l ≤ 3 then .tup [.lst 1 ((II t l.toNat).map c8),.int .i64 0] else .tup [.lst 1 [],.int .i64 2]) else .tup [.lst 1 [],.int .i64 (Ap t)]
theorem Qp (s c : Int) : PureC Tryz.prog 49 [.int .i64 c,.pim [.int .i64 s]] (.bool (decide (s < c))) := by
 refine A8 (fn := Tryz.f49) tabOK (by kernel_rfl) rfl (by kernel_rfl) (by simp [Tryz.f49]) (by simp [noids,noid,noidss,go_sem]) (by first | rfl | simp [noids,noid,noidss,go_sem]) ?_
 intro X hX0 hXs
 repeat' (first | with_reducible (first | (refine sk ?_; intro K hK) | apply_assumption -exfalso -symm only [*]) | ((with_reducible first | refine rg (h := ?_) | refine nx ?_); try simp (disch := omega) only [go_sem,simprocAttr]) | ((with_reducible refine fe ?_); refine ⟨_,(by simp only [Tryz.f49,go_sem,simprocAttr]; rfl),?_⟩; rfl) | fail)
theorem MU {t : TestT} {l : Nat} (h : Cd (BB t l) ≠ 0) : II t l = BM t (Cd (BB t l)) (2 * l) ++ JX t (Cd (BB t l)) ++ Sj t (Cd (BB t l)) := by
 unfold II; rw [if_neg h]
theorem NH {t : TestT} {l : Nat} (h : Cd (BB t l) = 0) : II t l = [] := by
 unfold II; rw [if_pos h]
theorem Qy {s : Int} (h : Cd s ≠ 0) : 1 ≤ Cd s ∧ Cd s ≤ 60 := by
 rcases NK s with ⟨q,_⟩ | ⟨q,_⟩
 ·exact absurd q h
 ·exact S8 q
theorem QK (t : TestT) (hb : TestB t) (l : Int) (hl : 0 ≤ l ∧ l ≤ 255) : PureC Tryz.prog 16 [A3 t,.int .u8 l] (IR t l) := by
 have ho := FE t hb l hl
 simp only [A3,A2] at ho
 unfold IR
 by_cases h : Ap t = 0
 ·rw [if_pos h]
  have hF := Rs h
  by_cases hcr : 1 ≤ l ∧ l ≤ 3
  ·rw [if_pos hcr]
   obtain ⟨k,rfl⟩ : ∃ k : Nat,l = (k : Int) := ⟨l.toNat,by omega⟩
   have hk3 : 1 ≤ k ∧ k ≤ 3 := by omega
   rw [Int.toNat_natCast]
   have cs := fun eb em ver m hS H h => NC t hF hb k hk3 eb em ver m hS H h
   have hix := QF (BB t k)
   have hnn := @NH t k
   have hns := @MU t k
   have hnb := @Qy (BB t k)
   generalize II t k = st at *
   generalize BB t k = sr at *
   have h2k : (2 : Int) * (k : Int) = ((2 * k : Nat) : Int) := by omega
   have ci := J8 clsL (by decide) 49 [.pim [.int .i64 sr]] rfl (fun c => decide (sr < c)) (fun c _ => Qp sr c)
   rcases hix with ⟨hn0,hi⟩ | ⟨j,hj,hi,hjx,hn0⟩
   ·rw [hnn hn0]
    rw [hi] at ci
    refine PureC.weak (v := .tup [.nils,.int .i64 0]) ?_ rfl fun G w x h => h.tup_nils
    refine A8 (fn := Tryz.f16) tabOK (by kernel_rfl) rfl (by kernel_rfl) (by simp [Tryz.f16]) (by simp [noids,noid,noidss,go_sem,A3,A2]) (by first | rfl | simp [noids,noid,noidss,go_sem,A3,A2]) ?_
    intro X hX0 hXs
    repeat' (first | with_reducible (first | (refine sk ?_; intro K hK) | apply_assumption -exfalso -symm only [*]) | ((with_reducible refine rgL [] [47,87] (md := { base := 0,own := [65,84,91],imp := [18,26] }) (h := ?_)); try simp (disch := omega) only [A3,A2,go_sem,simprocAttr]) | fail)
    refine iK (ho _) ?_
    rintro v H2 ⟨hlow,hv⟩
    rw [if_pos h,if_pos hcr] at hv
    obtain ⟨eb,em,ver,m,rfl,hTL,hS⟩ := hv
    have H28 := hlow 8 (by decide)
    clear hlow
    simp only [go_sem,simprocAttr] at H28 ⊢
    repeat' (first | with_reducible (first | (refine sk ?_; intro K hK) | apply_assumption -exfalso -symm only [*]) | ((with_reducible first | refine rgL [] [47,87] (md := { base := 0,own := [65,84,91],imp := [18,26] }) (h := ?_) | refine nx ?_); try simp (disch := omega) only [go_sem,simprocAttr]) | ((with_reducible refine' cE ?hv ?_ ?_); (case hv => rfl); all_goals (intro hc; (try simp only [go_sem,simprocAttr] at hc))) | fail)
    refine iK (cs eb em ver m hS _ hTL) ?_
    rintro v H3 ⟨rfl,hlo⟩
    have H38 := hlo 8 (by decide)
    clear hlo
    simp only [go_sem,simprocAttr,H28] at H38
    simp only [go_sem,simprocAttr,H38]
    repeat' (first | with_reducible (first | intro (ep : Nat → Nat) | apply_assumption -exfalso -symm only [*]) | fail)
    refine Er 8 (by (first | rfl | (simp only [go_sem,simprocAttr]; done) | (simp only [go_sem,simprocAttr]; rfl))) ?_
    refine EV 8 8 (v := .pim [.int .i64 sr]) (by (first | rfl | (simp only [go_sem,simprocAttr]; done) | (simp only [go_sem,simprocAttr]; rfl))) ?_
    repeat' (first | with_reducible (first | (refine sk ?_; intro K hK) | apply_assumption -exfalso -symm only [*]) | ((first | (with_reducible first | refine rgL [] [47,87] (md := { base := 0,own := [65,84,91],imp := [18,26] }) (h := ?_) | refine nx ?_) | refine pK (classes_ok) ?_ | refine pK (ci) ?_); try simp (disch := omega) only [go_sem,simprocAttr]) | ((with_reducible refine' cE ?hv ?_ ?_); (case hv => rfl); all_goals (intro hc; (try simp only [go_sem,simprocAttr] at hc))) | ((with_reducible refine fe ?_); refine ⟨_,(by simp only [Tryz.f16,go_sem,simprocAttr]; rfl),?_⟩; rfl) | fail)
   ·have hns' := hns hn0
    have hnb' := hnb hn0
    have hja := PL hjx
    rw [hi] at ci
    generalize Cd sr = nx' at *
    have hcl := @Kz t nx' (2 * k)
    clear hnn hns hnb hjx
    refine A8 (fn := Tryz.f16) tabOK (by kernel_rfl) rfl (by kernel_rfl) (by simp [Tryz.f16]) (by simp [noids,noid,noidss,go_sem,A3,A2]) (by first | rfl | simp [noids,noid,noidss,go_sem,A3,A2]) ?_
    intro X hX0 hXs
    repeat' (first | with_reducible (first | (refine sk ?_; intro K hK) | apply_assumption -exfalso -symm only [*]) | ((with_reducible refine rgL [] [47,87] (md := { base := 0,own := [65,84,91],imp := [18,26] }) (h := ?_)); try simp (disch := omega) only [A3,A2,go_sem,simprocAttr]) | fail)
    refine iK (ho _) ?_
    rintro v H2 ⟨hlow,hv⟩
    rw [if_pos h,if_pos hcr] at hv
    obtain ⟨eb,em,ver,m,rfl,hTL,hS⟩ := hv
    have H28 := hlow 8 (by decide)
    clear hlow
    simp only [go_sem,simprocAttr] at H28 ⊢
    repeat' (first | with_reducible (first | (refine sk ?_; intro K hK) | apply_assumption -exfalso -symm only [*]) | ((with_reducible first | refine rgL [] [47,87] (md := { base := 0,own := [65,84,91],imp := [18,26] }) (h := ?_) | refine nx ?_); try simp (disch := omega) only [go_sem,simprocAttr]) | ((with_reducible refine' cE ?hv ?_ ?_); (case hv => rfl); all_goals (intro hc; (try simp only [go_sem,simprocAttr] at hc))) | fail)
    refine iK (cs eb em ver m hS _ hTL) ?_
    rintro v H3 ⟨rfl,hlo⟩
    have H38 := hlo 8 (by decide)
    have hTL3 : D9 t eb em ver m H3 := ⟨(hlo 2204 (by decide)).trans hTL.1,(hlo 2202 (by decide)).trans hTL.2⟩
    clear hlo hTL
    simp only [go_sem,simprocAttr,H28] at H38
    simp only [go_sem,simprocAttr,H38]
    repeat' (first | with_reducible (first | intro (ep : Nat → Nat) | apply_assumption -exfalso -symm only [*]) | fail)
    refine Er 8 (by (first | rfl | (simp only [go_sem,simprocAttr]; done) | (simp only [go_sem,simprocAttr]; rfl))) ?_
    refine EV 8 8 (v := .pim [.int .i64 sr]) (by (first | rfl | (simp only [go_sem,simprocAttr]; done) | (simp only [go_sem,simprocAttr]; rfl))) ?_
    refine Bn [2204,2202] ?_
    generalize hHq : (BQ _ _ : Hp) = H4
    have hTL4 : D9 t eb em ver m H4 := ⟨by rw [← hHq]; exact hTL3.1,by rw [← hHq]; exact hTL3.2⟩
    clear hHq hTL3 H38 H28
    repeat' (first | with_reducible (first | ((fail_if_success (refine Di (id := 10) ?_)); refine sk ?_; intro K hK) | apply_assumption -exfalso -symm only [*]) | ((first | (with_reducible first | refine rgL [] [47,87] (md := { base := 0,own := [65,84,91],imp := [18,26] }) (h := ?_) | refine nx ?_) | refine pK (classes_ok) ?_ | refine pK (ci) ?_); try simp (disch := omega) only [hja,go_sem,simprocAttr]) | ((with_reducible refine' cE ?hv ?_ ?_); (case hv => rfl); all_goals (intro hc; (try simp only [go_sem,simprocAttr] at hc); try (exfalso; omega))) | fail)
    have hfin := hF.fin
    have hck := hF.clock
    have hcut : ∀ f H,(f 6 = .ptr 2204 eb 24 0 0 ∧ f 10 = .int .i64 nx') ∧ D9 t eb em ver m H ∧ LstC 65 1 ((BM t nx' (2 * k)).map c8) (f 11) H → K f H := by
     rintro f H ⟨⟨h6,h10⟩,hT,hL⟩
     refine hK f H ?_
     clear hK hTL4 ci hja hc
     refine Bn [65,2204,2202] ?_
     have k84 : BQ H [65,2204,2202] 84 = none := rfl
     have kT : D9 t eb em ver m (BQ H [65,2204,2202]) := ⟨hT.1,hT.2⟩
     have kL : LstC 65 1 ((BM t nx' (2 * k)).map c8) (f 11) (BQ H [65,2204,2202]) := hL.same rfl
     generalize BQ H [65,2204,2202] = H5 at *
     clear hT hL
     refine MP 84 11 kL k84 (by decide) fun f6 H6 hL6 hf6 hH6 => ?_
     have g6 := (hf6 6 (by decide)).trans h6
     have g10 := (hf6 10 (by decide)).trans h10
     have hT6 : D9 t eb em ver m H6 := ⟨(hH6 2204 (by decide) (by decide)).trans kT.1,(hH6 2202 (by decide) (by decide)).trans kT.2⟩
     clear hf6 hH6 kL kT k84 h6 h10
     repeat' (first | with_reducible ((fail_if_success (refine Di (id := 17) ?_)); refine sk ?_; intro K hK) | fail)
     have hcut2 : ∀ f H,(f 6 = .ptr 2204 eb 24 0 0 ∧ f 10 = .int .i64 nx') ∧ D9 t eb em ver m H ∧ LstC 84 1 ((BM t nx' (2 * k) ++ JX t nx').map c8) (f 11) H → K f H := by
      clear g6 g10 hT6 hL6
      rintro f H ⟨⟨h6,h10⟩,hT,hL⟩
      refine hK f H ?_
      clear hK
      have hel : (JX t nx').length ≤ 1 := by unfold JX; split <;> simp
      refine Bn [84,2204,2202] ?_
      have k91 : BQ H [84,2204,2202] 91 = none := rfl
      have kT : D9 t eb em ver m (BQ H [84,2204,2202]) := ⟨hT.1,hT.2⟩
      have kL : LstC 84 1 ((BM t nx' (2 * k) ++ JX t nx').map c8) (f 11) (BQ H [84,2204,2202]) := hL.same rfl
      generalize BQ H [84,2204,2202] = H5 at *
      clear hT hL
      refine MP 91 11 kL k91 (by decide) fun f6 H6 hL6 hf6 hH6 => ?_
      have g6 := (hf6 6 (by decide)).trans h6
      have g10 := (hf6 10 (by decide)).trans h10
      have hT6 : D9 t eb em ver m H6 := ⟨(hH6 2204 (by decide) (by decide)).trans kT.1,(hH6 2202 (by decide) (by decide)).trans kT.2⟩
      clear hf6 hH6 kL kT k91 h6 h10
      have hfu := Ee t hF hb nx' hnb' eb em ver m
      have hkb := @FF t nx'
      have hfl : Sj t nx' = if AR t nx' = 2 then [] else [8] := rfl
      generalize AR t nx' = kn at *
      repeat' (first | with_reducible ((fail_if_success (refine Di (id := 19) ?_)); refine sk ?_; intro K hK) | fail)
      have hcut3 : ∀ f H,LstC 91 1 (st.map c8) (f 11) H → K f H := by
       clear g6 g10 hT6 hL6 hfu
       intro f H hL
       refine hK f H ?_
       clear hK
       have hz : ∀ H : Hp,((st.map c8).map fun es => es.map (fzd H 5)) = st.map c8 := fun H => CF (fun _ => rfl) _
       refine LI (t := 11) hz hL fun f2 H2 h3 hf2 hH2 => ?_
       clear hf2 hH2 hL hz
       repeat' (first | with_reducible (first | (refine sk ?_; intro K hK) | apply_assumption -exfalso -symm only [*]) | ((with_reducible first | refine rgL [] [47,87] (md := { base := 0,own := [65,84,91],imp := [18,26] }) (h := ?_) | refine nx ?_); try simp (disch := omega) only [h3,go_sem,simprocAttr]) | ((with_reducible refine fe ?_); refine ⟨_,(by simp only [Tryz.f16,h3,go_sem,simprocAttr]; rfl),?_⟩; (try simp only [h3,go_sem,simprocAttr,seval])) | fail)
      clear hK
      have hcutE : ∃ _ : Unit,_ := ⟨(),hcut3⟩
      clear hcut3
      by_cases hk2 : kn = 2
      ·rw [if_pos hk2] at hfl
       have hst : st = BM t nx' (2 * k) ++ JX t nx' := by rw [hns',hfl,List.append_nil]
       clear hns'
       repeat' (first | with_reducible (first | (refine sk ?_; intro K hK) | apply_assumption -exfalso -symm only [*]) | ((first | (with_reducible first | refine rgL [] [47,87] (md := { base := 0,own := [65,84,91],imp := [18,26] }) (h := ?_) | refine nx ?_) | refine lK (hfu _ hT6) ?_); try simp (disch := omega) only [g6,g10,hk2,go_sem,simprocAttr]) | ((with_reducible refine' cE ?hv ?_ ?_); (case hv => rfl); all_goals (intro hc; (try simp only [go_sem,simprocAttr] at hc))) | fail)
       obtain ⟨_,hcut3⟩ := hcutE
       refine hcut3 _ _ ?_
       simp only [go_sem,simprocAttr]
       rw [hst]; exact hL6
      ·rw [if_neg hk2] at hfl
       have hst : st = (BM t nx' (2 * k) ++ JX t nx') ++ [8] := by rw [hns',hfl]
       clear hns'
       have hcl2 : (BM t nx' (2 * k) ++ JX t nx').length ≤ 2 * k + 1 := by rw [List.length_append]; omega
       generalize BM t nx' (2 * k) ++ JX t nx' = L at *
       rcases hL6 with ⟨hC,h11⟩ | ⟨hne,ea,h11,k91⟩
       ·refine Aw 91 fun H7 g91 hs3 => ?_
        have hT7 : D9 t eb em ver m H7 := ⟨(hs3 2204 (by decide)).trans hT6.1,(hs3 2202 (by decide)).trans hT6.2⟩
        clear hs3 hT6
        repeat' (first | with_reducible (first | (refine sk ?_; intro K hK) | intro (ep : Nat → Nat) | apply_assumption -exfalso -symm only [*]) | ((first | (with_reducible refine rgL [] [47,87] (md := { base := 0,own := [65,84,91],imp := [18,26] }) (h := ?_)) | refine lK (hfu _ hT7) ?_); try simp (disch := omega) only [g6,g10,h11,g91,hk2,go_sem,simprocAttr]) | ((with_reducible refine' cE ?hv ?_ ?_); (case hv => rfl); all_goals (intro hc; (try simp only [go_sem,simprocAttr] at hc))) | fail)
        obtain ⟨_,hcut3⟩ := hcutE
        refine hcut3 _ _ ?_
        rw [hst,List.map_append,hC]; exact .one (by (first | rfl | (simp only [c8,go_sem,simprocAttr]; done) | (simp only [c8,go_sem,simprocAttr]; rfl)))
       ·rw [List.length_map] at h11
        have hkb2 : L.length ≤ 1073741823 := by omega
        repeat' (first | with_reducible (first | (refine sk ?_; intro K hK) | intro (ep : Nat → Nat) | apply_assumption -exfalso -symm only [*]) | ((first | (with_reducible refine rgL [] [47,87] (md := { base := 0,own := [65,84,91],imp := [18,26] }) (h := ?_)) | refine lK (hfu _ hT6) ?_); try simp (disch := omega) only [g6,g10,h11,k91,hkb2,hk2,go_sem,simprocAttr]) | ((with_reducible refine' cE ?hv ?_ ?_); (case hv => rfl); all_goals (intro hc; (try simp only [go_sem,simprocAttr] at hc))) | fail)
        obtain ⟨_,hcut3⟩ := hcutE
        refine hcut3 _ _ ?_
        rw [hst,List.map_append,List.map_cons,List.map_nil,← List.length_map (f := c8)]; exact .snoc (by (first | rfl | (simp only [c8,go_sem,simprocAttr]; done) | (simp only [c8,go_sem,simprocAttr]; rfl)))
     clear hK
     have hcutE : ∃ _ : Unit,_ := ⟨(),hcut2⟩
     clear hcut2 hns'
     have g4 := hT6.1
     have hel : JX t nx' = if t.fin - t.clock.hi < 60 * nx' then [7] else [] := rfl
     by_cases hlt : t.fin - t.clock.hi < 60 * nx'
     ·rw [if_pos hlt] at hel
      rw [hel] at hcutE
      generalize BM t nx' (2 * k) = L at *
      rcases hL6 with ⟨hC,h11⟩ | ⟨hne,ea,h11,k84⟩
      ·refine Aw 84 fun H7 g84 hs3 => ?_
       have hT7 : D9 t eb em ver m H7 := ⟨(hs3 2204 (by decide)).trans hT6.1,(hs3 2202 (by decide)).trans hT6.2⟩
       have g5 := hT7.1
       clear hs3 hT6 g4
       repeat' (first | with_reducible (first | (refine sk ?_; intro K hK) | intro (ep : Nat → Nat) | apply_assumption -exfalso -symm only [*]) | ((with_reducible refine rgL [] [47,87] (md := { base := 0,own := [65,84,91],imp := [18,26] }) (h := ?_)); try simp (disch := omega) only [g6,g10,g5,h11,g84,hlt,Au,A2,go_sem,simprocAttr]) | ((with_reducible refine' cE ?hv ?_ ?_); (case hv => rfl); all_goals (intro hc; (try simp only [go_sem,simprocAttr] at hc))) | fail)
       obtain ⟨_,hcut2⟩ := hcutE
       refine hcut2 _ _ ⟨by (and_intros <;> first | rfl | (simp only [g6,g10,go_sem,simprocAttr]; done) | (simp only [g6,g10,go_sem,simprocAttr]; rfl)),⟨(A0 _ _ (by decide)).trans hT7.1,(A0 _ _ (by decide)).trans hT7.2⟩,?_⟩
       rw [List.map_append,hC]; exact .one (by (first | rfl | (simp only [c8,go_sem,simprocAttr]; done) | (simp only [c8,go_sem,simprocAttr]; rfl)))
      ·rw [List.length_map] at h11
       have hkb2 : L.length ≤ 1073741823 := by omega
       repeat' (first | with_reducible (first | (refine sk ?_; intro K hK) | intro (ep : Nat → Nat) | apply_assumption -exfalso -symm only [*]) | ((with_reducible refine rgL [] [47,87] (md := { base := 0,own := [65,84,91],imp := [18,26] }) (h := ?_)); try simp (disch := omega) only [g6,g10,g4,h11,k84,hkb2,hlt,Au,A2,go_sem,simprocAttr]) | ((with_reducible refine' cE ?hv ?_ ?_); (case hv => rfl); all_goals (intro hc; (try simp only [go_sem,simprocAttr] at hc))) | fail)
       obtain ⟨_,hcut2⟩ := hcutE
       refine hcut2 _ _ ⟨by (and_intros <;> first | rfl | (simp only [g6,g10,go_sem,simprocAttr]; done) | (simp only [g6,g10,go_sem,simprocAttr]; rfl)),⟨(A0 _ _ (by decide)).trans hT6.1,(A0 _ _ (by decide)).trans hT6.2⟩,?_⟩
       rw [List.map_append,List.map_cons,List.map_nil,← List.length_map (f := c8)]; exact .snoc (by (first | rfl | (simp only [c8,go_sem,simprocAttr]; done) | (simp only [c8,go_sem,simprocAttr]; rfl)))
     ·rw [if_neg hlt] at hel
      rw [hel] at hcutE
      repeat' (first | with_reducible (first | (refine sk ?_; intro K hK) | apply_assumption -exfalso -symm only [*]) | ((with_reducible first | refine rgL [] [47,87] (md := { base := 0,own := [65,84,91],imp := [18,26] }) (h := ?_) | refine nx ?_); try simp (disch := omega) only [g6,g10,g4,hlt,Au,A2,go_sem,simprocAttr]) | ((with_reducible refine' cE ?hv ?_ ?_); (case hv => rfl); all_goals (intro hc; (try simp only [go_sem,simprocAttr] at hc))) | fail)
      obtain ⟨_,hcut2⟩ := hcutE
      refine hcut2 _ _ ⟨by (and_intros <;> first | rfl | (simp only [g6,g10,go_sem,simprocAttr]; done) | (simp only [g6,g10,go_sem,simprocAttr]; rfl)),hT6,?_⟩
      rw [List.append_nil]; simp only [go_sem,simprocAttr]; exact hL6
    clear hK
    have hcutE : ∃ _ : Unit,_ := ⟨(),hcut⟩
    clear hcut
    repeat' (first | with_reducible (first | (refine sk ?_; intro K hK) | apply_assumption -exfalso -symm only [*]) | ((with_reducible refine rgL [] [47,87] (md := { base := 0,own := [65,84,91],imp := [18,26] }) (h := ?_)); try simp (disch := omega) only [h2k,go_sem,simprocAttr]) | fail)
    refine Av tabOK (2 * k) (fun i f H => (f 6 = .ptr 2204 eb 24 0 0 ∧ f 10 = .int .i64 nx') ∧ D9 t eb em ver m H ∧ LstC 65 1 ((BM t nx' i).map c8) (f 11) H) (by omega) (by rw [hXs]; decide) (by decide) (by (first | rfl | (simp only [go_sem,simprocAttr]; done) | (simp only [go_sem,simprocAttr]; rfl))) (by (first | rfl | (simp only [go_sem,simprocAttr]; done) | (simp only [go_sem,simprocAttr]; rfl)))
     ⟨by (and_intros <;> first | rfl | (simp only [go_sem,simprocAttr]; done) | (simp only [go_sem,simprocAttr]; rfl)),hTL4,.inl ⟨rfl,by (first | rfl | (simp only [go_sem,simprocAttr]; done) | (simp only [go_sem,simprocAttr]; rfl))⟩⟩ ?_ ?_
    ·clear hcutE hTL4 ci hja hns'
     rintro i f H hi39 h39 h38 ⟨⟨h6,h10⟩,hT,hL⟩
     have hw : IntKind.u8.wrap ((i + 1 : Nat) : Int) = ((i + 1 : Nat) : Int) := IntWalk.u8_in _ (by omega)
     have hsu := @Nw t nx' i
     have hcl3 := @Kz t nx' i
     have cl := fun H h => E4 t hF.ok hF.rows.2 i (by omega) eb em ver m hS H h
     have hsc : Kf t nx' i = (!decide ((Ah t i).held = 2) && decide ((Ah t i).at1.lo ≤ 60 * nx')) := rfl
     refine Bn [65,2204,2202] ?_
     have k13 : BQ H [65,2204,2202] 13 = none := rfl
     have kT : D9 t eb em ver m (BQ H [65,2204,2202]) := ⟨hT.1,hT.2⟩
     have kL : LstC 65 1 ((BM t nx' i).map c8) (f 11) (BQ H [65,2204,2202]) := hL.same rfl
     generalize BQ H [65,2204,2202] = H5 at *
     clear hT hL
     rw [hsc] at hsu
     rw [hsu]
     clear hsu hsc
     generalize BM t nx' i = L at *
     by_cases hF2 : (Ah t i).held = 2
     ·have he : Bu (Ah t i) = .iface 133 (.agg []) := if_pos hF2
      rw [he] at cl
      simp only [hF2,decide_true,Bool.not_true,Bool.false_and,Bool.false_eq_true,if_false,List.append_nil]
      repeat' (first | with_reducible (first | (refine sk ?_; intro K hK) | intro (ep : Nat → Nat) | apply_assumption -exfalso -symm only [*]) | ((first | (with_reducible first | refine rgL [] [47,87] (md := { base := 0,own := [65,84,91],imp := [18,26] }) (h := ?_) | refine nx ?_) | refine lK (cl _ kT) ?_); try simp (disch := omega) only [h6,h10,h38,h39,hw,k13,go_sem,simprocAttr]) | ((with_reducible refine' cE ?hv ?_ ?_); (case hv => rfl); all_goals (intro hc; (try simp only [go_sem,simprocAttr] at hc))) | fail)
      exact ⟨⟨by (repeat rw [A0 _ _ (by decide)]); exact kT.1,by (repeat rw [A0 _ _ (by decide)]); exact kT.2⟩,kL.same (by (repeat rw [A0 _ _ (by decide)]))⟩
     ·have he : Bu (Ah t i) = .iface 104 (.agg [.int .i64 (Ah t i).at1.lo,.int .i64 (Ah t i).at1.hi,.bool (decide ((Ah t i).held = 0))]) := if_neg hF2
      rw [he] at cl
      simp only [decide_eq_false hF2,Bool.not_false,Bool.true_and]
      generalize (Ah t i).at1.lo = lo at *
      generalize (Ah t i).at1.hi = hi9 at *
      generalize (Ah t i).held = hd at *
      by_cases hlo : lo ≤ 60 * nx'
      ·simp only [decide_eq_true hlo,if_true]
       rcases kL with ⟨hC,h11⟩ | ⟨hne,ea,h11,k65⟩
       ·refine Aw 65 fun H7 g65 hs3 => ?_
        have hT7 : D9 t eb em ver m H7 := ⟨(hs3 2204 (by decide)).trans kT.1,(hs3 2202 (by decide)).trans kT.2⟩
        have g13 := (hs3 13 (by decide)).trans k13
        clear hs3 kT k13
        repeat' (first | with_reducible (first | (refine sk ?_; intro K hK) | intro (ep : Nat → Nat) | apply_assumption -exfalso -symm only [*]) | ((first | (with_reducible refine rgL [] [47,87] (md := { base := 0,own := [65,84,91],imp := [18,26] }) (h := ?_)) | refine lK (cl _ hT7) ?_); try simp (disch := omega) only [h6,h10,h11,h38,h39,hw,g13,g65,hlo,go_sem,simprocAttr]) | ((with_reducible refine' cE ?hv ?_ ?_); (case hv => rfl); all_goals (intro hc; (try simp only [go_sem,simprocAttr] at hc))) | fail)
        exact ⟨⟨by (repeat rw [A0 _ _ (by decide)]); exact hT7.1,by (repeat rw [A0 _ _ (by decide)]); exact hT7.2⟩,by rw [List.map_append,hC]; exact .one (by (first | rfl | (simp only [c8,go_sem,simprocAttr]; done) | (simp only [c8,go_sem,simprocAttr]; rfl)))⟩
       ·rw [List.length_map] at h11
        have hkb2 : L.length ≤ 1073741823 := by omega
        repeat' (first | with_reducible (first | (refine sk ?_; intro K hK) | intro (ep : Nat → Nat) | apply_assumption -exfalso -symm only [*]) | ((first | (with_reducible refine rgL [] [47,87] (md := { base := 0,own := [65,84,91],imp := [18,26] }) (h := ?_)) | refine lK (cl _ kT) ?_); try simp (disch := omega) only [h6,h10,h11,h38,h39,hw,k13,k65,hkb2,hlo,go_sem,simprocAttr]) | ((with_reducible refine' cE ?hv ?_ ?_); (case hv => rfl); all_goals (intro hc; (try simp only [go_sem,simprocAttr] at hc))) | fail)
        exact ⟨⟨by (repeat rw [A0 _ _ (by decide)]); exact kT.1,by (repeat rw [A0 _ _ (by decide)]); exact kT.2⟩,by rw [List.map_append,List.map_cons,List.map_nil,← List.length_map (f := c8)]; exact .snoc (by (first | rfl | (simp only [c8,go_sem,simprocAttr]; done) | (simp only [c8,go_sem,simprocAttr]; rfl)))⟩
      ·simp only [decide_eq_false hlo,Bool.false_eq_true,if_false,List.append_nil]
       repeat' (first | with_reducible (first | (refine sk ?_; intro K hK) | intro (ep : Nat → Nat) | apply_assumption -exfalso -symm only [*]) | ((first | (with_reducible first | refine rgL [] [47,87] (md := { base := 0,own := [65,84,91],imp := [18,26] }) (h := ?_) | refine nx ?_) | refine lK (cl _ kT) ?_); try simp (disch := omega) only [h6,h10,h38,h39,hw,k13,hlo,go_sem,simprocAttr]) | ((with_reducible refine' cE ?hv ?_ ?_); (case hv => rfl); all_goals (intro hc; (try simp only [go_sem,simprocAttr] at hc))) | fail)
       exact ⟨⟨by (repeat rw [A0 _ _ (by decide)]); exact kT.1,by (repeat rw [A0 _ _ (by decide)]); exact kT.2⟩,kL.same (by (repeat rw [A0 _ _ (by decide)]))⟩
    ·rintro f H h39 h38 ⟨⟨h6,h10⟩,hT,hL⟩
     obtain ⟨_,hcut⟩ := hcutE
     repeat' (first | with_reducible apply_assumption -exfalso -symm only [*] | fail)
     exact ⟨by (and_intros <;> first | rfl | (simp only [h6,h10,go_sem,simprocAttr]; done) | (simp only [h6,h10,go_sem,simprocAttr]; rfl)),hT,hL⟩
  ·rw [if_neg hcr]
   refine PureC.weak (v := .tup [.nils,.int .i64 2]) ?_ rfl fun G w x h => h.tup_nils
   refine A8 (fn := Tryz.f16) tabOK (by kernel_rfl) rfl (by kernel_rfl) (by simp [Tryz.f16]) (by simp [noids,noid,noidss,go_sem,A3,A2]) (by first | rfl | simp [noids,noid,noidss,go_sem,A3,A2]) ?_
   intro X hX0 hXs
   repeat' (first | with_reducible (first | (refine sk ?_; intro K hK) | apply_assumption -exfalso -symm only [*]) | ((with_reducible refine rgL [] [47,87] (md := { base := 0,own := [65,84,91],imp := [18,26] }) (h := ?_)); try simp (disch := omega) only [A3,A2,go_sem,simprocAttr]) | fail)
   refine iK (ho _) ?_
   rintro v H2 ⟨hlow,hv⟩
   rw [if_pos h,if_neg hcr] at hv
   subst hv
   simp only [go_sem,simprocAttr]
   repeat' (first | with_reducible (first | (refine sk ?_; intro K hK) | apply_assumption -exfalso -symm only [*]) | ((with_reducible first | refine rgL [] [47,87] (md := { base := 0,own := [65,84,91],imp := [18,26] }) (h := ?_) | refine nx ?_); try simp (disch := omega) only [h,go_sem,simprocAttr]) | ((with_reducible refine' cE ?hv ?_ ?_); (case hv => rfl); all_goals (intro hc; (try simp only [go_sem,simprocAttr] at hc))) | ((with_reducible refine fe ?_); refine ⟨_,(by simp only [Tryz.f16,h,go_sem,simprocAttr]; rfl),?_⟩; rfl) | fail)
 ·rw [if_neg h]
  refine PureC.weak (v := .tup [.nils,.int .i64 (Ap t)]) ?_ rfl fun G w x h => h.tup_nils
  refine A8 (fn := Tryz.f16) tabOK (by kernel_rfl) rfl (by kernel_rfl) (by simp [Tryz.f16]) (by simp [noids,noid,noidss,go_sem,A3,A2]) (by first | rfl | simp [noids,noid,noidss,go_sem,A3,A2]) ?_
  intro X hX0 hXs
  repeat' (first | with_reducible (first | (refine sk ?_; intro K hK) | apply_assumption -exfalso -symm only [*]) | ((with_reducible refine rgL [] [47,87] (md := { base := 0,own := [65,84,91],imp := [18,26] }) (h := ?_)); try simp (disch := omega) only [A3,A2,go_sem,simprocAttr]) | fail)
  refine iK (ho _) ?_
  rintro v H2 ⟨hlow,hv⟩
  rw [if_neg h] at hv
  subst hv
  simp only [go_sem,simprocAttr]
  repeat' (first | with_reducible (first | (refine sk ?_; intro K hK) | apply_assumption -exfalso -symm only [*]) | ((with_reducible first | refine rgL [] [47,87] (md := { base := 0,own := [65,84,91],imp := [18,26] }) (h := ?_) | refine nx ?_); try simp (disch := omega) only [h,go_sem,simprocAttr]) | ((with_reducible refine' cE ?hv ?_ ?_); (case hv => rfl); all_goals (intro hc; (try simp only [go_sem,simprocAttr] at hc))) | ((with_reducible refine fe ?_); refine ⟨_,(by simp only [Tryz.f16,h,go_sem,simprocAttr]; rfl),?_⟩; rfl) | fail)
end Cp
namespace Cp
open Go Go.Proofs
set_option maxRecDepth 10000
set_option maxHeartbeats 1000000
theorem Q5 (t : TestT) (hl : t.notes.length ≤ 100000) (hR : t.run.rows.length ≤ 60) (hkd : ∀ n ∈ t.notes,0 ≤ n.kind ∧ n.kind ≤ 255) : PureC Tryz.prog 29 [A3 t] (.bool (AZ t)) := by
 have bad : Em t = false → false = AZ t := fun h => by rw [AZ,h]; rfl
 have hcs := I4 t.clock (-120) 120
 simp only [A6] at hcs
 simp only [Em,decide_eq_false_iff_not] at bad
 refine A8 (fn := Tryz.f29) tabOK (by kernel_rfl) rfl (by kernel_rfl) (by simp [Tryz.f29]) (by simp [noids,noid,noidss,go_sem,A3,A2]) (by first | rfl | simp [noids,noid,noidss,go_sem,A3,A2]) ?_
 intro X hX0 hXs
 repeat' (first | with_reducible (first | (refine sk ?_; intro K hK) | apply_assumption -exfalso -symm only [*]) | ((first | (with_reducible first | refine rg (h := ?_) | refine nx ?_) | refine pK (CY _ _ _) ?_ | refine pK (hcs) ?_); try simp (disch := omega) only [A3,A2,go_sem,simprocAttr]) | ((with_reducible refine' cE ?hv ?_ ?_); (case hv => rfl); all_goals (intro hc; (try simp only [go_sem,simprocAttr] at hc))) | ((with_reducible refine Ab ?_ ?_) <;> intro hg <;> (try simp (disch := omega) only [hg,A3,A2,go_sem,simprocAttr]) <;> (try simp only [go_sem,simprocAttr] at hg) <;> (try (exfalso; omega))) | ((with_reducible refine fe ?_); refine ⟨_,(by simp only [Tryz.f29,A3,A2,go_sem,simprocAttr]; rfl),?_⟩; (try simp only [A3,A2,go_sem,simprocAttr,seval])) | fail)
 iterate 4 (first | exact bad (by omega) | omega)
 refine An (AK (fun m f H => ∃ i : Nat,m = 6 - i ∧ i ≤ 6 ∧ (f 1 = .pim (A2 t) ∧ f 3 = .int .i64 (i : Int)) ∧ ∀ j,j < i → 0 ≤ DZ t j ∧ DZ t j ≤ 10000) 6
  ⟨0,rfl,Nat.zero_le _,by (and_intros <;> first | rfl | (simp only [A2,go_sem,simprocAttr]; done) | (simp only [A2,go_sem,simprocAttr]; rfl)),fun j hj => by omega⟩ ?_)
 rintro m f H ⟨i,rfl,hi,⟨h1,h3⟩,hlm⟩
 by_cases hlt : i < 6
 ·have hlim := LZ t hlt
  by_cases hg : 0 ≤ DZ t i ∧ DZ t i ≤ 10000
  ·repeat' (first | with_reducible (first | (refine sk ?_; intro K hK) | refine bk ?_ | apply_assumption -exfalso -symm only [*]) | ((first | (with_reducible first | refine rg (h := ?_) | refine nx ?_) | refine pK (CY _ _ _) ?_); try simp (disch := omega) only [h1,h3,hlim,hlt,hg,A2,go_sem,simprocAttr]) | ((with_reducible refine' cE ?hv ?_ ?_); (case hv => rfl); all_goals (intro hc; (try simp only [go_sem,simprocAttr] at hc); try (exfalso; omega))) | fail)
   exact ⟨6 - (i + 1),by omega,i + 1,rfl,by omega,rfl,fun j hj => by
    by_cases hji : j = i
    ·subst hji; exact hg
    ·exact hlm j (by omega)⟩
  ·have hb : false = AZ t := bad (by
    intro hh
    obtain ⟨-,-,-,⟨q0,q1,q2,q3,q4,q5⟩,-⟩ := hh
    refine hg ?_
    match i,hlt with
    | 0,_ => exact q0
    | 1,_ => exact q1
    | 2,_ => exact q2
    | 3,_ => exact q3
    | 4,_ => exact q4
    | 5,_ => exact q5)
   clear bad
   repeat' (first | with_reducible (first | (refine sk ?_; intro K hK) | refine bk ?_ | apply_assumption -exfalso -symm only [*]) | ((first | (with_reducible first | refine rg (h := ?_) | refine nx ?_) | refine pK (CY _ _ _) ?_); try simp (disch := omega) only [h1,h3,hlim,hlt,hg,A2,go_sem,simprocAttr]) | ((with_reducible refine' cE ?hv ?_ ?_); (case hv => rfl); all_goals (intro hc; (try simp only [go_sem,simprocAttr] at hc); try (exfalso; omega))) | ((with_reducible refine fe ?_); refine ⟨_,(by simp only [Tryz.f29,h1,h3,hlim,hlt,hg,A2,go_sem,simprocAttr]; rfl),?_⟩; (try simp only [h1,h3,hlim,hlt,hg,A2,go_sem,simprocAttr,seval])) | fail)
   all_goals exact hb
 ·obtain rfl : i = 6 := by omega
  have hh : Em t = true := by
   have l0 := hlm 0 (by omega)
   have l1 := hlm 1 (by omega)
   have l2 := hlm 2 (by omega)
   have l3 := hlm 3 (by omega)
   have l4 := hlm 4 (by omega)
   have l5 := hlm 5 (by omega)
   simp only [DZ] at l0 l1 l2 l3 l4 l5
   simp only [Em,decide_eq_true_eq]; omega
  have hT : AZ t = Ae t.fin 0 t.notes := by rw [AZ,hh,Bool.true_and]
  clear bad hlm hcs
  repeat' (first | with_reducible (first | (refine sk ?_; intro K hK) | apply_assumption -exfalso -symm only [*]) | ((with_reducible first | refine rg (h := ?_) | refine nx ?_); try simp (disch := omega) only [h1,h3,A2,go_sem,simprocAttr]) | ((with_reducible refine' cE ?hv ?_ ?_); (case hv => rfl); all_goals (intro hc; (try simp only [go_sem,simprocAttr] at hc))) | fail)
  refine An (AK (fun m f H => ∃ i : Nat,m = t.notes.length - i ∧ i ≤ t.notes.length ∧ (f 1 = .pim (A2 t) ∧ f 4 = .int .i64 (i : Int)) ∧ ∃ last,0 ≤ last ∧ last ≤ 3600 ∧ (∀ j p,i = j + 1 → t.notes[j]? = some p → p.sec = last) ∧ (i = 0 → last = 0) ∧ Ae t.fin 0 t.notes = Ae t.fin last (t.notes.drop i)) t.notes.length
   ⟨0,rfl,Nat.zero_le _,by (and_intros <;> first | rfl | (simp only [h1,go_sem,simprocAttr]; done) | (simp only [h1,go_sem,simprocAttr]; rfl)),0,by omega,by omega,fun j p h => by omega,fun _ => rfl,rfl⟩ ?_)
  have hfin : t.fin ≤ 3600 := by
   simp only [Em,decide_eq_true_eq] at hh; omega
  clear h1 h3
  rintro m f H ⟨i,rfl,hi,⟨h1,h4⟩,last,hl1,hl2,hp,h0,hr⟩
  by_cases hlt : i < t.notes.length
  ·obtain ⟨n,hn⟩ : ∃ x,t.notes[i]? = some x := ⟨_,List.getElem?_eq_getElem hlt⟩
   have hna := Ih hn
   have hkb := hkd n (List.mem_of_getElem? hn)
   have hcs := I4 n.off (-200) 200
   simp only [A6] at hcs
   rw [Am hn] at hr
   simp only [Ae] at hr
   have bad : Cw last t.fin n = false → false = AZ t := fun h => by rw [hT,hr,h]; rfl
   have good : Cw last t.fin n = true → ∃ m',m' < t.notes.length - i ∧ ∃ i',m' = t.notes.length - i' ∧ i' ≤ t.notes.length ∧ Val.int .i64 ((i + 1 : Nat) : Int) = .int .i64 (i' : Int) ∧ ∃ last,0 ≤ last ∧ last ≤ 3600 ∧ (∀ j p,i' = j + 1 → t.notes[j]? = some p → p.sec = last) ∧ (i' = 0 → last = 0) ∧ Ae t.fin 0 t.notes = Ae t.fin last (t.notes.drop i') := fun h => by
    have hs := DW h
    refine ⟨t.notes.length - (i + 1),by omega,i + 1,rfl,by omega,rfl,n.sec,by omega,by omega,fun j p hj hp9 => ?_,fun h => by omega,by rw [hr,h,Bool.true_and]⟩
    have hji : j = i := by omega
    rw [hji,hn] at hp9; cases hp9; rfl
   simp only [cNote] at hna
   simp only [Cw,Jh,Bool.and_eq_false_iff,decide_eq_false_iff_not] at bad
   simp only [Cw,Jh,Bool.and_eq_true,decide_eq_true_eq] at good
   refine Bn [] ?_
   cases i with
   | zero =>
    have := h0 rfl
    subst this
    repeat' (first | with_reducible (first | (refine sk ?_; intro K hK) | refine bk ?_ | intro (ep : Nat → Nat) | apply_assumption -exfalso -symm only [*]) | ((first | (with_reducible first | refine rg (h := ?_) | refine nx ?_) | refine pK (CY _ _ _) ?_ | refine pK (hcs) ?_); try simp (disch := omega) only [h1,h4,hna,hlt,A2,go_sem,simprocAttr]) | ((with_reducible refine' cE ?hv ?_ ?_); (case hv => rfl); all_goals (intro hc; (try simp only [go_sem,simprocAttr] at hc); try (exfalso; omega))) | ((with_reducible refine Ab ?_ ?_) <;> intro hg <;> (try simp (disch := omega) only [hg,h1,h4,hna,hlt,A2,go_sem,simprocAttr]) <;> (try simp only [go_sem,simprocAttr] at hg) <;> (try (exfalso; omega))) | ((with_reducible refine fe ?_); refine ⟨_,(by simp only [Tryz.f29,h1,h4,hna,hlt,A2,go_sem,simprocAttr]; rfl),?_⟩; (try simp only [h1,h4,hna,hlt,A2,go_sem,simprocAttr,seval])) | fail)
    all_goals omega
   | succ j =>
    obtain ⟨p,hpj⟩ : ∃ x,t.notes[j]? = some x := ⟨_,List.getElem?_eq_getElem (by omega)⟩
    have hps := hp j p rfl hpj
    have hpa := Ih hpj
    simp only [cNote] at hpa
    have hjl : j < t.notes.length := by omega
    repeat' (first | with_reducible (first | (refine sk ?_; intro K hK) | refine bk ?_ | intro (ep : Nat → Nat) | apply_assumption -exfalso -symm only [*]) | ((first | (with_reducible first | refine rg (h := ?_) | refine nx ?_) | refine pK (CY _ _ _) ?_ | refine pK (hcs) ?_); try simp (disch := omega) only [h1,h4,hna,hlt,hpa,hjl,A2,go_sem,simprocAttr]) | ((with_reducible refine' cE ?hv ?_ ?_); (case hv => rfl); all_goals (intro hc; (try simp only [go_sem,simprocAttr] at hc); try (exfalso; omega))) | ((with_reducible refine Ab ?_ ?_) <;> intro hg <;> (try simp (disch := omega) only [hg,h1,h4,hna,hlt,hpa,hjl,A2,go_sem,simprocAttr]) <;> (try simp only [go_sem,simprocAttr] at hg) <;> (try (exfalso; omega))) | ((with_reducible refine fe ?_); refine ⟨_,(by simp only [Tryz.f29,h1,h4,hna,hlt,hpa,hjl,A2,go_sem,simprocAttr]; rfl),?_⟩; (try simp only [h1,h4,hna,hlt,hpa,hjl,A2,go_sem,simprocAttr,seval])) | fail)
    all_goals omega
  ·obtain rfl : i = t.notes.length := by omega
   have hOK : true = AZ t := by rw [hT,hr,Bg (Nat.le_refl _)]; rfl
   repeat' (first | with_reducible (first | (refine sk ?_; intro K hK) | apply_assumption -exfalso -symm only [*]) | ((with_reducible first | refine rg (h := ?_) | refine nx ?_); try simp (disch := omega) only [h1,h4,A2,go_sem,simprocAttr]) | ((with_reducible refine' cE ?hv ?_ ?_); (case hv => rfl); all_goals (intro hc; (try simp only [go_sem,simprocAttr] at hc); try (exfalso; omega))) | ((with_reducible refine fe ?_); refine ⟨_,(by simp only [Tryz.f29,h1,h4,A2,go_sem,simprocAttr]; rfl),?_⟩; (try simp only [h1,h4,A2,go_sem,simprocAttr,seval])) | fail)
   all_goals exact hOK
end Cp
namespace Cp
open Go Go.Proofs
set_option maxRecDepth 10000
set_option maxHeartbeats 1000000
theorem O5 (t : TestT) (hb : TestB t) : PureC Tryz.prog 45 [A3 t] (.int .i64 (Ap t)) := by
 have hnl := hb.notes
 have hck := PQ t.run t.rules hb.run hb.rules
 simp only [A9,A7,A1,A5] at hck
 unfold Ap
 by_cases hE : AV t.run t.rules = 0
 ·rw [if_pos hE]
  rw [hE] at hck
  have hR : t.run.rows.length ≤ 60 := by
   have h1 : CK t.run = true := by unfold AV at hE; split at hE <;> simp_all
   exact (Ew h1).rows.2.1
  have hTs := Q5 t hnl hR hb.kinds
  simp only [A3,A2] at hTs
  by_cases hT : AZ t = true
  ·rw [if_pos hT]
   rw [hT] at hTs
   simp only [AZ,Em,Bool.and_eq_true,decide_eq_true_eq] at hT
   obtain ⟨hH,hN⟩ := hT
   have hse := fun k hk => LP t hnl hN (by omega) k hk
   simp only [S9 hN,A3,A2] at hse
   obtain ⟨res,hres⟩ : ∃ res : Int,(if Cl t = true then 21 else 0) = res := ⟨_,rfl⟩
   rw [hres]
   refine A8 (fn := Tryz.f45) tabOK (by kernel_rfl) rfl (by kernel_rfl) (by simp [Tryz.f45]) (by simp [noids,noid,noidss,go_sem,A3,A2]) (by first | rfl | simp [noids,noid,noidss,go_sem,A3,A2]) ?_
   intro X hX0 hXs
   repeat' (first | with_reducible (first | (refine sk ?_; intro K hK) | apply_assumption -exfalso -symm only [*]) | ((first | (with_reducible first | refine rg (h := ?_) | refine nx ?_) | refine pK (hck) ?_ | refine pK (hTs) ?_); try simp (disch := omega) only [A3,A2,A9,A7,A1,A5,go_sem,simprocAttr]) | ((with_reducible refine' cE ?hv ?_ ?_); (case hv => rfl); all_goals (intro hc; (try simp only [go_sem,simprocAttr] at hc))) | fail)
   refine An (AK (fun m f H => ∃ i : Nat,m = 6 - i ∧ i ≤ 6 ∧ (f 1 = .pim (A2 t) ∧ f 4 = .int .u8 ((i + 1 : Nat) : Int)) ∧ ∀ c,c < i → CO t c = false) 6
    ⟨0,rfl,Nat.zero_le _,by (and_intros <;> first | rfl | (simp only [A2,go_sem,simprocAttr]; done) | (simp only [A2,go_sem,simprocAttr]; rfl)),fun c hc => by omega⟩ ?_)
   clear hck hTs
   rintro m f H ⟨i,rfl,hi,⟨h1,h4⟩,hlm⟩
   by_cases hlt : i < 6
   ·have hs := hse i hlt
    have htw := Mt i hN
    have hw : IntKind.u8.wrap ((i + 1 + 1 : Nat) : Int) = ((i + 1 + 1 : Nat) : Int) := IntWalk.u8_in _ (by omega)
    have r21 : CO t i = true → 21 = res := fun h => by
     rw [← hres,if_pos]
     rw [Cl,List.any_eq_true]
     exact ⟨i,by simpa using hlt,h⟩
    have hnx : CO t i = false → ∀ c,c < i + 1 → CO t c = false := fun h c hc => by
     by_cases hci : c = i
     ·subst hci; exact h
     ·exact hlm c (by omega)
    rw [htw] at r21 hnx
    clear hse hlm hres
    generalize frC t i = lo at *
    generalize toC t i = hi2 at *
    generalize (BV t i).isSome = sure at *
    cases sure with
    | false =>
     repeat' (first | with_reducible (first | (refine sk ?_; intro K hK) | refine bk ?_ | apply_assumption -exfalso -symm only [*]) | ((first | (with_reducible first | refine rg (h := ?_) | refine nx ?_) | refine pK (hs) ?_); try simp (disch := omega) only [h1,h4,hw,A2,go_sem,simprocAttr]) | ((with_reducible refine' cE ?hv ?_ ?_); (case hv => rfl); all_goals (intro hc; (try simp only [go_sem,simprocAttr] at hc); try (exfalso; omega))) | fail)
     exact ⟨6 - (i + 1),by omega,i + 1,rfl,by omega,rfl,hnx (by simp)⟩
    | true =>
     by_cases hlo : hi2 < lo
     ·have := r21 (by simp [hlo])
      clear r21 hnx
      repeat' (first | with_reducible (first | (refine sk ?_; intro K hK) | refine bk ?_ | apply_assumption -exfalso -symm only [*]) | ((first | (with_reducible first | refine rg (h := ?_) | refine nx ?_) | refine pK (hs) ?_); try simp (disch := omega) only [h1,h4,hw,hlo,A2,go_sem,simprocAttr]) | ((with_reducible refine' cE ?hv ?_ ?_); (case hv => rfl); all_goals (intro hc; (try simp only [go_sem,simprocAttr] at hc); try (exfalso; omega))) | ((with_reducible refine fe ?_); refine ⟨_,(by simp only [Tryz.f45,h1,h4,hw,hlo,A2,go_sem,simprocAttr]; rfl),?_⟩; (try simp only [h1,h4,hw,hlo,A2,go_sem,simprocAttr,seval])) | fail)
     ·repeat' (first | with_reducible (first | (refine sk ?_; intro K hK) | refine bk ?_ | apply_assumption -exfalso -symm only [*]) | ((first | (with_reducible first | refine rg (h := ?_) | refine nx ?_) | refine pK (hs) ?_); try simp (disch := omega) only [h1,h4,hw,hlo,A2,go_sem,simprocAttr]) | ((with_reducible refine' cE ?hv ?_ ?_); (case hv => rfl); all_goals (intro hc; (try simp only [go_sem,simprocAttr] at hc); try (exfalso; omega))) | fail)
      exact ⟨6 - (i + 1),by omega,i + 1,rfl,by omega,rfl,hnx (by simp [hlo])⟩
   ·obtain rfl : i = 6 := by omega
    have h0 : 0 = res := by
     rw [← hres,if_neg]
     rw [Cl,List.any_eq_true]
     rintro ⟨c,hc,h⟩
     rw [hlm c (by simpa using hc)] at h
     cases h
    clear hse hlm hres
    repeat' (first | with_reducible (first | (refine sk ?_; intro K hK) | apply_assumption -exfalso -symm only [*]) | ((with_reducible first | refine rg (h := ?_) | refine nx ?_); try simp (disch := omega) only [h1,h4,A2,go_sem,simprocAttr]) | ((with_reducible refine' cE ?hv ?_ ?_); (case hv => rfl); all_goals (intro hc; (try simp only [go_sem,simprocAttr] at hc))) | ((with_reducible refine fe ?_); refine ⟨_,(by simp only [Tryz.f45,h1,h4,A2,go_sem,simprocAttr]; rfl),?_⟩; (try simp only [h1,h4,A2,go_sem,simprocAttr,seval])) | fail)
    all_goals exact h0
  ·rw [if_neg hT]
   rw [Bool.eq_false_iff.2 hT] at hTs
   refine A8 (fn := Tryz.f45) tabOK (by kernel_rfl) rfl (by kernel_rfl) (by simp [Tryz.f45]) (by simp [noids,noid,noidss,go_sem,A3,A2]) (by first | rfl | simp [noids,noid,noidss,go_sem,A3,A2]) ?_
   intro X hX0 hXs
   repeat' (first | with_reducible (first | (refine sk ?_; intro K hK) | apply_assumption -exfalso -symm only [*]) | ((first | (with_reducible first | refine rg (h := ?_) | refine nx ?_) | refine pK (hck) ?_ | refine pK (hTs) ?_); try simp (disch := omega) only [A3,A2,A9,A7,A1,A5,go_sem,simprocAttr]) | ((with_reducible refine' cE ?hv ?_ ?_); (case hv => rfl); all_goals (intro hc; (try simp only [go_sem,simprocAttr] at hc))) | ((with_reducible refine fe ?_); refine ⟨_,(by simp only [Tryz.f45,A3,A2,A9,A7,A1,A5,go_sem,simprocAttr]; rfl),?_⟩; rfl) | fail)
 ·rw [if_neg hE]
  refine A8 (fn := Tryz.f45) tabOK (by kernel_rfl) rfl (by kernel_rfl) (by simp [Tryz.f45]) (by simp [noids,noid,noidss,go_sem,A3,A2]) (by first | rfl | simp [noids,noid,noidss,go_sem,A3,A2]) ?_
  intro X hX0 hXs
  repeat' (first | with_reducible (first | (refine sk ?_; intro K hK) | apply_assumption -exfalso -symm only [*]) | ((first | (with_reducible first | refine rg (h := ?_) | refine nx ?_) | refine pK (hck) ?_); try simp (disch := omega) only [A3,A2,A9,A7,A1,A5,hE,go_sem,simprocAttr]) | ((with_reducible refine' cE ?hv ?_ ?_); (case hv => rfl); all_goals (intro hc; (try simp only [go_sem,simprocAttr] at hc))) | ((with_reducible refine fe ?_); refine ⟨_,(by simp only [Tryz.f45,A3,A2,A9,A7,A1,A5,hE,go_sem,simprocAttr]; rfl),?_⟩; rfl) | fail)
end Cp
namespace Cp
open Go Go.Proofs
set_option maxRecDepth 10000
set_option maxHeartbeats 1000000
end Cp
namespace Cp
open Go Go.Proofs
set_option maxRecDepth 10000
set_option maxHeartbeats 1000000
end Cp
namespace Cp
open Go Go.Proofs
set_option maxRecDepth 10000
set_option maxHeartbeats 1000000
end Cp
namespace Cp
open Go Go.Proofs
set_option maxRecDepth 10000
set_option maxHeartbeats 1000000
def Fu (t : TestT) : Bool := EY t.run t.rules || decide (80 < t.notes.length)
theorem OK (t : TestT) : PureC Tryz.prog 12 [A3 t] (.bool (Fu t)) := by
 have hg := Rq t.run t.rules
 simp only [A9,A7,A1,A5] at hg
 unfold Fu
 generalize EY t.run t.rules = g at *
 refine A8 (fn := Tryz.f12) tabOK (by kernel_rfl) rfl (by kernel_rfl) (by simp [Tryz.f12]) (by simp [noids,noid,noidss,go_sem,A3,A2]) (by first | rfl | simp [noids,noid,noidss,go_sem,A3,A2]) ?_
 intro X hX0 hXs
 cases g with
 | true =>
  repeat' (first | with_reducible (first | (refine sk ?_; intro K hK) | apply_assumption -exfalso -symm only [*]) | ((first | (with_reducible first | refine rg (h := ?_) | refine nx ?_) | refine pK (hg) ?_); try simp (disch := omega) only [A3,A2,A9,A7,A1,A5,go_sem,simprocAttr]) | ((with_reducible refine fe ?_); refine ⟨_,(by simp only [Tryz.f12,A3,A2,A9,A7,A1,A5,go_sem,simprocAttr]; rfl),?_⟩; rfl) | fail)
 | false =>
  repeat' (first | with_reducible (first | (refine sk ?_; intro K hK) | apply_assumption -exfalso -symm only [*]) | ((first | (with_reducible first | refine rg (h := ?_) | refine nx ?_) | refine pK (hg) ?_); try simp (disch := omega) only [A3,A2,A9,A7,A1,A5,go_sem,simprocAttr]) | ((with_reducible refine fe ?_); refine ⟨_,(by simp only [Tryz.f12,A3,A2,A9,A7,A1,A5,go_sem,simprocAttr]; rfl),?_⟩; (try simp only [A3,A2,A9,A7,A1,A5,go_sem,simprocAttr,seval])) | fail)
  rw [Bool.eq_iff_iff]; simp only [decide_eq_true_eq]; omega
end Cp
namespace Cp
open Go Go.Proofs
set_option maxRecDepth 10000
set_option maxHeartbeats 4000000
end Cp
namespace Cp
open Go Go.Proofs
set_option maxRecDepth 10000
set_option maxHeartbeats 2000000
end Cp
namespace Cp
open Go Go.Proofs
set_option maxRecDepth 10000
set_option maxHeartbeats 2000000
end Cp
namespace Cp
open Go Go.Proofs
set_option maxRecDepth 10000
set_option maxHeartbeats 1000000
end Cp
