/- Rules,facts and contracts that the statement's proof leans on. Conditions: none. -/
import Derived.Test.YtopgldaekcmekaaGreatDoorRows
import Derived.LaidMore
import Derived.LaidHandle
import Derived.OpenShut
import Derived.FnData
import Derived.Test.YtopgldaekcmekaaGreatDoorP12
set_option linter.unusedVariables false
set_option linter.unusedSimpArgs false
set_option linter.unusedSectionVars false
namespace Cp
open Go Go.Proofs
set_option maxRecDepth 10000
set_option maxHeartbeats 2000000
theorem JI (lo hi : Int) : PureC Tryz.prog 26 [.int .i64 lo,.int .i64 hi] (A9 ⟨lo,hi⟩) := by
 refine A8 (fn := Tryz.f26) tabOK (by kernel_rfl) rfl (by kernel_rfl) (by simp [Tryz.f26]) (by simp [noids,noid,noidss,go_sem,A9]) (by first | rfl | simp [noids,noid,noidss,go_sem,A9]) ?_
 intro X hX0 hXs
 repeat' (first | with_reducible (first | (refine sk ?_; intro K hK) | intro (ep : Nat → Nat) | apply_assumption -exfalso -symm only [*]) | ((with_reducible first | refine rg (h := ?_) | refine nx ?_); try simp (disch := omega) only [A9,go_sem,simprocAttr]) | ((with_reducible refine fe ?_); refine ⟨_,(by simp only [Tryz.f26,A9,go_sem,simprocAttr]; rfl),?_⟩; rfl) | fail)
theorem Lv (c h lo hi : Int) (hc : 0 ≤ c ∧ c ≤ 255) (hf : Gr exT c = .tup [Ab ⟨h,⟨lo,hi⟩⟩,.int .i64 0]) : PureC Tryz.prog 56 [.int .u8 c,.int .u8 h,.int .i64 lo,.int .i64 hi] (.bool true) := by
 have h1 := PH exT exB c hc
 have ht := test_ok
 rw [hf] at h1
 have hls := JI lo hi
 generalize A2 exT = tv at *
 simp only [A9,Ab,Aq] at h1 hls
 refine A8 (fn := Tryz.f56) tabOK (by kernel_rfl) rfl (by kernel_rfl) (by simp [Tryz.f56]) (by simp [noids,noid,noidss,go_sem]) (by first | rfl | simp [noids,noid,noidss,go_sem]) ?_
 intro X hX0 hXs
 repeat' (first | with_reducible (first | (refine sk ?_; intro K hK) | intro (ep : Nat → Nat) | apply_assumption -exfalso -symm only [*]) | ((first | (with_reducible first | refine rg (h := ?_) | refine nx ?_) | refine pK (ht) ?_ | refine pK (h1) ?_ | refine pK (hls) ?_); try simp (disch := omega) only [A9,Ab,Aq,go_sem,simprocAttr]) | ((with_reducible refine fe ?_); refine ⟨_,(by simp only [Tryz.f56,A9,Ab,Aq,go_sem,simprocAttr]; rfl),?_⟩; rfl) | fail)
theorem Fy (l lo hi : Int) (st : List Int) (hl : 0 ≤ l ∧ l ≤ 255) (hc : E5 exT l = .tup [A9 ⟨lo,hi⟩,.int .i64 0]) (hs : IM exT l = .tup [.lst 1 (st.map c8),.int .i64 0]) :
  PureC Tryz.prog 57 [.int .u8 l,.int .i64 lo,.int .i64 hi,.str (FX st)] (.bool true) := by
 have h1 := IR exT exB l hl
 have h2 := Qa exT exB l hl
 have ht := test_ok
 have hby := @byteL_c8 st
 rw [hc] at h1
 rw [hs] at h2
 have hls := JI lo hi
 generalize A2 exT = tv at *
 simp only [A9] at h1 hls
 refine A8 (fn := Tryz.f57) tabOK (by kernel_rfl) rfl (by kernel_rfl) (by simp [Tryz.f57]) (by simp [noids,noid,noidss,go_sem]) (by first | rfl | simp [noids,noid,noidss,go_sem]) ?_
 intro X hX0 hXs
 repeat' (first | with_reducible (first | (refine sk ?_; intro K hK) | intro (ep : Nat → Nat) | apply_assumption -exfalso -symm only [*]) | ((first | (with_reducible first | refine rg (h := ?_) | refine nx ?_) | refine pK (ht) ?_ | refine pK (h1) ?_ | refine pK (h2) ?_ | refine pK (hls) ?_); try simp (disch := omega) only [A9,hby,go_sem,simprocAttr]) | ((with_reducible refine fe ?_); refine ⟨_,(by simp only [Tryz.f57,A9,hby,go_sem,simprocAttr]; rfl),?_⟩; rfl) | fail)
theorem alive_ok : PureC Tryz.prog 19 [] (.bool true) := by
 have h1 := PU exT exB 3 (by decide)
 rw [ex_first] at h1
 have ht := test_ok
 have f5 := Lv 5 0 571 1200 (by decide) ex_fails5
 have f3 := Lv 3 2 0 0 (by decide) ex_fails3
 have c1 := Fy 1 20 20 [7,8] (by decide) ex_class1 ex_stops1
 have c2 := Fy 2 15 20 [4] (by decide) ex_class2 ex_stops2
 have c3 := Fy 3 5 15 [5] (by decide) ex_class3 ex_stops3
 have e1 : FX [7,8] = { data := #[7,8] } := by decide +kernel
 have e2 : FX [4] = { data := #[4] } := by decide +kernel
 have e3 : FX [5] = { data := #[5] } := by decide +kernel
 rw [e1] at c1
 rw [e2] at c2
 rw [e3] at c3
 have hls := JI 571 1200
 generalize A2 exT = tv at *
 simp only [A9,Ab,Aq] at h1 hls
 refine A8 (fn := Tryz.f19) tabOK (by kernel_rfl) rfl (by kernel_rfl) (by simp [Tryz.f19]) (by simp [noids,noid,noidss,go_sem]) (by first | rfl | simp [noids,noid,noidss,go_sem]) ?_
 intro X hX0 hXs
 repeat' (first | with_reducible (first | (refine sk ?_; intro K hK) | intro (ep : Nat → Nat) | apply_assumption -exfalso -symm only [*]) | ((first | (with_reducible first | refine rg (h := ?_) | refine nx ?_) | refine pK (ht) ?_ | refine pK (h1) ?_ | refine pK (f5) ?_ | refine pK (f3) ?_ | refine pK (c1) ?_ | refine pK (c2) ?_ | refine pK (c3) ?_ | refine pK (hls) ?_); try simp (disch := omega) only [A9,Ab,Aq,go_sem,simprocAttr]) | ((with_reducible refine fe ?_); refine ⟨_,(by simp only [Tryz.f19,A9,Ab,Aq,go_sem,simprocAttr]; rfl),?_⟩; rfl) | fail)
theorem Qm (t : TestT) (hu : Iu t) : PureC Tryz.prog 20 [A2 t] (.bool (!FA t && decide (Ak t = 0))) := by
 have hg := Ob t
 cases hgr : FA t with
 | true =>
  rw [hgr] at hg
  simp only [A2,A4] at hg
  refine A8 (fn := Tryz.f20) tabOK (by kernel_rfl) rfl (by kernel_rfl) (by simp [Tryz.f20]) (by simp [noids,noid,noidss,go_sem,A2,A4]) (by first | rfl | simp [noids,noid,noidss,go_sem,A2,A4]) ?_
  intro X hX0 hXs
  repeat' (first | with_reducible (first | (refine sk ?_; intro K hK) | apply_assumption -exfalso -symm only [*]) | ((first | (with_reducible first | refine rg (h := ?_) | refine nx ?_) | refine pK (hg) ?_); try simp (disch := omega) only [A2,A4,go_sem,simprocAttr]) | ((with_reducible refine fe ?_); refine ⟨_,(by simp only [Tryz.f20,A2,A4,go_sem,simprocAttr]; rfl),?_⟩; rfl) | fail)
 | false =>
  have hck := O0 t (V7 hgr hu).tb
  rw [hgr] at hg
  simp only [A2,A4] at hg hck
  generalize Ak t = k at *
  refine A8 (fn := Tryz.f20) tabOK (by kernel_rfl) rfl (by kernel_rfl) (by simp [Tryz.f20]) (by simp [noids,noid,noidss,go_sem,A2,A4]) (by first | rfl | simp [noids,noid,noidss,go_sem,A2,A4]) ?_
  intro X hX0 hXs
  repeat' (first | with_reducible (first | (refine sk ?_; intro K hK) | apply_assumption -exfalso -symm only [*]) | ((first | (with_reducible first | refine rg (h := ?_) | refine nx ?_) | refine pK (hg) ?_ | refine pK (hck) ?_); try simp (disch := omega) only [A2,A4,go_sem,simprocAttr]) | ((with_reducible refine fe ?_); refine ⟨_,(by simp only [Tryz.f20,A2,A4,go_sem,simprocAttr]; rfl),?_⟩; rfl) | fail)
theorem Q9 {t : TestT} (hu : Iu t) (h : (!FA t && decide (Ak t = 0)) = true) : TestG t ∧ TestF t ∧ Ak t = 0 := by
 rw [Bool.and_eq_true,Bool.not_eq_true',decide_eq_true_eq] at h
 exact ⟨V7 h.1 hu,P3 h.2,h.2⟩
def TB (n : Int) : Int := 1 + n.tmod 3
theorem R4 {n : Int} (h : 0 ≤ n) : ∃ k : Nat,TB n = (k : Int) ∧ 1 ≤ k ∧ k ≤ 3 := by
 have h1 : 0 ≤ n.tmod 3 := Int.tmod_nonneg _ h
 have h2 : n.tmod 3 < 3 := Int.tmod_lt_of_pos _ (by decide)
 exact ⟨(1 + n.tmod 3).toNat,by unfold TB; omega,by omega,by omega⟩
theorem LM (n : Int) (h : 0 ≤ n ∧ n ≤ 255) : PureC Tryz.prog 21 [.int .u8 n] (.int .u8 (TB n)) := by
 have h1 : 0 ≤ n.tmod 3 := Int.tmod_nonneg _ h.1
 have h2 : n.tmod 3 < 3 := Int.tmod_lt_of_pos _ (by decide)
 unfold TB
 have hw : IntKind.u8.wrap (1 + n.tmod 3) = 1 + n.tmod 3 := IntWalk.u8_in _ (by omega)
 have hw2 : IntKind.u8.wrap (n.tmod 3) = n.tmod 3 := IntWalk.u8_in _ (by omega)
 refine A8 (fn := Tryz.f21) tabOK (by kernel_rfl) rfl (by kernel_rfl) (by simp [Tryz.f21]) (by simp [noids,noid,noidss,go_sem]) (by first | rfl | simp [noids,noid,noidss,go_sem]) ?_
 intro X hX0 hXs
 repeat' (first | with_reducible (first | (refine sk ?_; intro K hK) | apply_assumption -exfalso -symm only [*]) | ((with_reducible first | refine rg (h := ?_) | refine nx ?_); try simp (disch := omega) only [hw,hw2,go_sem,simprocAttr]) | ((with_reducible refine fe ?_); refine ⟨_,(by simp only [Tryz.f21,hw,hw2,go_sem,simprocAttr]; rfl),?_⟩; rfl) | fail)
def cAt (a : Nat → Int) : List Val := [.int .i64 (a 0),.int .i64 (a 1),.int .i64 (a 2),.int .i64 (a 3),.int .i64 (a 4),.int .i64 (a 5)]
end Cp
namespace Cp
open Go Go.Proofs
set_option maxRecDepth 10000
set_option maxHeartbeats 4000000
@[go_sem] theorem dn {a : Nat → Int} : (cAt a).length = 6 := rfl
@[go_sem] theorem Zm {a : Nat → Int} : (cAt a).take 6 = cAt a := rfl
@[go_sem] theorem Yx {a : Nat → Int} : noids (cAt a) = true := rfl
theorem OY {t : TestT} {k : Nat} (hF : TestF t) (hc : Ak t = 0) (hk : 1 ≤ k ∧ k ≤ 3) : Gq t k = .tup [Ab (B6 t k),.int .i64 0] ∧ E5 t k = .tup [A9 ⟨BC t k,OI t k⟩,.int .i64 0] := by
 unfold Gq E5
 rw [if_pos hc,if_pos hc,if_pos (by omega),if_pos (by omega),Int.toNat_natCast]
 exact ⟨rfl,rfl⟩
end Cp
namespace Cp
open Go
section
variable {r : RunT} {u : RulesT} {n : Nat}
end
end Cp
namespace Cp
end Cp
namespace Cp
open Go
def UW (a b : Brc) : Prop := a.m = b.m ∧ a.kind = b.kind ∧ a.cpl = b.cpl
instance {a b : Brc} : Decidable (UW a b) := by unfold UW; infer_instance
end Cp
namespace Cp
open Go
end Cp
namespace Cp
end Cp
namespace Cp
open Go
end Cp
namespace Cp
open Go
theorem N1 {l : List Brc} (hs : l.Pairwise brLt) {c : Int} : (Cd l c).1 = 2 ↔ ∀ b ∈ l,c < b.m := by
 have hf : (AE l c).1 = 2 ↔ ∀ b ∈ l,c < b.m := by
  unfold AE
  cases hq : l[0]? with
  | none =>
   have : l = [] := by cases l with | nil => rfl | cons a l => simp at hq
   subst this; simp
  | some a =>
   simp only
   by_cases ha : a.m ≤ c
   ·rw [if_pos ha]
    constructor
    ·intro h; simp at h
    ·intro h; have := h a (List.mem_of_getElem? hq); omega
   ·rw [if_neg ha]
    simp only [true_iff]
    intro b hb
    obtain ⟨j,hj⟩ := List.getElem?_of_mem hb
    have := JB hs (Nat.zero_le j) hq hj
    omega
 unfold Cd
 cases hk : l[C5 l]? with
 | none => exact hf
 | some b =>
  simp only
  by_cases hb : b.m ≤ c
  ·rw [if_pos hb]
   constructor
   ·intro h; simp at h
   ·intro h; have := h b (List.mem_of_getElem? hk); omega
  ·rw [if_neg hb]; exact hf
theorem L5 {l : List Brc} (hs : l.Pairwise brLt) {c : Int} : (Cd l c).1 = 0 ↔ ∃ b ∈ l,b.known = 2 ∧ b.m ≤ c := by
 have hf : (AE l c).1 ≠ 0 := by
  unfold AE
  split
  ·split <;> simp
  ·simp
 have hge : ∀ b ∈ l,b.known = 2 → ∃ a,l[C5 l]? = some a ∧ a.m ≤ b.m := fun b hb h2 => by
  obtain ⟨j,hj⟩ := List.getElem?_of_mem hb
  have hjl := (List.getElem?_eq_some_iff.1 hj).1
  have hle : C5 l ≤ j := by
   rcases Nat.lt_or_ge j (C5 l) with h | h
   ·exact absurd h2 (firstK_lt h hj)
   ·exact h
  obtain ⟨a,ha⟩ : ∃ a,l[C5 l]? = some a := ⟨_,List.getElem?_eq_getElem (by omega)⟩
  exact ⟨a,ha,JB hs hle ha hj⟩
 unfold Cd
 cases hk : l[C5 l]? with
 | none =>
  simp only
  constructor
  ·intro h; exact absurd h hf
  ·rintro ⟨b,hb,h2,hm⟩
   obtain ⟨a,ha,_⟩ := hge b hb h2
   rw [hk] at ha; cases ha
 | some b =>
  simp only
  by_cases hb : b.m ≤ c
  ·rw [if_pos hb]
   simp only [true_iff]
   exact ⟨b,List.mem_of_getElem? hk,firstK_at hk,hb⟩
  ·rw [if_neg hb]
   constructor
   ·intro h; exact absurd h hf
   ·rintro ⟨b',hb',h2,hm⟩
    obtain ⟨a,ha,hle⟩ := hge b' hb' h2
    rw [hk] at ha; cases ha
    omega
theorem Lj {r : RunT} {u : RulesT} (h : CB r = true) : (C9 r u).Pairwise brLt := EZ (CS h)
def freeU : RulesT := ⟨[],0,600,⟨0,0⟩,600⟩
def AZ (t : TestT) : TestT := { t with rules := freeU }
theorem freeU_ok : Bn freeU = true := by decide
theorem Sk {r : RunT} {k : Nat} (hk : k < 600) : Jk r freeU k = CI r (k : Int) := by
 have h1 : K9 r freeU k = 0 := by
  unfold K9
  rw [if_pos]
  show (-1 : Int) < 0
  decide
 have h2 : Ee r freeU (k : Int) = [] := by
  unfold Ee; rw [if_pos]; show (k : Int) < 600; omega
 have h3 : CL r freeU (k : Int) = [] := by
  unfold CL; rw [if_pos]; show (k : Int) < 600; omega
 unfold Jk
 rw [h1,h2,h3]
 simp [EV]
theorem Lc {r : RunT} {u : RulesT} : ∀ {k : Nat},k < 600 → ∀ b ∈ Ct r freeU k,b ∈ Ct r u k ∧ b.known = 2
 | 0,_,b,hb => by simp [Ct] at hb
 | k + 1,hk,b,hb => by
  simp only [Ct,List.mem_append] at hb ⊢
  rcases hb with hb | hb
  ·obtain ⟨h1,h2⟩ := Lc (u := u) (by omega) b hb
   exact ⟨.inl h1,h2⟩
  ·rw [Sk hk] at hb
   refine ⟨.inr ?_,?_⟩
   ·unfold Jk
    simp only [List.mem_append]
    exact .inl (.inl (.inl hb))
   ·unfold CI at hb
    split at hb
    ·simp only [List.mem_singleton] at hb; rw [hb]
    ·simp at hb
theorem MG {t : TestT} (c : Nat) : Dl (AZ t) c = Dl t c := by
 match c with
 | 0 => rfl
 | 1 => rfl
 | 2 => rfl
 | 3 => rfl
 | 4 => rfl
 | 5 => rfl
 | _ + 6 => rfl
theorem PK {t : TestT} (c : Nat) : Ea (AZ t) c = Ea t c := by
 funext n; simp only [Ea,MG]
theorem Ra {t : TestT} (c : Nat) : CG (AZ t) c = CG t c := by
 funext n; simp only [CG,MG]
theorem KA {t : TestT} (c : Nat) : ∀ (l : List NoteT) (a : Option Int),Du (AZ t) c l a = Du t c l a
 | [],a => rfl
 | n :: l,a => by simp only [Du,PK]; exact KA c l _
theorem Lt {t : TestT} (c : Nat) : Fm (AZ t) c = Fm t c := KA c t.notes none
theorem JP {t : TestT} (c : Nat) : D6 (AZ t) c = D6 t c := by
 unfold D6 FC; rw [Ra]; rfl
theorem UE {t : TestT} (c : Nat) : frC (AZ t) c = frC t c := by unfold frC; rw [Lt]
theorem Ui {t : TestT} (c : Nat) : toC (AZ t) c = toC t c := by unfold toC; rw [JP]; rfl
theorem PN {t : TestT} (c : Nat) : AC (AZ t) c = AC t c := by
 unfold AC; rw [UE,Ui,JP]; rfl
theorem IZ {t : TestT} (l : Nat) : B6 (AZ t) l = B6 t l := by
 unfold B6 Bx
 rw [show AC (AZ t) = AC t from funext fun c => PN c]
theorem NV {t : TestT} : BT (AZ t) = BT t := by
 unfold BT
 rw [show Cc (AZ t) = Cc t from funext fun c => by unfold Cc; rw [Lt,JP]]
theorem Ok {t : TestT} (hF : TestF t) (hc : Ak t = 0) : Ak (AZ t) = 0 := by
 obtain ⟨h1,h2,h3⟩ := Ke hc
 have e1 : Az (AZ t).run (AZ t).rules = 0 := by
  show Az t.run freeU = 0
  unfold Az
  rw [if_pos hF.run,if_pos freeU_ok]
 unfold Ak
 rw [if_pos e1,if_pos (show AQ (AZ t) = true from h2),if_neg (by
  rw [NV,h3]; simp)]
theorem JJ {t : TestT} (hF : TestF t) (c : Int) : (AD t c = 2 → AD (AZ t) c = 2) ∧ (¬ AD t c = 0 → ¬ AD (AZ t) c = 0) := by
 have hr := hF.rows
 have hp := Lj (u := t.rules) hF.run
 have hp' := Lj (u := freeU) hF.run
 have hfl := Lc (r := t.run) (u := t.rules) (k := t.run.rows.length) (by omega)
 have e : AD (AZ t) c = if (t.run.rows.length : Int) < c then 0 else (Cd (C9 t.run freeU) c).1 := rfl
 rw [e]
 unfold AD
 split
 ·exact ⟨fun h => h,fun h => h⟩
 ·constructor
  ·intro h
   exact (N1 hp').2 fun b hb => (N1 hp).1 h b (hfl b hb).1
  ·intro h h0
   obtain ⟨b,hb,h2,hm⟩ := (L5 hp').1 h0
   exact h ((L5 hp).2 ⟨b,(hfl b hb).1,(hfl b hb).2,hm⟩)
theorem Xr {p : Int → Bool} (h : Down p) {c : Int} (hc : c ∈ clsL) : p c = true ↔ c ≤ grt p clsL 0 := by
 have hb := GS hc
 rcases Ff h with ⟨h1,h2⟩ | ⟨h1,h2,h3⟩
 ·constructor
  ·intro q; rw [h2 c hc] at q; cases q
  ·intro q; omega
 ·constructor
  ·intro q
   by_cases hlt : grt p clsL 0 < c
   ·rw [h3 c hc hlt] at q; cases q
   ·omega
  ·intro q; exact h _ _ q h2
def Kq (n x : Int) (c : Int) : Bool := decide (c ≤ n) && decide (c ≤ x)
theorem wantP_down {n x : Int} : Down (Kq n x) := by
 intro a b h hb
 simp only [Kq,Bool.and_eq_true,decide_eq_true_eq] at hb ⊢
 omega
theorem NS {t : TestT} (hF : TestF t) {l : Nat} : BC t l = I9 (Kq (Ol t) (BC (AZ t) l)) clsL 0 ∧ OI t l ≤ OI (AZ t) l ∧ BC t l ≤ Ol t := by
 have hcb := OT hF
 refine ⟨?_,?_,?_⟩
 ·rw [← Nk wantP_down.pair]
  refine Xk Fd wantP_down fun c hc => ?_
  have hk := J3 hF (c := c)
  have hfk := (JJ hF c).1
  have hle := Xr (p := GN (AZ t) l) Fd hc
  have e : BC (AZ t) l = grt (GN (AZ t) l) clsL 0 := rfl
  rw [← e] at hle
  rw [Bool.eq_iff_iff]
  simp only [Kq,Bool.and_eq_true,decide_eq_true_eq]
  rw [← hle,← hk]
  have e2 : GN (AZ t) l c = ((decide ((B6 t l).held = 2) || decide (60 * c < (B6 t l).at1.lo)) && (decide (60 * c ≤ t.fin - t.clock.hi) && decide (AD (AZ t) c = 2))) := by unfold GN E8; rw [IZ]; rfl
  rw [e2]
  simp only [GN,E8,Bool.and_eq_true,Bool.or_eq_true,decide_eq_true_eq]
  constructor
  ·rintro ⟨q1,q2,q3⟩; exact ⟨q3,q1,q2,hfk q3⟩
  ·rintro ⟨q3,q1,q2,_⟩; exact ⟨q1,q2,q3⟩
 ·refine O1 JC JC fun c hc h => ?_
  have hfk := (JJ hF c).2
  have e2 : U9 (AZ t) l c = ((!decide ((B6 t l).held = 0) || decide (60 * c < (B6 t l).at1.hi)) && (decide (60 * c ≤ t.fin - t.clock.lo) && !decide (AD (AZ t) c = 0))) := by unfold U9 Il; rw [IZ]; rfl
  rw [e2]
  simp only [U9,Il,Bool.and_eq_true,Bool.or_eq_true,decide_eq_true_eq,Bool.not_eq_true',decide_eq_false_iff_not] at h ⊢
  exact ⟨h.1,h.2.1,hfk h.2.2⟩
 ·rcases Ff (p := GN t l) Fd with ⟨h1,_⟩ | ⟨h1,h2,_⟩
  ·have : BC t l = 0 := h1
   omega
  ·have hk := J3 hF (c := BC t l)
   have h2' : GN t l (BC t l) = true := h2
   simp only [GN,E8,Bool.and_eq_true,decide_eq_true_eq] at h2'
   exact hk.1 h2'.2.2
end Cp
namespace Cp
open Go Go.Proofs
set_option maxRecDepth 10000
set_option maxHeartbeats 4000000
theorem PureC.arg_weak {P : Program} {fid : FuncId} {args args' : List Val} {v : Val} (h : PureC P fid args v) (hn : noids args' = true) (hw : ∀ G w xs,VRs G w args' xs → VRs G w args xs) : PureC P fid args' v :=
 ⟨h.1,hn,h.2.2.1,fun G w xs hR hv => h.2.2.2 G w xs hR (hw G w xs hv)⟩
theorem VRs.agg_set {G : Gh} {w : World} {cs : List Val} {i n : Nat} {vs : List Val} {xs : Array Value} (h : VRs G w (.agg (cs.set i .nils) :: vs) xs) (hc : cs[i]? = some (.lst n [])) : VRs G w (.agg cs :: vs) xs :=
 ⟨h.1,fun j v hj => by
  cases j with
  | zero => cases hj; exact (h.2 0 _ rfl).agg_set hc
  | succ j => exact h.2 (j + 1) v hj⟩
theorem Tt {t : TestT} (h : TestB t) : TestB (AZ t) := ⟨h.run,⟨show (0 : Nat) ≤ 4611686018427387904 by decide⟩,h.notes,h.kinds⟩
theorem furnace_law (t : TestT) (hu : Iu t) (n : Int) (hn0 : 0 ≤ n) (hn1 : n ≤ 255) : PureC Tryz.prog 11 [A2 t,.int .u8 n] (.bool true) := by
 have hr := Qm t hu
 simp only [A2,A4] at hr
 by_cases hrd : (!FA t && decide (Ak t = 0)) = true
 ·rw [hrd] at hr
  obtain ⟨hG,hF,hc0⟩ := Q9 hu hrd
  obtain ⟨k,hk,hk3⟩ := R4 hn0
  have hle := LM n ⟨hn0,hn1⟩
  rw [hk] at hle
  have hfc := Ok hF hc0
  have hFF := P3 hfc
  obtain ⟨-,e2⟩ := OY hF hc0 hk3
  obtain ⟨-,e3⟩ := OY hFF hfc hk3
  have h1 := QC t hG.sm (by have := hG.steps; omega) (by have := hG.notes; omega)
  have h2 := IR t hG.tb k (by omega)
  have h3 := Qp t.run t.rules hG.tb.run hG.tb.rules
  have h4 := (IR (AZ t) (Tt hG.tb) k (by omega)).arg_weak (args' := [.agg ((A4 (AZ t)).set 7 .nils),.int .u8 (k : Int)]) (by simp [noids,noid,A4,AZ,freeU,go_sem]) fun G w xs h => h.agg_set (n := 2) rfl
  rw [e2] at h2
  rw [e3] at h4
  have hcn : JL t.run t.rules = .tup [.int .i64 (Ol t),.int .i64 0] := by unfold JL; rw [if_pos hF.check]; rfl
  rw [hcn] at h3
  obtain ⟨q1,q2,q3⟩ := NS hF (l := k)
  generalize BC (AZ t) k = fx at *
  generalize OI (AZ t) k = fy at *
  generalize Ol t = cnt at *
  generalize BC t k = sx at *
  generalize OI t k = sy at *
  simp only [A2,A4,A9,A7,A6,A1,A3,AZ,freeU,List.set_cons_succ,List.set_cons_zero] at h1 h2 h3 h4
  refine A8 (fn := Tryz.f11) tabOK (by kernel_rfl) rfl (by kernel_rfl) (by simp [Tryz.f11]) (by simp [noids,noid,noidss,go_sem,A2,A4]) (by first | rfl | simp [noids,noid,noidss,go_sem,A2,A4]) ?_
  intro X hX0 hXs
  have q3' : ¬ cnt < sx := by omega
  repeat' (first | with_reducible (first | ((fail_if_success (refine DE (id := 15) ?_)); refine sk ?_; intro K hK) | intro (ep : Nat → Nat) | apply_assumption -exfalso -symm only [*]) | ((first | (with_reducible first | refine rg (h := ?_) | refine nx ?_) | refine pK (alive_ok) ?_ | refine pK (hr) ?_ | refine pK (hle) ?_ | refine pK (h1) ?_ | refine pK (h2) ?_ | refine pK (h3) ?_ | refine pK (h4) ?_); try simp (disch := omega) only [A2,A4,A9,A7,A6,A1,A3,q3',go_sem,simprocAttr]) | ((with_reducible refine' cE ?hv ?_ ?_); (case hv => rfl); all_goals (intro hc; (try simp only [go_sem,simprocAttr] at hc))) | fail)
  have hcut : ∀ f H,f 5 = .bool true ∧ f 14 = .int .i64 sx ∧ (∃ e7 e12,f 7 = .ptr 7 e7 2 0 0 ∧ f 12 = .ptr 12 e12 2 0 0 ∧ H 7 = some (e7,.arr 2 [[.int .i64 sx,.int .i64 sy]]) ∧ H 12 = some (e12,.arr 2 [[.int .i64 fx,.int .i64 fy]])) → K f H := by
   rintro f H ⟨h5,h14,e7,e12,h7,h12,H7,H12⟩
   refine hK f H ?_
   clear hK hr hle h1 h2 h3 h4
   repeat' (first | with_reducible (first | (refine sk ?_; intro K hK) | apply_assumption -exfalso -symm only [*]) | ((with_reducible first | refine rg (h := ?_) | refine nx ?_); try simp (disch := omega) only [h5,h7,h12,h14,H7,H12,q2,go_sem,simprocAttr]) | ((with_reducible refine fe ?_); refine ⟨_,(by simp only [Tryz.f11,h5,h7,h12,h14,H7,H12,q2,go_sem,simprocAttr]; rfl),?_⟩; rfl) | fail)
  clear hK
  have hcutE : ∃ _ : Unit,_ := ⟨(),hcut⟩
  clear hcut
  repeat' (first | with_reducible (first | (refine sk ?_; intro K hK) | apply_assumption -exfalso -symm only [*]) | ((first | (with_reducible refine rg (h := ?_)) | refine pK (r2classes_ok) ?_); try simp (disch := omega) only [go_sem,simprocAttr]) | fail)
  refine An tabOK 7 (fun i f H => (f 5 = .bool true ∧ f 9 = .int .i64 cnt ∧ f 66 = .lst 1 (BO clsL)) ∧ f 14 = .int .i64 (I9 (Kq cnt fx) (clsL.take i) 0) ∧ ∃ e7 e12,f 7 = .ptr 7 e7 2 0 0 ∧ f 12 = .ptr 12 e12 2 0 0 ∧ H 7 = some (e7,.arr 2 [[.int .i64 sx,.int .i64 sy]]) ∧ H 12 = some (e12,.arr 2 [[.int .i64 fx,.int .i64 fy]])) (by decide) (by rw [hXs]; decide) (by decide) (by (first | rfl | (simp only [go_sem,simprocAttr]; done) | (simp only [go_sem,simprocAttr]; rfl))) (by (first | rfl | (simp only [BO,clsL,List.length_cons,List.length_nil,go_sem,simprocAttr]; done) | (simp only [BO,clsL,List.length_cons,List.length_nil,go_sem,simprocAttr]; rfl)))
   ⟨by (and_intros <;> first | rfl | (simp only [go_sem,simprocAttr]; done) | (simp only [go_sem,simprocAttr]; rfl)),by (first | rfl | (simp only [go_sem,simprocAttr]; done) | (simp only [go_sem,simprocAttr]; rfl)),_,_,by (first | rfl | (simp only [go_sem,simprocAttr]; done) | (simp only [go_sem,simprocAttr]; rfl)),by (first | rfl | (simp only [go_sem,simprocAttr]; done) | (simp only [go_sem,simprocAttr]; rfl)),by (first | rfl | (simp only [go_sem,simprocAttr]; done) | (simp only [go_sem,simprocAttr]; rfl)),by (first | rfl | (simp only [go_sem,simprocAttr]; done) | (simp only [go_sem,simprocAttr]; rfl))⟩ ?_ ?_
  ·clear hcutE hr hle h1 h2 h3 h4
   rintro i f H hi h68 h67 ⟨⟨h5,h9,h66⟩,h14,e7,e12,h7,h12,H7,H12⟩
   obtain ⟨x,hx⟩ : ∃ x,clsL[i]? = some x := ⟨_,List.getElem?_eq_getElem hi⟩
   have hxa := LN hx
   rw [C6 hx,O9]
   generalize I9 (Kq cnt fx) (clsL.take i) 0 = y at *
   refine Bo [7,12] ?_
   change Cs H [7,12] 7 = _ at H7
   change Cs H [7,12] 12 = _ at H12
   generalize Cs H [7,12] = H2 at *
   unfold Kq
   by_cases g1 : x ≤ cnt
   ·by_cases g2 : x ≤ fx
    ·simp only [g1,g2,decide_true,Bool.and_self,if_true]
     repeat' (first | with_reducible (first | (refine sk ?_; intro K hK) | apply_assumption -exfalso -symm only [*]) | ((with_reducible refine rg (h := ?_)); try simp (disch := omega) only [h5,h7,h9,h12,h14,h66,h67,h68,hxa,H7,H12,g1,g2,go_sem,simprocAttr]) | ((with_reducible refine' cE ?hv ?_ ?_); (case hv => rfl); all_goals (intro hc; (try simp only [go_sem,simprocAttr] at hc))) | fail)
     exact ⟨e7,e12,by (first | rfl | (simp only [h7,go_sem,simprocAttr]; done) | (simp only [h7,go_sem,simprocAttr]; rfl)),by (first | rfl | (simp only [h12,go_sem,simprocAttr]; done) | (simp only [h12,go_sem,simprocAttr]; rfl)),by (first | rfl | (simp only [H7,go_sem,simprocAttr]; done) | (simp only [H7,go_sem,simprocAttr]; rfl)),by (first | rfl | (simp only [H12,go_sem,simprocAttr]; done) | (simp only [H12,go_sem,simprocAttr]; rfl))⟩
    ·simp only [g1,g2,decide_true,decide_false,Bool.and_false,Bool.false_eq_true,if_false]
     repeat' (first | with_reducible (first | (refine sk ?_; intro K hK) | apply_assumption -exfalso -symm only [*]) | ((with_reducible first | refine rg (h := ?_) | refine nx ?_); try simp (disch := omega) only [h5,h7,h9,h12,h14,h66,h67,h68,hxa,H7,H12,g1,g2,go_sem,simprocAttr]) | ((with_reducible refine' cE ?hv ?_ ?_); (case hv => rfl); all_goals (intro hc; (try simp only [go_sem,simprocAttr] at hc))) | fail)
     exact ⟨e7,e12,by (first | rfl | (simp only [h7,go_sem,simprocAttr]; done) | (simp only [h7,go_sem,simprocAttr]; rfl)),by (first | rfl | (simp only [h12,go_sem,simprocAttr]; done) | (simp only [h12,go_sem,simprocAttr]; rfl)),by (first | rfl | (simp only [H7,go_sem,simprocAttr]; done) | (simp only [H7,go_sem,simprocAttr]; rfl)),by (first | rfl | (simp only [H12,go_sem,simprocAttr]; done) | (simp only [H12,go_sem,simprocAttr]; rfl))⟩
   ·simp only [g1,decide_false,Bool.false_and,Bool.false_eq_true,if_false]
    repeat' (first | with_reducible (first | (refine sk ?_; intro K hK) | apply_assumption -exfalso -symm only [*]) | ((with_reducible first | refine rg (h := ?_) | refine nx ?_); try simp (disch := omega) only [h5,h7,h9,h12,h14,h66,h67,h68,hxa,H7,H12,g1,go_sem,simprocAttr]) | ((with_reducible refine' cE ?hv ?_ ?_); (case hv => rfl); all_goals (intro hc; (try simp only [go_sem,simprocAttr] at hc))) | fail)
    exact ⟨e7,e12,by (first | rfl | (simp only [h7,go_sem,simprocAttr]; done) | (simp only [h7,go_sem,simprocAttr]; rfl)),by (first | rfl | (simp only [h12,go_sem,simprocAttr]; done) | (simp only [h12,go_sem,simprocAttr]; rfl)),by (first | rfl | (simp only [H7,go_sem,simprocAttr]; done) | (simp only [H7,go_sem,simprocAttr]; rfl)),by (first | rfl | (simp only [H12,go_sem,simprocAttr]; done) | (simp only [H12,go_sem,simprocAttr]; rfl))⟩
  ·rintro f H h68 h67 ⟨⟨h5,h9,h66⟩,h14,e7,e12,h7,h12,H7,H12⟩
   obtain ⟨_,hcut⟩ := hcutE
   rw [show clsL.take 7 = clsL from rfl,← q1] at h14
   repeat' (first | with_reducible apply_assumption -exfalso -symm only [*] | fail)
   exact ⟨by (first | rfl | (simp only [h5,go_sem,simprocAttr]; done) | (simp only [h5,go_sem,simprocAttr]; rfl)),by (first | rfl | (simp only [h14,go_sem,simprocAttr]; done) | (simp only [h14,go_sem,simprocAttr]; rfl)),e7,e12,by (first | rfl | (simp only [h7,go_sem,simprocAttr]; done) | (simp only [h7,go_sem,simprocAttr]; rfl)),by (first | rfl | (simp only [h12,go_sem,simprocAttr]; done) | (simp only [h12,go_sem,simprocAttr]; rfl)),H7,H12⟩
 ·simp only [Bool.not_eq_true] at hrd
  rw [hrd] at hr
  refine A8 (fn := Tryz.f11) tabOK (by kernel_rfl) rfl (by kernel_rfl) (by simp [Tryz.f11]) (by simp [noids,noid,noidss,go_sem,A2,A4]) (by first | rfl | simp [noids,noid,noidss,go_sem,A2,A4]) ?_
  intro X hX0 hXs
  repeat' (first | with_reducible (first | (refine sk ?_; intro K hK) | apply_assumption -exfalso -symm only [*]) | ((first | (with_reducible first | refine rg (h := ?_) | refine nx ?_) | refine pK (alive_ok) ?_ | refine pK (hr) ?_); try simp (disch := omega) only [A2,A4,go_sem,simprocAttr]) | ((with_reducible refine' cE ?hv ?_ ?_); (case hv => rfl); all_goals (intro hc; (try simp only [go_sem,simprocAttr] at hc))) | ((with_reducible refine fe ?_); refine ⟨_,(by simp only [Tryz.f11,A2,A4,go_sem,simprocAttr]; rfl),?_⟩; rfl) | fail)
end Cp
namespace Cp
open Go Go.Proofs
set_option maxRecDepth 100000
theorem L1 {W : World} {fuel : Nat} {v : Value} {cs : List Value} {b : UInt8} {r : List UInt8} {q : List MemPlace} {f0 : FuncId} (hl : cs.length = 1) (hv : cs = [v])
  (hone : ((List.range Tryz.prog.funcs.size).filter fun f => (Tryz.prog.funcs[f]?).any (·.name.toUTF8.data.toList == b :: r)) = [f0])
  (h : DataW.trod (funcToken Tryz.prog) Tryz.prog W 0 (fun _ => true) true fuel 165 cs = some (.agg [.held (b :: r)],q)) : v = .func (.func f0) #[] #[] := by
 subst hv
 obtain ⟨xs,m,rfl,e1,_,hxl,hf⟩ := DataW.trod_struct Tryz.underlying165 h
 simp only [Prod.mk.injEq,DataW.agg.injEq] at e1
 have h0 : DataW.trod (funcToken Tryz.prog) Tryz.prog W 0 (fun _ => true) true m 164 (([v].drop 0).take (Tryz.prog.cellsOf 164)) = xs[0]? := hf 0 _ rfl
 have hc1 : Tryz.prog.cellsOf 164 = 1 := by kernel_rfl
 rw [hc1] at h0
 match xs,hxl with
 | [x],_ =>
  obtain ⟨x1,x2⟩ := x
  simp only [List.map_cons,List.map_nil,List.cons.injEq,and_true] at e1
  simp only [List.drop_zero,List.take_succ_cons,List.take_zero,List.getElem?_cons_zero] at h0
  rw [← e1.1] at h0
  exact func_of_trod Tryz.underlying164 hone h0
def showsD : DataW Unit := .agg [.agg [.iface "func" (.lit (.string [99,111,116,116,111,110,112,97,100,47,99,108,97,115,115,46,115,104,111,119,115,36,49]))],.agg [.iface "func" (.lit (.string [99,111,116,116,111,110,112,97,100,47,99,108,97,115,115,46,115,104,111,119,115,36,50]))]]
theorem glb_ok {W : World} (h : laidMetH Tryz.prog [("cottonpad/class.shows",.iface "func table" showsD)] W) : Rf W := by
 obtain ⟨g,t,cs,fuel,p,e1,e2,e3,e4⟩ := h.funcs (n := "cottonpad/class.shows") (d := showsD) (List.mem_singleton.2 rfl)
 have hg : Tryz.prog.globalNamed "cottonpad/class.shows" = some 0 := by kernel_rfl
 obtain rfl : 0 = g := Option.some.inj (hg.symm.trans e1)
 have ht : (Tryz.prog.globals[0]?).map (·.type) = some 166 := by kernel_rfl
 obtain rfl : 166 = t := Option.some.inj (ht.symm.trans e2)
 have hcell := fun i => World.var?_cell e1 e3 i
 obtain ⟨xs,m,rfl,x1,hl,hxl,hf⟩ := DataW.trod_array Tryz.underlying166 e4
 have hc1 : Tryz.prog.cellsOf 165 = 1 := by kernel_rfl
 have hc2 : Tryz.prog.cellsOf 166 = 2 := by kernel_rfl
 rw [hc2] at hl
 obtain ⟨cs⟩ := cs
 match cs,hl,xs,hxl with
 | [v0,v1],_,[y0,y1],_ =>
  have h0 := hf 0 (by decide)
  have h1 := hf 1 (by decide)
  simp only [hc1,Nat.zero_mul,Nat.one_mul,List.drop_zero,List.drop_succ_cons,List.take_succ_cons,List.take_zero,List.getElem?_cons_zero,List.getElem?_cons_succ] at h0 h1
  obtain ⟨y0,z0⟩ := y0
  obtain ⟨y1,z1⟩ := y1
  simp only [Prod.mk.injEq,List.map_cons,List.map_nil] at x1
  have hx := x1.1
  have hd : showsD.funcsOut = .agg [.agg [.held [99,111,116,116,111,110,112,97,100,47,99,108,97,115,115,46,115,104,111,119,115,36,49]],.agg [.held [99,111,116,116,111,110,112,97,100,47,99,108,97,115,115,46,115,104,111,119,115,36,50]]] := by kernel_rfl
  rw [hd] at hx
  simp only [DataW.agg.injEq,List.cons.injEq,and_true] at hx
  rw [← hx.1] at h0
  rw [← hx.2] at h1
  have r0 := L1 (f0 := 160) rfl rfl (by kernel_rfl) h0
  have r1 := L1 (f0 := 161) rfl rfl (by kernel_rfl) h1
  subst r0 r1
  have c0 := hcell 0
  have c1 := hcell 1
  intro g cs hge
  unfold GE at hge
  split at hge
  ·rename_i h0; subst h0
   cases hge
   refine .pim _ 0 0 (fun j => if j = 0 then .func (.func 160) #[] #[] else .func (.func 161) #[] #[]) (Pi c0) (fun j v hj => ?_) (fun j v hj => ?_) (fun j v hj => ?_)
   ·match j,hj with
    | 0,hj => simpa using c0
    | 1,hj => simpa using c1
    | j + 2,hj => simp at hj
   ·match j,hj with
    | 0,hj => cases hj; rfl
    | 1,hj => cases hj; rfl
    | j + 2,hj => simp at hj
   ·match j,hj with
    | 0,hj => cases hj; exact .fn _ _ _ rfl (fun i v h => by simp at h)
    | 1,hj => cases hj; exact .fn _ _ _ rfl (fun i v h => by simp at h)
    | j + 2,hj => simp at hj
  ·cases hge
end Cp
