/- Rules, facts and contracts that the statement's proof leans on. Conditions: none. -/
import Derived.Test.YtfpbidbjgigljaaP8
set_option linter.unusedVariables false
set_option linter.unusedSimpArgs false
set_option linter.unusedSectionVars false
namespace Cp
open Go
section
variable {P : Program} {T : Tab} {md : Me} {os : List Oper} {K : Fr → Hp → Prop} {f : Fr} {H : Hp} {d : Option Tmp} {ty : TypeId} {pos : String} {af : Array Edge} {g : Option (Nat × Bool)} {ss lk : List Nat}
 {s b : Nat} {z : Val} {p : Bool}
@[go_sem] theorem xck_struct {n : Nat} {fs : List (Nat × Nat)} {cs : List Val} : xck T (n + 1) { kind := .struct fs, sz := s, bytes := b, zero := z, plain := p } (.agg cs) = xckF T (xck T n) cs fs := rfl
def xckF1 (T : Tab) (g : TI → Val → Bool) (cs : List Val) (fs : List (Nat × Nat)) (off : Nat) : Option TI → Bool
 | none => false
 | some fi => match rdC fi (cs.drop off) with | none => false | some a => g fi a && xckF T g cs fs
@[go_sem] theorem xckF_nil {g : TI → Val → Bool} {cs : List Val} : xckF T g cs [] = true := rfl
@[go_sem] theorem xckF_cons {g : TI → Val → Bool} {cs : List Val} {off ft : Nat} {fs : List (Nat × Nat)} : xckF T g cs ((off, ft) :: fs) = xckF1 T g cs fs off (T ft) := by
 simp only [xckF, xckF1]
 cases T ft <;> rfl
def xckF2 (T : Tab) (g : TI → Val → Bool) (cs : List Val) (fs : List (Nat × Nat)) (fi : TI) : Option Val → Bool
 | none => false
 | some a => g fi a && xckF T g cs fs
@[go_sem] theorem xckF1_some {g : TI → Val → Bool} {cs : List Val} {off : Nat} {fs : List (Nat × Nat)} {fi : TI} : xckF1 T g cs fs off (some fi) = xckF2 T g cs fs fi (rdC fi (cs.drop off)) := rfl
@[go_sem] theorem xckF2_some {g : TI → Val → Bool} {cs : List Val} {fs : List (Nat × Nat)} {fi : TI} {a : Val} : xckF2 T g cs fs fi (some a) = (g fi a && xckF T g cs fs) := rfl
def lkF (z : Val) : Option (Option (Nat × Val)) → Option Val
 | none => none
 | some none => some z
 | some (some (_, v)) => some v
@[go_sem] theorem lkF_no : lkF z (some none) = some z := rfl
@[go_sem] theorem lkF_yes {i : Nat} {v : Val} : lkF z (some (some (i, v))) = some v := rfl
def lkH (T : Tab) (kt : TypeId) (key : Val) (z : Val) (e : Nat) (ck : Bool) : Option (Nat × AObj) → Option Val
 | some (e', .map _ es) => if e = e' ∧ ck = true then lkF z (xfind T kt key es 0) else none
 | some (e', .frm _ es) => if e = e' ∧ ck = true then lkF z (xfind T kt key es 0) else none
 | _ => none
@[go_sem] theorem lkH_map {kt : TypeId} {key : Val} {e e' ver : Nat} {ck : Bool} {es : List (Val × Val)} : lkH T kt key z e ck (some (e', .map ver es)) = if e = e' ∧ ck = true then lkF z (xfind T kt key es 0) else none := rfl
@[go_sem] theorem lkH_frm {kt : TypeId} {key : Val} {e e' ver : Nat} {ck : Bool} {es : List (Val × Val)} : lkH T kt key z e ck (some (e', .frm ver es)) = if e = e' ∧ ck = true then lkF z (xfind T kt key es 0) else none := rfl
def lkT2 (T : Tab) (H : Hp) (kt : TypeId) (key : Val) (k e : Nat) : Option TI → Option TI → Option Val
 | some ki, some vi => lkH T kt key vi.zero e (xck T 8 ki key) (H k)
 | _, _ => none
@[go_sem] theorem lkT2_some {kt : TypeId} {key : Val} {k e : Nat} {ki vi : TI} : lkT2 T H kt key k e (some ki) (some vi) = lkH T kt key vi.zero e (xck T 8 ki key) (H k) := rfl
def lkT (T : Tab) (H : Hp) (key : Val) (k e : Nat) : Option TI → Option Val
 | some { kind := .map kt vt, .. } => lkT2 T H kt key k e (T kt) (T vt)
 | _ => none
@[go_sem] theorem lkT_map {key : Val} {k e kt vt : Nat} : lkT T H key k e (some { kind := .map kt vt, sz := s, bytes := b, zero := z, plain := p }) = lkT2 T H kt key k e (T kt) (T vt) := rfl
@[go_sem] theorem xlookup_eq {t : TypeId} {k e : Nat} {key : Val} : xlookup T H t (.map k e) key false = lkT T H key k e (T t) := by
 unfold xlookup lkT
 cases T t with
 | none => rfl
 | some ti =>
  obtain ⟨kind, _, _, _, _⟩ := ti
  cases kind <;> try rfl
  rename_i kt vt
  simp only [lkT2]
  cases T kt with
  | none => rfl
  | some ki =>
   cases T vt with
   | none => rfl
   | some vi =>
    simp only
    have hF : ∀ es : List (Val × Val), (match xfind T kt key es 0 with | none => none | some none => some (if false = true then Val.tup [vi.zero, .bool false] else vi.zero) | some (some (_, v)) => some (if false = true then Val.tup [v, .bool true] else v)) = lkF vi.zero (xfind T kt key es 0) := fun es => by
     cases xfind T kt key es 0 with
     | none => rfl
     | some q => cases q <;> rfl
    cases hc : xck T 8 ki key with
    | false =>
     cases H k with
     | none => rfl
     | some q => obtain ⟨e', o⟩ := q; cases o <;> simp [lkH]
    | true =>
     cases H k with
     | none => rfl
     | some q =>
      obtain ⟨e', o⟩ := q
      cases o <;> try rfl
      all_goals
       by_cases he : e = e'
       ·subst he; simp only [if_true, lkH, and_self]; exact hF _
       ·simp [lkH, he]
@[go_sem] theorem xgo_lookup {t : TypeId} {m key : Operand} {o : Bool} : xgo P T md { dst := d, op := .lookup t m key o, type := ty, pos := pos, after := af, guard := g } K f H = one K d f H (xlookup T H t (ev f m) (ev f key) o) := by
 simp only [xgo, xop]
 generalize xlookup T H t (ev f m) (ev f key) o = X
 cases X <;> exact kk _
end
end Cp
namespace Cp
open Go Go.Proofs
set_option maxRecDepth 10000
set_option maxHeartbeats 1000000
def cPlant (n : NetT) (hs : List HeadT) (e33 e34 k : Nat) : List Val := [.lst 4 (n.pipes.map cPipe), .lst 8 (n.heads.map cHead), .lst 3 (n.pumps.map cPump), .int .i64 n.out, .int .i64 n.tank.lo, .int .i64 n.tank.hi, .int .i64 n.mins, .lst 8 (hs.map cHead), .gr 433 e33 k, .map 434 e34]
structure UpH (n : NetT) (hs : List HeadT) (e9 e10 e36 e33 e34 : Nat) (F : List Int) (H : Hp) : Prop where
 h9 : H 409 = some (e9, .arr 1 [[.ptr 436 e36 10 0 0]])
 h10 : H 410 = some (e10, .arr 1 [[.fn 85 [.ptr 409 e9 1 0 0, .ptr 410 e10 1 0 0, .pim (cNet n)]]])
 h36 : H 436 = some (e36, .arr 10 [cPlant n hs e33 e34 F.length])
 h33 : H 433 = some (e33, .arr 1 (ints F))
theorem ints_set {F : List Int} {k : Nat} {x : Int} : (ints F).set k [.int .i64 x] = ints (F.set k x) := by simp [ints, List.map_set]
theorem up_ok (n : NetT) (hF : NetF n) (hs : List HeadT) (e9 e10 e36 e33 e34 : Nat) (need : Int) (hn : 1 ≤ need ∧ need ≤ 500) : ∀ (k : Nat) (F : List Int) (H0 : Hp), k ≤ n.pipes.length → F.length = n.pipes.length + 1 → (∀ (j : Nat) (x : Int), j ≤ k → F[j]? = some x → 0 ≤ x ∧ x ≤ 1000000) → UpH n hs e9 e10 e36 e33 e34 F H0 →
  ACall Try.prog 85 [.int .i64 k, .int .i64 need, .ptr 409 e9 1 0 0, .ptr 410 e10 1 0 0, .pim (cNet n)] H0 (fun v H' => (∀ j, ¬ j = 433 → H' j = H0 j) ∧ H' 433 = some (e33, .arr 1 (ints (addV n.pipes k need F)))) := by
 intro k
 induction k using Nat.strongRecOn with
 | _ k ih =>
  intro F H0 hk hl hFb hU
  have hpl := hF.pipes
  obtain ⟨h9, h10, h36, h33⟩ := hU
  obtain ⟨x, hx⟩ : ∃ x, F[k]? = some x := ⟨_, List.getElem?_eq_getElem (by omega)⟩
  have hxb := hFb k x (Nat.le_refl _) hx
  have hkl : k < F.length := by omega
  refine ACall_of (fn := Try.f85) tabOK (by kernel_rfl) rfl (by kernel_rfl) (by simp [Try.f85]) ?_
  intro X hX0 hXs
  by_cases h0 : k = 0
  ·subst h0
   have hz := addV_zero hF.falls (need := need) hx
   rw [hz]
   repeat' (first | (with_reducible refine sk ?_; intro K hK) | ((with_reducible first | refine rg (md := { base := 500, own := [], imp := [28] }) (h := ?_) | refine nx ?_); try simp (disch := omega) only [h9, h10, h36, h33, hx, hkl, cPlant,go_sem, simprocAttr]) | (with_reducible refine bk ?_) | ((with_reducible refine' cE ?hv ?_ ?_); (case hv => first | rfl | (simp only [h9, h10, h36, h33, hx, hkl, cPlant,go_sem, simprocAttr]; rfl)); all_goals (intro hc; (try simp only [go_sem, simprocAttr] at hc); try (exfalso; omega))) | with_reducible intro (ep : Nat → Nat) | with_reducible apply_assumption -exfalso -symm only [*])
   refine FnQ_end (Or.inr rfl) (.refl _) (by simp only [Try.f85, go_sem, simprocAttr]; rfl) ?_
   exact ⟨fun j hj => by simp only [upd]; rw [if_neg hj], by simp only [go_sem, simprocAttr, ints_set]⟩
  ·have hst := addV_step hF.falls (k := k) (by omega) (need := need) hx
   rw [hst]
   obtain ⟨i, rfl⟩ : ∃ i, k = i + 1 := ⟨k - 1, by omega⟩
   obtain ⟨p, hp⟩ : ∃ p, n.pipes[i]? = some p := ⟨_, List.getElem?_eq_getElem (by omega)⟩
   have hfl := (hF.pipe i p hp).2.1
   have hfe : frmOf n.pipes (i + 1) = p.frm.toNat := frmOf_get hp
   have hlt := frmOf_lt hF.falls (k := i + 1) (by omega)
   have hfc : ((frmOf n.pipes (i + 1) : Nat) : Int) = p.frm := by omega
   have hkp : (0 : Int) < ((i + 1 : Nat) : Int) := by omega
   have hcl := fun H hU => ih (frmOf n.pipes (i + 1)) hlt (F.set (i + 1) (x + need)) H (by omega) (by simpa using hl) (fun j y hj hy => hFb j y (by omega) (by rwa [List.getElem?_set_ne (by omega)] at hy)) hU
   rw [hfc] at hcl
   simp only [cNet] at hcl
   repeat' (first | (with_reducible refine sk ?_; intro K hK) | ((with_reducible first | refine rg (md := { base := 500, own := [], imp := [28] }) (h := ?_) | refine nx ?_); try simp (disch := omega) only [h9, h10, h36, h33, hx, hkl, hp, hkp, cPlant, cNet, cPipe,go_sem, simprocAttr]) | (with_reducible refine bk ?_) | ((with_reducible refine' cE ?hv ?_ ?_); (case hv => first | rfl | (simp only [h9, h10, h36, h33, hx, hkl, hp, hkp, cPlant, cNet, cPipe,go_sem, simprocAttr]; rfl)); all_goals (intro hc; (try simp only [go_sem, simprocAttr] at hc); try (exfalso; omega))) | with_reducible intro (ep : Nat → Nat) | with_reducible apply_assumption -exfalso -symm only [*])
   refine iK (hcl _ ⟨by (first | rfl | (simp only [h9, go_sem, simprocAttr]; done) | (simp only [h9, go_sem, simprocAttr]; rfl)), by (first | rfl | (simp only [h10, cNet, go_sem, simprocAttr]; done) | (simp only [h10, cNet, go_sem, simprocAttr]; rfl)), by simp only [go_sem, simprocAttr, h36, List.length_set, cPlant], by (first | rfl | (simp only [ints_set, go_sem, simprocAttr]; done) | (simp only [ints_set, go_sem, simprocAttr]; rfl))⟩) ?_
   rintro v H' ⟨hs', h33'⟩
   simp only [go_sem, simprocAttr]
   refine FnQ_end (Or.inr rfl) (.refl _) (by simp only [Try.f85, go_sem, simprocAttr]; rfl) ?_
   exact ⟨fun j hj => by rw [hs' j hj]; simp only [upd]; rw [if_neg hj], h33'⟩
theorem mk_ints {k e m : Nat} : xmakeSlice tab k e 29 (.int .i64 (m : Int)) (.int .i64 (m : Int)) = if m ≤ 1073741824 then some (.gr k e m, some (k, some (e, .arr 1 (List.replicate m [.int .i64 0])))) else none := by
 simp only [xmakeSlice, tab_29, tab_3, vc_int, List.length_cons, List.length_nil]
 by_cases h : m ≤ 1073741824
 ·rw [if_pos h, if_pos (by simp; omega)]; simp
 ·rw [if_neg h, if_neg (by simp; omega)]
def openR (n : NetT) (l : List Int) (H0 : Hp) (v : Val) (H' : Hp) : Prop :=
 (∀ j, j < 400 → H' j = H0 j) ∧ if netOK n = true then (if openOK n.heads l = true then
  ∃ e36 e33 e34 ver, v = .tup [.ptr 436 e36 10 0 0, .int .i64 0] ∧ H' 436 = some (e36, .arr 10 [cPlant n (openH n.heads l) e33 e34 (n.pipes.length + 1)]) ∧ H' 433 = some (e33, .arr 1 (ints (flowL n.pipes (n.pipes.length + 1) (openH n.heads l)))) ∧ H' 434 = some (e34, .map ver [])
  else v = .tup [.nilp, .int .i64 2]) else v = .tup [.nilp, .int .i64 50]
theorem opened_ok (n : NetT) (hs : NetS n) (l : List Int) (hl : l.length ≤ 100000) (H0 : Hp) : ACall Try.prog 53 [encNet n, .lst 1 (ints l)] H0 (openR n l H0) := by
 have hpl := hs.pipes
 have hck := check_ok n (by have := hs.pipes; omega) (by have := hs.heads; omega) (by have := hs.pumps; omega)
 unfold openR checkN at *
 simp only [encNet, cNet] at hck
 refine ACall_of (fn := Try.f53) tabOK (by kernel_rfl) rfl (by kernel_rfl) (by simp [Try.f53]) ?_
 intro X hX0 hXs
 refine AW_cut 400 fun H1 hlow hnone => ?_
 have g9 := hnone 409 (by decide)
 have g10 := hnone 410 (by decide)
 have g33 := hnone 433 (by decide)
 have g34 := hnone 434 (by decide)
 have g36 := hnone 436 (by decide)
 have g12 := hnone 412 (by decide)
 clear hnone
 cases hN : netOK n with
 | false =>
  rw [hN] at hck
  repeat' (first | (with_reducible refine sk ?_; intro K hK) | ((first | (with_reducible first | refine rg (md := { base := 400, own := [9, 10, 33, 34, 36], imp := [49] }) (h := ?_) | refine rgS [9, 10, 12] (md := { base := 400, own := [9, 10, 33, 34, 36], imp := [49] }) (h := ?_) | refine nx ?_) | refine pK (hck) ?_); try simp (disch := omega) only [encNet, cNet,go_sem, simprocAttr]) | (with_reducible refine bk ?_) | ((with_reducible refine' cE ?hv ?_ ?_); (case hv => first | rfl | (simp only [encNet, cNet,go_sem, simprocAttr]; rfl)); all_goals (intro hc; (try simp only [go_sem, simprocAttr] at hc); try (exfalso; omega))) | (first | refine iK (hck) ?_) | with_reducible intro (ep : Nat → Nat) | with_reducible apply_assumption -exfalso -symm only [*])
  refine FnQ_end (Or.inl rfl) (.refl _) (by simp only [Try.f53, go_sem, simprocAttr]; rfl) ?_
  exact ⟨hlow, by simp only [go_sem, simprocAttr]⟩
 | true =>
  rw [hN] at hck
  have hF := net_facts hN
  have hli := listedH_ok n.heads hF.ids (by have := hF.heads; omega) l hl
  unfold listedT at hli
  cases hO : openOK n.heads l with
  | false =>
   rw [hO] at hli
   repeat' (first | (with_reducible refine sk ?_; intro K hK) | ((first | (with_reducible first | refine rg (md := { base := 400, own := [9, 10, 33, 34, 36], imp := [49] }) (h := ?_) | refine rgS [9, 10, 12] (md := { base := 400, own := [9, 10, 33, 34, 36], imp := [49] }) (h := ?_) | refine nx ?_) | refine pK (hck) ?_ | refine pK (hli) ?_); try simp (disch := omega) only [encNet, cNet,go_sem, simprocAttr]) | (with_reducible refine bk ?_) | ((with_reducible refine' cE ?hv ?_ ?_); (case hv => first | rfl | (simp only [encNet, cNet,go_sem, simprocAttr]; rfl)); all_goals (intro hc; (try simp only [go_sem, simprocAttr] at hc); try (exfalso; omega))) | (first | refine iK (hck) ?_ | refine iK (hli) ?_) | with_reducible intro (ep : Nat → Nat) | with_reducible apply_assumption -exfalso -symm only [*])
   refine FnQ_end (Or.inl rfl) (.refl _) (by simp only [Try.f53, go_sem, simprocAttr]; rfl) ?_
   exact ⟨hlow, by simp only [go_sem, simprocAttr]⟩
  | true =>
   rw [hO] at hli
   have hpb : n.pipes.length + 1 ≤ 1073741824 := by omega
   have hrep : List.replicate (n.pipes.length + 1) [Val.int .i64 0] = ints (flowL n.pipes (n.pipes.length + 1) []) := by rw [flowL_nil]; simp [ints]
   repeat' (first | ((fail_if_success (with_reducible refine AW_at (id := 10) ?_)); with_reducible refine sk ?_; intro K hK) | ((first | (with_reducible first | refine rg (md := { base := 400, own := [9, 10, 33, 34, 36], imp := [49] }) (h := ?_) | refine rgS [9, 10, 12] (md := { base := 400, own := [9, 10, 33, 34, 36], imp := [49] }) (h := ?_) | refine nx ?_) | refine pK (hck) ?_ | refine pK (hli) ?_); try simp (disch := omega) only [encNet, cNet, g9, g10, g33, g34, g36, mk_ints, hpb, hrep,go_sem, simprocAttr]) | (with_reducible refine bk ?_) | ((with_reducible refine' cE ?hv ?_ ?_); (case hv => first | rfl | (simp only [encNet, cNet, g9, g10, g33, g34, g36, mk_ints, hpb, hrep,go_sem, simprocAttr]; rfl)); all_goals (intro hc; (try simp only [go_sem, simprocAttr] at hc); try (exfalso; omega))) | (first | refine iK (hck) ?_ | refine iK (hli) ?_) | ((with_reducible refine fe ?_); refine ⟨_, (by simp only [Try.f53, encNet, cNet, g9, g10, g33, g34, g36, mk_ints, hpb, hrep,go_sem, simprocAttr]; rfl), ?_⟩; first | rfl | (try simp only [encNet, cNet, g9, g10, g33, g34, g36, mk_ints, hpb, hrep,go_sem, simprocAttr, seval])) | with_reducible intro (ep : Nat → Nat) | with_reducible apply_assumption -exfalso -symm only [*])
   have ho := open_le hF.ids hO
   have hLl : (openH n.heads l).length ≤ 12 := by have h1 := @openH_len n.heads l; have h2 := hs.heads; omega
   have hL5 := openH_500 hF l
   have hLn := fun h hm => openH_node hF (l := l) (h := h) hm
   obtain ⟨L, hL⟩ : ∃ L, openH n.heads l = L := ⟨_, rfl⟩
   rw [hL] at hLl hL5 hLn
   simp only [hL]
   repeat' (first | (with_reducible refine sk ?_; intro K hK) | ((with_reducible first | refine rg (md := { base := 400, own := [9, 10, 33, 34, 36], imp := [49] }) (h := ?_) | refine rgS [9, 10, 12] (md := { base := 400, own := [9, 10, 33, 34, 36], imp := [49] }) (h := ?_) | refine nx ?_); try simp (disch := omega) only [hL,go_sem, simprocAttr]) | (with_reducible refine bk ?_) | ((with_reducible refine' cE ?hv ?_ ?_); (case hv => first | rfl | (simp only [hL,go_sem, simprocAttr]; rfl)); all_goals (intro hc; (try simp only [go_sem, simprocAttr] at hc); try (exfalso; omega))) | ((with_reducible refine fe ?_); refine ⟨_, (by simp only [Try.f53, hL,go_sem, simprocAttr]; rfl), ?_⟩; first | rfl | (try simp only [hL,go_sem, simprocAttr, seval])) | with_reducible intro (ep : Nat → Nat) | with_reducible apply_assumption -exfalso -symm only [*])
   refine AW_range tabOK L.length (fun k f H => f 38 = .lst 8 (L.map cHead) ∧ (∀ j, j < 400 → H j = H0 j) ∧ ∃ e9 e10 e36 e33 e34 ver, (f 9 = .ptr 409 e9 1 0 0 ∧ f 10 = .ptr 410 e10 1 0 0) ∧ UpH n L e9 e10 e36 e33 e34 (flowL n.pipes (n.pipes.length + 1) (L.take k)) H ∧ H 434 = some (e34, .map ver [])) (by omega) (by rw [hXs]; decide) (by decide) (by (first | rfl | (simp only [hL, go_sem, simprocAttr]; done) | (simp only [hL, go_sem, simprocAttr]; rfl))) (by (first | rfl | (simp only [hL, go_sem, simprocAttr]; done) | (simp only [hL, go_sem, simprocAttr]; rfl)))
    ⟨by (first | rfl | (simp only [hL, go_sem, simprocAttr]; done) | (simp only [hL, go_sem, simprocAttr]; rfl)), fun j hj => by (try simp only [upd]); (repeat rw [if_neg (by omega)]); exact hlow j hj, _, _, _, _, _, _, ⟨by (first | rfl | (simp only [go_sem, simprocAttr]; done) | (simp only [go_sem, simprocAttr]; rfl)), by (first | rfl | (simp only [go_sem, simprocAttr]; done) | (simp only [go_sem, simprocAttr]; rfl))⟩, ⟨by (first | rfl | (simp only [go_sem, simprocAttr]; done) | (simp only [go_sem, simprocAttr]; rfl)), by (first | rfl | (simp only [cNet, go_sem, simprocAttr]; done) | (simp only [cNet, go_sem, simprocAttr]; rfl)), by simp only [go_sem, simprocAttr, cPlant, flowL_len, hL]; rfl, by (first | rfl | (simp only [List.take_zero, go_sem, simprocAttr]; done) | (simp only [List.take_zero, go_sem, simprocAttr]; rfl))⟩, by (first | rfl | (simp only [go_sem, simprocAttr]; done) | (simp only [go_sem, simprocAttr]; rfl))⟩ ?_ ?_
   ·clear hlow g9 g10 g33 g34 g36 g12
    rintro k f H hk h40 h39 ⟨h38, hlow, e9, e10, e36, e33, e34, ver, ⟨h9, h10⟩, hU, hm⟩
    obtain ⟨h, hh⟩ : ∃ h, L[k]? = some h := ⟨_, List.getElem?_eq_getElem hk⟩
    have hmem := List.mem_of_getElem? hh
    have hnd := hLn h hmem
    have hne := hL5 h hmem
    have h5t : heads500 (L.take k) := fun x hx => hL5 x (List.mem_of_mem_take hx)
    have hlt : (L.take k).length ≤ 12 := by simp; omega
    refine AW_lose 412 fun H1 g12 hs1 => ?_
    have hU1 : UpH n L e9 e10 e36 e33 e34 (flowL n.pipes (n.pipes.length + 1) (L.take k)) H1 := ⟨by rw [hs1 _ (by decide)]; exact hU.h9, by rw [hs1 _ (by decide)]; exact hU.h10, by rw [hs1 _ (by decide)]; exact hU.h36, by rw [hs1 _ (by decide)]; exact hU.h33⟩
    have hm1 : H1 434 = some (e34, .map ver []) := by rw [hs1 _ (by decide)]; exact hm
    have hlow1 : ∀ j, j < 400 → H1 j = H0 j := fun j hj => by rw [hs1 _ (by omega)]; exact hlow j hj
    clear hs1 hU hm hlow
    have hup := fun H hU => up_ok n hF L e9 e10 e36 e33 e34 h.need hne h.node.toNat (flowL n.pipes (n.pipes.length + 1) (L.take k)) H (by omega) flowL_len (fun j x hj hx => by
     have hjn : j < n.pipes.length + 1 := by omega
     rw [flowL_get hjn] at hx
     cases hx
     have b1 := flowAt_bnd (ps := n.pipes) (j := j) h5t
     have b2 := needs_bnd h5t
     omega) hU
    have hcast : ((h.node.toNat : Nat) : Int) = h.node := by omega
    rw [hcast, addV_flow, ← take_snoc' hh] at hup
    have u9 := hU1.h9
    have u10 := hU1.h10
    repeat' (first | (with_reducible refine sk ?_; intro K hK) | ((with_reducible first | refine rg (md := { base := 400, own := [9, 10, 33, 34, 36], imp := [49] }) (h := ?_) | refine rgS [9, 10, 12] (md := { base := 400, own := [9, 10, 33, 34, 36], imp := [49] }) (h := ?_) | refine nx ?_); try simp (disch := omega) only [h9, h10, h38, h39, h40, g12, u9, u10, hh, cHead,go_sem, simprocAttr]) | (with_reducible refine bk ?_) | ((with_reducible refine' cE ?hv ?_ ?_); (case hv => first | rfl | (simp only [h9, h10, h38, h39, h40, g12, u9, u10, hh, cHead,go_sem, simprocAttr]; rfl)); all_goals (intro hc; (try simp only [go_sem, simprocAttr] at hc); try (exfalso; omega))) | with_reducible intro (ep : Nat → Nat) | with_reducible apply_assumption -exfalso -symm only [*])
    refine iK (hup _ ⟨by (first | rfl | (simp only [u9, go_sem, simprocAttr]; done) | (simp only [u9, go_sem, simprocAttr]; rfl)), by (first | rfl | (simp only [u10, go_sem, simprocAttr]; done) | (simp only [u10, go_sem, simprocAttr]; rfl)), by (first | rfl | (simp only [hU1.h36, go_sem, simprocAttr]; done) | (simp only [hU1.h36, go_sem, simprocAttr]; rfl)), by (first | rfl | (simp only [hU1.h33, go_sem, simprocAttr]; done) | (simp only [hU1.h33, go_sem, simprocAttr]; rfl))⟩) ?_
    rintro v H' ⟨hs', h33'⟩
    simp only [go_sem, simprocAttr]
    refine ⟨h40, h39, h38, fun j hj => by rw [hs' j (by omega)]; (try simp only [upd]); (repeat rw [if_neg (by omega)]); exact hlow1 j hj, e9, e10, e36, e33, e34, ver, ⟨h9, h10⟩, ⟨by rw [hs' _ (by decide)]; (first | rfl | (simp only [u9, go_sem, simprocAttr]; done) | (simp only [u9, go_sem, simprocAttr]; rfl)), by rw [hs' _ (by decide)]; (first | rfl | (simp only [u10, go_sem, simprocAttr]; done) | (simp only [u10, go_sem, simprocAttr]; rfl)), by rw [hs' _ (by decide), flowL_len]; have := hU1.h36; rw [flowL_len] at this; (first | rfl | (simp only [this, go_sem, simprocAttr]; done) | (simp only [this, go_sem, simprocAttr]; rfl)), h33'⟩, by rw [hs' _ (by decide)]; (first | rfl | (simp only [hm1, go_sem, simprocAttr]; done) | (simp only [hm1, go_sem, simprocAttr]; rfl))⟩
   ·clear hlow g9 g10 g33 g34 g36 g12
    rintro f H h40 h39 ⟨h38, hlow, e9, e10, e36, e33, e34, ver, ⟨h9, h10⟩, hU, hm⟩
    rw [List.take_of_length_le (Nat.le_refl _)] at hU
    have u9 := hU.h9
    have u36 := hU.h36
    rw [flowL_len] at u36
    repeat' (first | (with_reducible refine sk ?_; intro K hK) | ((with_reducible first | refine rg (md := { base := 400, own := [9, 10, 33, 34, 36], imp := [49] }) (h := ?_) | refine rgS [9, 10, 12] (md := { base := 400, own := [9, 10, 33, 34, 36], imp := [49] }) (h := ?_) | refine nx ?_); try simp (disch := omega) only [h9, u9,go_sem, simprocAttr]) | (with_reducible refine bk ?_) | ((with_reducible refine' cE ?hv ?_ ?_); (case hv => first | rfl | (simp only [h9, u9,go_sem, simprocAttr]; rfl)); all_goals (intro hc; (try simp only [go_sem, simprocAttr] at hc); try (exfalso; omega))) | with_reducible intro (ep : Nat → Nat) | with_reducible apply_assumption -exfalso -symm only [*])
    refine FnQ_end (Or.inl rfl) (.refl _) (by simp only [Try.f53, go_sem, simprocAttr]; rfl) ?_
    rw [hL]
    exact ⟨hlow, e36, e33, e34, ver, by simp only [go_sem, simprocAttr, u36, fzP], u36, hU.h33, hm⟩
end Cp
namespace Cp
open Go
theorem some_works {m : Nat} {out : List Int} (hp : out.Pairwise (· < ·)) (hl : (out.length : Int) ≤ (m : Int) - 1) : ∃ i, i < m ∧ ¬ (i : Int) ∈ out := by
 refine Classical.byContradiction fun h => ?_
 have h2 : ∀ i, i < m → (i : Int) ∈ out := fun i hi => Classical.byContradiction fun h3 => h ⟨i, hi, h3⟩
 have hr : ((List.range m).map fun i : Nat => (i : Int)).Pairwise (· < ·) := List.pairwise_map.2 (List.pairwise_lt_range.imp fun h => by omega)
 have := pair_len hr hp fun a ha => by
  obtain ⟨i, hi, rfl⟩ := List.mem_map.1 ha
  exact h2 i (by simpa using hi)
 simp at this; omega
theorem out_facts {n : NetT} {l : List Int} (h : outOK n l = true) : (∀ a ∈ l, 0 ≤ a ∧ a < n.pumps.length) ∧ l.Pairwise (· < ·) ∧ (l.length : Int) ≤ n.out := by
 unfold outOK at h
 simp only [Bool.and_eq_true, decide_eq_true_eq] at h
 obtain ⟨h1, h2⟩ := okL_none h.1
 exact ⟨fun a ha => by have := h1 a ha; simpa [isPump] using this, h2, h.2⟩
theorem upD_bnd {a b : Int} (ha : 0 ≤ a) (hb : 0 < b) : 0 ≤ upD a b ∧ upD a b ≤ a := by
 unfold upD
 refine ⟨Int.ediv_nonneg (by omega) (by omega), ?_⟩
 by_cases h : a = 0
 ·subst h
  rw [Int.ediv_eq_zero_of_lt (by omega) (by omega)]; omega
 ·refine Int.lt_add_one_iff.1 ((Int.ediv_lt_iff_lt_mul hb).2 ?_)
  have h1 : 1 ≤ a := by omega
  have : a + b ≤ a * b + 1 := by
   have := Int.mul_nonneg (by omega : 0 ≤ a - 1) (by omega : 0 ≤ b - 1)
   rw [Int.sub_mul, Int.mul_sub] at this; omega
  rw [Int.add_mul]; omega
theorem tdiv_up {a b : Int} (ha : 0 ≤ a) (hb : 0 < b) : (a + b - 1).tdiv b = upD a b := by
 unfold upD; exact Int.tdiv_eq_ediv_of_nonneg (by omega)
theorem share_bnd {n : NetT} {flow : Int} {out : List Int} (h0 : 0 ≤ flow) (hl : (out.length : Int) ≤ (n.pumps.length : Int) - 1) : 0 ≤ shareS n flow out ∧ shareS n flow out ≤ flow := upD_bnd h0 (by omega)
theorem fullE_bnd {p : PumpT} (h : 0 ≤ p.full.lo ∧ p.full.lo ≤ p.full.hi ∧ p.full.hi ≤ 100000) (best : Bool) : 0 ≤ fullE best p ∧ fullE best p ≤ 100000 := by
 unfold fullE; split <;> omega
theorem foulE_bnd {p : PipeT} (h : 0 ≤ p.foul.lo ∧ p.foul.lo ≤ p.foul.hi ∧ p.foul.hi ≤ 1000) (best : Bool) : 0 ≤ foulE best p ∧ foulE best p ≤ 1000 := by
 unfold foulE; split <;> omega
theorem pumpsF_start {best : Bool} {share : Int} (hs : 0 ≤ share) {out : List Int} {a b : Int} (ha : 100000 ≤ a) (hb : 100000 ≤ b) : ∀ {l : List PumpT} {i : Nat}, (∀ p ∈ l, (0 ≤ p.full.lo ∧ p.full.lo ≤ p.full.hi ∧ p.full.hi ≤ 100000) ∧ 0 ≤ p.slope ∧ p.slope ≤ 100) → (∃ k, k < l.length ∧ ¬ ((i + k : Nat) : Int) ∈ out) → pumpsF best share out l i a = pumpsF best share out l i b
 | [], i, _, h => by obtain ⟨k, hk, _⟩ := h; simp at hk
 | p :: l, i, hp, ⟨k, hk, hn⟩ => by
  have hp0 := hp p (by simp)
  have hf := fullE_bnd hp0.1 best
  have hsl : 0 ≤ p.slope * share := Int.mul_nonneg hp0.2.1 hs
  simp only [pumpsF]
  by_cases hc : out.contains (i : Int) = true
  ·rw [if_pos hc, if_pos hc]
   refine pumpsF_start hs ha hb (fun q hq => hp q (by simp [hq])) ?_
   cases k with
   | zero => exact absurd (by simpa using hc) hn
   | succ k => exact ⟨k, by simpa using hk, by rwa [show i + 1 + k = i + (k + 1) by omega]⟩
  ·rw [if_neg hc, if_neg hc]
   rw [show min a (fullE best p - p.slope * share) = min b (fullE best p - p.slope * share) by omega]
theorem pumpsS_eq {n : NetT} (hF : NetF n) {out : List Int} (ho : outOK n out = true) {hs : List HeadT} (h5 : heads500 hs) (best : Bool) : pumpsF best (shareS n (needs hs) out) out n.pumps 0 1099511627776 = pumpsS n hs out best := by
 obtain ⟨h1, h2, h3⟩ := out_facts ho
 have h4 := hF.out
 obtain ⟨i, hi, hn⟩ := some_works (m := n.pumps.length) h2 (by omega)
 have hb := needs_bnd h5
 exact pumpsF_start (share_bnd (by omega) (by omega)).1 (by omega) (by omega) hF.pump ⟨i, hi, by simpa using hn⟩
theorem pumpsF_bnd {best : Bool} {share : Int} (hs : 0 ≤ share ∧ share ≤ 10000) {out : List Int} : ∀ {l : List PumpT} {i : Nat} {a : Int}, (∀ p ∈ l, (0 ≤ p.full.lo ∧ p.full.lo ≤ p.full.hi ∧ p.full.hi ≤ 100000) ∧ 0 ≤ p.slope ∧ p.slope ≤ 100) → -1000000 ≤ a → -1000000 ≤ pumpsF best share out l i a ∧ pumpsF best share out l i a ≤ a
 | [], i, a, _, h => by simp [pumpsF, h]
 | p :: l, i, a, hp, h => by
  have hp0 := hp p (by simp)
  have hf := fullE_bnd hp0.1 best
  have h1 : p.slope * share ≤ 100 * share := Int.mul_le_mul_of_nonneg_right hp0.2.2 hs.1
  have h2 : 0 ≤ p.slope * share := Int.mul_nonneg hp0.2.1 hs.1
  simp only [pumpsF]
  have := pumpsF_bnd (best := best) hs (out := out) (l := l) (i := i + 1) (a := if out.contains (i : Int) = true then a else min a (fullE best p - p.slope * share)) (fun q hq => hp q (by simp [hq])) (by split <;> omega)
  refine ⟨this.1, Int.le_trans this.2 ?_⟩
  split <;> omega
theorem sq_bnd {x b : Int} (h : 0 ≤ x ∧ x ≤ b) : 0 ≤ x * x ∧ x * x ≤ b * b := ⟨Int.mul_nonneg h.1 h.1, Int.mul_le_mul h.2 h.2 h.1 (by omega)⟩
theorem loss_bnd {f x : Int} (hf : 0 ≤ f ∧ f ≤ 1000) (hx : 0 ≤ x ∧ x ≤ 10000) : 0 ≤ f * x * x ∧ f * x * x ≤ 100000000000 := by
 have h1 := sq_bnd hx
 have h2 : f * x * x = f * (x * x) := Int.mul_assoc ..
 rw [h2]
 exact ⟨Int.mul_nonneg hf.1 h1.1, Int.le_trans (Int.mul_le_mul hf.2 h1.2 h1.1 (by omega)) (by omega)⟩
def offM (out : List Int) : List (Int × Val) := out.map fun i => (i, .bool true)
theorem offM_len {out : List Int} : (offM out).length = out.length := by simp [offM]
end Cp
namespace Cp
open Go Go.Proofs
set_option maxRecDepth 10000
set_option maxHeartbeats 1000000
theorem sup_ok (a b : Int) (ha : 0 ≤ a ∧ a ≤ 1000000000000) (hb : 1 ≤ b ∧ b ≤ 1000000) : PureC Try.prog 89 [.int .i64 a, .int .i64 b] (.int .i64 (upD a b)) := by
 have hz : ¬ b = 0 := by omega
 have ht := tdiv_up (a := a) (b := b) ha.1 (by omega)
 have hub := upD_bnd (a := a) (b := b) ha.1 (by omega)
 refine PureC_of (fn := Try.f89) tabOK (by kernel_rfl) rfl (by kernel_rfl) (by simp [Try.f89]) (by simp [noids, noid, noidss, go_sem]) (by first | rfl | simp [noids, noid, noidss, go_sem]) ?_
 intro X hX0 hXs
 repeat' (first | (with_reducible refine sk ?_; intro K hK) | ((with_reducible first | refine rg (h := ?_) | refine nx ?_); try simp (disch := omega) only [hz, ht,go_sem, simprocAttr]) | (with_reducible refine bk ?_) | ((with_reducible refine' cE ?hv ?_ ?_); (case hv => first | rfl | (simp only [hz, ht,go_sem, simprocAttr]; rfl)); all_goals (intro hc; (try simp only [go_sem, simprocAttr] at hc); try (exfalso; omega))) | ((with_reducible refine fe ?_); refine ⟨_, (by simp only [Try.f89, hz, ht,go_sem, simprocAttr]; rfl), ?_⟩; first | rfl | (try simp only [hz, ht,go_sem, simprocAttr, seval])) | with_reducible intro (ep : Nat → Nat) | with_reducible apply_assumption -exfalso -symm only [*])
theorem least_ok (a b : Int) : PureC Try.prog 102 [.int .i64 a, .lst 1 [[.int .i64 b]]] (.int .i64 (min a b)) := by
 refine PureC_of (fn := Try.f102) tabOK (by kernel_rfl) rfl (by kernel_rfl) (by simp [Try.f102]) (by simp [noids, noid, noidss, go_sem]) (by first | rfl | simp [noids, noid, noidss, go_sem]) ?_
 intro X hX0 hXs
 repeat' (first | (with_reducible refine sk ?_; intro K hK) | ((with_reducible first | refine rg (h := ?_) | refine nx ?_); try simp (disch := omega) only [go_sem, simprocAttr]) | (with_reducible refine bk ?_) | ((with_reducible refine' cE ?hv ?_ ?_); (case hv => first | rfl | (simp only [go_sem, simprocAttr]; rfl)); all_goals (intro hc; (try simp only [go_sem, simprocAttr] at hc); try (exfalso; omega))) | ((with_reducible refine fe ?_); refine ⟨_, (by simp only [Try.f102, go_sem, simprocAttr]; rfl), ?_⟩; first | rfl | (try simp only [go_sem, simprocAttr, seval])) | with_reducible intro (ep : Nat → Nat) | with_reducible apply_assumption -exfalso -symm only [*])
 refine AW_range tabOK 1 (fun k f H => f 7 = .lst 1 [[.int .i64 b]] ∧ f 0 = .int .i64 (if k = 0 then a else min a b)) (by omega) (by rw [hXs]; decide) (by decide) (by (first | rfl | (simp only [go_sem, simprocAttr]; done) | (simp only [go_sem, simprocAttr]; rfl))) (by (first | rfl | (simp only [go_sem, simprocAttr]; done) | (simp only [go_sem, simprocAttr]; rfl))) ⟨by (first | rfl | (simp only [go_sem, simprocAttr]; done) | (simp only [go_sem, simprocAttr]; rfl)), by (first | rfl | (simp only [go_sem, simprocAttr]; done) | (simp only [go_sem, simprocAttr]; rfl))⟩ ?_ ?_
 ·rintro k f H hk h9 h8 ⟨h7, h0⟩
  obtain rfl : k = 0 := by omega
  simp only [if_true] at h0
  repeat' (first | (with_reducible refine sk ?_; intro K hK) | ((with_reducible first | refine rg (h := ?_) | refine nx ?_); try simp (disch := omega) only [h0, h7, h8, h9,go_sem, simprocAttr]) | (with_reducible refine bk ?_) | ((with_reducible refine' cE ?hv ?_ ?_); (case hv => first | rfl | (simp only [h0, h7, h8, h9,go_sem, simprocAttr]; rfl)); all_goals (intro hc; (try simp only [go_sem, simprocAttr] at hc); try (exfalso; omega))) | ((with_reducible refine fe ?_); refine ⟨_, (by simp only [Try.f102, h0, h7, h8, h9,go_sem, simprocAttr]; rfl), ?_⟩; first | rfl | (try simp only [h0, h7, h8, h9,go_sem, simprocAttr, seval])) | with_reducible intro (ep : Nat → Nat) | with_reducible apply_assumption -exfalso -symm only [*])
 ·rintro f H h9 h8 ⟨h7, h0⟩
  repeat' (first | (with_reducible refine sk ?_; intro K hK) | ((with_reducible first | refine rg (h := ?_) | refine nx ?_); try simp (disch := omega) only [h0,go_sem, simprocAttr]) | (with_reducible refine bk ?_) | ((with_reducible refine' cE ?hv ?_ ?_); (case hv => first | rfl | (simp only [h0,go_sem, simprocAttr]; rfl)); all_goals (intro hc; (try simp only [go_sem, simprocAttr] at hc); try (exfalso; omega))) | ((with_reducible refine fe ?_); refine ⟨_, (by simp only [Try.f102, h0,go_sem, simprocAttr]; rfl), ?_⟩; first | rfl | (try simp only [h0,go_sem, simprocAttr, seval])) | with_reducible intro (ep : Nat → Nat) | with_reducible apply_assumption -exfalso -symm only [*])
theorem low_ok (s : Span) : PureC Try.prog 86 [encSpan s] (.int .i64 s.lo) := by
 refine PureC_of (fn := Try.f86) tabOK (by kernel_rfl) rfl (by kernel_rfl) (by simp [Try.f86]) (by simp [noids, noid, noidss, go_sem, encSpan]) (by first | rfl | simp [noids, noid, noidss, go_sem, encSpan]) ?_
 intro X hX0 hXs
 repeat' (first | (with_reducible refine sk ?_; intro K hK) | ((with_reducible first | refine rg (h := ?_) | refine nx ?_); try simp (disch := omega) only [encSpan,go_sem, simprocAttr]) | (with_reducible refine bk ?_) | ((with_reducible refine' cE ?hv ?_ ?_); (case hv => first | rfl | (simp only [encSpan,go_sem, simprocAttr]; rfl)); all_goals (intro hc; (try simp only [go_sem, simprocAttr] at hc); try (exfalso; omega))) | ((with_reducible refine fe ?_); refine ⟨_, (by simp only [Try.f86, encSpan,go_sem, simprocAttr]; rfl), ?_⟩; first | rfl | (try simp only [encSpan,go_sem, simprocAttr, seval])) | with_reducible intro (ep : Nat → Nat) | with_reducible apply_assumption -exfalso -symm only [*])
theorem high_ok (s : Span) : PureC Try.prog 87 [encSpan s] (.int .i64 s.hi) := by
 refine PureC_of (fn := Try.f87) tabOK (by kernel_rfl) rfl (by kernel_rfl) (by simp [Try.f87]) (by simp [noids, noid, noidss, go_sem, encSpan]) (by first | rfl | simp [noids, noid, noidss, go_sem, encSpan]) ?_
 intro X hX0 hXs
 repeat' (first | (with_reducible refine sk ?_; intro K hK) | ((with_reducible first | refine rg (h := ?_) | refine nx ?_); try simp (disch := omega) only [encSpan,go_sem, simprocAttr]) | (with_reducible refine bk ?_) | ((with_reducible refine' cE ?hv ?_ ?_); (case hv => first | rfl | (simp only [encSpan,go_sem, simprocAttr]; rfl)); all_goals (intro hc; (try simp only [go_sem, simprocAttr] at hc); try (exfalso; omega))) | ((with_reducible refine fe ?_); refine ⟨_, (by simp only [Try.f87, encSpan,go_sem, simprocAttr]; rfl), ?_⟩; first | rfl | (try simp only [encSpan,go_sem, simprocAttr, seval])) | with_reducible intro (ep : Nat → Nat) | with_reducible apply_assumption -exfalso -symm only [*])
def sgF (best : Bool) : FuncId := if best = true then 87 else 86
def endV (best : Bool) : Val := .agg [.fn (sgF best) [], .fn (sgF (!best)) []]
theorem sg_ok (best : Bool) (s : Span) : PureC Try.prog (sgF best) [encSpan s] (.int .i64 (if best then s.hi else s.lo)) := by
 cases best
 ·exact low_ok s
 ·exact high_ok s
theorem ends_ok : PureC Try.prog 60 [] (.agg [.fn (sgF false) [], .fn (sgF true) [], .fn (sgF true) [], .fn (sgF false) []]) := by
 refine PureC_of (fn := Try.f60) tabOK (by kernel_rfl) rfl (by kernel_rfl) (by simp [Try.f60]) (by simp [noids, noid, noidss, go_sem]) (by first | rfl | simp [noids, noid, noidss, go_sem]) ?_
 intro X hX0 hXs
 repeat' (first | (with_reducible refine sk ?_; intro K hK) | ((with_reducible first | refine rg (h := ?_) | refine rgS [0] (h := ?_) | refine nx ?_); try simp (disch := omega) only [go_sem, simprocAttr]) | (with_reducible refine bk ?_) | ((with_reducible refine' cE ?hv ?_ ?_); (case hv => first | rfl | (simp only [go_sem, simprocAttr]; rfl)); all_goals (intro hc; (try simp only [go_sem, simprocAttr] at hc); try (exfalso; omega))) | ((with_reducible refine fe ?_); refine ⟨_, (by simp only [Try.f60, go_sem, simprocAttr]; rfl), ?_⟩; first | rfl | (try simp only [go_sem, simprocAttr, seval])) | with_reducible intro (ep : Nat → Nat) | with_reducible apply_assumption -exfalso -symm only [*])
structure PlH (n : NetT) (hs : List HeadT) (out : List Int) (e36 e33 e34 : Nat) (H : Hp) : Prop where
 h36 : frz1 (H 436) = some (e36, .fro 10 [cPlant n hs e33 e34 (n.pipes.length + 1)])
 h33 : frz1 (H 433) = some (e33, .fro 1 (ints (flowL n.pipes (n.pipes.length + 1) hs)))
 h34 : ∃ ver, frz1 (H 434) = some (e34, .frm ver (imap .i64 (offM out)))
@[go_sem] theorem xfind_off {i : Int} {l : List (Int × Val)} : xfind tab 3 (.int .i64 i) (imap .i64 l) 0 = some (findI i l 0) := xfind_imap tab_3 _ _
theorem findI_off {out : List Int} {i : Int} : ∀ {s : Nat}, (out.contains i = true ∧ ∃ j, findI i (offM out) s = some (j, .bool true)) ∨ (out.contains i = false ∧ findI i (offM out) s = none) := by
 induction out with
 | nil => intro s; exact .inr ⟨rfl, rfl⟩
 | cons a out ih =>
  intro s
  simp only [offM, List.map_cons, findI, List.contains_cons]
  by_cases h : i = a
  ·subst h; exact .inl ⟨by simp, s, by simp⟩
  ·have hb : (i == a) = false := by simpa using h
   rw [if_neg h, hb, Bool.false_or]
   exact ih (s := s + 1)
theorem pumps_look (n : NetT) (hF : NetF n) (hs : List HeadT) (h5 : heads500 hs) (hsl : hs.length ≤ 20) (out : List Int) (ho : outOK n out = true) (best : Bool) (e36 e33 e34 : Nat) (H : Hp) (hP : PlH n hs out e36 e33 e34 H) (hroom : H 1208 = none) :
  LookC Try.prog 88 [.ptr 436 e36 10 0 0, endV best] H (.int .i64 (pumpsS n hs out best)) := by
 obtain ⟨h36, h33, ver, h34⟩ := hP
 have hr : frz1 (H 1208) = none := by rw [hroom]; rfl
 obtain ⟨o1, o2, o3⟩ := out_facts ho
 have hno := hF.out
 have hnp := hF.pumps
 have hnb := needs_bnd h5
 have hsb := share_bnd (n := n) (flow := needs hs) (out := out) (by omega) (by omega)
 have hfl : (flowL n.pipes (n.pipes.length + 1) hs)[0]? = some (needs hs) := by rw [flowL_get (by omega), flowAt_zero]
 have hup := sup_ok (needs hs) ((n.pumps.length : Int) - out.length) (by omega) (by omega)
 have hshe : upD (needs hs) ((n.pumps.length : Int) - out.length) = shareS n (needs hs) out := rfl
 rw [hshe] at hup
 rw [← pumpsS_eq hF ho h5 best]
 obtain ⟨sh, hsh⟩ : ∃ sh, shareS n (needs hs) out = sh := ⟨_, rfl⟩
 rw [hsh] at hsb hup ⊢
 refine LookC_of (fn := Try.f88) tabOK (by kernel_rfl) rfl (by kernel_rfl) (by simp [Try.f88]) rfl ?_
 intro X hX0 hXs
 have hlp : 0 < n.pipes.length + 1 := by omega
 repeat' (first | ((fail_if_success (with_reducible refine AW_at (id := 3) ?_)); with_reducible refine sk ?_; intro K hK) | ((first | (with_reducible first | refine rg (md := { base := 1200, own := [] }) (h := ?_) | refine rgS [8] (md := { base := 1200, own := [] }) (h := ?_) | refine nx ?_) | refine pK (hup) ?_); try simp (disch := omega) only [h36, h33, h34, hr, hfl, hlp, flowL_len, offM_len, cPlant, endV,go_sem, simprocAttr]) | (with_reducible refine bk ?_) | ((with_reducible refine' cE ?hv ?_ ?_); (case hv => first | rfl | (simp only [h36, h33, h34, hr, hfl, hlp, flowL_len, offM_len, cPlant, endV,go_sem, simprocAttr]; rfl)); all_goals (intro hc; (try simp only [go_sem, simprocAttr] at hc); try (exfalso; omega))) | ((with_reducible refine fe ?_); refine ⟨_, (by simp only [Try.f88, h36, h33, h34, hr, hfl, hlp, flowL_len, offM_len, cPlant, endV,go_sem, simprocAttr]; rfl), ?_⟩; first | rfl | (try simp only [h36, h33, h34, hr, hfl, hlp, flowL_len, offM_len, cPlant, endV,go_sem, simprocAttr, seval])) | with_reducible intro (ep : Nat → Nat) | with_reducible apply_assumption -exfalso -symm only [*])
 repeat' (first | (with_reducible refine sk ?_; intro K hK) | ((with_reducible first | refine rg (md := { base := 1200, own := [] }) (h := ?_) | refine rgS [8] (md := { base := 1200, own := [] }) (h := ?_) | refine nx ?_); try simp (disch := omega) only [h36, h33, h34, hr, cPlant,go_sem, simprocAttr]) | (with_reducible refine bk ?_) | ((with_reducible refine' cE ?hv ?_ ?_); (case hv => first | rfl | (simp only [h36, h33, h34, hr, cPlant,go_sem, simprocAttr]; rfl)); all_goals (intro hc; (try simp only [go_sem, simprocAttr] at hc); try (exfalso; omega))) | ((with_reducible refine fe ?_); refine ⟨_, (by simp only [Try.f88, h36, h33, h34, hr, cPlant,go_sem, simprocAttr]; rfl), ?_⟩; first | rfl | (try simp only [h36, h33, h34, hr, cPlant,go_sem, simprocAttr, seval])) | with_reducible intro (ep : Nat → Nat) | with_reducible apply_assumption -exfalso -symm only [*])
 refine AW_range tabOK n.pumps.length (fun k f H => (f 0 = .ptr 436 e36 10 0 0 ∧ f 3 = .pim [.fn (sgF best) [], .fn (sgF (!best)) []] ∧ f 5 = .int .i64 sh ∧ f 32 = .lst 3 (n.pumps.map cPump)) ∧ (H 436 = some (e36, .fro 10 [cPlant n hs e33 e34 (n.pipes.length + 1)]) ∧ H 434 = some (e34, .frm ver (imap .i64 (offM out)))) ∧
   ∃ a, f 6 = .int .i64 a ∧ -1000000 ≤ a ∧ a ≤ 1099511627776 ∧ pumpsF best sh out n.pumps 0 1099511627776 = pumpsF best sh out (n.pumps.drop k) k a) (by omega) (by rw [hXs]; decide) (by decide) (by (first | rfl | (simp only [h36, go_sem, simprocAttr]; done) | (simp only [h36, go_sem, simprocAttr]; rfl))) (by (first | rfl | (simp only [h36, go_sem, simprocAttr]; done) | (simp only [h36, go_sem, simprocAttr]; rfl)))
  ⟨by (and_intros <;> first | rfl | (simp only [endV, h36, go_sem, simprocAttr]; done) | (simp only [endV, h36, go_sem, simprocAttr]; rfl)), by (and_intros <;> first | rfl | (simp only [h36, h34, cPlant, go_sem, simprocAttr]; done) | (simp only [h36, h34, cPlant, go_sem, simprocAttr]; rfl)), _, by (first | rfl | (simp only [go_sem, simprocAttr]; done) | (simp only [go_sem, simprocAttr]; rfl)), by omega, by omega, by simp⟩ ?_ ?_
 ·rintro k f H hk hi34 hi33 ⟨⟨h0, h3, h5', h32⟩, ⟨g36, g34⟩, a, h6, ha1, ha2, hr2⟩
  obtain ⟨p, hp⟩ : ∃ p, n.pumps[k]? = some p := ⟨_, List.getElem?_eq_getElem hk⟩
  have hpf := hF.pump p (List.mem_of_getElem? hp)
  have hfe := fullE_bnd hpf.1 best
  have q1 : p.slope * sh ≤ 100 * sh := Int.mul_le_mul_of_nonneg_right hpf.2.2 hsb.1
  have q2 : 0 ≤ p.slope * sh := Int.mul_nonneg hpf.2.1 hsb.1
  rw [drop_cons hp] at hr2
  simp only [pumpsF] at hr2
  have hsg := sg_ok best p.full
  have hfd : (if best = true then p.full.hi else p.full.lo) = fullE best p := rfl
  rw [hfd] at hsg
  simp only [encSpan] at hsg
  refine AW_keep [436, 434] ?_
  rcases @findI_off out (k : Int) 0 with ⟨c1, j, c2⟩ | ⟨c1, c2⟩
  ·rw [if_pos c1] at hr2
   repeat' (first | (with_reducible refine sk ?_; intro K hK) | ((with_reducible first | refine rg (md := { base := 1200, own := [] }) (h := ?_) | refine rgS [8] (md := { base := 1200, own := [] }) (h := ?_) | refine nx ?_); try simp (disch := omega) only [h0, h3, h5', h6, h32, hi33, hi34, g36, g34, hp, c2, cPump, cPlant,go_sem, simprocAttr]) | (with_reducible refine bk ?_) | ((with_reducible refine' cE ?hv ?_ ?_); (case hv => first | rfl | (simp only [h0, h3, h5', h6, h32, hi33, hi34, g36, g34, hp, c2, cPump, cPlant,go_sem, simprocAttr]; rfl)); all_goals (intro hc; (try simp only [go_sem, simprocAttr] at hc); try (exfalso; omega))) | ((with_reducible refine fe ?_); refine ⟨_, (by simp only [Try.f88, h0, h3, h5', h6, h32, hi33, hi34, g36, g34, hp, c2, cPump, cPlant,go_sem, simprocAttr]; rfl), ?_⟩; first | rfl | (try simp only [h0, h3, h5', h6, h32, hi33, hi34, g36, g34, hp, c2, cPump, cPlant,go_sem, simprocAttr, seval])) | with_reducible intro (ep : Nat → Nat) | with_reducible apply_assumption -exfalso -symm only [*])
   exact ⟨a, rfl, ha1, ha2, hr2⟩
  ·rw [c1] at hr2
   simp only [Bool.false_eq_true, if_false] at hr2
   repeat' (first | (with_reducible refine sk ?_; intro K hK) | ((first | (with_reducible first | refine rg (md := { base := 1200, own := [] }) (h := ?_) | refine rgS [8] (md := { base := 1200, own := [] }) (h := ?_) | refine nx ?_) | refine pK (hsg) ?_ | refine pK (least_ok _ _) ?_); try simp (disch := omega) only [h0, h3, h5', h6, h32, hi33, hi34, g36, g34, hp, c2, cPump, cPlant,go_sem, simprocAttr]) | (with_reducible refine bk ?_) | ((with_reducible refine' cE ?hv ?_ ?_); (case hv => first | rfl | (simp only [h0, h3, h5', h6, h32, hi33, hi34, g36, g34, hp, c2, cPump, cPlant,go_sem, simprocAttr]; rfl)); all_goals (intro hc; (try simp only [go_sem, simprocAttr] at hc); try (exfalso; omega))) | ((with_reducible refine fe ?_); refine ⟨_, (by simp only [Try.f88, h0, h3, h5', h6, h32, hi33, hi34, g36, g34, hp, c2, cPump, cPlant,go_sem, simprocAttr]; rfl), ?_⟩; first | rfl | (try simp only [h0, h3, h5', h6, h32, hi33, hi34, g36, g34, hp, c2, cPump, cPlant,go_sem, simprocAttr, seval])) | with_reducible intro (ep : Nat → Nat) | with_reducible apply_assumption -exfalso -symm only [*])
   exact ⟨min a (fullE best p - p.slope * sh), rfl, by omega, by omega, hr2⟩
 ·rintro f H hi34 hi33 ⟨⟨h0, h3, h5', h32⟩, ⟨g36, g34⟩, a, h6, ha1, ha2, hr2⟩
  rw [drop_none (Nat.le_refl _)] at hr2
  simp only [pumpsF] at hr2
  repeat' (first | (with_reducible refine sk ?_; intro K hK) | ((with_reducible first | refine rg (md := { base := 1200, own := [] }) (h := ?_) | refine rgS [8] (md := { base := 1200, own := [] }) (h := ?_) | refine nx ?_); try simp (disch := omega) only [h6,go_sem, simprocAttr]) | (with_reducible refine bk ?_) | ((with_reducible refine' cE ?hv ?_ ?_); (case hv => first | rfl | (simp only [h6,go_sem, simprocAttr]; rfl)); all_goals (intro hc; (try simp only [go_sem, simprocAttr] at hc); try (exfalso; omega))) | ((with_reducible refine fe ?_); refine ⟨_, (by simp only [Try.f88, h6,go_sem, simprocAttr]; rfl), ?_⟩; first | rfl | (try simp only [h6,go_sem, simprocAttr, seval])) | with_reducible intro (ep : Nat → Nat) | with_reducible apply_assumption -exfalso -symm only [*])
  rw [hr2]
end Cp
namespace Cp
open Go
theorem headAt_cons {h : HeadT} {t : List HeadT} {x : Int} : headAt (h :: t) x = if h.id = x then some h else headAt t x := by
 unfold headAt; rw [List.find?_cons]
 by_cases e : h.id = x <;> simp [e]
theorem fmap_congr {α β : Type} {f g : α → Option β} : ∀ {l : List α}, (∀ x ∈ l, f x = g x) → l.filterMap f = l.filterMap g
 | [], _ => rfl
 | a :: l, h => by rw [List.filterMap_cons, List.filterMap_cons, h a (by simp), fmap_congr fun x hx => h x (by simp [hx])]
theorem open_filter : ∀ {hs : List HeadT} {l : List Int}, (hs.Pairwise fun a b => a.id < b.id) → l.Pairwise (· < ·) → (∀ a ∈ l, (headAt hs a).isSome = true) → openH hs l = hs.filter fun h => l.contains h.id
 | [], l, _, _, ho => by
  cases l with
  | nil => rfl
  | cons a l => have := ho a (by simp); simp [headAt] at this
 | h :: t, l, hp, hl, ho => by
  obtain ⟨p1, p2⟩ := List.pairwise_cons.1 hp
  have hgt : ∀ x, (headAt t x).isSome = true → h.id < x := fun x hx => by
   obtain ⟨y, hy⟩ := Option.isSome_iff_exists.1 hx
   obtain ⟨hm, rfl⟩ := headAt_mem hy
   exact p1 y hm
  cases l with
  | nil => simp [openH]
  | cons a l =>
   obtain ⟨q1, q2⟩ := List.pairwise_cons.1 hl
   by_cases ha : h.id = a
   ·subst ha
    have hrest : ∀ x ∈ l, headAt (h :: t) x = headAt t x := fun x hx => by
     have := q1 x hx
     rw [headAt_cons, if_neg (by omega)]
    have ho' : ∀ x ∈ l, (headAt t x).isSome = true := fun x hx => by rw [← hrest x hx]; exact ho x (by simp [hx])
    have ih := open_filter (hs := t) (l := l) p2 q2 ho'
    have e1 : openH (h :: t) (h.id :: l) = h :: openH t l := by
     unfold openH
     rw [List.filterMap_cons, headAt_cons, if_pos rfl]
     simp only
     congr 1
     exact fmap_congr hrest
    rw [e1, ih, List.filter_cons]
    have e2 : (h.id :: l).contains h.id = true := by simp
    rw [if_pos e2]
    congr 1
    refine List.filter_congr fun y hy => ?_
    have := p1 y hy
    rw [List.contains_cons]
    have e3 : (y.id == h.id) = false := by simp; omega
    rw [e3, Bool.false_or]
   ·have hall : ∀ x ∈ a :: l, h.id < x := fun x hx => by
     have h0 := ho a (by simp)
     rw [headAt_cons, if_neg ha] at h0
     have := hgt a h0
     rcases List.mem_cons.1 hx with rfl | hx
     ·exact this
     ·have := q1 x hx; omega
    have hrest : ∀ x ∈ a :: l, headAt (h :: t) x = headAt t x := fun x hx => by
     have := hall x hx
     rw [headAt_cons, if_neg (by omega)]
    have ho' : ∀ x ∈ a :: l, (headAt t x).isSome = true := fun x hx => by rw [← hrest x hx]; exact ho x hx
    have ih := open_filter (hs := t) (l := a :: l) p2 hl ho'
    have e1 : openH (h :: t) (a :: l) = openH t (a :: l) := fmap_congr hrest
    have e2 : (a :: l).contains h.id = false := by
     rw [Bool.eq_false_iff]; intro hc
     have := hall h.id (by simpa using hc); omega
    rw [e1, ih, List.filter_cons, e2]
    simp
end Cp
namespace Cp
open Go
def keysT (ps : List PipeT) (node : Nat) : Nat → List Int
 | 0 => [(node : Int)]
 | i + 1 => keysT ps node i ++ if ¬ i + 1 = node ∧ via ps (i + 1) node = true then [((i + 1 : Nat) : Int)] else []
theorem keysT_mem {ps : List PipeT} {node : Nat} {x : Int} : ∀ {i : Nat}, x ∈ keysT ps node i ↔ x = (node : Int) ∨ ∃ j : Nat, 1 ≤ j ∧ j ≤ i ∧ ¬ j = node ∧ x = (j : Int) ∧ via ps j node = true
 | 0 => by
  simp only [keysT, List.mem_singleton]
  exact ⟨fun h => .inl h, fun h => by rcases h with h | ⟨j, h1, h2, _⟩; exact h; omega⟩
 | i + 1 => by
  simp only [keysT, List.mem_append, keysT_mem (i := i)]
  constructor
  ·rintro ((h | ⟨j, h1, h2, h3, h4, h5⟩) | h)
   ·exact .inl h
   ·exact .inr ⟨j, h1, by omega, h3, h4, h5⟩
   ·split at h
    ·rename_i hc; simp at h; exact .inr ⟨i + 1, by omega, by omega, hc.1, by omega, hc.2⟩
    ·simp at h
  ·rintro (h | ⟨j, h1, h2, h3, h4, h5⟩)
   ·exact .inl (.inl h)
   ·by_cases e : j = i + 1
    ·subst e; rw [if_pos ⟨h3, h5⟩]; exact .inr (by simp [h4])
    ·exact .inl (.inr ⟨j, h1, by omega, h3, h4, h5⟩)
theorem keysT_has {ps : List PipeT} (hf : Falls ps) {node : Nat} (hn : 0 < node) {x i : Nat} (hx : x ≤ i) : (keysT ps node i).contains (x : Int) = (via ps x node || decide (x = node)) := by
 rw [Bool.eq_iff_iff]
 simp only [List.contains_iff_mem, keysT_mem, Bool.or_eq_true, decide_eq_true_eq]
 constructor
 ·rintro (h | ⟨j, h1, h2, h3, h4, h5⟩)
  ·exact .inr (by omega)
  ·have : x = j := by omega
   subst this; exact .inl h5
 ·rintro (h | h)
  ·by_cases e : x = node
   ·exact .inl (by omega)
   ·have hx0 : ¬ x = 0 := fun e0 => by
     subst e0
     rw [via_lt hf hn] at h; simp at h
    exact .inr ⟨x, by omega, hx, e, rfl, h⟩
  ·exact .inl (by omega)
theorem keysT_round {ps : List PipeT} (hf : Falls ps) {node i : Nat} (hn : 0 < node) {p : PipeT} (hp : ps[i]? = some p) : (keysT ps node i).contains p.frm = true ↔ (¬ i + 1 = node ∧ via ps (i + 1) node = true) ∨ (i + 1 = node ∧ False) ∨ (¬ i + 1 = node ∧ via ps (i + 1) node = true) := by
 have hpf := hf i p hp
 have hlt := frmOf_lt hf (k := i + 1) (by omega)
 have hfe : frmOf ps (i + 1) = p.frm.toNat := frmOf_get hp
 have hk := keysT_has hf hn (x := p.frm.toNat) (i := i) (by omega)
 rw [show ((p.frm.toNat : Nat) : Int) = p.frm by omega] at hk
 rw [hk, via_step hf (k := i + 1) (by omega) hn, hfe]
 simp only [Bool.or_eq_true, decide_eq_true_eq]
 constructor
 ·rintro (h | h)
  ·have hne : ¬ i + 1 = node := fun e => by
    subst e
    rw [via_lt hf (by omega)] at h; simp at h
   exact .inl ⟨hne, .inr h⟩
  ·refine .inl ⟨by omega, .inr ?_⟩
   rw [← h]; exact via_self hf
 ·rintro (⟨h1, h2 | h2⟩ | ⟨_, h⟩ | ⟨h1, h2 | h2⟩)
  ·omega
  ·exact .inl h2
  ·exact h.elim
  ·omega
  ·exact .inl h2
theorem keysT_all {ps : List PipeT} (hf : Falls ps) {node : Nat} (hn : 0 < node) {x N : Nat} (hx : x ≤ N) : (keysT ps node N).contains (x : Int) = via ps x node := by
 rw [keysT_has hf hn hx]
 by_cases e : x = node
 ·subst e; simp [via_self hf]
 ·simp [e]
def sumV (ps : List PipeT) (m : Nat) (g : Nat → Int) : Nat → Int
 | 0 => 0
 | i + 1 => sumV ps m g i + if via ps m (i + 1) = true then g (i + 1) else 0
def sumP (g : Nat → Int) : List Nat → Int
 | [] => 0
 | k :: l => g k + sumP g l
theorem sumV_zero {ps : List PipeT} (hf : Falls ps) {g : Nat → Int} : ∀ {N : Nat}, sumV ps 0 g N = 0
 | 0 => rfl
 | N + 1 => by simp only [sumV, sumV_zero hf (N := N)]; rw [via_lt hf (by omega)]; simp
theorem sumV_step {ps : List PipeT} (hf : Falls ps) {g : Nat → Int} {m : Nat} (hm : 0 < m) : ∀ {N : Nat}, sumV ps m g N = (if m ≤ N then g m else 0) + sumV ps (frmOf ps m) g N
 | 0 => by simp only [sumV]; rw [if_neg (by omega)]; rfl
 | N + 1 => by
  have hlt := frmOf_lt hf hm
  simp only [sumV, sumV_step hf hm (N := N)]
  rw [via_step hf (k := m) (j := N + 1) hm (by omega)]
  by_cases e : N + 1 = m
  ·subst e
   rw [via_lt hf hlt, if_neg (by omega), if_pos (Nat.le_refl _)]
   simp; omega
  ·have e3 : (if m ≤ N + 1 then g m else 0) = if m ≤ N then g m else 0 := by
    by_cases e2 : m ≤ N
    ·rw [if_pos e2, if_pos (by omega)]
    ·rw [if_neg e2, if_neg (by omega)]
   rw [e3, decide_eq_false e, Bool.false_or]; omega
theorem sumV_path {ps : List PipeT} (hf : Falls ps) {g : Nat → Int} {N : Nat} : ∀ (m : Nat), m ≤ N → sumV ps m g N = sumP g (path ps m) := by
 intro m
 induction m using Nat.strongRecOn with
 | _ m ih =>
  intro hm
  by_cases h0 : m = 0
  ·subst h0; rw [sumV_zero hf, path_zero]; rfl
  ·have hlt := frmOf_lt hf (k := m) (by omega)
   rw [sumV_step hf (by omega), if_pos hm, ih _ hlt (by omega), path_step hf (k := m) (by omega)]; rfl
theorem lossL_sum {ps : List PipeT} {hs : List HeadT} {best : Bool} : ∀ {l : List Nat}, lossL ps hs best l = sumP (lossAt ps hs best) l
 | [] => rfl
 | k :: l => by simp only [lossL, sumP, lossL_sum (l := l)]
def nth (l : List Int) (i : Nat) : Int := (l[i]?).getD 0
def capF (out : List Int) (share : Int) (full : List Int) : List PumpT → Nat → Int → Int
 | [], _, a => a
 | p :: l, i, a => capF out share full l (i + 1) (if out.contains (i : Int) = true then a else min a (nth full i - p.slope * share))
def lossG (ps : List PipeT) (L : List HeadT) (foul : List Int) (k : Nat) : Int := upD (nth foul (k - 1) * flowAt ps k L * flowAt ps k L) 1000
def pumpsG (n : NetT) (L : List HeadT) (out full : List Int) : Int := capF out (shareS n (needs L) out) full n.pumps 0 1073741824
def pressG (n : NetT) (L : List HeadT) (out full foul : List Int) (h : HeadT) : Int := pumpsG n L out full - sumV n.pipes h.node.toNat (lossG n.pipes L foul) n.pipes.length
theorem capF_pumps {best : Bool} {out : List Int} {share : Int} {full : List Int} : ∀ {l : List PumpT} {i : Nat} {a : Int}, (∀ (j : Nat) (p : PumpT), l[j]? = some p → nth full (i + j) = fullE best p) → capF out share full l i a = pumpsF best share out l i a
 | [], i, a, _ => rfl
 | p :: l, i, a, h => by
  have h0 := h 0 p rfl
  simp only [capF, pumpsF]
  rw [Nat.add_zero] at h0
  rw [h0, capF_pumps fun j q hq => by rw [show i + 1 + j = i + (j + 1) by omega]; exact h (j + 1) q (by simpa using hq)]
theorem nth_map {α : Type} {g : α → Int} {l : List α} {i : Nat} {x : α} (h : l[i]? = some x) : nth (l.map g) i = g x := by simp [nth, h]
theorem sumP_congr {g g' : Nat → Int} : ∀ {l : List Nat}, (∀ k ∈ l, g k = g' k) → sumP g l = sumP g' l
 | [], _ => rfl
 | k :: l, h => by simp only [sumP]; rw [h k (by simp), sumP_congr fun j hj => h j (by simp [hj])]
theorem pressG_end {n : NetT} (hF : NetF n) {L : List HeadT} (h5 : heads500 L) {out : List Int} (ho : outOK n out = true) (best : Bool) {h : HeadT} (hn : 1 ≤ h.node ∧ h.node ≤ n.pipes.length) :
  pressG n L out (n.pumps.map (fullE best)) (n.pipes.map (foulE best)) h = pressS n L out best h := by
 obtain ⟨o1, o2, o3⟩ := out_facts ho
 have h4 := hF.out
 obtain ⟨i, hi, hw⟩ := some_works (m := n.pumps.length) o2 (by omega)
 have hb := needs_bnd h5
 unfold pressG pressS pumpsG pumpsS
 rw [capF_pumps (best := best) (fun j p hp => by rw [Nat.zero_add]; exact nth_map hp), pumpsF_start (share_bnd (by omega) (by omega)).1 (a := 1073741824) (b := 200000) (by omega) (by omega) hF.pump ⟨i, hi, by simpa using hw⟩, sumV_path hF.falls _ (by omega), lossL_sum]
 congr 1
 refine sumP_congr fun k hk => ?_
 have := path_mem hF.falls _ k hk
 obtain ⟨p, hp⟩ : ∃ p, n.pipes[k - 1]? = some p := ⟨_, List.getElem?_eq_getElem (by omega)⟩
 unfold lossG lossAt
 rw [nth_map hp, hp]
theorem upD_q {a b : Int} (ha : 0 ≤ a) (hb : 0 < b) : upD a b = if a.tdiv b * b < a then a.tdiv b + 1 else a.tdiv b := by
 rw [Int.tdiv_eq_ediv_of_nonneg ha]
 have h1 := Int.emod_nonneg a (by omega : b ≠ 0)
 have h2 := Int.emod_lt_of_pos a hb
 have h3 := Int.mul_ediv_add_emod a b
 have h4 : b * (a / b) = a / b * b := Int.mul_comm ..
 unfold upD
 have h5 : a + b - 1 = (a % b + b - 1) + a / b * b := by omega
 rw [h5, Int.add_mul_ediv_right _ _ (by omega : b ≠ 0)]
 by_cases hr : a % b = 0
 ·rw [if_neg (by omega), Int.ediv_eq_zero_of_lt (by omega) (by omega)]; omega
 ·rw [if_pos (by omega)]
  have h6 : a % b + b - 1 = (a % b - 1) + 1 * b := by omega
  rw [h6, Int.add_mul_ediv_right _ _ (by omega : b ≠ 0), Int.ediv_eq_zero_of_lt (by omega) (by omega)]; omega
theorem upD_m {a : Int} (ha : 0 ≤ a) : upD a 1000 = if 0 < a.tmod 1000 then a.tdiv 1000 + 1 else a.tdiv 1000 := by
 rw [Int.tdiv_eq_ediv_of_nonneg ha, Int.tmod_eq_emod_of_nonneg ha]
 unfold upD
 split <;> omega
theorem sumV_bnd {ps : List PipeT} {m : Nat} {g : Nat → Int} {b : Int} (hb : 0 ≤ b) (hg : ∀ k, 1 ≤ k → k ≤ ps.length → 0 ≤ g k ∧ g k ≤ b) : ∀ {N : Nat}, N ≤ ps.length → 0 ≤ sumV ps m g N ∧ sumV ps m g N ≤ b * N
 | 0, _ => by simp [sumV]
 | N + 1, hN => by
  have ih := sumV_bnd (m := m) hb hg (N := N) (by omega)
  have := hg (N + 1) (by omega) hN
  have e : b * ((N + 1 : Nat) : Int) = b * N + b := by rw [Int.natCast_add, Int.mul_add]; simp
  simp only [sumV]; rw [e]; split <;> omega
theorem capF_bnd {share : Int} (hs : 0 ≤ share ∧ share ≤ 10000) {out full : List Int} (hf : ∀ i, 0 ≤ nth full i ∧ nth full i ≤ 100000) : ∀ {l : List PumpT} {i : Nat} {a : Int}, (∀ p ∈ l, 0 ≤ p.slope ∧ p.slope ≤ 100) → -1000000 ≤ a → -1000000 ≤ capF out share full l i a ∧ capF out share full l i a ≤ a
 | [], i, a, _, h => by simp [capF, h]
 | p :: l, i, a, hp, h => by
  have hp0 := hp p (by simp)
  have hfi := hf i
  have h1 : p.slope * share ≤ 100 * share := Int.mul_le_mul_of_nonneg_right hp0.2 hs.1
  have h2 : 0 ≤ p.slope * share := Int.mul_nonneg hp0.1 hs.1
  simp only [capF]
  have := capF_bnd hs (out := out) hf (l := l) (i := i + 1) (a := if out.contains (i : Int) = true then a else min a (nth full i - p.slope * share)) (fun q hq => hp q (by simp [hq])) (by split <;> omega)
  refine ⟨this.1, Int.le_trans this.2 ?_⟩
  split <;> omega
structure TruF (n : NetT) (full foul : List Int) : Prop where
 lenF : full.length = n.pumps.length
 lenG : foul.length = n.pipes.length
 fb : ∀ x ∈ full, 0 ≤ x ∧ x ≤ 100000
 gb : ∀ x ∈ foul, 0 ≤ x ∧ x ≤ 1000
theorem nth_bnd {l : List Int} {b : Int} (hb : 0 ≤ b) (h : ∀ x ∈ l, 0 ≤ x ∧ x ≤ b) (i : Nat) : 0 ≤ nth l i ∧ nth l i ≤ b := by
 unfold nth
 cases hi : l[i]? with
 | none => simp [hb]
 | some x => simp; exact h x (List.mem_of_getElem? hi)
theorem lossG_bnd {n : NetT} {full foul : List Int} (hT : TruF n full foul) {L : List HeadT} (h5 : heads500 L) (hl : L.length ≤ 20) (k : Nat) : 0 ≤ lossG n.pipes L foul k ∧ lossG n.pipes L foul k ≤ 100000001 := by
 have h1 := nth_bnd (by omega) hT.gb (k - 1)
 have h2 := flowAt_bnd (ps := n.pipes) (j := k) h5
 have h3 := needs_bnd h5
 have h4 := loss_bnd h1 (x := flowAt n.pipes k L) (by omega)
 unfold lossG upD
 omega
end Cp
namespace Cp
open Go Go.Proofs
set_option maxRecDepth 10000
set_option maxHeartbeats 1000000
@[go_sem] theorem xb_mapnil {x y : Operand} {k e : Nat} : xbin2 tab .eql 108 x y (.map k e) .nilm = some (.bool false) := by
 simp only [xbin2, xeq, tab_108]; rfl
@[go_sem] theorem xb_nilmap {x y : Operand} : xbin2 tab .eql 108 x y .nilm .nilm = some (.bool true) := by
 simp only [xbin2, xeq, tab_108]; rfl
theorem offM_add {l : List Int} {a : Int} : imap .i64 (offM l) ++ [(.int .i64 a, .bool true)] = imap .i64 (offM (l ++ [a])) := by simp [imap, offM]
theorem below_ok (n : NetT) (hF : NetF n) (node : Nat) (hn : 1 ≤ node ∧ node ≤ n.pipes.length) (H0 : Hp) : ACall Try.prog 81 [encNet n, .int .i64 node] H0 (fun v H' => (∀ j, j < 600 → H' j = H0 j) ∧ ∃ e ver, v = .map 608 e ∧ H' 608 = some (e, .map ver (imap .i64 (offM (keysT n.pipes node n.pipes.length))))) := by
 refine ACall_of (fn := Try.f81) tabOK (by kernel_rfl) rfl (by kernel_rfl) (by simp [Try.f81]) ?_
 intro X hX0 hXs
 have hpl := hF.pipes
 refine AW_cut 600 fun H1 hlow hnone => ?_
 have g7 := hnone 607 (by decide)
 have g8 := hnone 608 (by decide)
 clear hnone
 repeat' (first | (with_reducible refine sk ?_; intro K hK) | ((with_reducible first | refine rg (md := { base := 600, own := [7, 8] }) (h := ?_) | refine rgS [7] (md := { base := 600, own := [7, 8] }) (h := ?_) | refine nx ?_); try simp (disch := omega) only [encNet, cNet, g7, g8,go_sem, simprocAttr]) | (with_reducible refine bk ?_) | ((with_reducible refine' cE ?hv ?_ ?_); (case hv => first | rfl | (simp only [encNet, cNet, g7, g8,go_sem, simprocAttr]; rfl)); all_goals (intro hc; (try simp only [go_sem, simprocAttr] at hc); try (exfalso; omega))) | with_reducible intro (ep : Nat → Nat) | with_reducible apply_assumption -exfalso -symm only [*])
 refine AW_range tabOK n.pipes.length (fun i f H => (f 2 = .pim (cNet n) ∧ f 12 = .lst 4 (n.pipes.map cPipe)) ∧ (∀ j, j < 600 → H j = H0 j) ∧ ∃ e v, f 5 = .map 608 e ∧ H 608 = some (e, .map v (imap .i64 (offM (keysT n.pipes node i))))) (by omega) (by rw [hXs]; decide) (by decide) (by (first | rfl | (simp only [go_sem, simprocAttr]; done) | (simp only [go_sem, simprocAttr]; rfl))) (by (first | rfl | (simp only [go_sem, simprocAttr]; done) | (simp only [go_sem, simprocAttr]; rfl)))
  ⟨by (and_intros <;> first | rfl | (simp only [cNet, go_sem, simprocAttr]; done) | (simp only [cNet, go_sem, simprocAttr]; rfl)), fun j hj => by (try simp only [upd]); (repeat rw [if_neg (by omega)]); exact hlow j hj, _, _, by (first | rfl | (simp only [go_sem, simprocAttr]; done) | (simp only [go_sem, simprocAttr]; rfl)), by (first | rfl | (simp only [keysT, offM, imap, go_sem, simprocAttr]; done) | (simp only [keysT, offM, imap, go_sem, simprocAttr]; rfl))⟩ ?_ ?_
 ·clear hlow g7 g8
  rintro i f H hi h14 h13 ⟨⟨h2, h12⟩, hlow, e, v, h5, hH⟩
  obtain ⟨p, hp⟩ : ∃ p, n.pipes[i]? = some p := ⟨_, List.getElem?_eq_getElem hi⟩
  have hrd := keysT_round hF.falls (node := node) (by omega) hp
  refine AW_lose 607 fun H2 g7 hs2 => ?_
  have hH2 : H2 608 = some (e, .map v (imap .i64 (offM (keysT n.pipes node i)))) := by rw [hs2 _ (by decide)]; exact hH
  have hlow2 : ∀ j, j < 600 → H2 j = H0 j := fun j hj => by rw [hs2 _ (by omega)]; exact hlow j hj
  clear hs2 hH hlow
  rcases @findI_off (keysT n.pipes node i) p.frm 0 with ⟨c1, j, c2⟩ | ⟨c1, c2⟩
  ·have hc : ¬ i + 1 = node ∧ via n.pipes (i + 1) node = true := by
    rcases hrd.1 c1 with h | ⟨_, h⟩ | h
    ·exact h
    ·exact h.elim
    ·exact h
   have hst : keysT n.pipes node (i + 1) = keysT n.pipes node i ++ [((i + 1 : Nat) : Int)] := by simp only [keysT]; rw [if_pos hc]
   have hnew : findI ((i + 1 : Nat) : Int) (offM (keysT n.pipes node i)) 0 = none := by
    rcases @findI_off (keysT n.pipes node i) ((i + 1 : Nat) : Int) 0 with ⟨d1, _⟩ | ⟨_, d2⟩
    ·exfalso
     have hm : ((i + 1 : Nat) : Int) ∈ keysT n.pipes node i := by simpa using d1
     rcases keysT_mem.1 hm with h | ⟨k, h1, h2, _, h4, _⟩
     ·omega
     ·omega
    ·exact d2
   repeat' (first | (with_reducible refine sk ?_; intro K hK) | ((with_reducible first | refine rg (md := { base := 600, own := [7, 8] }) (h := ?_) | refine rgS [7] (md := { base := 600, own := [7, 8] }) (h := ?_) | refine nx ?_); try simp (disch := omega) only [h2, h5, h12, h13, h14, g7, hH2, hp, c2, hnew, cPipe,go_sem, simprocAttr]) | (with_reducible refine bk ?_) | ((with_reducible refine' cE ?hv ?_ ?_); (case hv => first | rfl | (simp only [h2, h5, h12, h13, h14, g7, hH2, hp, c2, hnew, cPipe,go_sem, simprocAttr]; rfl)); all_goals (intro hc; (try simp only [go_sem, simprocAttr] at hc); try (exfalso; omega))) | with_reducible intro (ep : Nat → Nat) | with_reducible apply_assumption -exfalso -symm only [*])
   exact ⟨fun j hj => by (repeat rw [if_neg (by omega)]); exact hlow2 j hj, _, _, rfl, by rw [hst, ← offM_add]⟩
  ·have hst : keysT n.pipes node (i + 1) = keysT n.pipes node i := by
    simp only [keysT]
    rw [if_neg (fun h => by have := hrd.2 (.inl h); rw [c1] at this; cases this), List.append_nil]
   repeat' (first | (with_reducible refine sk ?_; intro K hK) | ((with_reducible first | refine rg (md := { base := 600, own := [7, 8] }) (h := ?_) | refine rgS [7] (md := { base := 600, own := [7, 8] }) (h := ?_) | refine nx ?_); try simp (disch := omega) only [h2, h5, h12, h13, h14, g7, hH2, hp, c2, cPipe,go_sem, simprocAttr]) | (with_reducible refine bk ?_) | ((with_reducible refine' cE ?hv ?_ ?_); (case hv => first | rfl | (simp only [h2, h5, h12, h13, h14, g7, hH2, hp, c2, cPipe,go_sem, simprocAttr]; rfl)); all_goals (intro hc; (try simp only [go_sem, simprocAttr] at hc); try (exfalso; omega))) | with_reducible intro (ep : Nat → Nat) | with_reducible apply_assumption -exfalso -symm only [*])
   exact ⟨fun j hj => by (repeat rw [if_neg (by omega)]); exact hlow2 j hj, _, _, rfl, by rw [hst]⟩
 ·clear hlow g7 g8
  rintro f H h14 h13 ⟨⟨h2, h12⟩, hlow, e, v, h5, hH⟩
  repeat' (first | (with_reducible refine sk ?_; intro K hK) | ((with_reducible first | refine rg (md := { base := 600, own := [7, 8] }) (h := ?_) | refine rgS [7] (md := { base := 600, own := [7, 8] }) (h := ?_) | refine nx ?_); try simp (disch := omega) only [h5, hH,go_sem, simprocAttr]) | (with_reducible refine bk ?_) | ((with_reducible refine' cE ?hv ?_ ?_); (case hv => first | rfl | (simp only [h5, hH,go_sem, simprocAttr]; rfl)); all_goals (intro hc; (try simp only [go_sem, simprocAttr] at hc); try (exfalso; omega))) | with_reducible intro (ep : Nat → Nat) | with_reducible apply_assumption -exfalso -symm only [*])
  refine FnQ_end (Or.inl rfl) (.refl _) (by simp only [Try.f81, go_sem, simprocAttr]; rfl) ?_
  exact ⟨hlow, e, v, by simp only [go_sem, simprocAttr], hH⟩
def opF (hs : List HeadT) (l : List Int) : List HeadT := hs.filter fun h => l.contains h.id
theorem opF_snoc {hs : List HeadT} {l : List Int} {k : Nat} {x : HeadT} (h : hs[k]? = some x) : opF (hs.take (k + 1)) l = opF (hs.take k) l ++ (if l.contains x.id = true then [x] else []) := by
 unfold opF; rw [take_snoc' h, List.filter_append]; simp [List.filter_cons]
theorem opF_500 {n : NetT} (hF : NetF n) {k : Nat} {l : List Int} : heads500 (opF (n.heads.take k) l) := fun h hm => (hF.head h (List.mem_of_mem_take (List.mem_filter.1 hm).1)).1.2.1
theorem opF_len {n : NetT} (hF : NetF n) {k : Nat} {l : List Int} : (opF (n.heads.take k) l).length ≤ 8 := by
 have := hF.heads
 exact Nat.le_trans (List.length_filter_le _ _) (by simp; omega)
theorem presses1_nil (n : NetT) (hF : NetF n) (l : List Int) (hl : l.length ≤ 100000) : PureC Try.prog 80 [.nilm, .pim (cNet n), .pim [.lst 1 (ints l)]] (.int .i64 (needs (opF n.heads l))) := by
 have hhl := hF.heads
 refine PureC_of (fn := Try.f80) tabOK (by kernel_rfl) rfl (by kernel_rfl) (by simp [Try.f80]) (by simp [noids, noid, noidss, go_sem, cNet]) (by first | rfl | simp [noids, noid, noidss, go_sem, cNet]) ?_
 intro X hX0 hXs
 repeat' (first | (with_reducible refine sk ?_; intro K hK) | ((with_reducible first | refine rg (md := { base := 700, own := [] }) (h := ?_) | refine rgS [7] (md := { base := 700, own := [] }) (h := ?_) | refine nx ?_); try simp (disch := omega) only [cNet,go_sem, simprocAttr]) | (with_reducible refine bk ?_) | ((with_reducible refine' cE ?hv ?_ ?_); (case hv => first | rfl | (simp only [cNet,go_sem, simprocAttr]; rfl)); all_goals (intro hc; (try simp only [go_sem, simprocAttr] at hc); try (exfalso; omega))) | ((with_reducible first | refine grdS_split ?_ ?_ | refine lkG_split ?_ ?_) <;> intro hg <;> (try simp (disch := omega) only [hg, cNet,go_sem, simprocAttr]) <;> (try simp only [go_sem, simprocAttr] at hg) <;> (try (exfalso; omega))) | ((with_reducible refine fe ?_); refine ⟨_, (by simp only [Try.f80, cNet,go_sem, simprocAttr]; rfl), ?_⟩; first | rfl | (try simp only [cNet,go_sem, simprocAttr, seval])) | with_reducible intro (ep : Nat → Nat) | with_reducible apply_assumption -exfalso -symm only [*])
 refine AW_range tabOK n.heads.length (fun i f H => (f 0 = .nilm ∧ f 1 = .pim (cNet n) ∧ f 2 = .pim [.lst 1 (ints l)] ∧ f 9 = .lst 8 (n.heads.map cHead)) ∧ f 5 = .int .i64 (needs (opF (n.heads.take i) l))) (by omega) (by rw [hXs]; decide) (by decide) (by (first | rfl | (simp only [go_sem, simprocAttr]; done) | (simp only [go_sem, simprocAttr]; rfl))) (by (first | rfl | (simp only [go_sem, simprocAttr]; done) | (simp only [go_sem, simprocAttr]; rfl)))
  ⟨by (and_intros <;> first | rfl | (simp only [cNet, go_sem, simprocAttr]; done) | (simp only [cNet, go_sem, simprocAttr]; rfl)), by (first | rfl | (simp only [List.take_zero, opF, List.filter_nil, needs, go_sem, simprocAttr]; done) | (simp only [List.take_zero, opF, List.filter_nil, needs, go_sem, simprocAttr]; rfl))⟩ ?_ ?_
 ·rintro i f H hi h11 h10 ⟨⟨h0, h1, h2, h9⟩, h5⟩
  obtain ⟨x, hx⟩ : ∃ x, n.heads[i]? = some x := ⟨_, List.getElem?_eq_getElem hi⟩
  have hxn := (hF.head x (List.mem_of_getElem? hx)).1.2.1
  have hb := needs_bnd (@opF_500 n hF i l)
  have hlb := @opF_len n hF i l
  have hh := has_ok l hl x.id
  rw [opF_snoc hx, needs_app]
  refine AW_keep [] ?_
  cases hc0 : l.contains x.id with
  | true =>
   rw [hc0] at hh
   repeat' (first | (with_reducible refine sk ?_; intro K hK) | ((first | (with_reducible first | refine rg (md := { base := 700, own := [] }) (h := ?_) | refine rgS [7] (md := { base := 700, own := [] }) (h := ?_) | refine nx ?_) | refine pK (hh) ?_); try simp (disch := omega) only [h0, h1, h2, h5, h9, h10, h11, hx, cHead,go_sem, simprocAttr]) | (with_reducible refine bk ?_) | ((with_reducible refine' cE ?hv ?_ ?_); (case hv => first | rfl | (simp only [h0, h1, h2, h5, h9, h10, h11, hx, cHead,go_sem, simprocAttr]; rfl)); all_goals (intro hc; (try simp only [go_sem, simprocAttr] at hc); try (exfalso; omega))) | ((with_reducible first | refine grdS_split ?_ ?_ | refine lkG_split ?_ ?_) <;> intro hg <;> (try simp (disch := omega) only [hg, h0, h1, h2, h5, h9, h10, h11, hx, cHead,go_sem, simprocAttr]) <;> (try simp only [go_sem, simprocAttr] at hg) <;> (try (exfalso; omega))) | ((with_reducible refine fe ?_); refine ⟨_, (by simp only [Try.f80, h0, h1, h2, h5, h9, h10, h11, hx, cHead,go_sem, simprocAttr]; rfl), ?_⟩; first | rfl | (try simp only [h0, h1, h2, h5, h9, h10, h11, hx, cHead,go_sem, simprocAttr, seval])) | with_reducible intro (ep : Nat → Nat) | with_reducible apply_assumption -exfalso -symm only [*])
   all_goals (try simp only [if_true, needs, Int.add_zero])
  | false =>
   rw [hc0] at hh
   repeat' (first | (with_reducible refine sk ?_; intro K hK) | ((first | (with_reducible first | refine rg (md := { base := 700, own := [] }) (h := ?_) | refine rgS [7] (md := { base := 700, own := [] }) (h := ?_) | refine nx ?_) | refine pK (hh) ?_); try simp (disch := omega) only [h0, h1, h2, h5, h9, h10, h11, hx, cHead,go_sem, simprocAttr]) | (with_reducible refine bk ?_) | ((with_reducible refine' cE ?hv ?_ ?_); (case hv => first | rfl | (simp only [h0, h1, h2, h5, h9, h10, h11, hx, cHead,go_sem, simprocAttr]; rfl)); all_goals (intro hc; (try simp only [go_sem, simprocAttr] at hc); try (exfalso; omega))) | ((with_reducible first | refine grdS_split ?_ ?_ | refine lkG_split ?_ ?_) <;> intro hg <;> (try simp (disch := omega) only [hg, h0, h1, h2, h5, h9, h10, h11, hx, cHead,go_sem, simprocAttr]) <;> (try simp only [go_sem, simprocAttr] at hg) <;> (try (exfalso; omega))) | ((with_reducible refine fe ?_); refine ⟨_, (by simp only [Try.f80, h0, h1, h2, h5, h9, h10, h11, hx, cHead,go_sem, simprocAttr]; rfl), ?_⟩; first | rfl | (try simp only [h0, h1, h2, h5, h9, h10, h11, hx, cHead,go_sem, simprocAttr, seval])) | with_reducible intro (ep : Nat → Nat) | with_reducible apply_assumption -exfalso -symm only [*])
   all_goals (try simp [needs])
 ·rintro f H h11 h10 ⟨⟨h0, h1, h2, h9⟩, h5⟩
  rw [List.take_of_length_le (Nat.le_refl _)] at h5
  repeat' (first | (with_reducible refine sk ?_; intro K hK) | ((with_reducible first | refine rg (md := { base := 700, own := [] }) (h := ?_) | refine rgS [7] (md := { base := 700, own := [] }) (h := ?_) | refine nx ?_); try simp (disch := omega) only [h5,go_sem, simprocAttr]) | (with_reducible refine bk ?_) | ((with_reducible refine' cE ?hv ?_ ?_); (case hv => first | rfl | (simp only [h5,go_sem, simprocAttr]; rfl)); all_goals (intro hc; (try simp only [go_sem, simprocAttr] at hc); try (exfalso; omega))) | ((with_reducible first | refine grdS_split ?_ ?_ | refine lkG_split ?_ ?_) <;> intro hg <;> (try simp (disch := omega) only [hg, h5,go_sem, simprocAttr]) <;> (try simp only [go_sem, simprocAttr] at hg) <;> (try (exfalso; omega))) | ((with_reducible refine fe ?_); refine ⟨_, (by simp only [Try.f80, h5,go_sem, simprocAttr]; rfl), ?_⟩; first | rfl | (try simp only [h5,go_sem, simprocAttr, seval])) | with_reducible intro (ep : Nat → Nat) | with_reducible apply_assumption -exfalso -symm only [*])
theorem presses1_map (n : NetT) (hF : NetF n) (l : List Int) (hl : l.length ≤ 100000) (node : Nat) (hn : 1 ≤ node ∧ node ≤ n.pipes.length) (e ver : Nat) (H : Hp) (hm : frz1 (H 608) = some (e, .frm ver (imap .i64 (offM (keysT n.pipes node n.pipes.length))))) (hroom : H 707 = none) :
  LookC Try.prog 80 [.map 608 e, .pim (cNet n), .pim [.lst 1 (ints l)]] H (.int .i64 (flowAt n.pipes node (opF n.heads l))) := by
 have hhl := hF.heads
 have hr : frz1 (H 707) = none := by rw [hroom]; rfl
 refine LookC_of (fn := Try.f80) tabOK (by kernel_rfl) rfl (by kernel_rfl) (by simp [Try.f80]) rfl ?_
 intro X hX0 hXs
 repeat' (first | (with_reducible refine sk ?_; intro K hK) | ((with_reducible first | refine rg (md := { base := 700, own := [] }) (h := ?_) | refine rgS [7] (md := { base := 700, own := [] }) (h := ?_) | refine nx ?_); try simp (disch := omega) only [cNet, hm, hr,go_sem, simprocAttr]) | (with_reducible refine bk ?_) | ((with_reducible refine' cE ?hv ?_ ?_); (case hv => first | rfl | (simp only [cNet, hm, hr,go_sem, simprocAttr]; rfl)); all_goals (intro hc; (try simp only [go_sem, simprocAttr] at hc); try (exfalso; omega))) | ((with_reducible first | refine grdS_split ?_ ?_ | refine lkG_split ?_ ?_) <;> intro hg <;> (try simp (disch := omega) only [hg, cNet, hm, hr,go_sem, simprocAttr]) <;> (try simp only [go_sem, simprocAttr] at hg) <;> (try (exfalso; omega))) | ((with_reducible refine fe ?_); refine ⟨_, (by simp only [Try.f80, cNet, hm, hr,go_sem, simprocAttr]; rfl), ?_⟩; first | rfl | (try simp only [cNet, hm, hr,go_sem, simprocAttr, seval])) | with_reducible intro (ep : Nat → Nat) | with_reducible apply_assumption -exfalso -symm only [*])
 refine AW_range tabOK n.heads.length (fun i f H => (f 0 = .map 608 e ∧ f 1 = .pim (cNet n) ∧ f 2 = .pim [.lst 1 (ints l)] ∧ f 9 = .lst 8 (n.heads.map cHead)) ∧ H 608 = some (e, .frm ver (imap .i64 (offM (keysT n.pipes node n.pipes.length)))) ∧ f 5 = .int .i64 (flowAt n.pipes node (opF (n.heads.take i) l))) (by omega) (by rw [hXs]; decide) (by decide) (by (first | rfl | (simp only [go_sem, simprocAttr]; done) | (simp only [go_sem, simprocAttr]; rfl))) (by (first | rfl | (simp only [go_sem, simprocAttr]; done) | (simp only [go_sem, simprocAttr]; rfl)))
  ⟨by (and_intros <;> first | rfl | (simp only [cNet, go_sem, simprocAttr]; done) | (simp only [cNet, go_sem, simprocAttr]; rfl)), by (first | rfl | (simp only [hm, go_sem, simprocAttr]; done) | (simp only [hm, go_sem, simprocAttr]; rfl)), by (first | rfl | (simp only [List.take_zero, opF, List.filter_nil, flowAt, go_sem, simprocAttr]; done) | (simp only [List.take_zero, opF, List.filter_nil, flowAt, go_sem, simprocAttr]; rfl))⟩ ?_ ?_
 ·rintro i f H hi h11 h10 ⟨⟨h0, h1, h2, h9⟩, hm, h5⟩
  obtain ⟨x, hx⟩ : ∃ x, n.heads[i]? = some x := ⟨_, List.getElem?_eq_getElem hi⟩
  have hxf := hF.head x (List.mem_of_getElem? hx)
  have hxn := hxf.1.2.1
  have hb := needs_bnd (@opF_500 n hF i l)
  have hfb := flowAt_bnd (ps := n.pipes) (j := node) (@opF_500 n hF i l)
  have hlb := @opF_len n hF i l
  have hh := has_ok l hl x.id
  have hall := keysT_all hF.falls (node := node) (by omega) (x := x.node.toNat) (N := n.pipes.length) (by omega)
  rw [show ((x.node.toNat : Nat) : Int) = x.node by omega] at hall
  rw [opF_snoc hx, flowAt_app]
  refine AW_keep [608] ?_
  cases hc0 : l.contains x.id with
  | true =>
   rw [hc0] at hh
   rcases @findI_off (keysT n.pipes node n.pipes.length) x.node 0 with ⟨c1, j, c2⟩ | ⟨c1, c2⟩
   ·rw [c1] at hall
    repeat' (first | (with_reducible refine sk ?_; intro K hK) | ((first | (with_reducible first | refine rg (md := { base := 700, own := [] }) (h := ?_) | refine rgS [7] (md := { base := 700, own := [] }) (h := ?_) | refine nx ?_) | refine pK (hh) ?_); try simp (disch := omega) only [h0, h1, h2, h5, h9, h10, h11, hm, hx, c2, cNet, cHead,go_sem, simprocAttr]) | (with_reducible refine bk ?_) | ((with_reducible refine' cE ?hv ?_ ?_); (case hv => first | rfl | (simp only [h0, h1, h2, h5, h9, h10, h11, hm, hx, c2, cNet, cHead,go_sem, simprocAttr]; rfl)); all_goals (intro hc; (try simp only [go_sem, simprocAttr] at hc); try (exfalso; omega))) | ((with_reducible first | refine grdS_split ?_ ?_ | refine lkG_split ?_ ?_) <;> intro hg <;> (try simp (disch := omega) only [hg, h0, h1, h2, h5, h9, h10, h11, hm, hx, c2, cNet, cHead,go_sem, simprocAttr]) <;> (try simp only [go_sem, simprocAttr] at hg) <;> (try (exfalso; omega))) | ((with_reducible refine fe ?_); refine ⟨_, (by simp only [Try.f80, h0, h1, h2, h5, h9, h10, h11, hm, hx, c2, cNet, cHead,go_sem, simprocAttr]; rfl), ?_⟩; first | rfl | (try simp only [h0, h1, h2, h5, h9, h10, h11, hm, hx, c2, cNet, cHead,go_sem, simprocAttr, seval])) | with_reducible intro (ep : Nat → Nat) | with_reducible apply_assumption -exfalso -symm only [*])
    all_goals (try simp only [if_true, flowAt, ← hall, Int.add_zero])
   ·rw [c1] at hall
    repeat' (first | (with_reducible refine sk ?_; intro K hK) | ((first | (with_reducible first | refine rg (md := { base := 700, own := [] }) (h := ?_) | refine rgS [7] (md := { base := 700, own := [] }) (h := ?_) | refine nx ?_) | refine pK (hh) ?_); try simp (disch := omega) only [h0, h1, h2, h5, h9, h10, h11, hm, hx, c2, cNet, cHead,go_sem, simprocAttr]) | (with_reducible refine bk ?_) | ((with_reducible refine' cE ?hv ?_ ?_); (case hv => first | rfl | (simp only [h0, h1, h2, h5, h9, h10, h11, hm, hx, c2, cNet, cHead,go_sem, simprocAttr]; rfl)); all_goals (intro hc; (try simp only [go_sem, simprocAttr] at hc); try (exfalso; omega))) | ((with_reducible first | refine grdS_split ?_ ?_ | refine lkG_split ?_ ?_) <;> intro hg <;> (try simp (disch := omega) only [hg, h0, h1, h2, h5, h9, h10, h11, hm, hx, c2, cNet, cHead,go_sem, simprocAttr]) <;> (try simp only [go_sem, simprocAttr] at hg) <;> (try (exfalso; omega))) | ((with_reducible refine fe ?_); refine ⟨_, (by simp only [Try.f80, h0, h1, h2, h5, h9, h10, h11, hm, hx, c2, cNet, cHead,go_sem, simprocAttr]; rfl), ?_⟩; first | rfl | (try simp only [h0, h1, h2, h5, h9, h10, h11, hm, hx, c2, cNet, cHead,go_sem, simprocAttr, seval])) | with_reducible intro (ep : Nat → Nat) | with_reducible apply_assumption -exfalso -symm only [*])
    all_goals (try simp [flowAt, ← hall])
  | false =>
   rw [hc0] at hh
   repeat' (first | (with_reducible refine sk ?_; intro K hK) | ((first | (with_reducible first | refine rg (md := { base := 700, own := [] }) (h := ?_) | refine rgS [7] (md := { base := 700, own := [] }) (h := ?_) | refine nx ?_) | refine pK (hh) ?_); try simp (disch := omega) only [h0, h1, h2, h5, h9, h10, h11, hm, hx, cNet, cHead,go_sem, simprocAttr]) | (with_reducible refine bk ?_) | ((with_reducible refine' cE ?hv ?_ ?_); (case hv => first | rfl | (simp only [h0, h1, h2, h5, h9, h10, h11, hm, hx, cNet, cHead,go_sem, simprocAttr]; rfl)); all_goals (intro hc; (try simp only [go_sem, simprocAttr] at hc); try (exfalso; omega))) | ((with_reducible first | refine grdS_split ?_ ?_ | refine lkG_split ?_ ?_) <;> intro hg <;> (try simp (disch := omega) only [hg, h0, h1, h2, h5, h9, h10, h11, hm, hx, cNet, cHead,go_sem, simprocAttr]) <;> (try simp only [go_sem, simprocAttr] at hg) <;> (try (exfalso; omega))) | ((with_reducible refine fe ?_); refine ⟨_, (by simp only [Try.f80, h0, h1, h2, h5, h9, h10, h11, hm, hx, cNet, cHead,go_sem, simprocAttr]; rfl), ?_⟩; first | rfl | (try simp only [h0, h1, h2, h5, h9, h10, h11, hm, hx, cNet, cHead,go_sem, simprocAttr, seval])) | with_reducible intro (ep : Nat → Nat) | with_reducible apply_assumption -exfalso -symm only [*])
   all_goals (try simp [flowAt])
 ·rintro f H h11 h10 ⟨⟨h0, h1, h2, h9⟩, hm, h5⟩
  rw [List.take_of_length_le (Nat.le_refl _)] at h5
  repeat' (first | (with_reducible refine sk ?_; intro K hK) | ((with_reducible first | refine rg (md := { base := 700, own := [] }) (h := ?_) | refine rgS [7] (md := { base := 700, own := [] }) (h := ?_) | refine nx ?_); try simp (disch := omega) only [h5,go_sem, simprocAttr]) | (with_reducible refine bk ?_) | ((with_reducible refine' cE ?hv ?_ ?_); (case hv => first | rfl | (simp only [h5,go_sem, simprocAttr]; rfl)); all_goals (intro hc; (try simp only [go_sem, simprocAttr] at hc); try (exfalso; omega))) | ((with_reducible first | refine grdS_split ?_ ?_ | refine lkG_split ?_ ?_) <;> intro hg <;> (try simp (disch := omega) only [hg, h5,go_sem, simprocAttr]) <;> (try simp only [go_sem, simprocAttr] at hg) <;> (try (exfalso; omega))) | ((with_reducible refine fe ?_); refine ⟨_, (by simp only [Try.f80, h5,go_sem, simprocAttr]; rfl), ?_⟩; first | rfl | (try simp only [h5,go_sem, simprocAttr, seval])) | with_reducible intro (ep : Nat → Nat) | with_reducible apply_assumption -exfalso -symm only [*])
end Cp
namespace Cp
open Go Go.Proofs
abbrev iv (n : Int) : Val := .int .i64 n
def netV : Val := .agg [.lst 4 [[iv 0, iv 1, iv 10, iv 20], [iv 1, iv 2, iv 0, iv 50], [iv 1, iv 3, iv 100, iv 100]],
 .lst 8 [[iv 5, iv 2, iv 80, iv 500, iv 66, iv 70, iv 0, iv 1], [iv 9, iv 3, iv 100, iv 400, iv 141, iv 145, iv 2, iv 2]], .lst 3 [[iv 3000, iv 3100, iv 5], [iv 3500, iv 3500, iv 10]], iv 1, iv 6000, iv 7000, iv 30]
theorem check_net : PureC Try.prog 21 [netV] (iv 0) := run_val (n := 400) tabOK mix look_ok (by rfl) (by rfl) (by kernel_rfl)
end Cp
namespace Cp
open Go Go.Proofs
noncomputable def look1 : Look := { look with memo := fun f => if Nat.beq f 21 = true then [([netV], iv 0)] else [], pmemo := fun f => [] }
theorem look1_m : ∀ fid xs v, (xs, v) ∈ look1.memo fid → PureC Try.prog fid xs v := fun fid vs v h => by
 simp only [look1] at h
 split at h
 ·rename_i hf
  rw [Nat.beq_eq] at hf
  subst hf
  simp only [List.mem_cons, List.not_mem_nil, or_false, Prod.mk.injEq] at h
  rcases h with ⟨rfl, rfl⟩
  exact check_net
 ·skip
  cases h
theorem look1_p : ∀ fid xs v, (xs, v) ∈ look1.pmemo fid → PureC Try.prog fid xs v := fun fid vs v h => by
 simp only [look1] at h
 cases h
theorem look1_ok : LookOK Try.prog look1 := ⟨look_ok.fn, look1_m, look1_p⟩
theorem alive_run : PureC Try.prog 35 [] (.bool true) := run_val (n := 400) tabOK mix look1_ok (by rfl) (by rfl) (by kernel_rfl)
end Cp
namespace Cp
open Go Go.Proofs
set_option maxRecDepth 10000
set_option maxHeartbeats 4000000
end Cp
namespace Cp
open Go Go.Proofs
set_option maxRecDepth 10000
set_option maxHeartbeats 4000000
def truV (full foul : List Int) (tank : Int) : List Val := [.lst 1 (ints full), .lst 1 (ints foul), .int .i64 tank]
theorem nth_get {l : List Int} {i : Nat} (h : i < l.length) : l[i]? = some (nth l i) := by unfold nth; rw [List.getElem?_eq_getElem h]; rfl
theorem presses_ok (n : NetT) (hF : NetF n) (l : List Int) (hl : l.length ≤ 100000) (out : List Int) (hno : outOK n out = true) (full foul : List Int) (hT : TruF n full foul) (tank : Int) :
  PureC Try.prog 40 [encNet n, .lst 1 (ints l), .lst 1 (ints out), .agg (truV full foul tank)] (.lst 1 (ints ((opF n.heads l).map (pressG n (opF n.heads l) out full foul)))) := by
 obtain ⟨o1, o2, o3⟩ := out_facts hno
 have ho4 := hF.out
 have hpq := hF.pumps
 have hpl := hF.pipes
 have hhl := hF.heads
 have h5 : heads500 (opF n.heads l) := by have := @opF_500 n hF n.heads.length l; rwa [List.take_of_length_le (Nat.le_refl _)] at this
 have hLl : (opF n.heads l).length ≤ 8 := by have := @opF_len n hF n.heads.length l; rwa [List.take_of_length_le (Nat.le_refl _)] at this
 have hnil := presses1_nil n hF l hl
 obtain ⟨L, hL⟩ : ∃ L, opF n.heads l = L := ⟨_, rfl⟩
 rw [hL] at h5 hLl hnil ⊢
 have hnb := needs_bnd h5
 have hsb := share_bnd (n := n) (flow := needs L) (out := out) (by omega) (by omega)
 have hq := upD_q (a := needs L) (b := (n.pumps.length : Int) - out.length) (by omega) (by omega)
 have hwz : ¬ (n.pumps.length : Int) - out.length = 0 := by omega
 have hshe : upD (needs L) ((n.pumps.length : Int) - out.length) = shareS n (needs L) out := rfl
 rw [hshe] at hq
 have hqd : 0 ≤ (needs L).tdiv ((n.pumps.length : Int) - out.length) ∧ (needs L).tdiv ((n.pumps.length : Int) - out.length) ≤ needs L := by
  rw [Int.tdiv_eq_ediv_of_nonneg (by omega)]
  exact ⟨Int.ediv_nonneg (by omega) (by omega), Int.ediv_le_self _ (by omega)⟩
 obtain ⟨w, hw⟩ : ∃ w, (n.pumps.length : Int) - out.length = w := ⟨_, rfl⟩
 have hwb : 1 ≤ w ∧ w ≤ 4 := by omega
 rw [hw] at hq hwz hqd
 obtain ⟨q0, hq0⟩ : ∃ q, (needs L).tdiv w = q := ⟨_, rfl⟩
 rw [hq0] at hq hqd
 have hqw : 0 ≤ q0 * w ∧ q0 * w ≤ 40000 := ⟨Int.mul_nonneg hqd.1 (by omega), Int.le_trans (Int.mul_le_mul (by omega : q0 ≤ 10000) hwb.2 (by omega) (by omega)) (by omega)⟩
 have hhas := fun a => has_ok out (by omega) a
 have hhasl := fun a => has_ok l hl a
 have hfn := nth_bnd (by omega) hT.fb
 refine PureC_of (fn := Try.f40) tabOK (by kernel_rfl) rfl (by kernel_rfl) (by simp [Try.f40]) (by simp [noids, noid, noidss, go_sem, encNet, cNet, truV]) (by first | rfl | simp [noids, noid, noidss, go_sem, encNet, cNet, truV]) ?_
 intro X hX0 hXs
 repeat' (first | ((fail_if_success (with_reducible refine AW_at (id := 4) ?_)); with_reducible refine sk ?_; intro K hK) | ((first | (with_reducible first | refine rgL (id := 29) [] [101, 105] (md := { base := 0, own := [120], imp := [88] }) (h := ?_) | refine rgL (id := 29) [14, 17] [101, 105] (md := { base := 0, own := [120], imp := [88] }) (h := ?_) | refine rgL [] [101, 105] (md := { base := 0, own := [15, 120], imp := [88] }) (h := ?_) | refine rgL [14, 17] [101, 105] (md := { base := 0, own := [15, 120], imp := [88] }) (h := ?_) | refine nx ?_) | refine pK (hnil) ?_ | refine lK (hnil) ?_); try simp (disch := omega) only [encNet, cNet, truV, hw, hwz, hq0,go_sem, simprocAttr]) | (with_reducible refine bk ?_) | ((with_reducible refine' cE ?hv ?_ ?_); (case hv => first | rfl | (simp only [encNet, cNet, truV, hw, hwz, hq0,go_sem, simprocAttr]; rfl)); all_goals (intro hc; (try simp only [go_sem, simprocAttr] at hc); try (exfalso; omega))) | (first | refine iK (hnil) ?_) | ((with_reducible refine fe ?_); refine ⟨_, (by simp only [Try.f40, encNet, cNet, truV, hw, hwz, hq0,go_sem, simprocAttr]; rfl), ?_⟩; first | rfl | (try simp only [encNet, cNet, truV, hw, hwz, hq0,go_sem, simprocAttr, seval])) | with_reducible intro (ep : Nat → Nat) | with_reducible apply_assumption -exfalso -symm only [*])
 have hcutA : ∀ f H, (f 2 = .lst 1 (ints out) ∧ f 4 = .pim (cNet n) ∧ f 5 = .pim [.lst 1 (ints l)] ∧ f 7 = .pim (truV full foul tank) ∧ f 9 = .fn 80 [.pim (cNet n), .pim [.lst 1 (ints l)]] ∧ f 11 = .int .i64 (shareS n (needs L) out)) → K f H := by
  obtain ⟨sh, hsh⟩ : ∃ sh, shareS n (needs L) out = sh := ⟨_, rfl⟩
  rw [hsh] at hsb ⊢
  rintro f H ⟨h2, h4, h5', h7, h9, h11⟩
  refine hK f H ?_
  clear hK
  refine AW_keep [] ?_
  repeat' (first | ((fail_if_success (with_reducible refine AW_at (id := 7) ?_)); with_reducible refine sk ?_; intro K hK) | ((with_reducible first | refine rgL (id := 29) [] [101, 105] (md := { base := 0, own := [120], imp := [88] }) (h := ?_) | refine rgL (id := 29) [14, 17] [101, 105] (md := { base := 0, own := [120], imp := [88] }) (h := ?_) | refine rgL [] [101, 105] (md := { base := 0, own := [15, 120], imp := [88] }) (h := ?_) | refine rgL [14, 17] [101, 105] (md := { base := 0, own := [15, 120], imp := [88] }) (h := ?_) | refine nx ?_); try simp (disch := omega) only [h2, h4, h5', h7, h9, h11,go_sem, simprocAttr]) | (with_reducible refine bk ?_) | ((with_reducible refine' cE ?hv ?_ ?_); (case hv => first | rfl | (simp only [h2, h4, h5', h7, h9, h11,go_sem, simprocAttr]; rfl)); all_goals (intro hc; (try simp only [go_sem, simprocAttr] at hc); try (exfalso; omega))) | ((with_reducible refine fe ?_); refine ⟨_, (by simp only [Try.f40, h2, h4, h5', h7, h9, h11,go_sem, simprocAttr]; rfl), ?_⟩; first | rfl | (try simp only [h2, h4, h5', h7, h9, h11,go_sem, simprocAttr, seval])) | with_reducible intro (ep : Nat → Nat) | with_reducible apply_assumption -exfalso -symm only [*])
  have hcutB : ∀ f H, (f 4 = .pim (cNet n) ∧ f 5 = .pim [.lst 1 (ints l)] ∧ f 7 = .pim (truV full foul tank) ∧ f 9 = .fn 80 [.pim (cNet n), .pim [.lst 1 (ints l)]] ∧ f 12 = .int .i64 (pumpsG n L out full)) → K f H := by
   clear h2 h4 h5' h7 h9 h11
   have hpg : -1000000 ≤ pumpsG n L out full ∧ pumpsG n L out full ≤ 1073741824 := by
    unfold pumpsG
    exact capF_bnd ⟨by rw [hsh]; exact hsb.1, by rw [hsh]; omega⟩ hfn (fun p hp => (hF.pump p hp).2) (by omega)
   rintro f H ⟨h4, h5', h7, h9, h12⟩
   refine hK f H ?_
   clear hK
   refine AW_keep [] ?_
   obtain ⟨pm, hpm⟩ : ∃ pm, pumpsG n L out full = pm := ⟨_, rfl⟩
   rw [hpm] at hpg h12
   have hG : ∀ x : HeadT, pressG n L out full foul x = pm - sumV n.pipes x.node.toNat (lossG n.pipes L foul) n.pipes.length := fun x => by unfold pressG; rw [hpm]
   have hgb := fun k => lossG_bnd hT h5 (by omega) k
   obtain ⟨GG, hGG⟩ : ∃ GG, pressG n L out full foul = GG := ⟨_, rfl⟩
   repeat' (first | (with_reducible refine sk ?_; intro K hK) | ((with_reducible first | refine rgL (id := 29) [] [101, 105] (md := { base := 0, own := [120], imp := [88] }) (h := ?_) | refine rgL (id := 29) [14, 17] [101, 105] (md := { base := 0, own := [120], imp := [88] }) (h := ?_) | refine rgL [] [101, 105] (md := { base := 0, own := [15, 120], imp := [88] }) (h := ?_) | refine rgL [14, 17] [101, 105] (md := { base := 0, own := [15, 120], imp := [88] }) (h := ?_) | refine nx ?_); try simp (disch := omega) only [h4, h5', h7, h9, h12, cNet,go_sem, simprocAttr]) | (with_reducible refine bk ?_) | ((with_reducible refine' cE ?hv ?_ ?_); (case hv => first | rfl | (simp only [h4, h5', h7, h9, h12, cNet,go_sem, simprocAttr]; rfl)); all_goals (intro hc; (try simp only [go_sem, simprocAttr] at hc); try (exfalso; omega))) | with_reducible intro (ep : Nat → Nat) | with_reducible apply_assumption -exfalso -symm only [*])
   refine AW_range tabOK n.heads.length (fun k f H => (f 4 = .pim (cNet n) ∧ f 5 = .pim [.lst 1 (ints l)] ∧ f 7 = .pim (truV full foul tank) ∧ f 9 = .fn 80 [.pim (cNet n), .pim [.lst 1 (ints l)]] ∧ f 12 = .int .i64 pm ∧ f 67 = .lst 8 (n.heads.map cHead)) ∧ ∃ e, f 15 = .gr 15 e (opF (n.heads.take k) l).length ∧ H 15 = some (e, .arr 1 (ints ((opF (n.heads.take k) l).map GG)))) (by omega) (by rw [hXs]; decide) (by decide) (by (first | rfl | (simp only [go_sem, simprocAttr]; done) | (simp only [go_sem, simprocAttr]; rfl))) (by (first | rfl | (simp only [go_sem, simprocAttr]; done) | (simp only [go_sem, simprocAttr]; rfl)))
    ⟨by (and_intros <;> first | rfl | (simp only [h4, h5', h7, h9, h12, cNet, go_sem, simprocAttr]; done) | (simp only [h4, h5', h7, h9, h12, cNet, go_sem, simprocAttr]; rfl)), _, by (first | rfl | (simp only [List.take_zero, opF, List.filter_nil, go_sem, simprocAttr]; done) | (simp only [List.take_zero, opF, List.filter_nil, go_sem, simprocAttr]; rfl)), by (first | rfl | (simp only [List.take_zero, opF, List.filter_nil, go_sem, simprocAttr]; done) | (simp only [List.take_zero, opF, List.filter_nil, go_sem, simprocAttr]; rfl))⟩ ?_ ?_
   ·clear h4 h5' h7 h9 h12
    rintro k f H hk h69 h68 ⟨⟨h4, h5', h7, h9, h12, h67⟩, e, h15, hH15⟩
    obtain ⟨x, hx⟩ : ∃ x, n.heads[k]? = some x := ⟨_, List.getElem?_eq_getElem hk⟩
    have hxf := hF.head x (List.mem_of_getElem? hx)
    have hlk := @opF_len n hF k l
    have hsn := opF_snoc (l := l) hx
    obtain ⟨O, hO⟩ : ∃ O, opF (n.heads.take k) l = O := ⟨_, rfl⟩
    rw [hO] at h15 hH15 hlk hsn
    rw [hsn]
    have hlb : O.length ≤ 1073741823 := by omega
    have hh := hhasl x.id
    refine AW_keep [15] ?_
    cases hc0 : l.contains x.id with
    | false =>
     rw [hc0] at hh
     repeat' (first | (with_reducible refine sk ?_; intro K hK) | ((first | (with_reducible first | refine rgL (id := 29) [] [101, 105] (md := { base := 0, own := [120], imp := [88] }) (h := ?_) | refine rgL (id := 29) [14, 17] [101, 105] (md := { base := 0, own := [120], imp := [88] }) (h := ?_) | refine rgL [] [101, 105] (md := { base := 0, own := [15, 120], imp := [88] }) (h := ?_) | refine rgL [14, 17] [101, 105] (md := { base := 0, own := [15, 120], imp := [88] }) (h := ?_) | refine nx ?_) | refine pK (hh) ?_ | refine lK (hh) ?_); try simp (disch := omega) only [h4, h5', h7, h9, h12, h15, h67, h68, h69, hH15, hx, cHead,go_sem, simprocAttr]) | (with_reducible refine bk ?_) | ((with_reducible refine' cE ?hv ?_ ?_); (case hv => first | rfl | (simp only [h4, h5', h7, h9, h12, h15, h67, h68, h69, hH15, hx, cHead,go_sem, simprocAttr]; rfl)); all_goals (intro hc; (try simp only [go_sem, simprocAttr] at hc); try (exfalso; omega))) | (first | refine iK (hh) ?_) | with_reducible intro (ep : Nat → Nat) | with_reducible apply_assumption -exfalso -symm only [*])
     exact ⟨_, by simp; rfl, by simp⟩
    | true =>
     rw [hc0] at hh
     simp only [if_true]
     repeat' (first | ((fail_if_success (with_reducible refine AW_at (id := 19) ?_)); with_reducible refine sk ?_; intro K hK) | ((first | (with_reducible first | refine rgL (id := 29) [] [101, 105] (md := { base := 0, own := [120], imp := [88] }) (h := ?_) | refine rgL (id := 29) [14, 17] [101, 105] (md := { base := 0, own := [120], imp := [88] }) (h := ?_) | refine rgL [] [101, 105] (md := { base := 0, own := [15, 120], imp := [88] }) (h := ?_) | refine rgL [14, 17] [101, 105] (md := { base := 0, own := [15, 120], imp := [88] }) (h := ?_) | refine nx ?_) | refine pK (hh) ?_ | refine lK (hh) ?_); try simp (disch := omega) only [h4, h5', h7, h9, h12, h15, h67, h68, h69, hH15, hx, cHead,go_sem, simprocAttr]) | (with_reducible refine bk ?_) | ((with_reducible refine' cE ?hv ?_ ?_); (case hv => first | rfl | (simp only [h4, h5', h7, h9, h12, h15, h67, h68, h69, hH15, hx, cHead,go_sem, simprocAttr]; rfl)); all_goals (intro hc; (try simp only [go_sem, simprocAttr] at hc); try (exfalso; omega))) | (first | refine iK (hh) ?_) | with_reducible intro (ep : Nat → Nat) | with_reducible apply_assumption -exfalso -symm only [*])
     have hcutD : ∀ f H, (f 4 = .pim (cNet n) ∧ f 5 = .pim [.lst 1 (ints l)] ∧ f 7 = .pim (truV full foul tank) ∧ f 9 = .fn 80 [.pim (cNet n), .pim [.lst 1 (ints l)]] ∧ f 12 = .int .i64 pm ∧ f 67 = .lst 8 (n.heads.map cHead) ∧ f 69 = .int .i64 k ∧ f 68 = .int .i64 n.heads.length ∧ f 15 = .gr 15 e O.length ∧ f 18 = .int .i64 (GG x)) ∧ H 15 = some (e, .arr 1 (ints (O.map GG))) → K f H := by
      clear h4 h5' h7 h9 h12 h15 h67 h68 h69 hH15
      rintro f H ⟨⟨h4, h5', h7, h9, h12, h67, h69, h68, h15, h18⟩, hH15⟩
      refine hK f H ?_
      clear hK
      have hil : (ints (O.map GG)).length = O.length := by rw [ints_len, List.length_map]
      repeat' (first | (with_reducible refine sk ?_; intro K hK) | ((with_reducible first | refine rgL (id := 29) [] [101, 105] (md := { base := 0, own := [120], imp := [88] }) (h := ?_) | refine rgL (id := 29) [14, 17] [101, 105] (md := { base := 0, own := [120], imp := [88] }) (h := ?_) | refine rgL [] [101, 105] (md := { base := 0, own := [15, 120], imp := [88] }) (h := ?_) | refine rgL [14, 17] [101, 105] (md := { base := 0, own := [15, 120], imp := [88] }) (h := ?_) | refine nx ?_); try simp (disch := omega) only [h4, h5', h7, h9, h12, h15, h18, h67, h68, h69, hH15, hlb, hil, List.length_map,go_sem, simprocAttr]) | (with_reducible refine bk ?_) | ((with_reducible refine' cE ?hv ?_ ?_); (case hv => first | rfl | (simp only [h4, h5', h7, h9, h12, h15, h18, h67, h68, h69, hH15, hlb, hil, List.length_map,go_sem, simprocAttr]; rfl)); all_goals (intro hc; (try simp only [go_sem, simprocAttr] at hc); try (exfalso; omega))) | with_reducible intro (ep : Nat → Nat) | with_reducible apply_assumption -exfalso -symm only [*])
      exact ⟨_, by rw [List.length_append]; rfl, by simp [ints]⟩
     clear hK
     repeat' (first | (with_reducible refine sk ?_; intro K hK) | ((with_reducible first | refine rgL (id := 29) [] [101, 105] (md := { base := 0, own := [120], imp := [88] }) (h := ?_) | refine rgL (id := 29) [14, 17] [101, 105] (md := { base := 0, own := [120], imp := [88] }) (h := ?_) | refine rgL [] [101, 105] (md := { base := 0, own := [15, 120], imp := [88] }) (h := ?_) | refine rgL [14, 17] [101, 105] (md := { base := 0, own := [15, 120], imp := [88] }) (h := ?_) | refine nx ?_); try simp (disch := omega) only [h4, h5', h7, h9, h12, h15, h67, h68, h69, hH15, cNet,go_sem, simprocAttr]) | (with_reducible refine bk ?_) | ((with_reducible refine' cE ?hv ?_ ?_); (case hv => first | rfl | (simp only [h4, h5', h7, h9, h12, h15, h67, h68, h69, hH15, cNet,go_sem, simprocAttr]; rfl)); all_goals (intro hc; (try simp only [go_sem, simprocAttr] at hc); try (exfalso; omega))) | with_reducible intro (ep : Nat → Nat) | with_reducible apply_assumption -exfalso -symm only [*])
     refine AW_range tabOK n.pipes.length (fun i f H => (f 4 = .pim (cNet n) ∧ f 5 = .pim [.lst 1 (ints l)] ∧ f 7 = .pim (truV full foul tank) ∧ f 9 = .fn 80 [.pim (cNet n), .pim [.lst 1 (ints l)]] ∧ f 12 = .int .i64 pm ∧ f 67 = .lst 8 (n.heads.map cHead) ∧ f 69 = .int .i64 k ∧ f 68 = .int .i64 n.heads.length ∧ f 15 = .gr 15 e O.length) ∧ H 15 = some (e, .arr 1 (ints (O.map GG))) ∧ (∃ e17, f 17 = .ptr 17 e17 8 0 0 ∧ H 17 = some (e17, .arr 8 [cHead x])) ∧ f 18 = .int .i64 (pm - sumV n.pipes x.node.toNat (lossG n.pipes L foul) i)) (by omega) (by rw [hXs]; decide) (by decide) (by (first | rfl | (simp only [go_sem, simprocAttr]; done) | (simp only [go_sem, simprocAttr]; rfl))) (by (first | rfl | (simp only [go_sem, simprocAttr]; done) | (simp only [go_sem, simprocAttr]; rfl)))
      ⟨by (and_intros <;> first | rfl | (simp only [h4, h5', h7, h9, h12, h15, h67, h68, h69, cNet, go_sem, simprocAttr]; done) | (simp only [h4, h5', h7, h9, h12, h15, h67, h68, h69, cNet, go_sem, simprocAttr]; rfl)), by (first | rfl | (simp only [hH15, go_sem, simprocAttr]; done) | (simp only [hH15, go_sem, simprocAttr]; rfl)), ⟨_, by (first | rfl | (simp only [go_sem, simprocAttr]; done) | (simp only [go_sem, simprocAttr]; rfl)), by (first | rfl | (simp only [cHead, go_sem, simprocAttr]; done) | (simp only [cHead, go_sem, simprocAttr]; rfl))⟩, by (first | rfl | (simp only [h12, sumV, Int.sub_zero, go_sem, simprocAttr]; done) | (simp only [h12, sumV, Int.sub_zero, go_sem, simprocAttr]; rfl))⟩ ?_ ?_
     ·clear h4 h5' h7 h9 h12 h15 h67 h68 h69 hH15 hcutD
      rintro i f H hi h82 h81 ⟨⟨h4, h5', h7, h9, h12, h67, h69, h68, h15⟩, hH15, ⟨e17, h17, hH17⟩, h18⟩
      have hsv := sumV_bnd (ps := n.pipes) (m := x.node.toNat) (g := lossG n.pipes L foul) (b := 100000001) (by omega) (fun k _ _ => hgb k) (N := i) (by omega)
      have hgi := hgb (i + 1)
      have hlge : lossG n.pipes L foul (i + 1) = upD (nth foul i * flowAt n.pipes (i + 1) L * flowAt n.pipes (i + 1) L) 1000 := rfl
      have hfo := nth_bnd (by omega) hT.gb i
      have hfl := flowAt_bnd (ps := n.pipes) (j := i + 1) h5
      have hil : i < foul.length := by rw [hT.lenG]; exact hi
      have hfg := nth_get hil
      have hlb2 := loss_bnd hfo (x := flowAt n.pipes (i + 1) L) (by omega)
      have hmm : 0 ≤ nth foul i * flowAt n.pipes (i + 1) L ∧ nth foul i * flowAt n.pipes (i + 1) L ≤ 10000000 := ⟨Int.mul_nonneg hfo.1 hfl.1, Int.le_trans (Int.mul_le_mul hfo.2 (by omega : flowAt n.pipes (i + 1) L ≤ 10000) hfl.1 (by omega)) (by omega)⟩
      have hum := upD_m hlb2.1
      rw [← hlge] at hum
      refine AW_keep [15, 17] ?_
      repeat' (first | ((fail_if_success (with_reducible refine AW_at (id := 23) ?_)); with_reducible refine sk ?_; intro K hK) | ((first | (with_reducible first | refine rgL (id := 29) [] [101, 105] (md := { base := 0, own := [120], imp := [88] }) (h := ?_) | refine rgL (id := 29) [14, 17] [101, 105] (md := { base := 0, own := [120], imp := [88] }) (h := ?_) | refine rgL [] [101, 105] (md := { base := 0, own := [15, 120], imp := [88] }) (h := ?_) | refine rgL [14, 17] [101, 105] (md := { base := 0, own := [15, 120], imp := [88] }) (h := ?_) | refine nx ?_) | refine pK (below_ok n hF (i + 1) ⟨by omega, by omega⟩ _) ?_ | refine lK (below_ok n hF (i + 1) ⟨by omega, by omega⟩ _) ?_); try simp (disch := omega) only [h4, h5', h7, h9, h12, h15, h17, h18, h67, h68, h69, h81, h82, hH15, hH17, cNet,go_sem, simprocAttr]) | (with_reducible refine bk ?_) | ((with_reducible refine' cE ?hv ?_ ?_); (case hv => first | rfl | (simp only [h4, h5', h7, h9, h12, h15, h17, h18, h67, h68, h69, h81, h82, hH15, hH17, cNet,go_sem, simprocAttr]; rfl)); all_goals (intro hc; (try simp only [go_sem, simprocAttr] at hc); try (exfalso; omega))) | (first | refine iK (below_ok n hF (i + 1) ⟨by omega, by omega⟩ _) ?_) | with_reducible intro (ep : Nat → Nat) | with_reducible apply_assumption -exfalso -symm only [*])
      rintro v H3 ⟨hs3, em, ver, rfl, hm⟩
      have k15 : H3 15 = some (e, .arr 1 (ints (O.map GG))) := by rw [hs3 15 (by decide)]; (first | rfl | (simp only [hH15, go_sem, simprocAttr]; done) | (simp only [hH15, go_sem, simprocAttr]; rfl))
      have k17 : H3 17 = some (e17, .arr 8 [cHead x]) := by rw [hs3 17 (by decide)]; (first | rfl | (simp only [hH17, go_sem, simprocAttr]; done) | (simp only [hH17, go_sem, simprocAttr]; rfl))
      clear hs3 hH15 hH17
      simp only [go_sem, simprocAttr]
      repeat' (first | ((fail_if_success (with_reducible refine AW_at (id := 23) ?_)); with_reducible refine sk ?_; intro K hK) | ((with_reducible first | refine rgL (id := 29) [] [101, 105] (md := { base := 0, own := [120], imp := [88] }) (h := ?_) | refine rgL (id := 29) [14, 17] [101, 105] (md := { base := 0, own := [120], imp := [88] }) (h := ?_) | refine rgL [] [101, 105] (md := { base := 0, own := [15, 120], imp := [88] }) (h := ?_) | refine rgL [14, 17] [101, 105] (md := { base := 0, own := [15, 120], imp := [88] }) (h := ?_) | refine nx ?_); try simp (disch := omega) only [h4,go_sem, simprocAttr]) | (with_reducible refine bk ?_) | ((with_reducible refine' cE ?hv ?_ ?_); (case hv => first | rfl | (simp only [h4,go_sem, simprocAttr]; rfl)); all_goals (intro hc; (try simp only [go_sem, simprocAttr] at hc); try (exfalso; omega))) | with_reducible intro (ep : Nat → Nat) | with_reducible apply_assumption -exfalso -symm only [*])
      refine AW_keep [15, 17, 608] ?_
      have hlook := presses1_map n hF l hl (i + 1) ⟨by omega, by omega⟩ em ver (keep H3 [15, 17, 608]) (by show frz1 (H3 608) = _; rw [hm]; rfl) rfl
      rw [hL] at hlook
      have hall := keysT_all hF.falls (node := i + 1) (by omega) (x := x.node.toNat) (N := n.pipes.length) (by omega)
      rw [show ((x.node.toNat : Nat) : Int) = x.node by omega] at hall
      obtain ⟨fl, hfle⟩ : ∃ fl, flowAt n.pipes (i + 1) L = fl := ⟨_, rfl⟩
      rw [hfle] at hfl hlb2 hmm hum hlook
      obtain ⟨sv, hsve⟩ : ∃ sv, sumV n.pipes x.node.toNat (lossG n.pipes L foul) i = sv := ⟨_, rfl⟩
      have hstep : sumV n.pipes x.node.toNat (lossG n.pipes L foul) (i + 1) = sv + if via n.pipes x.node.toNat (i + 1) = true then lossG n.pipes L foul (i + 1) else 0 := by rw [← hsve]; rfl
      rw [hsve] at hsv h18
      rw [hstep]
      simp only [cNet] at hlook
      rcases @findI_off (keysT n.pipes (i + 1) n.pipes.length) x.node 0 with ⟨c1, j, c2⟩ | ⟨c1, c2⟩
      ·rw [c1] at hall
       rw [← hall, if_pos rfl, hum]
       have z0 : 0 ≤ nth foul i * fl * fl := hlb2.1
       by_cases hz : 0 < (nth foul i * fl * fl).tmod 1000
       ·rw [if_pos hz]
        rw [if_pos hz] at hum
        repeat' (first | (with_reducible refine sk ?_; intro K hK) | ((first | (with_reducible first | refine rgL (id := 29) [] [101, 105] (md := { base := 0, own := [120], imp := [88] }) (h := ?_) | refine rgL (id := 29) [14, 17] [101, 105] (md := { base := 0, own := [120], imp := [88] }) (h := ?_) | refine rgL [] [101, 105] (md := { base := 0, own := [15, 120], imp := [88] }) (h := ?_) | refine rgL [14, 17] [101, 105] (md := { base := 0, own := [15, 120], imp := [88] }) (h := ?_) | refine nx ?_) | refine pK (hlook) ?_ | refine lK (hlook) ?_); try simp (disch := omega) only [h4, h5', h7, h9, h12, h15, h17, h18, h67, h68, h69, h81, h82, k15, k17, hm, c2, hfg, hil, hz, cNet, cHead, truV,go_sem, simprocAttr]) | (with_reducible refine bk ?_) | ((with_reducible refine' cE ?hv ?_ ?_); (case hv => first | rfl | (simp only [h4, h5', h7, h9, h12, h15, h17, h18, h67, h68, h69, h81, h82, k15, k17, hm, c2, hfg, hil, hz, cNet, cHead, truV,go_sem, simprocAttr]; rfl)); all_goals (intro hc; (try simp only [go_sem, simprocAttr] at hc); try (exfalso; omega))) | (first | refine iK (hlook) ?_) | with_reducible intro (ep : Nat → Nat) | with_reducible apply_assumption -exfalso -symm only [*])
        refine ⟨⟨_, rfl, rfl⟩, congrArg (Val.int .i64) ?_⟩
        rw [hstep, ← hall, if_pos rfl, hum]
        omega
       ·rw [if_neg hz]
        rw [if_neg hz] at hum
        repeat' (first | (with_reducible refine sk ?_; intro K hK) | ((first | (with_reducible first | refine rgL (id := 29) [] [101, 105] (md := { base := 0, own := [120], imp := [88] }) (h := ?_) | refine rgL (id := 29) [14, 17] [101, 105] (md := { base := 0, own := [120], imp := [88] }) (h := ?_) | refine rgL [] [101, 105] (md := { base := 0, own := [15, 120], imp := [88] }) (h := ?_) | refine rgL [14, 17] [101, 105] (md := { base := 0, own := [15, 120], imp := [88] }) (h := ?_) | refine nx ?_) | refine pK (hlook) ?_ | refine lK (hlook) ?_); try simp (disch := omega) only [h4, h5', h7, h9, h12, h15, h17, h18, h67, h68, h69, h81, h82, k15, k17, hm, c2, hfg, hil, hz, cNet, cHead, truV,go_sem, simprocAttr]) | (with_reducible refine bk ?_) | ((with_reducible refine' cE ?hv ?_ ?_); (case hv => first | rfl | (simp only [h4, h5', h7, h9, h12, h15, h17, h18, h67, h68, h69, h81, h82, k15, k17, hm, c2, hfg, hil, hz, cNet, cHead, truV,go_sem, simprocAttr]; rfl)); all_goals (intro hc; (try simp only [go_sem, simprocAttr] at hc); try (exfalso; omega))) | (first | refine iK (hlook) ?_) | with_reducible intro (ep : Nat → Nat) | with_reducible apply_assumption -exfalso -symm only [*])
        refine ⟨⟨_, rfl, rfl⟩, congrArg (Val.int .i64) ?_⟩
        rw [hstep, ← hall, if_pos rfl, hum]
        omega
      ·rw [c1] at hall
       rw [← hall]
       repeat' (first | (with_reducible refine sk ?_; intro K hK) | ((with_reducible first | refine rgL (id := 29) [] [101, 105] (md := { base := 0, own := [120], imp := [88] }) (h := ?_) | refine rgL (id := 29) [14, 17] [101, 105] (md := { base := 0, own := [120], imp := [88] }) (h := ?_) | refine rgL [] [101, 105] (md := { base := 0, own := [15, 120], imp := [88] }) (h := ?_) | refine rgL [14, 17] [101, 105] (md := { base := 0, own := [15, 120], imp := [88] }) (h := ?_) | refine nx ?_); try simp (disch := omega) only [h4, h5', h7, h9, h12, h15, h17, h18, h67, h68, h69, h81, h82, k15, k17, hm, c2, cNet, cHead,go_sem, simprocAttr]) | (with_reducible refine bk ?_) | ((with_reducible refine' cE ?hv ?_ ?_); (case hv => first | rfl | (simp only [h4, h5', h7, h9, h12, h15, h17, h18, h67, h68, h69, h81, h82, k15, k17, hm, c2, cNet, cHead,go_sem, simprocAttr]; rfl)); all_goals (intro hc; (try simp only [go_sem, simprocAttr] at hc); try (exfalso; omega))) | with_reducible intro (ep : Nat → Nat) | with_reducible apply_assumption -exfalso -symm only [*])
       exact ⟨⟨_, rfl, rfl⟩, congrArg (Val.int .i64) (by omega)⟩
     ·clear h4 h5' h7 h9 h12 h15 h67 h68 h69 hH15
      rintro f H h82 h81 ⟨⟨h4, h5', h7, h9, h12, h67, h69, h68, h15⟩, hH15, ⟨e17, h17, hH17⟩, h18⟩
      rw [← hG, hGG] at h18
      repeat' (first | (with_reducible refine sk ?_; intro K hK) | ((with_reducible first | refine rgL (id := 29) [] [101, 105] (md := { base := 0, own := [120], imp := [88] }) (h := ?_) | refine rgL (id := 29) [14, 17] [101, 105] (md := { base := 0, own := [120], imp := [88] }) (h := ?_) | refine rgL [] [101, 105] (md := { base := 0, own := [15, 120], imp := [88] }) (h := ?_) | refine rgL [14, 17] [101, 105] (md := { base := 0, own := [15, 120], imp := [88] }) (h := ?_) | refine nx ?_); try simp (disch := omega) only [h4, h5', h7, h9, h12, h15, h18, h67, h68, h69, hH15,go_sem, simprocAttr]) | (with_reducible refine bk ?_) | ((with_reducible refine' cE ?hv ?_ ?_); (case hv => first | rfl | (simp only [h4, h5', h7, h9, h12, h15, h18, h67, h68, h69, hH15,go_sem, simprocAttr]; rfl)); all_goals (intro hc; (try simp only [go_sem, simprocAttr] at hc); try (exfalso; omega))) | with_reducible intro (ep : Nat → Nat) | with_reducible apply_assumption -exfalso -symm only [*])
      exact ⟨by (and_intros <;> first | rfl | (simp only [h4, h5', h7, h9, h12, h15, h18, h67, h68, h69, go_sem, simprocAttr]; done) | (simp only [h4, h5', h7, h9, h12, h15, h18, h67, h68, h69, go_sem, simprocAttr]; rfl)), by (first | rfl | (simp only [hH15, go_sem, simprocAttr]; done) | (simp only [hH15, go_sem, simprocAttr]; rfl))⟩
   ·clear h4 h5' h7 h9 h12
    rintro f H h69 h68 ⟨⟨h4, h5', h7, h9, h12, h67⟩, e, h15, hH15⟩
    rw [List.take_of_length_le (Nat.le_refl _), hL] at h15 hH15
    repeat' (first | (with_reducible refine sk ?_; intro K hK) | ((with_reducible first | refine rgL (id := 29) [] [101, 105] (md := { base := 0, own := [120], imp := [88] }) (h := ?_) | refine rgL (id := 29) [14, 17] [101, 105] (md := { base := 0, own := [120], imp := [88] }) (h := ?_) | refine rgL [] [101, 105] (md := { base := 0, own := [15, 120], imp := [88] }) (h := ?_) | refine rgL [14, 17] [101, 105] (md := { base := 0, own := [15, 120], imp := [88] }) (h := ?_) | refine nx ?_); try simp (disch := omega) only [h15, hH15,go_sem, simprocAttr]) | (with_reducible refine bk ?_) | ((with_reducible refine' cE ?hv ?_ ?_); (case hv => first | rfl | (simp only [h15, hH15,go_sem, simprocAttr]; rfl)); all_goals (intro hc; (try simp only [go_sem, simprocAttr] at hc); try (exfalso; omega))) | with_reducible intro (ep : Nat → Nat) | with_reducible apply_assumption -exfalso -symm only [*])
    refine FnP_frz 15 (Or.inl rfl) (by (first | rfl | (simp only [hH15, go_sem, simprocAttr]; done) | (simp only [hH15, go_sem, simprocAttr]; rfl))) ⟨_, (by simp only [Try.f40, go_sem, simprocAttr]; rfl), ?_⟩
    simp only [go_sem, simprocAttr, List.length_map, hGG]
  clear hK
  repeat' (first | (with_reducible refine sk ?_; intro K hK) | ((with_reducible first | refine rgL (id := 29) [] [101, 105] (md := { base := 0, own := [120], imp := [88] }) (h := ?_) | refine rgL (id := 29) [14, 17] [101, 105] (md := { base := 0, own := [120], imp := [88] }) (h := ?_) | refine rgL [] [101, 105] (md := { base := 0, own := [15, 120], imp := [88] }) (h := ?_) | refine rgL [14, 17] [101, 105] (md := { base := 0, own := [15, 120], imp := [88] }) (h := ?_) | refine nx ?_); try simp (disch := omega) only [h2, h4, h5', h7, h9, h11, cNet,go_sem, simprocAttr]) | (with_reducible refine bk ?_) | ((with_reducible refine' cE ?hv ?_ ?_); (case hv => first | rfl | (simp only [h2, h4, h5', h7, h9, h11, cNet,go_sem, simprocAttr]; rfl)); all_goals (intro hc; (try simp only [go_sem, simprocAttr] at hc); try (exfalso; omega))) | ((with_reducible refine fe ?_); refine ⟨_, (by simp only [Try.f40, h2, h4, h5', h7, h9, h11, cNet,go_sem, simprocAttr]; rfl), ?_⟩; first | rfl | (try simp only [h2, h4, h5', h7, h9, h11, cNet,go_sem, simprocAttr, seval])) | with_reducible intro (ep : Nat → Nat) | with_reducible apply_assumption -exfalso -symm only [*])
  refine AW_range tabOK n.pumps.length (fun k f H => (f 2 = .lst 1 (ints out) ∧ f 4 = .pim (cNet n) ∧ f 5 = .pim [.lst 1 (ints l)] ∧ f 7 = .pim (truV full foul tank) ∧ f 9 = .fn 80 [.pim (cNet n), .pim [.lst 1 (ints l)]] ∧ f 11 = .int .i64 sh ∧ f 42 = .lst 3 (n.pumps.map cPump)) ∧ ∃ a, f 12 = .int .i64 a ∧ -1000000 ≤ a ∧ a ≤ 1073741824 ∧ capF out sh full n.pumps 0 1073741824 = capF out sh full (n.pumps.drop k) k a) (by omega) (by rw [hXs]; decide) (by decide) (by (first | rfl | (simp only [go_sem, simprocAttr]; done) | (simp only [go_sem, simprocAttr]; rfl))) (by (first | rfl | (simp only [go_sem, simprocAttr]; done) | (simp only [go_sem, simprocAttr]; rfl)))
   ⟨by (and_intros <;> first | rfl | (simp only [h2, h4, h5', h7, h9, h11, go_sem, simprocAttr]; done) | (simp only [h2, h4, h5', h7, h9, h11, go_sem, simprocAttr]; rfl)), _, by (first | rfl | (simp only [go_sem, simprocAttr]; done) | (simp only [go_sem, simprocAttr]; rfl)), by omega, by omega, by simp⟩ ?_ ?_
  ·clear h2 h4 h5' h7 h9 h11 hcutB
   rintro k f H hk h44 h43 ⟨⟨h2, h4, h5', h7, h9, h11, h42⟩, a, h12, ha1, ha2, hr⟩
   obtain ⟨p, hp⟩ : ∃ p, n.pumps[k]? = some p := ⟨_, List.getElem?_eq_getElem hk⟩
   have hpf := hF.pump p (List.mem_of_getElem? hp)
   have q1 : p.slope * sh ≤ 100 * sh := Int.mul_le_mul_of_nonneg_right hpf.2.2 hsb.1
   have q2 : 0 ≤ p.slope * sh := Int.mul_nonneg hpf.2.1 hsb.1
   have hfk := hfn k
   have hkl : k < full.length := by rw [hT.lenF]; exact hk
   have hfg := nth_get hkl
   have hh := hhas (k : Int)
   rw [drop_cons hp] at hr
   simp only [capF] at hr
   refine AW_keep [] ?_
   cases hc0 : out.contains (k : Int) with
   | true =>
    rw [hc0] at hh hr
    repeat' (first | (with_reducible refine sk ?_; intro K hK) | ((first | (with_reducible first | refine rgL (id := 29) [] [101, 105] (md := { base := 0, own := [120], imp := [88] }) (h := ?_) | refine rgL (id := 29) [14, 17] [101, 105] (md := { base := 0, own := [120], imp := [88] }) (h := ?_) | refine rgL [] [101, 105] (md := { base := 0, own := [15, 120], imp := [88] }) (h := ?_) | refine rgL [14, 17] [101, 105] (md := { base := 0, own := [15, 120], imp := [88] }) (h := ?_) | refine nx ?_) | refine pK (hh) ?_ | refine lK (hh) ?_); try simp (disch := omega) only [h2, h4, h5', h7, h9, h11, h12, h42, h43, h44, hp, cPump,go_sem, simprocAttr]) | (with_reducible refine bk ?_) | ((with_reducible refine' cE ?hv ?_ ?_); (case hv => first | rfl | (simp only [h2, h4, h5', h7, h9, h11, h12, h42, h43, h44, hp, cPump,go_sem, simprocAttr]; rfl)); all_goals (intro hc; (try simp only [go_sem, simprocAttr] at hc); try (exfalso; omega))) | (first | refine iK (hh) ?_) | ((with_reducible refine fe ?_); refine ⟨_, (by simp only [Try.f40, h2, h4, h5', h7, h9, h11, h12, h42, h43, h44, hp, cPump,go_sem, simprocAttr]; rfl), ?_⟩; first | rfl | (try simp only [h2, h4, h5', h7, h9, h11, h12, h42, h43, h44, hp, cPump,go_sem, simprocAttr, seval])) | with_reducible intro (ep : Nat → Nat) | with_reducible apply_assumption -exfalso -symm only [*])
    exact ⟨a, rfl, ha1, ha2, hr⟩
   | false =>
    rw [hc0] at hh hr
    repeat' (first | (with_reducible refine sk ?_; intro K hK) | ((first | (with_reducible first | refine rgL (id := 29) [] [101, 105] (md := { base := 0, own := [120], imp := [88] }) (h := ?_) | refine rgL (id := 29) [14, 17] [101, 105] (md := { base := 0, own := [120], imp := [88] }) (h := ?_) | refine rgL [] [101, 105] (md := { base := 0, own := [15, 120], imp := [88] }) (h := ?_) | refine rgL [14, 17] [101, 105] (md := { base := 0, own := [15, 120], imp := [88] }) (h := ?_) | refine nx ?_) | refine pK (hh) ?_ | refine lK (hh) ?_); try simp (disch := omega) only [h2, h4, h5', h7, h9, h11, h12, h42, h43, h44, hp, hfg, hkl, cPump, truV,go_sem, simprocAttr]) | (with_reducible refine bk ?_) | ((with_reducible refine' cE ?hv ?_ ?_); (case hv => first | rfl | (simp only [h2, h4, h5', h7, h9, h11, h12, h42, h43, h44, hp, hfg, hkl, cPump, truV,go_sem, simprocAttr]; rfl)); all_goals (intro hc; (try simp only [go_sem, simprocAttr] at hc); try (exfalso; omega))) | (first | refine iK (hh) ?_) | ((with_reducible refine fe ?_); refine ⟨_, (by simp only [Try.f40, h2, h4, h5', h7, h9, h11, h12, h42, h43, h44, hp, hfg, hkl, cPump, truV,go_sem, simprocAttr]; rfl), ?_⟩; first | rfl | (try simp only [h2, h4, h5', h7, h9, h11, h12, h42, h43, h44, hp, hfg, hkl, cPump, truV,go_sem, simprocAttr, seval])) | with_reducible intro (ep : Nat → Nat) | with_reducible apply_assumption -exfalso -symm only [*])
    exact ⟨_, rfl, by omega, by omega, hr⟩
  ·clear h2 h4 h5' h7 h9 h11
   rintro f H h44 h43 ⟨⟨h2, h4, h5', h7, h9, h11, h42⟩, a, h12, ha1, ha2, hr⟩
   rw [drop_none (Nat.le_refl _)] at hr
   simp only [capF] at hr
   have hpe : pumpsG n L out full = a := by unfold pumpsG; rw [hsh]; exact hr
   repeat' (first | (with_reducible refine sk ?_; intro K hK) | ((with_reducible first | refine rgL (id := 29) [] [101, 105] (md := { base := 0, own := [120], imp := [88] }) (h := ?_) | refine rgL (id := 29) [14, 17] [101, 105] (md := { base := 0, own := [120], imp := [88] }) (h := ?_) | refine rgL [] [101, 105] (md := { base := 0, own := [15, 120], imp := [88] }) (h := ?_) | refine rgL [14, 17] [101, 105] (md := { base := 0, own := [15, 120], imp := [88] }) (h := ?_) | refine nx ?_); try simp (disch := omega) only [h4, h5', h7, h9, h12,go_sem, simprocAttr]) | (with_reducible refine bk ?_) | ((with_reducible refine' cE ?hv ?_ ?_); (case hv => first | rfl | (simp only [h4, h5', h7, h9, h12,go_sem, simprocAttr]; rfl)); all_goals (intro hc; (try simp only [go_sem, simprocAttr] at hc); try (exfalso; omega))) | ((with_reducible refine fe ?_); refine ⟨_, (by simp only [Try.f40, h4, h5', h7, h9, h12,go_sem, simprocAttr]; rfl), ?_⟩; first | rfl | (try simp only [h4, h5', h7, h9, h12,go_sem, simprocAttr, seval])) | with_reducible intro (ep : Nat → Nat) | with_reducible apply_assumption -exfalso -symm only [*])
   exact ⟨by (first | rfl | (simp only [h4, go_sem, simprocAttr]; done) | (simp only [h4, go_sem, simprocAttr]; rfl)), by (first | rfl | (simp only [h5', go_sem, simprocAttr]; done) | (simp only [h5', go_sem, simprocAttr]; rfl)), by (first | rfl | (simp only [h7, go_sem, simprocAttr]; done) | (simp only [h7, go_sem, simprocAttr]; rfl)), by (first | rfl | (simp only [h9, go_sem, simprocAttr]; done) | (simp only [h9, go_sem, simprocAttr]; rfl)), by rw [hpe]; (first | rfl | (simp only [h12, go_sem, simprocAttr]; done) | (simp only [h12, go_sem, simprocAttr]; rfl))⟩
 clear hK
 by_cases hlt : q0 * w < needs L
 ·rw [if_pos hlt] at hq
  repeat' (first | (with_reducible refine sk ?_; intro K hK) | ((first | (with_reducible first | refine rgL (id := 29) [] [101, 105] (md := { base := 0, own := [120], imp := [88] }) (h := ?_) | refine rgL (id := 29) [14, 17] [101, 105] (md := { base := 0, own := [120], imp := [88] }) (h := ?_) | refine rgL [] [101, 105] (md := { base := 0, own := [15, 120], imp := [88] }) (h := ?_) | refine rgL [14, 17] [101, 105] (md := { base := 0, own := [15, 120], imp := [88] }) (h := ?_) | refine nx ?_) | refine pK (hnil) ?_ | refine lK (hnil) ?_); try simp (disch := omega) only [hlt, cNet, truV,go_sem, simprocAttr]) | (with_reducible refine bk ?_) | ((with_reducible refine' cE ?hv ?_ ?_); (case hv => first | rfl | (simp only [hlt, cNet, truV,go_sem, simprocAttr]; rfl)); all_goals (intro hc; (try simp only [go_sem, simprocAttr] at hc); try (exfalso; omega))) | (first | refine iK (hnil) ?_) | ((with_reducible refine fe ?_); refine ⟨_, (by simp only [Try.f40, hlt, cNet, truV,go_sem, simprocAttr]; rfl), ?_⟩; first | rfl | (try simp only [hlt, cNet, truV,go_sem, simprocAttr, seval])) | with_reducible intro (ep : Nat → Nat) | with_reducible apply_assumption -exfalso -symm only [*])
  exact ⟨by (first | rfl | (simp only [go_sem, simprocAttr]; done) | (simp only [go_sem, simprocAttr]; rfl)), by (first | rfl | (simp only [cNet, go_sem, simprocAttr]; done) | (simp only [cNet, go_sem, simprocAttr]; rfl)), by (first | rfl | (simp only [go_sem, simprocAttr]; done) | (simp only [go_sem, simprocAttr]; rfl)), by (first | rfl | (simp only [truV, go_sem, simprocAttr]; done) | (simp only [truV, go_sem, simprocAttr]; rfl)), by (first | rfl | (simp only [cNet, go_sem, simprocAttr]; done) | (simp only [cNet, go_sem, simprocAttr]; rfl)), by rw [hq]; (first | rfl | (simp only [go_sem, simprocAttr]; done) | (simp only [go_sem, simprocAttr]; rfl))⟩
 ·rw [if_neg hlt] at hq
  repeat' (first | (with_reducible refine sk ?_; intro K hK) | ((first | (with_reducible first | refine rgL (id := 29) [] [101, 105] (md := { base := 0, own := [120], imp := [88] }) (h := ?_) | refine rgL (id := 29) [14, 17] [101, 105] (md := { base := 0, own := [120], imp := [88] }) (h := ?_) | refine rgL [] [101, 105] (md := { base := 0, own := [15, 120], imp := [88] }) (h := ?_) | refine rgL [14, 17] [101, 105] (md := { base := 0, own := [15, 120], imp := [88] }) (h := ?_) | refine nx ?_) | refine pK (hnil) ?_ | refine lK (hnil) ?_); try simp (disch := omega) only [hlt, cNet, truV,go_sem, simprocAttr]) | (with_reducible refine bk ?_) | ((with_reducible refine' cE ?hv ?_ ?_); (case hv => first | rfl | (simp only [hlt, cNet, truV,go_sem, simprocAttr]; rfl)); all_goals (intro hc; (try simp only [go_sem, simprocAttr] at hc); try (exfalso; omega))) | (first | refine iK (hnil) ?_) | ((with_reducible refine fe ?_); refine ⟨_, (by simp only [Try.f40, hlt, cNet, truV,go_sem, simprocAttr]; rfl), ?_⟩; first | rfl | (try simp only [hlt, cNet, truV,go_sem, simprocAttr, seval])) | with_reducible intro (ep : Nat → Nat) | with_reducible apply_assumption -exfalso -symm only [*])
  exact ⟨by (first | rfl | (simp only [go_sem, simprocAttr]; done) | (simp only [go_sem, simprocAttr]; rfl)), by (first | rfl | (simp only [cNet, go_sem, simprocAttr]; done) | (simp only [cNet, go_sem, simprocAttr]; rfl)), by (first | rfl | (simp only [go_sem, simprocAttr]; done) | (simp only [go_sem, simprocAttr]; rfl)), by (first | rfl | (simp only [truV, go_sem, simprocAttr]; done) | (simp only [truV, go_sem, simprocAttr]; rfl)), by (first | rfl | (simp only [cNet, go_sem, simprocAttr]; done) | (simp only [cNet, go_sem, simprocAttr]; rfl)), by rw [hq]; (first | rfl | (simp only [go_sem, simprocAttr]; done) | (simp only [go_sem, simprocAttr]; rfl))⟩
end Cp
namespace Cp
open Go Go.Proofs
set_option maxRecDepth 10000
set_option maxHeartbeats 1000000
theorem PlH.frz {n : NetT} {hs : List HeadT} {out : List Int} {e36 e33 e34 : Nat} {H : Hp} (h : PlH n hs out e36 e33 e34 H) : PlH n hs out e36 e33 e34 (frzH H) := by
 obtain ⟨h1, h2, ver, h3⟩ := h
 exact ⟨by simp only [frzH, frz1_idem]; exact h1, by simp only [frzH, frz1_idem]; exact h2, ver, by simp only [frzH, frz1_idem]; exact h3⟩
theorem foul_neg (best : Bool) (p : PipeT) : (if (!best) = true then p.foul.hi else p.foul.lo) = foulE best p := by cases best <;> rfl
theorem pumpsS_bnd {n : NetT} (hF : NetF n) {hs : List HeadT} (h5 : heads500 hs) (hsl : hs.length ≤ 20) {out : List Int} (ho : outOK n out = true) (best : Bool) : -1000000 ≤ pumpsS n hs out best ∧ pumpsS n hs out best ≤ 200000 := by
 obtain ⟨o1, o2, o3⟩ := out_facts ho
 have hno := hF.out
 have hnb := needs_bnd h5
 have hsb := share_bnd (n := n) (flow := needs hs) (out := out) (by omega) (by omega)
 exact pumpsF_bnd ⟨hsb.1, by omega⟩ hF.pump (by omega)
theorem pressure_look (n : NetT) (hF : NetF n) (hs : List HeadT) (h5 : heads500 hs) (hsl : hs.length ≤ 20) (out : List Int) (ho : outOK n out = true) (best : Bool) (h : HeadT) (hnd : 1 ≤ h.node ∧ h.node ≤ n.pipes.length) (e36 e33 e34 : Nat) (H : Hp) (hP : PlH n hs out e36 e33 e34 H) (hroom : H 1208 = none) :
  LookC Try.prog 61 [.ptr 436 e36 10 0 0, encHead h, endV best] H (.int .i64 (pressS n hs out best h)) := by
 have hpm := pumps_look n hF hs h5 hsl out ho best e36 e33 e34 (frzH H) hP.frz (by simp only [frzH, hroom]; rfl)
 obtain ⟨h36, h33, ver, h34⟩ := hP
 have hnb := needs_bnd h5
 have hpl := hF.pipes
 have hpb := pumpsS_bnd hF h5 hsl ho best
 obtain ⟨pm, hpme⟩ : ∃ pm, pumpsS n hs out best = pm := ⟨_, rfl⟩
 unfold pressS
 rw [hpme] at hpm hpb ⊢
 simp only [endV] at hpm
 refine LookC_of (fn := Try.f61) tabOK (by kernel_rfl) rfl (by kernel_rfl) (by simp [Try.f61]) rfl ?_
 intro X hX0 hXs
 have hcast : ((h.node.toNat : Nat) : Int) = h.node := by omega
 repeat' (first | ((fail_if_success (with_reducible refine AW_at (id := 3) ?_)); with_reducible refine sk ?_; intro K hK) | ((first | (with_reducible first | refine rgL [] [11] (md := { base := 1300, own := [] }) (h := ?_) | refine nx ?_) | refine pK (hpm) ?_ | refine lK (hpm) ?_); try simp (disch := omega) only [h36, h33, h34, encHead, cHead, endV,go_sem, simprocAttr]) | (with_reducible refine bk ?_) | ((with_reducible refine' cE ?hv ?_ ?_); (case hv => first | rfl | (simp only [h36, h33, h34, encHead, cHead, endV,go_sem, simprocAttr]; rfl)); all_goals (intro hc; (try simp only [go_sem, simprocAttr] at hc); try (exfalso; omega))) | ((with_reducible refine fe ?_); refine ⟨_, (by simp only [Try.f61, h36, h33, h34, encHead, cHead, endV,go_sem, simprocAttr]; rfl), ?_⟩; first | rfl | (try simp only [h36, h33, h34, encHead, cHead, endV,go_sem, simprocAttr, seval])) | with_reducible intro (ep : Nat → Nat) | with_reducible apply_assumption -exfalso -symm only [*])
 refine AW_block (AW_loop (fun j f H => j ≤ n.pipes.length ∧ (f 0 = .ptr 436 e36 10 0 0 ∧ f 5 = .pim [.fn (sgF best) [], .fn (sgF (!best)) []] ∧ f 8 = .int .i64 j) ∧ (H 436 = some (e36, .fro 10 [cPlant n hs e33 e34 (n.pipes.length + 1)]) ∧ H 433 = some (e33, .fro 1 (ints (flowL n.pipes (n.pipes.length + 1) hs)))) ∧
   ∃ bar, f 7 = .int .i64 bar ∧ bar - lossL n.pipes hs best (path n.pipes j) = pm - lossL n.pipes hs best (path n.pipes h.node.toNat) ∧ -1000000 - 100000001 * ((n.pipes.length : Int) - j) ≤ bar ∧ bar ≤ 200000) h.node.toNat
  ⟨by omega, by (and_intros <;> first | rfl | (simp only [h36, hcast, go_sem, simprocAttr]; done) | (simp only [h36, hcast, go_sem, simprocAttr]; rfl)), by (and_intros <;> first | rfl | (simp only [h36, h33, cPlant, go_sem, simprocAttr]; done) | (simp only [h36, h33, cPlant, go_sem, simprocAttr]; rfl)), pm, by (first | rfl | (simp only [go_sem, simprocAttr]; done) | (simp only [go_sem, simprocAttr]; rfl)), rfl, by omega, by omega⟩ ?_)
 rintro j f H ⟨hj, ⟨h0, h5', h8⟩, ⟨g36, g33⟩, bar, h7, hr, hb1, hb2⟩
 refine AW_keep [436, 433] ?_
 by_cases hz : j = 0
 ·subst hz
  rw [path_zero, lossL, Int.sub_zero] at hr
  repeat' (first | (with_reducible refine sk ?_; intro K hK) | ((with_reducible first | refine rgL [] [11] (md := { base := 1300, own := [] }) (h := ?_) | refine nx ?_); try simp (disch := omega) only [h0, h5', h7, h8, g36, g33,go_sem, simprocAttr]) | (with_reducible refine bk ?_) | ((with_reducible refine' cE ?hv ?_ ?_); (case hv => first | rfl | (simp only [h0, h5', h7, h8, g36, g33,go_sem, simprocAttr]; rfl)); all_goals (intro hc; (try simp only [go_sem, simprocAttr] at hc); try (exfalso; omega))) | ((with_reducible refine fe ?_); refine ⟨_, (by simp only [Try.f61, h0, h5', h7, h8, g36, g33,go_sem, simprocAttr]; rfl), ?_⟩; first | rfl | (try simp only [h0, h5', h7, h8, g36, g33,go_sem, simprocAttr, seval])) | with_reducible intro (ep : Nat → Nat) | with_reducible apply_assumption -exfalso -symm only [*])
  all_goals rw [hr]
 ·obtain ⟨i, rfl⟩ : ∃ i, j = i + 1 := ⟨j - 1, by omega⟩
  obtain ⟨p, hp⟩ : ∃ p, n.pipes[i]? = some p := ⟨_, List.getElem?_eq_getElem (by omega)⟩
  have hpf := hF.pipe i p hp
  have hfb := foulE_bnd hpf.2.2 best
  have hfl := flowAt_bnd (ps := n.pipes) (j := i + 1) h5
  have hfg : (flowL n.pipes (n.pipes.length + 1) hs)[i + 1]? = some (flowAt n.pipes (i + 1) hs) := flowL_get (by omega)
  have hlb := loss_bnd hfb (x := flowAt n.pipes (i + 1) hs) (by omega)
  have hup := sup_ok (foulE best p * flowAt n.pipes (i + 1) hs * flowAt n.pipes (i + 1) hs) 1000 (by omega) (by omega)
  have hub := upD_bnd (a := foulE best p * flowAt n.pipes (i + 1) hs * flowAt n.pipes (i + 1) hs) (b := 1000) hlb.1 (by omega)
  have hub2 : upD (foulE best p * flowAt n.pipes (i + 1) hs * flowAt n.pipes (i + 1) hs) 1000 ≤ 100000001 := by unfold upD; omega
  have hmm : 0 ≤ foulE best p * flowAt n.pipes (i + 1) hs ∧ foulE best p * flowAt n.pipes (i + 1) hs ≤ 10000000 := ⟨Int.mul_nonneg hfb.1 hfl.1, Int.le_trans (Int.mul_le_mul hfb.2 (by omega : flowAt n.pipes (i + 1) hs ≤ 10000) hfl.1 (by omega)) (by omega)⟩
  have hst := path_step hF.falls (k := i + 1) (by omega)
  have hfe : frmOf n.pipes (i + 1) = p.frm.toNat := frmOf_get hp
  rw [hst, lossL] at hr
  have hla : lossAt n.pipes hs best (i + 1) = upD (foulE best p * flowAt n.pipes (i + 1) hs * flowAt n.pipes (i + 1) hs) 1000 := by unfold lossAt; rw [Nat.add_sub_cancel, hp]
  rw [hla] at hr
  have hsg := sg_ok (!best) p.foul
  rw [foul_neg] at hsg
  simp only [encSpan] at hsg
  have hkp : (0 : Int) < ((i + 1 : Nat) : Int) := by omega
  have hil : i + 1 < n.pipes.length + 1 := by omega
  have hfr : p.frm = ((frmOf n.pipes (i + 1) : Nat) : Int) := by omega
  have hlt := frmOf_lt hF.falls (k := i + 1) (by omega)
  obtain ⟨fl, hfle⟩ : ∃ fl, flowAt n.pipes (i + 1) hs = fl := ⟨_, rfl⟩
  obtain ⟨up, hupe⟩ : ∃ up, upD (foulE best p * fl * fl) 1000 = up := ⟨_, rfl⟩
  rw [hfle] at hfg hup hub hub2 hmm hr hlb
  rw [hupe] at hup hub hub2 hr
  repeat' (first | (with_reducible refine sk ?_; intro K hK) | ((first | (with_reducible first | refine rgL [] [11] (md := { base := 1300, own := [] }) (h := ?_) | refine nx ?_) | refine pK (hsg) ?_ | refine pK (hup) ?_ | refine lK (hsg) ?_ | refine lK (hup) ?_); try simp (disch := omega) only [h0, h5', h7, h8, g36, g33, hp, hfg, hkp, hil, flowL_len, hfr, cPlant, cPipe, encSpan,go_sem, simprocAttr]) | (with_reducible refine bk ?_) | ((with_reducible refine' cE ?hv ?_ ?_); (case hv => first | rfl | (simp only [h0, h5', h7, h8, g36, g33, hp, hfg, hkp, hil, flowL_len, hfr, cPlant, cPipe, encSpan,go_sem, simprocAttr]; rfl)); all_goals (intro hc; (try simp only [go_sem, simprocAttr] at hc); try (exfalso; omega))) | ((with_reducible refine fe ?_); refine ⟨_, (by simp only [Try.f61, h0, h5', h7, h8, g36, g33, hp, hfg, hkp, hil, flowL_len, hfr, cPlant, cPipe, encSpan,go_sem, simprocAttr]; rfl), ?_⟩; first | rfl | (try simp only [h0, h5', h7, h8, g36, g33, hp, hfg, hkp, hil, flowL_len, hfr, cPlant, cPipe, encSpan,go_sem, simprocAttr, seval])) | with_reducible intro (ep : Nat → Nat) | with_reducible apply_assumption -exfalso -symm only [*])
  exact ⟨frmOf n.pipes (i + 1), hlt, by omega, rfl, bar - up, rfl, by omega, by omega, by omega⟩
theorem findI_end {i : Int} {v : Val} : ∀ {l : List (Int × Val)} {s : Nat}, (∀ p ∈ l, ¬ p.1 = i) → findI i l s = none
 | [], s, _ => rfl
 | p :: l, s, h => by
  simp only [findI]
  rw [if_neg (fun e => h p (by simp) e.symm)]
  exact findI_end (v := v) fun q hq => h q (by simp [hq])
theorem offM_snoc {l : List Int} {a : Int} : imap .i64 (offM l) ++ [(.int .i64 a, .bool true)] = imap .i64 (offM (l ++ [a])) := by simp [imap, offM]
end Cp
namespace Cp
open Go Go.Proofs
set_option maxRecDepth 10000
set_option maxHeartbeats 1000000
end Cp
namespace Cp
open Go Go.Proofs
set_option maxRecDepth 10000
set_option maxHeartbeats 1000000
end Cp
namespace Cp
open Go Go.Proofs
set_option maxRecDepth 10000
set_option maxHeartbeats 1000000
def AllS (k a e : Nat) (l : List Span) (H : Hp) : Prop := (l = [] ∧ H k = some (e, .arr 1 [[.nils]])) ∨ l ≠ [] ∧ ∃ ea, H k = some (e, .arr 1 [[.gr a ea l.length]]) ∧ H a = some (ea, .arr 2 (l.map cSpan))
theorem AllS.same {k a e : Nat} {l : List Span} {H H' : Hp} (h : AllS k a e l H) (h1 : H' k = H k) (h2 : H' a = H a) : AllS k a e l H' := by
 unfold AllS; rw [h1, h2]; exact h
theorem map_snoc {α β : Type} {g : α → β} {l : List α} {k : Nat} {x : α} (h : l[k]? = some x) : (l.take (k + 1)).map g = (l.take k).map g ++ [g x] := by rw [take_snoc' h, List.map_append]; rfl
end Cp
namespace Cp
open Go
theorem PureC.weak {P : Program} {fid : FuncId} {args : List Val} {v v' : Val} (h : PureC P fid args v) (hn : noid v' = true) (hw : ∀ G w x, VR G w v x → VR G w v' x) : PureC P fid args v' :=
 ⟨h.1, h.2.1, hn, fun G w xs hR hv => Calls.mono (h.2.2.2 G w xs hR hv) (by rintro e w' ⟨x, I', h1, h2, h3, h4⟩; exact ⟨x, I', h1, h2, h3, hw _ _ _ h4⟩)⟩
end Cp
namespace Cp
open Go Go.Proofs
set_option maxRecDepth 10000
set_option maxHeartbeats 1000000
end Cp
namespace Cp
open Go Go.Proofs
set_option maxRecDepth 10000
set_option maxHeartbeats 4000000
theorem thawI {k ea m : Nat} {L : List Int} {H2 : Hp} (hl : L.length = m) (h : H2 k = some (ea, .fro 1 (ints L))) : fzd H2 6 (.gr k ea m) = .lst 1 (ints L) := by
 have e2 : (ints L).map (fun es => es.map (fzd H2 5)) = ints L := by unfold ints; rw [List.map_map]; exact List.map_congr_left fun s _ => rfl
 simp only [fzd, h, ints_len, hl, and_self, if_true]
 exact congrArg _ e2
theorem worst_ok (n : NetT) (hF : NetF n) : PureC Try.prog 42 [encNet n] (.agg (truV (n.pumps.map fun p => p.full.lo) (n.pipes.map fun p => p.foul.hi) n.tank.lo)) := by
 have hpq := hF.pumps
 have hpl := hF.pipes
 refine PureC_of (fn := Try.f42) tabOK (by kernel_rfl) rfl (by kernel_rfl) (by simp [Try.f42]) (by simp [noids, noid, noidss, go_sem, encNet, cNet, truV]) (by first | rfl | simp [noids, noid, noidss, go_sem, encNet, cNet, truV]) ?_
 intro X hX0 hXs
 repeat' (first | (with_reducible refine sk ?_; intro K hK) | ((with_reducible first | refine rg (md := { base := 0, own := [2, 3, 5, 7, 25, 41] }) (h := ?_) | refine rgS [2, 3, 5, 7] (md := { base := 0, own := [2, 3, 5, 7, 25, 41] }) (h := ?_) | refine nx ?_); try simp (disch := omega) only [encNet, cNet,go_sem, simprocAttr]) | (with_reducible refine bk ?_) | ((with_reducible refine' cE ?hv ?_ ?_); (case hv => first | rfl | (simp only [encNet, cNet,go_sem, simprocAttr]; rfl)); all_goals (intro hc; (try simp only [go_sem, simprocAttr] at hc); try (exfalso; omega))) | with_reducible intro (ep : Nat → Nat) | with_reducible apply_assumption -exfalso -symm only [*])
 refine AW_range tabOK n.pumps.length (fun k f H => (f 1 = .pim (cNet n) ∧ f 13 = .lst 3 (n.pumps.map cPump)) ∧ ∃ e3 e2, f 3 = .ptr 3 e3 3 0 0 ∧ f 2 = .ptr 2 e2 3 0 0 ∧ H 2 = some (e2, .arr 3 [[.nils, .nils, .int .i64 0]]) ∧ ((k = 0 ∧ H 3 = some (e3, .arr 3 [[.nils, .nils, .int .i64 n.tank.lo]])) ∨ (¬ k = 0 ∧ ∃ ea, H 3 = some (e3, .arr 3 [[.gr 25 ea k, .nils, .int .i64 n.tank.lo]]) ∧ H 25 = some (ea, .arr 1 (ints ((n.pumps.take k).map fun p => p.full.lo)))))) (by omega) (by rw [hXs]; decide) (by decide) (by (first | rfl | (simp only [go_sem, simprocAttr]; done) | (simp only [go_sem, simprocAttr]; rfl))) (by (first | rfl | (simp only [go_sem, simprocAttr]; done) | (simp only [go_sem, simprocAttr]; rfl)))
  ⟨by (and_intros <;> first | rfl | (simp only [cNet, go_sem, simprocAttr]; done) | (simp only [cNet, go_sem, simprocAttr]; rfl)), _, _, by (first | rfl | (simp only [go_sem, simprocAttr]; done) | (simp only [go_sem, simprocAttr]; rfl)), by (first | rfl | (simp only [go_sem, simprocAttr]; done) | (simp only [go_sem, simprocAttr]; rfl)), by (first | rfl | (simp only [go_sem, simprocAttr]; done) | (simp only [go_sem, simprocAttr]; rfl)), .inl ⟨rfl, by (first | rfl | (simp only [go_sem, simprocAttr]; done) | (simp only [go_sem, simprocAttr]; rfl))⟩⟩ ?_ ?_
 ·rintro k f H hk h15 h14 ⟨⟨h1, h13⟩, e3, e2, h3, h2, hH2, hh⟩
  obtain ⟨x, hx⟩ : ∃ x, n.pumps[k]? = some x := ⟨_, List.getElem?_eq_getElem hk⟩
  have hts := map_snoc (g := fun p : PumpT => p.full.lo) hx
  refine AW_keep [2, 3, 25] ?_
  rcases hh with ⟨hk0, hH3⟩ | ⟨hk0, ea, hH3, hH25⟩
  ·subst hk0
   refine AW_lose 25 fun H1 g25 hs1 => ?_
   have q3 : H1 3 = some (e3, .arr 3 [[.nils, .nils, .int .i64 n.tank.lo]]) := by rw [hs1 _ (by decide)]; exact hH3
   have q2 : H1 2 = some (e2, .arr 3 [[.nils, .nils, .int .i64 0]]) := by rw [hs1 _ (by decide)]; exact hH2
   have q5 : H1 5 = none := by rw [hs1 _ (by decide)]; rfl
   clear hs1
   repeat' (first | (with_reducible refine sk ?_; intro K hK) | ((with_reducible first | refine rg (md := { base := 0, own := [2, 3, 5, 7, 25, 41] }) (h := ?_) | refine rgS [2, 3, 5, 7] (md := { base := 0, own := [2, 3, 5, 7, 25, 41] }) (h := ?_) | refine nx ?_); try simp (disch := omega) only [h1, h2, h3, h13, h14, h15, q2, q3, q5, g25, hx, cPump,go_sem, simprocAttr]) | (with_reducible refine bk ?_) | ((with_reducible refine' cE ?hv ?_ ?_); (case hv => first | rfl | (simp only [h1, h2, h3, h13, h14, h15, q2, q3, q5, g25, hx, cPump,go_sem, simprocAttr]; rfl)); all_goals (intro hc; (try simp only [go_sem, simprocAttr] at hc); try (exfalso; omega))) | with_reducible intro (ep : Nat → Nat) | with_reducible apply_assumption -exfalso -symm only [*])
   exact ⟨_, _, rfl, rfl, rfl, .inr ⟨_, rfl, by rw [Nat.zero_add] at hts; rw [hts]; simp [ints]⟩⟩
  ·have hkb : k ≤ 1073741823 := by omega
   have htl : ((n.pumps.take k).map fun p => p.full.lo).length = k := by simp; omega
   repeat' (first | (with_reducible refine sk ?_; intro K hK) | ((with_reducible first | refine rg (md := { base := 0, own := [2, 3, 5, 7, 25, 41] }) (h := ?_) | refine rgS [2, 3, 5, 7] (md := { base := 0, own := [2, 3, 5, 7, 25, 41] }) (h := ?_) | refine nx ?_); try simp (disch := omega) only [h1, h2, h3, h13, h14, h15, hH2, hH3, hH25, hx, hkb, htl, cPump,go_sem, simprocAttr]) | (with_reducible refine bk ?_) | ((with_reducible refine' cE ?hv ?_ ?_); (case hv => first | rfl | (simp only [h1, h2, h3, h13, h14, h15, hH2, hH3, hH25, hx, hkb, htl, cPump,go_sem, simprocAttr]; rfl)); all_goals (intro hc; (try simp only [go_sem, simprocAttr] at hc); try (exfalso; omega))) | with_reducible intro (ep : Nat → Nat) | with_reducible apply_assumption -exfalso -symm only [*])
   exact ⟨_, _, rfl, rfl, rfl, .inr ⟨_, rfl, by rw [hts]; simp [ints]⟩⟩
 ·rintro f H h15 h14 ⟨⟨h1, h13⟩, e3, e2, h3, h2, hH2, hh⟩
  rcases hh with ⟨hk0, _⟩ | ⟨_, ea, hH3, hH25⟩
  ·omega
  rw [List.take_of_length_le (Nat.le_refl _)] at hH25
  have hl1 : (n.pumps.map fun p => p.full.lo).length = n.pumps.length := List.length_map ..
  have hl2 : (n.pipes.map fun p => p.foul.hi).length = n.pipes.length := List.length_map ..
  obtain ⟨PL, hPL⟩ : ∃ PL, (n.pumps.map fun p => p.full.lo) = PL := ⟨_, rfl⟩
  obtain ⟨FL, hFL⟩ : ∃ FL, (n.pipes.map fun p => p.foul.hi) = FL := ⟨_, rfl⟩
  rw [hPL] at hH25 hl1
  rw [hFL] at hl2
  rw [hPL, hFL]
  repeat' (first | ((fail_if_success (with_reducible refine AW_at (id := 7) ?_)); with_reducible refine sk ?_; intro K hK) | ((with_reducible first | refine rg (md := { base := 0, own := [2, 3, 5, 7, 25, 41] }) (h := ?_) | refine rgS [2, 3, 5, 7] (md := { base := 0, own := [2, 3, 5, 7, 25, 41] }) (h := ?_) | refine nx ?_); try simp (disch := omega) only [h1,go_sem, simprocAttr]) | (with_reducible refine bk ?_) | ((with_reducible refine' cE ?hv ?_ ?_); (case hv => first | rfl | (simp only [h1,go_sem, simprocAttr]; rfl)); all_goals (intro hc; (try simp only [go_sem, simprocAttr] at hc); try (exfalso; omega))) | with_reducible intro (ep : Nat → Nat) | with_reducible apply_assumption -exfalso -symm only [*])
  have hcutE : ∀ f H, (∃ e3 e2 ea, f 3 = .ptr 3 e3 3 0 0 ∧ f 2 = .ptr 2 e2 3 0 0 ∧ H 2 = some (e2, .arr 3 [[.nils, .nils, .int .i64 0]]) ∧ H 3 = some (e3, .arr 3 [[.lst 1 (ints PL), .gr 41 ea n.pipes.length, .int .i64 n.tank.lo]]) ∧ H 41 = some (ea, .arr 1 (ints FL))) → K f H := by
   clear h1 h2 h3 h13 h14 h15 hH2 hH3 hH25
   rintro f H ⟨e3, e2, ea, h3, h2, hH2, hH3, hH41⟩
   refine hK f H ?_
   clear hK
   refine AW_thaw (k := 41) (j := 3) (n := 6) (by decide) hH41 hH3 fun H2 q3 hs2 => ?_
   rw [show fzd (upd H 41 (some (ea, .fro 1 (ints FL)))) 6 = fzd (upd H 41 (some (ea, .fro 1 (ints FL)))) 6 from rfl] at q3
   simp only [List.map_cons, List.map_nil, thawI hl2 (upd_same _ _ _), fzd_lst, fzd_ints, fzd_int] at q3
   have q2 : H2 2 = some (e2, .arr 3 [[.nils, .nils, .int .i64 0]]) := by rw [hs2 _ (by decide) (by decide)]; exact hH2
   repeat' (first | (with_reducible refine sk ?_; intro K hK) | ((with_reducible first | refine rg (md := { base := 0, own := [2, 3, 5, 7, 25, 41] }) (h := ?_) | refine rgS [2, 3, 5, 7] (md := { base := 0, own := [2, 3, 5, 7, 25, 41] }) (h := ?_) | refine nx ?_); try simp (disch := omega) only [h2, h3, q2, q3,go_sem, simprocAttr]) | (with_reducible refine bk ?_) | ((with_reducible refine' cE ?hv ?_ ?_); (case hv => first | rfl | (simp only [h2, h3, q2, q3,go_sem, simprocAttr]; rfl)); all_goals (intro hc; (try simp only [go_sem, simprocAttr] at hc); try (exfalso; omega))) | ((with_reducible refine fe ?_); refine ⟨_, (by simp only [Try.f42, h2, h3, q2, q3,go_sem, simprocAttr]; rfl), ?_⟩; first | rfl | (try simp only [h2, h3, q2, q3,go_sem, simprocAttr, seval])) | with_reducible intro (ep : Nat → Nat) | with_reducible apply_assumption -exfalso -symm only [*])
   unfold truV; rw [hPL, hFL]
  clear hK
  refine AW_thaw (k := 25) (j := 3) (n := 6) (by decide) hH25 hH3 fun H2 q3 hs2 => ?_
  simp only [List.map_cons, List.map_nil, thawI hl1 (upd_same _ _ _), fzd_nils, fzd_int] at q3
  have q2 : H2 2 = some (e2, .arr 3 [[.nils, .nils, .int .i64 0]]) := by rw [hs2 _ (by decide) (by decide)]; exact hH2
  clear hs2 hH3 hH25 hH2
  repeat' (first | (with_reducible refine sk ?_; intro K hK) | ((with_reducible first | refine rg (md := { base := 0, own := [2, 3, 5, 7, 25, 41] }) (h := ?_) | refine rgS [2, 3, 5, 7] (md := { base := 0, own := [2, 3, 5, 7, 25, 41] }) (h := ?_) | refine nx ?_); try simp (disch := omega) only [h1, h2, h3, cNet,go_sem, simprocAttr]) | (with_reducible refine bk ?_) | ((with_reducible refine' cE ?hv ?_ ?_); (case hv => first | rfl | (simp only [h1, h2, h3, cNet,go_sem, simprocAttr]; rfl)); all_goals (intro hc; (try simp only [go_sem, simprocAttr] at hc); try (exfalso; omega))) | with_reducible intro (ep : Nat → Nat) | with_reducible apply_assumption -exfalso -symm only [*])
  refine AW_range tabOK n.pipes.length (fun k f H => f 29 = .lst 4 (n.pipes.map cPipe) ∧ ∃ e3 e2, f 3 = .ptr 3 e3 3 0 0 ∧ f 2 = .ptr 2 e2 3 0 0 ∧ H 2 = some (e2, .arr 3 [[.nils, .nils, .int .i64 0]]) ∧ ((k = 0 ∧ H 3 = some (e3, .arr 3 [[.lst 1 (ints PL), .nils, .int .i64 n.tank.lo]])) ∨ (¬ k = 0 ∧ ∃ ea, H 3 = some (e3, .arr 3 [[.lst 1 (ints PL), .gr 41 ea k, .int .i64 n.tank.lo]]) ∧ H 41 = some (ea, .arr 1 (ints ((n.pipes.take k).map fun p => p.foul.hi)))))) (by omega) (by rw [hXs]; decide) (by decide) (by (first | rfl | (simp only [go_sem, simprocAttr]; done) | (simp only [go_sem, simprocAttr]; rfl))) (by (first | rfl | (simp only [go_sem, simprocAttr]; done) | (simp only [go_sem, simprocAttr]; rfl)))
   ⟨by (first | rfl | (simp only [go_sem, simprocAttr]; done) | (simp only [go_sem, simprocAttr]; rfl)), _, _, by (first | rfl | (simp only [h3, go_sem, simprocAttr]; done) | (simp only [h3, go_sem, simprocAttr]; rfl)), by (first | rfl | (simp only [h2, go_sem, simprocAttr]; done) | (simp only [h2, go_sem, simprocAttr]; rfl)), by (first | rfl | (simp only [q2, go_sem, simprocAttr]; done) | (simp only [q2, go_sem, simprocAttr]; rfl)), .inl ⟨rfl, by (first | rfl | (simp only [q3, go_sem, simprocAttr]; done) | (simp only [q3, go_sem, simprocAttr]; rfl))⟩⟩ ?_ ?_
  ·clear h1 h2 h3 h13 h14 h15 q2 q3 hcutE
   rintro k f H hk h31 h30 ⟨h29, e3, e2, h3, h2, hH2, hh⟩
   obtain ⟨x, hx⟩ : ∃ x, n.pipes[k]? = some x := ⟨_, List.getElem?_eq_getElem hk⟩
   have hts := map_snoc (g := fun p : PipeT => p.foul.hi) hx
   refine AW_keep [2, 3, 41] ?_
   rcases hh with ⟨hk0, hH3⟩ | ⟨hk0, ea, hH3, hH41⟩
   ·subst hk0
    refine AW_lose 41 fun H1 g41 hs1 => ?_
    have q3 : H1 3 = some (e3, .arr 3 [[.lst 1 (ints PL), .nils, .int .i64 n.tank.lo]]) := by rw [hs1 _ (by decide)]; exact hH3
    have q2 : H1 2 = some (e2, .arr 3 [[.nils, .nils, .int .i64 0]]) := by rw [hs1 _ (by decide)]; exact hH2
    have q7 : H1 7 = none := by rw [hs1 _ (by decide)]; rfl
    clear hs1
    repeat' (first | (with_reducible refine sk ?_; intro K hK) | ((with_reducible first | refine rg (md := { base := 0, own := [2, 3, 5, 7, 25, 41] }) (h := ?_) | refine rgS [2, 3, 5, 7] (md := { base := 0, own := [2, 3, 5, 7, 25, 41] }) (h := ?_) | refine nx ?_); try simp (disch := omega) only [h2, h3, h29, h30, h31, q2, q3, q7, g41, hx, cPipe,go_sem, simprocAttr]) | (with_reducible refine bk ?_) | ((with_reducible refine' cE ?hv ?_ ?_); (case hv => first | rfl | (simp only [h2, h3, h29, h30, h31, q2, q3, q7, g41, hx, cPipe,go_sem, simprocAttr]; rfl)); all_goals (intro hc; (try simp only [go_sem, simprocAttr] at hc); try (exfalso; omega))) | with_reducible intro (ep : Nat → Nat) | with_reducible apply_assumption -exfalso -symm only [*])
    exact ⟨_, _, rfl, rfl, rfl, .inr ⟨_, rfl, by rw [Nat.zero_add] at hts; rw [hts]; simp [ints]⟩⟩
   ·have hkb : k ≤ 1073741823 := by omega
    have htl : ((n.pipes.take k).map fun p => p.foul.hi).length = k := by simp; omega
    repeat' (first | (with_reducible refine sk ?_; intro K hK) | ((with_reducible first | refine rg (md := { base := 0, own := [2, 3, 5, 7, 25, 41] }) (h := ?_) | refine rgS [2, 3, 5, 7] (md := { base := 0, own := [2, 3, 5, 7, 25, 41] }) (h := ?_) | refine nx ?_); try simp (disch := omega) only [h2, h3, h29, h30, h31, hH2, hH3, hH41, hx, hkb, htl, cPipe,go_sem, simprocAttr]) | (with_reducible refine bk ?_) | ((with_reducible refine' cE ?hv ?_ ?_); (case hv => first | rfl | (simp only [h2, h3, h29, h30, h31, hH2, hH3, hH41, hx, hkb, htl, cPipe,go_sem, simprocAttr]; rfl)); all_goals (intro hc; (try simp only [go_sem, simprocAttr] at hc); try (exfalso; omega))) | with_reducible intro (ep : Nat → Nat) | with_reducible apply_assumption -exfalso -symm only [*])
    exact ⟨_, _, rfl, rfl, rfl, .inr ⟨_, rfl, by rw [hts]; simp [ints]⟩⟩
  ·clear h1 h2 h3 h13 h14 h15 q2 q3
   rintro f H h31 h30 ⟨h29, e3, e2, h3, h2, hH2, hh⟩
   rcases hh with ⟨hk0, _⟩ | ⟨_, ea, hH3, hH41⟩
   ·omega
   rw [List.take_of_length_le (Nat.le_refl _), hFL] at hH41
   repeat' (first | (with_reducible refine sk ?_; intro K hK) | ((with_reducible first | refine rg (md := { base := 0, own := [2, 3, 5, 7, 25, 41] }) (h := ?_) | refine rgS [2, 3, 5, 7] (md := { base := 0, own := [2, 3, 5, 7, 25, 41] }) (h := ?_) | refine nx ?_); try simp (disch := omega) only [h2, h3,go_sem, simprocAttr]) | (with_reducible refine bk ?_) | ((with_reducible refine' cE ?hv ?_ ?_); (case hv => first | rfl | (simp only [h2, h3,go_sem, simprocAttr]; rfl)); all_goals (intro hc; (try simp only [go_sem, simprocAttr] at hc); try (exfalso; omega))) | with_reducible intro (ep : Nat → Nat) | with_reducible apply_assumption -exfalso -symm only [*])
   exact ⟨e3, e2, ea, by (first | rfl | (simp only [h3, go_sem, simprocAttr]; done) | (simp only [h3, go_sem, simprocAttr]; rfl)), by (first | rfl | (simp only [h2, go_sem, simprocAttr]; done) | (simp only [h2, go_sem, simprocAttr]; rfl)), hH2, hH3, hH41⟩
end Cp
