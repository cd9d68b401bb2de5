/- Rows and rules for walks by hand. Conditions: none. -/
import Derived.Test.YtioeikglibjefaaFwF
import Derived.IntWalk
import Derived.Test.YtioeikglibjefaaFwE
set_option linter.unusedVariables false
set_option linter.unusedSimpArgs false
/-! Rows and rules for walks by hand. -/
namespace Cp
open Go

attribute [go_sem] Int.natCast_nonneg decide_eq_true_eq decide_eq_false_iff_not Bool.not_eq_true' Bool.not_eq_false' List.length_map List.getElem?_map Option.map_some Option.map_none
  Bool.not_eq_eq_eq_not

theorem wrap64 {n : Int} (h : -9223372036854775808 ≤ n ∧ n ≤ 9223372036854775807) : IntKind.i64.wrap n = n := IntWalk.i64_in n h
theorem wrapu8 {n : Int} (h : 0 ≤ n ∧ n ≤ 255) : IntKind.u8.wrap n = n := IntWalk.u8_in n h

@[go_sem] theorem cast_add_one {k : Nat} : ((k : Int) + 1) = ((k + 1 : Nat) : Int) := rfl
@[go_sem] theorem cast_sub_one {k : Nat} : ((k + 1 : Nat) : Int) - 1 = (k : Int) := by omega

section
variable {P : Program} {T : Tab} {G G' : Gh} {w w' : World} {H H' : Hp} {md : Me} {X : Cx} {ro : Option Nat} {Q : Exit → Fr → Hp → Prop} {f : Fr}

/-- What is owned, but for some. -/
def keep (H : Hp) (ks : List Nat) : Hp := fun k => if ks.contains k then H k else none
theorem keep_or (H : Hp) (ks : List Nat) (k : Nat) : keep H ks k = none ∨ keep H ks k = H k := by
  unfold keep; split
  · exact .inr rfl
  · exact .inl rfl
@[go_sem] theorem keep_app {ks : List Nat} {k : Nat} : keep H ks k = if ks.contains k then H k else none := rfl

theorem AW_keep {c : Code} (ks : List Nat) (h : AW P ro X c Q f (keep H ks)) : AW P ro X c Q f H := AW_drop _ (keep_or H ks) h

/-- A region, and what stands behind it. -/
theorem AW_rs (hT : TabOK P T) (md : Me) {id : Nat} {ops : Array Oper} {y : Code} (hsz : regSz X.sz ops.toList = true)
    (h : ∀ K : Fr → Hp → Prop, (∀ f H, AW P ro X y Q f H → K f H) → xseq P T md ops.toList K ops.toList f H) : AW P ro X (.seq (.region id ops false) y) Q f H :=
  AW_seq_k fun K hK => AW_region hT md hsz (h K hK)
theorem AW_rd (hT : TabOK P T) (hmix : P.follows .mixedOrders = true) (md : Me) {id : Nat} {ops : Array Oper} {y : Code} (hsz : regSz X.sz ops.toList = true) (hok : regOK md ops.toList = true)
    (h : ∀ K : Fr → Hp → Prop, (∀ f H, AW P ro X y Q f H → K f H) → xseq P T md ops.toList K ops.toList f H) : AW P ro X (.seq (.region id ops true) y) Q f H :=
  AW_seq_k fun K hK => AW_draw hT hmix md hsz hok (h K hK)

theorem AW_rdS (hT : TabOK P T) (hmix : P.follows .mixedOrders = true) (md : Me) (ss : List Nat) {id : Nat} {ops : Array Oper} {y : Code} (hsz : regSz X.sz ops.toList = true) (hok : regOKG (compatS ss md ops.toList) ops.toList = true)
    (h : ∀ K : Fr → Hp → Prop, (∀ f H, AW P ro X y Q f H → K f H) → xseqG (stpS P T md ops.toList ss) K ops.toList f H) : AW P ro X (.seq (.region id ops true) y) Q f H :=
  AW_seq_k fun K hK => AW_drawS hT hmix md ss hsz hok (h K hK)

theorem AW_rsL (hT : TabOK P T) (md : Me) (ss lk : List Nat) {id : Nat} {ops : Array Oper} {y : Code} (hsz : regSz X.sz ops.toList = true)
    (h : ∀ K : Fr → Hp → Prop, (∀ f H, AW P ro X y Q f H → K f H) → xseqG (stpL P T md ops.toList ss lk) K ops.toList f H) : AW P ro X (.seq (.region id ops false) y) Q f H :=
  AW_seq_k fun K hK => AW_regL hT md ss lk hsz (h K hK)
theorem AW_rdL (hT : TabOK P T) (hmix : P.follows .mixedOrders = true) (md : Me) (ss lk : List Nat) {id : Nat} {ops : Array Oper} {y : Code} (hsz : regSz X.sz ops.toList = true) (hok : regOKG (compatL ss lk md ops.toList) ops.toList = true)
    (h : ∀ K : Fr → Hp → Prop, (∀ f H, AW P ro X y Q f H → K f H) → xseqG (stpL P T md ops.toList ss lk) K ops.toList f H) : AW P ro X (.seq (.region id ops true) y) Q f H :=
  AW_seq_k fun K hK => AW_drawL hT hmix md ss lk hsz hok (h K hK)
/-- To stand before a region. -/
theorem AW_at {id : Nat} {ops : Array Oper} {b : Bool} {y : Code} (h : AW P ro X (.seq (.region id ops b) y) Q f H) : AW P ro X (.seq (.region id ops b) y) Q f H := h
/-- What is told of a temporary, told in another way. -/
theorem AW_retell {c : Code} (t n : Nat) (h : AW P ro X c Q (upd f t (fzd H n (f t))) H) : AW P ro X c Q f H := fun G a w s => by
  refine h G a w ⟨s.tr, s.rel, fun t' => ?_, s.size, s.dfr⟩
  by_cases ht : t' = t
  · subst ht; rw [upd_same]; exact fzd_ok s.rel n _ _ (s.fr t')
  · rw [upd_ne _ _ ht]; exact s.fr t'

theorem AW_retell8 {c : Code} {v : Val} (t n : Nat) (hv : fzd H n (f t) = v) (h : AW P ro X c Q (upd f t v) H) : AW P ro X c Q f H := AW_retell t n (by rw [hv]; exact h)

/-- Labels. -/
def scQ (Q : Exit → Fr → Hp → Prop) : Exit → Fr → Hp → Prop
  | .goto _, _, _ => False
  | e, f, H => Q e f H
theorem AW_scope {c : Code} (h : AW P ro X c (scQ Q) f H) : AW P ro X (.scope c) Q f H := fun G a w s => by
  refine wpIn_scope (wpIn_mono (h G a w s) fun e a w hp => ?_)
  obtain ⟨G, f, H, s, q⟩ := hp
  cases e with
  | goto l => exact q.elim
  | _ => exact ⟨(fun l h => by cases h), G, f, H, s, q⟩
theorem AW_label {l : Nat} (h : Q .normal f H) : AW P ro X (.label l) Q f H := fun G a w s => wpIn_label ⟨G, f, H, s, h⟩

/-- A test that is decided. -/
theorem AW_condT {c : Operand} {x y : Code} (hc : ev f c = .bool true) (h1 : AW P ro X x Q f H) : AW P ro X (.cond c x y) Q f H :=
  AW_cond hc (fun _ => h1) (fun e => by cases e)
theorem AW_condF {c : Operand} {x y : Code} (hc : ev f c = .bool false) (h1 : AW P ro X y Q f H) : AW P ro X (.cond c x y) Q f H :=
  AW_cond hc (fun e => by cases e) (fun _ => h1)
theorem AW_condE {c : Operand} {x y : Code} (h : ∃ b, ev f c = .bool b ∧ (b = true → AW P ro X x Q f H) ∧ (b = false → AW P ro X y Q f H)) : AW P ro X (.cond c x y) Q f H := by
  obtain ⟨b, h1, h2, h3⟩ := h
  exact AW_cond h1 h2 h3
/-- A test that is a proposition. -/
theorem AW_condP {c : Operand} {x y : Code} {p : Prop} [Decidable p] (hc : ev f c = .bool (decide p)) (h1 : p → AW P ro X x Q f H) (h2 : ¬ p → AW P ro X y Q f H) : AW P ro X (.cond c x y) Q f H :=
  AW_cond hc (fun e => h1 (of_decide_eq_true e)) (fun e => h2 (of_decide_eq_false e))
end

/-- Where a round of a loop is left. -/
def RQ (b b1 : Nat) (J : Fr → Hp → Prop) (Q : Exit → Fr → Hp → Prop) : Exit → Fr → Hp → Prop
  | .normal, f, H => J f H
  | .exit i, f, H => if i = b1 then J f H else if i = b then Q .normal f H else Q (.exit i) f H
  | e, f, H => Q e f H

section
variable {b b1 : Nat} {J : Fr → Hp → Prop} {Q : Exit → Fr → Hp → Prop}
@[go_sem] theorem RQ_n : RQ b b1 J Q .normal = J := rfl
@[go_sem] theorem RQ_ret : RQ b b1 J Q .ret = Q .ret := rfl
@[go_sem] theorem RQ_exit {i : Nat} : RQ b b1 J Q (.exit i) = if i = b1 then J else if i = b then Q .normal else Q (.exit i) := by
  funext f H
  simp only [RQ]
  split
  · rfl
  · split <;> rfl
end

section
variable {P : Program} {T : Tab} {G G' : Gh} {w w' : World} {H H' : Hp} {md : Me} {X : Cx} {ro : Option Nat} {Q : Exit → Fr → Hp → Prop} {f : Fr}

theorem AW_blockS {id : Nat} {x y : Code} (h : AW P ro X (.seq x y) (inBlk id Q) f H) : AW P ro X (.block id (.seq x y)) Q f H := AW_block h
theorem AW_blockR {id i : Nat} {o : Array Oper} {c : Bool} (h : AW P ro X (.region i o c) (inBlk id Q) f H) : AW P ro X (.block id (.region i o c)) Q f H := AW_block h
theorem AW_blockC {id : Nat} {c : Operand} {x y : Code} (h : AW P ro X (.cond c x y) (inBlk id Q) f H) : AW P ro X (.block id (.cond c x y)) Q f H := AW_block h
theorem AW_blockB {id i : Nat} {x y : Code} (h : AW P ro X (.block i (.seq x y)) (inBlk id Q) f H) : AW P ro X (.block id (.block i (.seq x y))) Q f H := AW_block h

@[go_sem] theorem scQ_n {Q : Exit → Fr → Hp → Prop} : scQ Q .normal = Q .normal := rfl
@[go_sem] theorem scQ_ret {Q : Exit → Fr → Hp → Prop} : scQ Q .ret = Q .ret := rfl
@[go_sem] theorem scQ_exit {Q : Exit → Fr → Hp → Prop} {i : Nat} : scQ Q (.exit i) = Q (.exit i) := rfl

/-- What is told of a round, with a bound of the rounds that are left. -/
def Rnd (I : Nat → Fr → Hp → Prop) (ti tn : Tmp) (len n : Nat) (f : Fr) (H : Hp) : Prop := ∃ k, k ≤ len ∧ n = len - k ∧ f ti = .int .i64 k ∧ f tn = .int .i64 len ∧ I k f H

theorem RQ_in {b b1 : Nat} {J K L : Fr → Hp → Prop} {e : Exit} (hJ : ∀ f H, J f H → K f H) (h : RQ b b1 J Q e f H) : inBlk b1 (thenE K (thenE L (inBlk b Q))) e f H := by
  cases e with
  | exit i =>
    simp only [RQ, inBlk] at h ⊢
    split at h
    · rw [if_pos (by assumption)]; exact hJ f H h
    · rename_i h1
      rw [if_neg h1]
      simp only [thenE, inBlk]
      split at h
      · rw [if_pos (by assumption)]; exact h
      · rename_i h2; rw [if_neg h2]; exact h
  | normal => exact hJ f H h
  | _ => exact h

/-- 'for i := range': rounds 0, 1, .. of a loop over so many. -/
theorem AW_range (hT : TabOK P T) {b b1 r1 r2 : Nat} {tc ti tn tj : Tmp} {y1 y2 y3 y4 y5 y6 y7 : TypeId} {p1 p2 p3 : String} {a1 a2 a3 : Array Edge} {body : Code} (len : Nat) (I : Nat → Fr → Hp → Prop)
    (hlen : len ≤ 4611686018427387904) (hs : tc < X.sz ∧ tj < X.sz ∧ ti < X.sz) (hd : tc ≠ ti ∧ tc ≠ tn ∧ tj ≠ ti ∧ tj ≠ tn ∧ ti ≠ tn) (hi : f ti = .int .i64 0) (hn : f tn = .int .i64 len) (h0 : I 0 f H)
    (hbody : ∀ (k : Nat) f H, k < len → f ti = .int .i64 k → f tn = .int .i64 len → I k f H →
      AW P ro X body (RQ b b1 (fun f H => f ti = .int .i64 k ∧ f tn = .int .i64 len ∧ I (k + 1) (upd (upd f tj (.int .i64 ((k + 1 : Nat) : Int))) ti (.int .i64 ((k + 1 : Nat) : Int))) H) Q) (upd f tc (.bool true)) H)
    (hexit : ∀ f H, f ti = .int .i64 len → f tn = .int .i64 len → I len f H → Q .normal (upd f tc (.bool false)) H) :
    AW P ro X (.block b (.loop (.seq (.region r1 #[{ dst := some tc, op := .binOp .lss y1 (.tmp ti) (.tmp tn) y2, type := y3, pos := p1, after := a1, guard := none }] false)
      (.seq (.cond (.tmp tc) .skip (.exit b)) (.seq (.block b1 body)
        (.region r2 #[{ dst := some tj, op := .binOp .add y4 (.tmp ti) (.const (.int .i64 1)) y5, type := y6, pos := p2, after := a2, guard := none }, { dst := some ti, op := .move (.tmp tj), type := y7, pos := p3, after := a3, guard := none }] false)))))) Q f H := by
  refine AW_block (AW_loop (Rnd I ti tn len) len ⟨0, Nat.zero_le _, rfl, hi, hn, h0⟩ ?_)
  rintro n f H ⟨k, hk, rfl, hfi, hfn, hI⟩
  refine AW_seq_k fun K hK => ?_
  refine AW_region hT { base := 0, own := [] } (by simp [regSz, hs.1]) ?_
  have e1 : xbin2 T .lss y1 (.tmp ti) (.tmp tn) (.int .i64 (k : Int)) (.int .i64 (len : Int)) = some (.bool (decide ((k : Int) < len))) := by rw [xb_lss]; rfl
  simp only [xseq_cons, xseq_nil, xstep_plain, xgo_binOp, ev_tmp, hfi, hfn, e1, one_some, put_some, thenE_n]
  by_cases hlt : k < len
  · have e2 : decide ((k : Int) < len) = true := decide_eq_true (by omega)
    rw [e2]
    refine hK _ _ ?_
    refine AW_seq_k fun K1 hK1 => ?_
    refine AW_condT (by simp only [ev_tmp, upd_same]) (AW_skip ?_)
    simp only [thenE_n]
    refine hK1 _ _ ?_
    refine AW_seq_k fun K2 hK2 => ?_
    refine AW_block ((hbody k f H hlt hfi hfn hI).mono fun e f' H' h => ?_)
    refine RQ_in (fun f' H' hJ => hK2 _ _ ?_) h
    obtain ⟨q1, q2, q3⟩ := hJ
    refine AW_region hT { base := 0, own := [] } (by simp [regSz, hs.2.1, hs.2.2]) ?_
    have e3 : xbin2 T .add y4 (.tmp ti) (.const (.int .i64 1)) (.int .i64 (k : Int)) (.int .i64 1) = some (.int .i64 ((k + 1 : Nat) : Int)) := by
      rw [xb_add]; simp only [if_true]; rw [wrap64 (by omega)]; rfl
    simp only [xseq_cons, xseq_nil, xstep_plain, xgo_binOp, xgo_move, ev_tmp, ev_int, q1, e3, one_some, put_some, thenE_n, upd_same]
    exact ⟨len - (k + 1), by omega, k + 1, by omega, rfl, upd_same _ _ _, by rw [upd_ne _ _ (fun e => hd.2.2.2.2 e.symm), upd_ne _ _ (fun e => hd.2.2.2.1 e.symm)]; exact q2, q3⟩
  · have e2 : decide ((k : Int) < len) = false := decide_eq_false (by omega)
    rw [e2]
    obtain rfl : k = len := by omega
    refine hK _ _ ?_
    refine AW_seq_k fun K1 hK1 => ?_
    refine AW_condF (by simp only [ev_tmp, upd_same]) (AW_exit ?_)
    have := hexit f H hfi hfn hI
    simpa [thenE, inBlk] using this
end

/-- The end of a function without effect. -/
theorem FnP_end {T : Tab} {fn : Func} {v v' : Val} {f : Fr} {H : Hp} {e : Exit} (he : e = .ret ∨ e = .normal) (h : xres T f H fn.results.toList = some v') (h2 : fzd H 6 v' = v) : FnP T fn v e f H := by
  rcases he with rfl | rfl
  · exact ⟨H, v', .refl H, h, h2⟩
  · exact ⟨H, v', .refl H, h, h2⟩
theorem FnP_endE {T : Tab} {fn : Func} {v : Val} {f : Fr} {H : Hp} {e : Exit} (he : e = .ret ∨ e = .normal) (h : ∃ v', xres T f H fn.results.toList = some v' ∧ fzd H 6 v' = v) : FnP T fn v e f H := by
  obtain ⟨v', h1, h2⟩ := h
  exact FnP_end he h1 h2
/-- The same, where what is owned is frozen first. -/
theorem FnP_frz {T : Tab} {fn : Func} {v : Val} {f : Fr} {H : Hp} {e : Exit} (k : Nat) {e0 sz : Nat} {xss : List (List Val)} (he : e = .ret ∨ e = .normal) (hk : H k = some (e0, .arr sz xss))
    (h : ∃ v', xres T f (upd H k (some (e0, .fro sz xss))) fn.results.toList = some v' ∧ fzd (upd H k (some (e0, .fro sz xss))) 6 v' = v) : FnP T fn v e f H := by
  obtain ⟨v', h1, h2⟩ := h
  rcases he with rfl | rfl
  · exact ⟨_, v', .step k e0 sz xss hk (.refl _), h1, h2⟩
  · exact ⟨_, v', .step k e0 sz xss hk (.refl _), h1, h2⟩
def fzG (H : Hp) (n k e m : Nat) : Option (Nat × AObj) → Val
  | some (e', .fro sz xss) => if e = e' ∧ m = xss.length then .lst sz (xss.map fun es => es.map (fzd H n)) else .gr k e m
  | _ => .gr k e m
@[go_sem] theorem fzG_fro {H : Hp} {n k e e' m sz : Nat} {xss : List (List Val)} : fzG H n k e m (some (e', .fro sz xss)) = if e = e' ∧ m = xss.length then .lst sz (xss.map fun es => es.map (fzd H n)) else .gr k e m := rfl
@[go_sem] theorem fzd_gr {H : Hp} {n k e m : Nat} : fzd H (n + 1) (.gr k e m) = fzG H n k e m (H k) := by
  simp only [fzd, fzG]
  cases H k with
  | none => rfl
  | some p => obtain ⟨e', o⟩ := p; cases o <;> rfl
@[go_sem] theorem fzd_lst {H : Hp} {n sz : Nat} {xss : List (List Val)} : fzd H (n + 1) (.lst sz xss) = .lst sz (xss.map fun es => es.map (fzd H n)) := rfl
@[go_sem] theorem fzd_nils {H : Hp} {n : Nat} : fzd H (n + 1) .nils = .nils := rfl
theorem map_id2 {α : Type} {g : Val → Val} {c : α → List Val} (h : ∀ x, (c x).map g = c x) (xs : List α) : (xs.map c).map (fun es => es.map g) = xs.map c := by
  induction xs with
  | nil => rfl
  | cons x xs ih => simp only [List.map_cons, h, ih]
@[go_sem] theorem fzd_int {H : Hp} {n : Nat} {k : IntKind} {m : Int} : fzd H (n + 1) (.int k m) = .int k m := rfl
@[go_sem] theorem fzd_bool {H : Hp} {n : Nat} {m : Bool} : fzd H (n + 1) (.bool m) = .bool m := rfl
@[go_sem] theorem fzd_str {H : Hp} {n : Nat} {m : ByteArray} : fzd H (n + 1) (.str m) = .str m := rfl
@[go_sem] theorem fzd_tup {H : Hp} {n : Nat} {cs : List Val} : fzd H (n + 1) (.tup cs) = .tup (cs.map (fzd H n)) := rfl
@[go_sem] theorem fzd_agg {H : Hp} {n : Nat} {cs : List Val} : fzd H (n + 1) (.agg cs) = .agg (cs.map (fzd H n)) := rfl

/-- One whose room is known may be taken for one whose room is not. -/
def lw : Val → Val
  | .exl s x => .lst s x
  | v => v
theorem lw_VR {G : Gh} {w : World} {v : Val} {x : Value} (h : VR G w v x) : VR G w (lw v) x := by
  cases v <;> first | exact h | exact h.exl_lst
theorem noids_lw : ∀ {vs : List Val}, noids (vs.map lw) = noids vs
  | [] => rfl
  | v :: vs => by simp only [List.map_cons, noids, noids_lw (vs := vs)]; cases v <;> rfl
theorem PureC.lw {P : Program} {fid : FuncId} {args : List Val} {v : Val} (h : PureC P fid (args.map Cp.lw) v) : PureC P fid args v :=
  ⟨h.1, by rw [← noids_lw]; exact h.2.1, h.2.2.1, fun G w xs hR hv => h.2.2.2 G w xs hR (hv.map fun _ _ h => lw_VR h)⟩
theorem pureL {P : Program} {d : Option Tmp} {K : Fr → Hp → Prop} {f : Fr} {H : Hp} {fid : FuncId} {args : List Val} {v : Val} (h : PureC P fid (args.map Cp.lw) v) (hk : K (put f d v) H) : pureK P d K f H fid args := ⟨v, h.lw, hk⟩

/-- Lists of numbers. -/
def ints (xs : List Int) : List (List Val) := xs.map fun x => [.int .i64 x]
@[go_sem] theorem ints_len {xs : List Int} : (ints xs).length = xs.length := by simp [ints]
@[go_sem] theorem ints_get {xs : List Int} {i : Nat} : (ints xs)[i]? = (xs[i]?).map fun x => [.int .i64 x] := by simp [ints]
theorem noidss_map {α : Type} {g : α → List Val} (h : ∀ x, noids (g x) = true) : ∀ {xs : List α}, noidss (xs.map g) = true
  | [] => rfl
  | x :: xs => by simp only [List.map_cons, noidss, h, noidss_map h, Bool.and_self]
@[go_sem] theorem ints_noid {xs : List Int} : noidss (ints xs) = true := noidss_map fun x => rfl

@[go_sem] theorem fzd_ints {H : Hp} {n : Nat} {xs : List Int} : ((ints xs).map fun es => es.map (fzd H (n + 1))) = ints xs := map_id2 (fun _ => rfl) xs
theorem ints_append {a b : List Int} : ints a ++ ints b = ints (a ++ b) := by simp [ints]
theorem ints_snoc {a : List Int} {x : Int} : ints a ++ [[.int .i64 x]] = ints (a ++ [x]) := by simp [ints]

/-- Where the first one is. -/
def idxFrom {α : Type} (p : α → Bool) : List α → Int → Int
  | [], _ => -1
  | x :: xs, k => if p x = true then k else idxFrom p xs (k + 1)
theorem idxFrom_neg {α : Type} {p : α → Bool} : ∀ {xs : List α} {k : Int}, 0 ≤ k → (decide (0 ≤ idxFrom p xs k)) = xs.any p
  | [], k, h => rfl
  | x :: xs, k, h => by
    simp only [idxFrom, List.any_cons]
    by_cases hp : p x = true
    · simp [hp, h]
    · simp only [Bool.not_eq_true] at hp
      simp only [hp, Bool.false_eq_true, if_false, Bool.false_or]
      exact idxFrom_neg (by omega)


section
variable {P : Program} {T : Tab} {md : Me} {os : List Oper} {K : Fr → Hp → Prop} {f : Fr} {H : Hp} {d : Option Tmp} {ty : TypeId} {pos : String} {af : Array Edge} {g : Option (Nat × Bool)} {ss o i z : List Nat} {b : Nat}
@[go_sem] theorem xseqG_nil {stp : Oper → (Fr → Hp → Prop) → Fr → Hp → Prop} : xseqG stp K [] f H = K f H := rfl
@[go_sem] theorem xseqG_cons {stp : Oper → (Fr → Hp → Prop) → Fr → Hp → Prop} {a : Oper} {l : List Oper} : xseqG stp K (a :: l) f H = stp a (xseqG stp K l) f H := rfl
@[go_sem] theorem stpS_def {a : Oper} : stpS P T md os ss a K f H = (sideO ss md a f ∧ xstep P T md os a K f H) := rfl
def awayK (b : Nat) : List Nat → Option Nat → Prop
  | [], _ => True
  | _ :: _, none => True
  | t :: ss, some k => ¬ k = b + t ∧ awayK b ss (some k)
@[go_sem] theorem awayK_nil {k : Option Nat} : awayK b [] k = True := by cases k <;> rfl
@[go_sem] theorem awayK_none : awayK b ss none = True := by cases ss <;> rfl
@[go_sem] theorem awayK_cons {t k : Nat} : awayK b (t :: ss) (some k) = (¬ k = b + t ∧ awayK b ss (some k)) := rfl
theorem awayK_eq : ∀ {ss : List Nat} {k : Option Nat}, awayK b ss k ↔ ∀ k', k = some k' → ∀ t ∈ ss, ¬ k' = b + t
  | [], k => by simp [awayK_nil]
  | t :: ss, none => by simp [awayK_none]
  | t :: ss, some k => by
    rw [awayK_cons, awayK_eq (ss := ss)]
    simp
@[go_sem] theorem side_load {t : TypeId} {a : Operand} : sideO ss { base := b, own := o, imp := i, fz := z } { dst := d, op := .load t a, type := ty, pos := pos, after := af, guard := g } f = awayK b ss (dk (ev f a)) := propext awayK_eq.symm
@[go_sem] theorem side_indexAddr {t : TypeId} {a j : Operand} : sideO ss { base := b, own := o, imp := i, fz := z } { dst := d, op := .indexAddr t a j, type := ty, pos := pos, after := af, guard := g } f = (awayK b ss (dk (ev f a)) ∧ awayK b ss (dk (ev f j))) := by
  rw [awayK_eq, awayK_eq]
  simp [sideO]
@[go_sem] theorem side_store {t : TypeId} {a : Nat} {x : Operand} : sideO ss { base := b, own := o, imp := i, fz := z } { dst := d, op := .store t (.tmp a) x, type := ty, pos := pos, after := af, guard := g } f = (ss.contains a = true → dk (f a) = some (b + a)) := by
  simp [sideO]
@[go_sem] theorem side_move {x : Operand} : sideO ss md { dst := d, op := .move x, type := ty, pos := pos, after := af, guard := g } f = True := rfl
@[go_sem] theorem side_assign {x : Operand} : sideO ss md { dst := d, op := .assign x, type := ty, pos := pos, after := af, guard := g } f = True := rfl
@[go_sem] theorem side_pick {x y w : Operand} : sideO ss md { dst := d, op := .pick x y w, type := ty, pos := pos, after := af, guard := g } f = True := rfl
@[go_sem] theorem side_alloc {t : TypeId} : sideO ss md { dst := d, op := .alloc t, type := ty, pos := pos, after := af, guard := g } f = True := rfl
@[go_sem] theorem side_box {t : TypeId} {x : Operand} : sideO ss md { dst := d, op := .box t x, type := ty, pos := pos, after := af, guard := g } f = True := rfl
@[go_sem] theorem side_build {t : TypeId} {ps : Array (Nat × Operand)} : sideO ss md { dst := d, op := .build t ps, type := ty, pos := pos, after := af, guard := g } f = True := rfl
@[go_sem] theorem side_buildSlice {t : TypeId} {n : Nat} {ps : Array (Nat × Operand)} : sideO ss md { dst := d, op := .buildSlice t n ps, type := ty, pos := pos, after := af, guard := g } f = True := rfl
@[go_sem] theorem side_nilCheck {x : Operand} : sideO ss md { dst := d, op := .nilCheck x, type := ty, pos := pos, after := af, guard := g } f = True := rfl
@[go_sem] theorem side_binOp {p : BinOp} {t u : TypeId} {x y : Operand} : sideO ss md { dst := d, op := .binOp p t x y u, type := ty, pos := pos, after := af, guard := g } f = True := rfl
@[go_sem] theorem side_unOp {p : UnOp} {t : TypeId} {x : Operand} : sideO ss md { dst := d, op := .unOp p t x, type := ty, pos := pos, after := af, guard := g } f = True := rfl
@[go_sem] theorem side_convert {t u : TypeId} {x : Operand} : sideO ss md { dst := d, op := .convert t u x, type := ty, pos := pos, after := af, guard := g } f = True := rfl
@[go_sem] theorem side_makeFunc {q : Fn} {x y : Array Operand} : sideO ss md { dst := d, op := .makeFunc q x y, type := ty, pos := pos, after := af, guard := g } f = True := rfl
@[go_sem] theorem side_slice {t : TypeId} {x : Operand} {lo hi mx : Option Operand} : sideO ss md { dst := d, op := .slice t x lo hi mx, type := ty, pos := pos, after := af, guard := g } f = True := rfl
@[go_sem] theorem side_fieldAddr {t : TypeId} {x : Operand} {n : Nat} : sideO ss md { dst := d, op := .fieldAddr t x n, type := ty, pos := pos, after := af, guard := g } f = True := rfl
@[go_sem] theorem side_field {t : TypeId} {x : Operand} {n : Nat} : sideO ss md { dst := d, op := .field t x n, type := ty, pos := pos, after := af, guard := g } f = True := rfl
@[go_sem] theorem side_index {t : TypeId} {x y : Operand} : sideO ss md { dst := d, op := .index t x y, type := ty, pos := pos, after := af, guard := g } f = True := rfl
@[go_sem] theorem side_extract {x : Operand} {n : Nat} : sideO ss md { dst := d, op := .extract x n, type := ty, pos := pos, after := af, guard := g } f = True := rfl
@[go_sem] theorem side_makeMap {t : TypeId} {r : Option Operand} : sideO ss md { dst := d, op := .makeMap t r, type := ty, pos := pos, after := af, guard := g } f = True := rfl
@[go_sem] theorem side_makeSlice {t : TypeId} {x y : Operand} : sideO ss md { dst := d, op := .makeSlice t x y, type := ty, pos := pos, after := af, guard := g } f = True := rfl
@[go_sem] theorem side_lookup {t : TypeId} {x y : Operand} {c : Bool} : sideO ss md { dst := d, op := .lookup t x y c, type := ty, pos := pos, after := af, guard := g } f = True := rfl
@[go_sem] theorem side_call {c : Call} : sideO ss md { dst := d, op := .call c, type := ty, pos := pos, after := af, guard := g } f = True := rfl
@[go_sem] theorem dk_pim {cs : List Val} : dk (.pim cs) = none := rfl
@[go_sem] theorem dk_lst {n : Nat} {xss : List (List Val)} : dk (.lst n xss) = none := rfl
@[go_sem] theorem dk_int {k : IntKind} {n : Int} : dk (.int k n) = none := rfl
@[go_sem] theorem dk_nils : dk (.nils) = none := rfl
@[go_sem] theorem dk_nilp : dk (.nilp) = none := rfl
@[go_sem] theorem dk_agg {cs : List Val} : dk (.agg cs) = none := rfl
@[go_sem] theorem dk_fn {g : FuncId} {cs : List Val} : dk (.fn g cs) = none := rfl
@[go_sem] theorem dk_exl {n : Nat} {xss : List (List Val)} : dk (.exl n xss) = none := rfl
@[go_sem] theorem dk_ptr {k e n x y : Nat} : dk (.ptr k e n x y) = some k := rfl
@[go_sem] theorem dk_gr {k e n : Nat} : dk (.gr k e n) = some k := rfl
end


section
variable {P : Program} {T : Tab} {md : Me} {os : List Oper} {K : Fr → Hp → Prop} {f : Fr} {H : Hp} {d : Option Tmp} {ty : TypeId} {pos : String} {af : Array Edge} {g : Option (Nat × Bool)} {ss lk : List Nat}
def lkG (P : Program) (b : Bool) (o : Oper) (K : Fr → Hp → Prop) (f : Fr) (H : Hp) : Option Val → Prop
  | some (.bool c) => if c = b then lkGo P o K f H else K (put f o.dst (.tup [])) H
  | some (.tup []) => K (put f o.dst (.tup [])) H
  | _ => False
@[go_sem] theorem stpL_call {h : Operand} {xs : Array Operand} {ts : Array TypeId} : stpL P T md os ss lk { dst := d, op := .call { callee := .value h, args := xs, argTypes := ts }, type := ty, pos := pos, after := af, guard := g } K f H =
    if lk.contains (d.getD 0) = true then lkStep P os { dst := d, op := .call { callee := .value h, args := xs, argTypes := ts }, type := ty, pos := pos, after := af, guard := g } K f H
    else stpS P T md os ss { dst := d, op := .call { callee := .value h, args := xs, argTypes := ts }, type := ty, pos := pos, after := af, guard := g } K f H := by
  unfold stpL isLk isFn
  simp only [Bool.true_and]
@[go_sem] theorem stpL_builtin {b : Builtin} {xs : Array Operand} {ts : Array TypeId} : stpL P T md os ss lk { dst := d, op := .call { callee := .builtin b, args := xs, argTypes := ts }, type := ty, pos := pos, after := af, guard := g } K f H =
    stpS P T md os ss { dst := d, op := .call { callee := .builtin b, args := xs, argTypes := ts }, type := ty, pos := pos, after := af, guard := g } K f H := rfl
@[go_sem] theorem lkStep_plain {h : Operand} {xs : Array Operand} {ts : Array TypeId} : lkStep P os { dst := d, op := .call { callee := .value h, args := xs, argTypes := ts }, type := ty, pos := pos, after := af, guard := none } K f H = lkFn P d K f H (xs.toList.map (ev f)) (ev f h) := rfl
@[go_sem] theorem lkStep_guard {op : Op} {j : Nat} {b : Bool} : lkStep P os { dst := d, op := op, type := ty, pos := pos, after := af, guard := some (j, b) } K f H = lkG P b { dst := d, op := op, type := ty, pos := pos, after := af, guard := some (j, b) } K f H ((opd os j).map f) := rfl
@[go_sem] theorem lkGo_call {h : Operand} {xs : Array Operand} {ts : Array TypeId} : lkGo P { dst := d, op := .call { callee := .value h, args := xs, argTypes := ts }, type := ty, pos := pos, after := af, guard := g } K f H = lkFn P d K f H (xs.toList.map (ev f)) (ev f h) := rfl
@[go_sem] theorem lkFn_fn {args caps : List Val} {fid : FuncId} : lkFn P d K f H args (.fn fid caps) = lookK P d K f H fid (args ++ caps) := rfl
@[go_sem] theorem lkG_tt {o : Oper} : lkG P true o K f H (some (.bool true)) = lkGo P o K f H := rfl
@[go_sem] theorem lkG_ff {o : Oper} : lkG P false o K f H (some (.bool false)) = lkGo P o K f H := rfl
@[go_sem] theorem lkG_tf {op : Op} : lkG P true { dst := d, op := op, type := ty, pos := pos, after := af, guard := g } K f H (some (.bool false)) = K (put f d (.tup [])) H := rfl
@[go_sem] theorem lkG_ft {op : Op} : lkG P false { dst := d, op := op, type := ty, pos := pos, after := af, guard := g } K f H (some (.bool true)) = K (put f d (.tup [])) H := rfl
@[go_sem] theorem lkG_skip {b : Bool} {op : Op} : lkG P b { dst := d, op := op, type := ty, pos := pos, after := af, guard := g } K f H (some (.tup [])) = K (put f d (.tup [])) H := rfl
theorem lkG_split {o : Oper} {b c : Bool} (h1 : c = true → lkG P b o K f H (some (.bool true))) (h2 : c = false → lkG P b o K f H (some (.bool false))) : lkG P b o K f H (some (.bool c)) := by
  cases c
  · exact h2 rfl
  · exact h1 rfl
@[go_sem] theorem stpL_move {x : Operand} : stpL P T md os ss lk { dst := d, op := .move x, type := ty, pos := pos, after := af, guard := g } K f H = stpS P T md os ss { dst := d, op := .move x, type := ty, pos := pos, after := af, guard := g } K f H := rfl
@[go_sem] theorem stpL_assign {x : Operand} : stpL P T md os ss lk { dst := d, op := .assign x, type := ty, pos := pos, after := af, guard := g } K f H = stpS P T md os ss { dst := d, op := .assign x, type := ty, pos := pos, after := af, guard := g } K f H := rfl
@[go_sem] theorem stpL_pick {x y w : Operand} : stpL P T md os ss lk { dst := d, op := .pick x y w, type := ty, pos := pos, after := af, guard := g } K f H = stpS P T md os ss { dst := d, op := .pick x y w, type := ty, pos := pos, after := af, guard := g } K f H := rfl
@[go_sem] theorem stpL_alloc {t : TypeId} : stpL P T md os ss lk { dst := d, op := .alloc t, type := ty, pos := pos, after := af, guard := g } K f H = stpS P T md os ss { dst := d, op := .alloc t, type := ty, pos := pos, after := af, guard := g } K f H := rfl
@[go_sem] theorem stpL_box {t : TypeId} {x : Operand} : stpL P T md os ss lk { dst := d, op := .box t x, type := ty, pos := pos, after := af, guard := g } K f H = stpS P T md os ss { dst := d, op := .box t x, type := ty, pos := pos, after := af, guard := g } K f H := rfl
@[go_sem] theorem stpL_build {t : TypeId} {ps : Array (Nat × Operand)} : stpL P T md os ss lk { dst := d, op := .build t ps, type := ty, pos := pos, after := af, guard := g } K f H = stpS P T md os ss { dst := d, op := .build t ps, type := ty, pos := pos, after := af, guard := g } K f H := rfl
@[go_sem] theorem stpL_buildSlice {t : TypeId} {n : Nat} {ps : Array (Nat × Operand)} : stpL P T md os ss lk { dst := d, op := .buildSlice t n ps, type := ty, pos := pos, after := af, guard := g } K f H = stpS P T md os ss { dst := d, op := .buildSlice t n ps, type := ty, pos := pos, after := af, guard := g } K f H := rfl
@[go_sem] theorem stpL_load {t : TypeId} {x : Operand} : stpL P T md os ss lk { dst := d, op := .load t x, type := ty, pos := pos, after := af, guard := g } K f H = stpS P T md os ss { dst := d, op := .load t x, type := ty, pos := pos, after := af, guard := g } K f H := rfl
@[go_sem] theorem stpL_store {t : TypeId} {x y : Operand} : stpL P T md os ss lk { dst := d, op := .store t x y, type := ty, pos := pos, after := af, guard := g } K f H = stpS P T md os ss { dst := d, op := .store t x y, type := ty, pos := pos, after := af, guard := g } K f H := rfl
@[go_sem] theorem stpL_nilCheck {x : Operand} : stpL P T md os ss lk { dst := d, op := .nilCheck x, type := ty, pos := pos, after := af, guard := g } K f H = stpS P T md os ss { dst := d, op := .nilCheck x, type := ty, pos := pos, after := af, guard := g } K f H := rfl
@[go_sem] theorem stpL_binOp {p : BinOp} {t u : TypeId} {x y : Operand} : stpL P T md os ss lk { dst := d, op := .binOp p t x y u, type := ty, pos := pos, after := af, guard := g } K f H = stpS P T md os ss { dst := d, op := .binOp p t x y u, type := ty, pos := pos, after := af, guard := g } K f H := rfl
@[go_sem] theorem stpL_unOp {p : UnOp} {t : TypeId} {x : Operand} : stpL P T md os ss lk { dst := d, op := .unOp p t x, type := ty, pos := pos, after := af, guard := g } K f H = stpS P T md os ss { dst := d, op := .unOp p t x, type := ty, pos := pos, after := af, guard := g } K f H := rfl
@[go_sem] theorem stpL_convert {t u : TypeId} {x : Operand} : stpL P T md os ss lk { dst := d, op := .convert t u x, type := ty, pos := pos, after := af, guard := g } K f H = stpS P T md os ss { dst := d, op := .convert t u x, type := ty, pos := pos, after := af, guard := g } K f H := rfl
@[go_sem] theorem stpL_makeFunc {q : Fn} {x y : Array Operand} : stpL P T md os ss lk { dst := d, op := .makeFunc q x y, type := ty, pos := pos, after := af, guard := g } K f H = stpS P T md os ss { dst := d, op := .makeFunc q x y, type := ty, pos := pos, after := af, guard := g } K f H := rfl
@[go_sem] theorem stpL_slice {t : TypeId} {x : Operand} {lo hi mx : Option Operand} : stpL P T md os ss lk { dst := d, op := .slice t x lo hi mx, type := ty, pos := pos, after := af, guard := g } K f H = stpS P T md os ss { dst := d, op := .slice t x lo hi mx, type := ty, pos := pos, after := af, guard := g } K f H := rfl
@[go_sem] theorem stpL_fieldAddr {t : TypeId} {x : Operand} {n : Nat} : stpL P T md os ss lk { dst := d, op := .fieldAddr t x n, type := ty, pos := pos, after := af, guard := g } K f H = stpS P T md os ss { dst := d, op := .fieldAddr t x n, type := ty, pos := pos, after := af, guard := g } K f H := rfl
@[go_sem] theorem stpL_field {t : TypeId} {x : Operand} {n : Nat} : stpL P T md os ss lk { dst := d, op := .field t x n, type := ty, pos := pos, after := af, guard := g } K f H = stpS P T md os ss { dst := d, op := .field t x n, type := ty, pos := pos, after := af, guard := g } K f H := rfl
@[go_sem] theorem stpL_indexAddr {t : TypeId} {x y : Operand} : stpL P T md os ss lk { dst := d, op := .indexAddr t x y, type := ty, pos := pos, after := af, guard := g } K f H = stpS P T md os ss { dst := d, op := .indexAddr t x y, type := ty, pos := pos, after := af, guard := g } K f H := rfl
@[go_sem] theorem stpL_index {t : TypeId} {x y : Operand} : stpL P T md os ss lk { dst := d, op := .index t x y, type := ty, pos := pos, after := af, guard := g } K f H = stpS P T md os ss { dst := d, op := .index t x y, type := ty, pos := pos, after := af, guard := g } K f H := rfl
@[go_sem] theorem stpL_extract {x : Operand} {n : Nat} : stpL P T md os ss lk { dst := d, op := .extract x n, type := ty, pos := pos, after := af, guard := g } K f H = stpS P T md os ss { dst := d, op := .extract x n, type := ty, pos := pos, after := af, guard := g } K f H := rfl
@[go_sem] theorem stpL_makeMap {t : TypeId} {r : Option Operand} : stpL P T md os ss lk { dst := d, op := .makeMap t r, type := ty, pos := pos, after := af, guard := g } K f H = stpS P T md os ss { dst := d, op := .makeMap t r, type := ty, pos := pos, after := af, guard := g } K f H := rfl
@[go_sem] theorem stpL_makeSlice {t : TypeId} {x y : Operand} : stpL P T md os ss lk { dst := d, op := .makeSlice t x y, type := ty, pos := pos, after := af, guard := g } K f H = stpS P T md os ss { dst := d, op := .makeSlice t x y, type := ty, pos := pos, after := af, guard := g } K f H := rfl
@[go_sem] theorem stpL_lookup {t : TypeId} {x y : Operand} {c : Bool} : stpL P T md os ss lk { dst := d, op := .lookup t x y c, type := ty, pos := pos, after := af, guard := g } K f H = stpS P T md os ss { dst := d, op := .lookup t x y c, type := ty, pos := pos, after := af, guard := g } K f H := rfl
@[go_sem] theorem stpL_mapUpdate {t : TypeId} {x y w : Operand} : stpL P T md os ss lk { dst := d, op := .mapUpdate t x y w, type := ty, pos := pos, after := af, guard := g } K f H = stpS P T md os ss { dst := d, op := .mapUpdate t x y w, type := ty, pos := pos, after := af, guard := g } K f H := rfl
@[go_sem] theorem stpL_range {t : TypeId} {x : Operand} : stpL P T md os ss lk { dst := d, op := .range t x, type := ty, pos := pos, after := af, guard := g } K f H = stpS P T md os ss { dst := d, op := .range t x, type := ty, pos := pos, after := af, guard := g } K f H := rfl
@[go_sem] theorem frzH_app {k : Nat} : frzH H k = frz1 (H k) := rfl
@[go_sem] theorem frz1_none : frz1 none = none := rfl
@[go_sem] theorem frz1_arr {e sz : Nat} {xss : List (List Val)} : frz1 (some (e, .arr sz xss)) = some (e, .fro sz xss) := rfl
@[go_sem] theorem frz1_fro {e sz : Nat} {xss : List (List Val)} : frz1 (some (e, .fro sz xss)) = some (e, .fro sz xss) := rfl
@[go_sem] theorem frz1_map {e ver : Nat} {es : List (Val × Val)} : frz1 (some (e, .map ver es)) = some (e, .frm ver es) := rfl
@[go_sem] theorem frz1_frm {e ver : Nat} {es : List (Val × Val)} : frz1 (some (e, .frm ver es)) = some (e, .frm ver es) := rfl
def fzP (H : Hp) (n k e sz i j : Nat) : Option (Nat × AObj) → Val
  | some (e', .fro sz' xss) => if e = e' ∧ sz = sz' then (match xss[i]? with | some es => .pim ((es.drop j).map (fzd H n)) | none => .ptr k e sz i j) else .ptr k e sz i j
  | _ => .ptr k e sz i j
theorem fzP_fro {n k e e' sz sz' i j : Nat} {xss : List (List Val)} {es : List Val} (h : xss[i]? = some es) : fzP H n k e sz i j (some (e', .fro sz' xss)) = if e = e' ∧ sz = sz' then .pim ((es.drop j).map (fzd H n)) else .ptr k e sz i j := by
  simp only [fzP, h]
@[go_sem] theorem fzP_fro0 {n k e e' sz sz' j : Nat} {xss : List (List Val)} {es : List Val} : fzP H n k e sz 0 j (some (e', .fro sz' (es :: xss))) = if e = e' ∧ sz = sz' then .pim ((es.drop j).map (fzd H n)) else .ptr k e sz 0 j := rfl
@[go_sem] theorem fzd_ptr {n k e sz i j : Nat} : fzd H (n + 1) (.ptr k e sz i j) = fzP H n k e sz i j (H k) := by
  simp only [fzd, fzP]
  cases H k with
  | none => rfl
  | some p => obtain ⟨e', o⟩ := p; cases o <;> rfl
@[go_sem] theorem fzd_pim {n : Nat} {cs : List Val} : fzd H (n + 1) (.pim cs) = .pim (cs.map (fzd H n)) := rfl
end

theorem drop_cons {α : Type} {xs : List α} {k : Nat} {x : α} (h : xs[k]? = some x) : xs.drop k = x :: xs.drop (k + 1) := by
  obtain ⟨hk, rfl⟩ := List.getElem?_eq_some_iff.1 h
  exact List.drop_eq_getElem_cons hk

attribute [go_sem] Int.toNat_natCast Int.cast_ofNat_Int wrap64 decide_true decide_false implies_true false_implies true_implies
end Cp
