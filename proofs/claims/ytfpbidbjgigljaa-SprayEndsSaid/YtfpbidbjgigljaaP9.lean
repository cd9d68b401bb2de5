/- Rules, facts and contracts that the statement's proof leans on. Conditions: none. -/
import Derived.Test.YtfpbidbjgigljaaP8
set_option linter.unusedVariables false
set_option linter.unusedSimpArgs false
set_option linter.unusedSectionVars false
namespace Cp
open Go
theorem headAt_cons {h : HeadT} {t : List HeadT} {x : Int} : headAt (h :: t) x = if h.id = x then some h else headAt t x := by
 unfold headAt; rw [List.find?_cons]
 by_cases e : h.id = x <;> simp [e]
theorem fmap_congr {α β : Type} {f g : α → Option β} : ∀ {l : List α}, (∀ x ∈ l, f x = g x) → l.filterMap f = l.filterMap g
 | [], _ => rfl
 | a :: l, h => by rw [List.filterMap_cons, List.filterMap_cons, h a (by simp), fmap_congr fun x hx => h x (by simp [hx])]
theorem open_filter : ∀ {hs : List HeadT} {l : List Int}, (hs.Pairwise fun a b => a.id < b.id) → l.Pairwise (· < ·) → (∀ a ∈ l, (headAt hs a).isSome = true) → openH hs l = hs.filter fun h => l.contains h.id
 | [], l, _, _, ho => by
  cases l with
  | nil => rfl
  | cons a l => have := ho a (by simp); simp [headAt] at this
 | h :: t, l, hp, hl, ho => by
  obtain ⟨p1, p2⟩ := List.pairwise_cons.1 hp
  have hgt : ∀ x, (headAt t x).isSome = true → h.id < x := fun x hx => by
   obtain ⟨y, hy⟩ := Option.isSome_iff_exists.1 hx
   obtain ⟨hm, rfl⟩ := headAt_mem hy
   exact p1 y hm
  cases l with
  | nil => simp [openH]
  | cons a l =>
   obtain ⟨q1, q2⟩ := List.pairwise_cons.1 hl
   by_cases ha : h.id = a
   ·subst ha
    have hrest : ∀ x ∈ l, headAt (h :: t) x = headAt t x := fun x hx => by
     have := q1 x hx
     rw [headAt_cons, if_neg (by omega)]
    have ho' : ∀ x ∈ l, (headAt t x).isSome = true := fun x hx => by rw [← hrest x hx]; exact ho x (by simp [hx])
    have ih := open_filter (hs := t) (l := l) p2 q2 ho'
    have e1 : openH (h :: t) (h.id :: l) = h :: openH t l := by
     unfold openH
     rw [List.filterMap_cons, headAt_cons, if_pos rfl]
     simp only
     congr 1
     exact fmap_congr hrest
    rw [e1, ih, List.filter_cons]
    have e2 : (h.id :: l).contains h.id = true := by simp
    rw [if_pos e2]
    congr 1
    refine List.filter_congr fun y hy => ?_
    have := p1 y hy
    rw [List.contains_cons]
    have e3 : (y.id == h.id) = false := by simp; omega
    rw [e3, Bool.false_or]
   ·have hall : ∀ x ∈ a :: l, h.id < x := fun x hx => by
     have h0 := ho a (by simp)
     rw [headAt_cons, if_neg ha] at h0
     have := hgt a h0
     rcases List.mem_cons.1 hx with rfl | hx
     ·exact this
     ·have := q1 x hx; omega
    have hrest : ∀ x ∈ a :: l, headAt (h :: t) x = headAt t x := fun x hx => by
     have := hall x hx
     rw [headAt_cons, if_neg (by omega)]
    have ho' : ∀ x ∈ a :: l, (headAt t x).isSome = true := fun x hx => by rw [← hrest x hx]; exact ho x hx
    have ih := open_filter (hs := t) (l := a :: l) p2 hl ho'
    have e1 : openH (h :: t) (a :: l) = openH t (a :: l) := fmap_congr hrest
    have e2 : (a :: l).contains h.id = false := by
     rw [Bool.eq_false_iff]; intro hc
     have := hall h.id (by simpa using hc); omega
    rw [e1, ih, List.filter_cons, e2]
    simp
end Cp
namespace Cp
open Go
def keysT (ps : List PipeT) (node : Nat) : Nat → List Int
 | 0 => [(node : Int)]
 | i + 1 => keysT ps node i ++ if ¬ i + 1 = node ∧ via ps (i + 1) node = true then [((i + 1 : Nat) : Int)] else []
theorem keysT_mem {ps : List PipeT} {node : Nat} {x : Int} : ∀ {i : Nat}, x ∈ keysT ps node i ↔ x = (node : Int) ∨ ∃ j : Nat, 1 ≤ j ∧ j ≤ i ∧ ¬ j = node ∧ x = (j : Int) ∧ via ps j node = true
 | 0 => by
  simp only [keysT, List.mem_singleton]
  exact ⟨fun h => .inl h, fun h => by rcases h with h | ⟨j, h1, h2, _⟩; exact h; omega⟩
 | i + 1 => by
  simp only [keysT, List.mem_append, keysT_mem (i := i)]
  constructor
  ·rintro ((h | ⟨j, h1, h2, h3, h4, h5⟩) | h)
   ·exact .inl h
   ·exact .inr ⟨j, h1, by omega, h3, h4, h5⟩
   ·split at h
    ·rename_i hc; simp at h; exact .inr ⟨i + 1, by omega, by omega, hc.1, by omega, hc.2⟩
    ·simp at h
  ·rintro (h | ⟨j, h1, h2, h3, h4, h5⟩)
   ·exact .inl (.inl h)
   ·by_cases e : j = i + 1
    ·subst e; rw [if_pos ⟨h3, h5⟩]; exact .inr (by simp [h4])
    ·exact .inl (.inr ⟨j, h1, by omega, h3, h4, h5⟩)
theorem keysT_has {ps : List PipeT} (hf : Falls ps) {node : Nat} (hn : 0 < node) {x i : Nat} (hx : x ≤ i) : (keysT ps node i).contains (x : Int) = (via ps x node || decide (x = node)) := by
 rw [Bool.eq_iff_iff]
 simp only [List.contains_iff_mem, keysT_mem, Bool.or_eq_true, decide_eq_true_eq]
 constructor
 ·rintro (h | ⟨j, h1, h2, h3, h4, h5⟩)
  ·exact .inr (by omega)
  ·have : x = j := by omega
   subst this; exact .inl h5
 ·rintro (h | h)
  ·by_cases e : x = node
   ·exact .inl (by omega)
   ·have hx0 : ¬ x = 0 := fun e0 => by
     subst e0
     rw [via_lt hf hn] at h; simp at h
    exact .inr ⟨x, by omega, hx, e, rfl, h⟩
  ·exact .inl (by omega)
theorem keysT_round {ps : List PipeT} (hf : Falls ps) {node i : Nat} (hn : 0 < node) {p : PipeT} (hp : ps[i]? = some p) : (keysT ps node i).contains p.frm = true ↔ (¬ i + 1 = node ∧ via ps (i + 1) node = true) ∨ (i + 1 = node ∧ False) ∨ (¬ i + 1 = node ∧ via ps (i + 1) node = true) := by
 have hpf := hf i p hp
 have hlt := frmOf_lt hf (k := i + 1) (by omega)
 have hfe : frmOf ps (i + 1) = p.frm.toNat := frmOf_get hp
 have hk := keysT_has hf hn (x := p.frm.toNat) (i := i) (by omega)
 rw [show ((p.frm.toNat : Nat) : Int) = p.frm by omega] at hk
 rw [hk, via_step hf (k := i + 1) (by omega) hn, hfe]
 simp only [Bool.or_eq_true, decide_eq_true_eq]
 constructor
 ·rintro (h | h)
  ·have hne : ¬ i + 1 = node := fun e => by
    subst e
    rw [via_lt hf (by omega)] at h; simp at h
   exact .inl ⟨hne, .inr h⟩
  ·refine .inl ⟨by omega, .inr ?_⟩
   rw [← h]; exact via_self hf
 ·rintro (⟨h1, h2 | h2⟩ | ⟨_, h⟩ | ⟨h1, h2 | h2⟩)
  ·omega
  ·exact .inl h2
  ·exact h.elim
  ·omega
  ·exact .inl h2
theorem keysT_all {ps : List PipeT} (hf : Falls ps) {node : Nat} (hn : 0 < node) {x N : Nat} (hx : x ≤ N) : (keysT ps node N).contains (x : Int) = via ps x node := by
 rw [keysT_has hf hn hx]
 by_cases e : x = node
 ·subst e; simp [via_self hf]
 ·simp [e]
def sumV (ps : List PipeT) (m : Nat) (g : Nat → Int) : Nat → Int
 | 0 => 0
 | i + 1 => sumV ps m g i + if via ps m (i + 1) = true then g (i + 1) else 0
def sumP (g : Nat → Int) : List Nat → Int
 | [] => 0
 | k :: l => g k + sumP g l
theorem sumV_zero {ps : List PipeT} (hf : Falls ps) {g : Nat → Int} : ∀ {N : Nat}, sumV ps 0 g N = 0
 | 0 => rfl
 | N + 1 => by simp only [sumV, sumV_zero hf (N := N)]; rw [via_lt hf (by omega)]; simp
theorem sumV_step {ps : List PipeT} (hf : Falls ps) {g : Nat → Int} {m : Nat} (hm : 0 < m) : ∀ {N : Nat}, sumV ps m g N = (if m ≤ N then g m else 0) + sumV ps (frmOf ps m) g N
 | 0 => by simp only [sumV]; rw [if_neg (by omega)]; rfl
 | N + 1 => by
  have hlt := frmOf_lt hf hm
  simp only [sumV, sumV_step hf hm (N := N)]
  rw [via_step hf (k := m) (j := N + 1) hm (by omega)]
  by_cases e : N + 1 = m
  ·subst e
   rw [via_lt hf hlt, if_neg (by omega), if_pos (Nat.le_refl _)]
   simp; omega
  ·have e3 : (if m ≤ N + 1 then g m else 0) = if m ≤ N then g m else 0 := by
    by_cases e2 : m ≤ N
    ·rw [if_pos e2, if_pos (by omega)]
    ·rw [if_neg e2, if_neg (by omega)]
   rw [e3, decide_eq_false e, Bool.false_or]; omega
theorem sumV_path {ps : List PipeT} (hf : Falls ps) {g : Nat → Int} {N : Nat} : ∀ (m : Nat), m ≤ N → sumV ps m g N = sumP g (path ps m) := by
 intro m
 induction m using Nat.strongRecOn with
 | _ m ih =>
  intro hm
  by_cases h0 : m = 0
  ·subst h0; rw [sumV_zero hf, path_zero]; rfl
  ·have hlt := frmOf_lt hf (k := m) (by omega)
   rw [sumV_step hf (by omega), if_pos hm, ih _ hlt (by omega), path_step hf (k := m) (by omega)]; rfl
theorem lossL_sum {ps : List PipeT} {hs : List HeadT} {best : Bool} : ∀ {l : List Nat}, lossL ps hs best l = sumP (lossAt ps hs best) l
 | [] => rfl
 | k :: l => by simp only [lossL, sumP, lossL_sum (l := l)]
def nth (l : List Int) (i : Nat) : Int := (l[i]?).getD 0
def capF (out : List Int) (share : Int) (full : List Int) : List PumpT → Nat → Int → Int
 | [], _, a => a
 | p :: l, i, a => capF out share full l (i + 1) (if out.contains (i : Int) = true then a else min a (nth full i - p.slope * share))
def lossG (ps : List PipeT) (L : List HeadT) (foul : List Int) (k : Nat) : Int := upD (nth foul (k - 1) * flowAt ps k L * flowAt ps k L) 1000
def pumpsG (n : NetT) (L : List HeadT) (out full : List Int) : Int := capF out (shareS n (needs L) out) full n.pumps 0 1073741824
def pressG (n : NetT) (L : List HeadT) (out full foul : List Int) (h : HeadT) : Int := pumpsG n L out full - sumV n.pipes h.node.toNat (lossG n.pipes L foul) n.pipes.length
theorem capF_pumps {best : Bool} {out : List Int} {share : Int} {full : List Int} : ∀ {l : List PumpT} {i : Nat} {a : Int}, (∀ (j : Nat) (p : PumpT), l[j]? = some p → nth full (i + j) = fullE best p) → capF out share full l i a = pumpsF best share out l i a
 | [], i, a, _ => rfl
 | p :: l, i, a, h => by
  have h0 := h 0 p rfl
  simp only [capF, pumpsF]
  rw [Nat.add_zero] at h0
  rw [h0, capF_pumps fun j q hq => by rw [show i + 1 + j = i + (j + 1) by omega]; exact h (j + 1) q (by simpa using hq)]
theorem nth_map {α : Type} {g : α → Int} {l : List α} {i : Nat} {x : α} (h : l[i]? = some x) : nth (l.map g) i = g x := by simp [nth, h]
theorem sumP_congr {g g' : Nat → Int} : ∀ {l : List Nat}, (∀ k ∈ l, g k = g' k) → sumP g l = sumP g' l
 | [], _ => rfl
 | k :: l, h => by simp only [sumP]; rw [h k (by simp), sumP_congr fun j hj => h j (by simp [hj])]
theorem pressG_end {n : NetT} (hF : NetF n) {L : List HeadT} (h5 : heads500 L) {out : List Int} (ho : outOK n out = true) (best : Bool) {h : HeadT} (hn : 1 ≤ h.node ∧ h.node ≤ n.pipes.length) :
  pressG n L out (n.pumps.map (fullE best)) (n.pipes.map (foulE best)) h = pressS n L out best h := by
 obtain ⟨o1, o2, o3⟩ := out_facts ho
 have h4 := hF.out
 obtain ⟨i, hi, hw⟩ := some_works (m := n.pumps.length) o2 (by omega)
 have hb := needs_bnd h5
 unfold pressG pressS pumpsG pumpsS
 rw [capF_pumps (best := best) (fun j p hp => by rw [Nat.zero_add]; exact nth_map hp), pumpsF_start (share_bnd (by omega) (by omega)).1 (a := 1073741824) (b := 200000) (by omega) (by omega) hF.pump ⟨i, hi, by simpa using hw⟩, sumV_path hF.falls _ (by omega), lossL_sum]
 congr 1
 refine sumP_congr fun k hk => ?_
 have := path_mem hF.falls _ k hk
 obtain ⟨p, hp⟩ : ∃ p, n.pipes[k - 1]? = some p := ⟨_, List.getElem?_eq_getElem (by omega)⟩
 unfold lossG lossAt
 rw [nth_map hp, hp]
theorem upD_q {a b : Int} (ha : 0 ≤ a) (hb : 0 < b) : upD a b = if a.tdiv b * b < a then a.tdiv b + 1 else a.tdiv b := by
 rw [Int.tdiv_eq_ediv_of_nonneg ha]
 have h1 := Int.emod_nonneg a (by omega : b ≠ 0)
 have h2 := Int.emod_lt_of_pos a hb
 have h3 := Int.mul_ediv_add_emod a b
 have h4 : b * (a / b) = a / b * b := Int.mul_comm ..
 unfold upD
 have h5 : a + b - 1 = (a % b + b - 1) + a / b * b := by omega
 rw [h5, Int.add_mul_ediv_right _ _ (by omega : b ≠ 0)]
 by_cases hr : a % b = 0
 ·rw [if_neg (by omega), Int.ediv_eq_zero_of_lt (by omega) (by omega)]; omega
 ·rw [if_pos (by omega)]
  have h6 : a % b + b - 1 = (a % b - 1) + 1 * b := by omega
  rw [h6, Int.add_mul_ediv_right _ _ (by omega : b ≠ 0), Int.ediv_eq_zero_of_lt (by omega) (by omega)]; omega
theorem upD_m {a : Int} (ha : 0 ≤ a) : upD a 1000 = if 0 < a.tmod 1000 then a.tdiv 1000 + 1 else a.tdiv 1000 := by
 rw [Int.tdiv_eq_ediv_of_nonneg ha, Int.tmod_eq_emod_of_nonneg ha]
 unfold upD
 split <;> omega
theorem sumV_bnd {ps : List PipeT} {m : Nat} {g : Nat → Int} {b : Int} (hb : 0 ≤ b) (hg : ∀ k, 1 ≤ k → k ≤ ps.length → 0 ≤ g k ∧ g k ≤ b) : ∀ {N : Nat}, N ≤ ps.length → 0 ≤ sumV ps m g N ∧ sumV ps m g N ≤ b * N
 | 0, _ => by simp [sumV]
 | N + 1, hN => by
  have ih := sumV_bnd (m := m) hb hg (N := N) (by omega)
  have := hg (N + 1) (by omega) hN
  have e : b * ((N + 1 : Nat) : Int) = b * N + b := by rw [Int.natCast_add, Int.mul_add]; simp
  simp only [sumV]; rw [e]; split <;> omega
theorem capF_bnd {share : Int} (hs : 0 ≤ share ∧ share ≤ 10000) {out full : List Int} (hf : ∀ i, 0 ≤ nth full i ∧ nth full i ≤ 100000) : ∀ {l : List PumpT} {i : Nat} {a : Int}, (∀ p ∈ l, 0 ≤ p.slope ∧ p.slope ≤ 100) → -1000000 ≤ a → -1000000 ≤ capF out share full l i a ∧ capF out share full l i a ≤ a
 | [], i, a, _, h => by simp [capF, h]
 | p :: l, i, a, hp, h => by
  have hp0 := hp p (by simp)
  have hfi := hf i
  have h1 : p.slope * share ≤ 100 * share := Int.mul_le_mul_of_nonneg_right hp0.2 hs.1
  have h2 : 0 ≤ p.slope * share := Int.mul_nonneg hp0.1 hs.1
  simp only [capF]
  have := capF_bnd hs (out := out) hf (l := l) (i := i + 1) (a := if out.contains (i : Int) = true then a else min a (nth full i - p.slope * share)) (fun q hq => hp q (by simp [hq])) (by split <;> omega)
  refine ⟨this.1, Int.le_trans this.2 ?_⟩
  split <;> omega
structure TruF (n : NetT) (full foul : List Int) : Prop where
 lenF : full.length = n.pumps.length
 lenG : foul.length = n.pipes.length
 fb : ∀ x ∈ full, 0 ≤ x ∧ x ≤ 100000
 gb : ∀ x ∈ foul, 0 ≤ x ∧ x ≤ 1000
theorem nth_bnd {l : List Int} {b : Int} (hb : 0 ≤ b) (h : ∀ x ∈ l, 0 ≤ x ∧ x ≤ b) (i : Nat) : 0 ≤ nth l i ∧ nth l i ≤ b := by
 unfold nth
 cases hi : l[i]? with
 | none => simp [hb]
 | some x => simp; exact h x (List.mem_of_getElem? hi)
theorem lossG_bnd {n : NetT} {full foul : List Int} (hT : TruF n full foul) {L : List HeadT} (h5 : heads500 L) (hl : L.length ≤ 20) (k : Nat) : 0 ≤ lossG n.pipes L foul k ∧ lossG n.pipes L foul k ≤ 100000001 := by
 have h1 := nth_bnd (by omega) hT.gb (k - 1)
 have h2 := flowAt_bnd (ps := n.pipes) (j := k) h5
 have h3 := needs_bnd h5
 have h4 := loss_bnd h1 (x := flowAt n.pipes k L) (by omega)
 unfold lossG upD
 omega
end Cp
namespace Cp
open Go Go.Proofs
set_option maxRecDepth 10000
set_option maxHeartbeats 1000000
@[go_sem] theorem xb_mapnil {x y : Operand} {k e : Nat} : xbin2 tab .eql 108 x y (.map k e) .nilm = some (.bool false) := by
 simp only [xbin2, xeq, tab_108]; rfl
@[go_sem] theorem xb_nilmap {x y : Operand} : xbin2 tab .eql 108 x y .nilm .nilm = some (.bool true) := by
 simp only [xbin2, xeq, tab_108]; rfl
theorem offM_add {l : List Int} {a : Int} : imap .i64 (offM l) ++ [(.int .i64 a, .bool true)] = imap .i64 (offM (l ++ [a])) := by simp [imap, offM]
theorem below_ok (n : NetT) (hF : NetF n) (node : Nat) (hn : 1 ≤ node ∧ node ≤ n.pipes.length) (H0 : Hp) : ACall Try.prog 81 [encNet n, .int .i64 node] H0 (fun v H' => (∀ j, j < 600 → H' j = H0 j) ∧ ∃ e ver, v = .map 608 e ∧ H' 608 = some (e, .map ver (imap .i64 (offM (keysT n.pipes node n.pipes.length))))) := by
 refine ACall_of (fn := Try.f81) tabOK (by kernel_rfl) rfl (by kernel_rfl) (by simp [Try.f81]) ?_
 intro X hX0 hXs
 have hpl := hF.pipes
 refine AW_cut 600 fun H1 hlow hnone => ?_
 have g7 := hnone 607 (by decide)
 have g8 := hnone 608 (by decide)
 clear hnone
 repeat' (first | (with_reducible refine sk ?_; intro K hK) | ((with_reducible first | refine rg (md := { base := 600, own := [7, 8] }) (h := ?_) | refine rgS [7] (md := { base := 600, own := [7, 8] }) (h := ?_) | refine nx ?_); try simp (disch := omega) only [encNet, cNet, g7, g8,go_sem, simprocAttr]) | (with_reducible refine bk ?_) | ((with_reducible refine' cE ?hv ?_ ?_); (case hv => first | rfl | (simp only [encNet, cNet, g7, g8,go_sem, simprocAttr]; rfl)); all_goals (intro hc; (try simp only [go_sem, simprocAttr] at hc); try (exfalso; omega))) | with_reducible intro (ep : Nat → Nat) | with_reducible apply_assumption -exfalso -symm only [*])
 refine AW_range tabOK n.pipes.length (fun i f H => (f 2 = .pim (cNet n) ∧ f 12 = .lst 4 (n.pipes.map cPipe)) ∧ (∀ j, j < 600 → H j = H0 j) ∧ ∃ e v, f 5 = .map 608 e ∧ H 608 = some (e, .map v (imap .i64 (offM (keysT n.pipes node i))))) (by omega) (by rw [hXs]; decide) (by decide) (by (first | rfl | (simp only [go_sem, simprocAttr]; done) | (simp only [go_sem, simprocAttr]; rfl))) (by (first | rfl | (simp only [go_sem, simprocAttr]; done) | (simp only [go_sem, simprocAttr]; rfl)))
  ⟨by (and_intros <;> first | rfl | (simp only [cNet, go_sem, simprocAttr]; done) | (simp only [cNet, go_sem, simprocAttr]; rfl)), fun j hj => by (try simp only [upd]); (repeat rw [if_neg (by omega)]); exact hlow j hj, _, _, by (first | rfl | (simp only [go_sem, simprocAttr]; done) | (simp only [go_sem, simprocAttr]; rfl)), by (first | rfl | (simp only [keysT, offM, imap, go_sem, simprocAttr]; done) | (simp only [keysT, offM, imap, go_sem, simprocAttr]; rfl))⟩ ?_ ?_
 ·clear hlow g7 g8
  rintro i f H hi h14 h13 ⟨⟨h2, h12⟩, hlow, e, v, h5, hH⟩
  obtain ⟨p, hp⟩ : ∃ p, n.pipes[i]? = some p := ⟨_, List.getElem?_eq_getElem hi⟩
  have hrd := keysT_round hF.falls (node := node) (by omega) hp
  refine AW_lose 607 fun H2 g7 hs2 => ?_
  have hH2 : H2 608 = some (e, .map v (imap .i64 (offM (keysT n.pipes node i)))) := by rw [hs2 _ (by decide)]; exact hH
  have hlow2 : ∀ j, j < 600 → H2 j = H0 j := fun j hj => by rw [hs2 _ (by omega)]; exact hlow j hj
  clear hs2 hH hlow
  rcases @findI_off (keysT n.pipes node i) p.frm 0 with ⟨c1, j, c2⟩ | ⟨c1, c2⟩
  ·have hc : ¬ i + 1 = node ∧ via n.pipes (i + 1) node = true := by
    rcases hrd.1 c1 with h | ⟨_, h⟩ | h
    ·exact h
    ·exact h.elim
    ·exact h
   have hst : keysT n.pipes node (i + 1) = keysT n.pipes node i ++ [((i + 1 : Nat) : Int)] := by simp only [keysT]; rw [if_pos hc]
   have hnew : findI ((i + 1 : Nat) : Int) (offM (keysT n.pipes node i)) 0 = none := by
    rcases @findI_off (keysT n.pipes node i) ((i + 1 : Nat) : Int) 0 with ⟨d1, _⟩ | ⟨_, d2⟩
    ·exfalso
     have hm : ((i + 1 : Nat) : Int) ∈ keysT n.pipes node i := by simpa using d1
     rcases keysT_mem.1 hm with h | ⟨k, h1, h2, _, h4, _⟩
     ·omega
     ·omega
    ·exact d2
   repeat' (first | (with_reducible refine sk ?_; intro K hK) | ((with_reducible first | refine rg (md := { base := 600, own := [7, 8] }) (h := ?_) | refine rgS [7] (md := { base := 600, own := [7, 8] }) (h := ?_) | refine nx ?_); try simp (disch := omega) only [h2, h5, h12, h13, h14, g7, hH2, hp, c2, hnew, cPipe,go_sem, simprocAttr]) | (with_reducible refine bk ?_) | ((with_reducible refine' cE ?hv ?_ ?_); (case hv => first | rfl | (simp only [h2, h5, h12, h13, h14, g7, hH2, hp, c2, hnew, cPipe,go_sem, simprocAttr]; rfl)); all_goals (intro hc; (try simp only [go_sem, simprocAttr] at hc); try (exfalso; omega))) | with_reducible intro (ep : Nat → Nat) | with_reducible apply_assumption -exfalso -symm only [*])
   exact ⟨fun j hj => by (repeat rw [if_neg (by omega)]); exact hlow2 j hj, _, _, rfl, by rw [hst, ← offM_add]⟩
  ·have hst : keysT n.pipes node (i + 1) = keysT n.pipes node i := by
    simp only [keysT]
    rw [if_neg (fun h => by have := hrd.2 (.inl h); rw [c1] at this; cases this), List.append_nil]
   repeat' (first | (with_reducible refine sk ?_; intro K hK) | ((with_reducible first | refine rg (md := { base := 600, own := [7, 8] }) (h := ?_) | refine rgS [7] (md := { base := 600, own := [7, 8] }) (h := ?_) | refine nx ?_); try simp (disch := omega) only [h2, h5, h12, h13, h14, g7, hH2, hp, c2, cPipe,go_sem, simprocAttr]) | (with_reducible refine bk ?_) | ((with_reducible refine' cE ?hv ?_ ?_); (case hv => first | rfl | (simp only [h2, h5, h12, h13, h14, g7, hH2, hp, c2, cPipe,go_sem, simprocAttr]; rfl)); all_goals (intro hc; (try simp only [go_sem, simprocAttr] at hc); try (exfalso; omega))) | with_reducible intro (ep : Nat → Nat) | with_reducible apply_assumption -exfalso -symm only [*])
   exact ⟨fun j hj => by (repeat rw [if_neg (by omega)]); exact hlow2 j hj, _, _, rfl, by rw [hst]⟩
 ·clear hlow g7 g8
  rintro f H h14 h13 ⟨⟨h2, h12⟩, hlow, e, v, h5, hH⟩
  repeat' (first | (with_reducible refine sk ?_; intro K hK) | ((with_reducible first | refine rg (md := { base := 600, own := [7, 8] }) (h := ?_) | refine rgS [7] (md := { base := 600, own := [7, 8] }) (h := ?_) | refine nx ?_); try simp (disch := omega) only [h5, hH,go_sem, simprocAttr]) | (with_reducible refine bk ?_) | ((with_reducible refine' cE ?hv ?_ ?_); (case hv => first | rfl | (simp only [h5, hH,go_sem, simprocAttr]; rfl)); all_goals (intro hc; (try simp only [go_sem, simprocAttr] at hc); try (exfalso; omega))) | with_reducible intro (ep : Nat → Nat) | with_reducible apply_assumption -exfalso -symm only [*])
  refine FnQ_end (Or.inl rfl) (.refl _) (by simp only [Try.f81, go_sem, simprocAttr]; rfl) ?_
  exact ⟨hlow, e, v, by simp only [go_sem, simprocAttr], hH⟩
def opF (hs : List HeadT) (l : List Int) : List HeadT := hs.filter fun h => l.contains h.id
theorem opF_snoc {hs : List HeadT} {l : List Int} {k : Nat} {x : HeadT} (h : hs[k]? = some x) : opF (hs.take (k + 1)) l = opF (hs.take k) l ++ (if l.contains x.id = true then [x] else []) := by
 unfold opF; rw [take_snoc' h, List.filter_append]; simp [List.filter_cons]
theorem opF_500 {n : NetT} (hF : NetF n) {k : Nat} {l : List Int} : heads500 (opF (n.heads.take k) l) := fun h hm => (hF.head h (List.mem_of_mem_take (List.mem_filter.1 hm).1)).1.2.1
theorem opF_len {n : NetT} (hF : NetF n) {k : Nat} {l : List Int} : (opF (n.heads.take k) l).length ≤ 8 := by
 have := hF.heads
 exact Nat.le_trans (List.length_filter_le _ _) (by simp; omega)
theorem presses1_nil (n : NetT) (hF : NetF n) (l : List Int) (hl : l.length ≤ 100000) : PureC Try.prog 80 [.nilm, .pim (cNet n), .pim [.lst 1 (ints l)]] (.int .i64 (needs (opF n.heads l))) := by
 have hhl := hF.heads
 refine PureC_of (fn := Try.f80) tabOK (by kernel_rfl) rfl (by kernel_rfl) (by simp [Try.f80]) (by simp [noids, noid, noidss, go_sem, cNet]) (by first | rfl | simp [noids, noid, noidss, go_sem, cNet]) ?_
 intro X hX0 hXs
 repeat' (first | (with_reducible refine sk ?_; intro K hK) | ((with_reducible first | refine rg (md := { base := 700, own := [] }) (h := ?_) | refine rgS [7] (md := { base := 700, own := [] }) (h := ?_) | refine nx ?_); try simp (disch := omega) only [cNet,go_sem, simprocAttr]) | (with_reducible refine bk ?_) | ((with_reducible refine' cE ?hv ?_ ?_); (case hv => first | rfl | (simp only [cNet,go_sem, simprocAttr]; rfl)); all_goals (intro hc; (try simp only [go_sem, simprocAttr] at hc); try (exfalso; omega))) | ((with_reducible first | refine grdS_split ?_ ?_ | refine lkG_split ?_ ?_) <;> intro hg <;> (try simp (disch := omega) only [hg, cNet,go_sem, simprocAttr]) <;> (try simp only [go_sem, simprocAttr] at hg) <;> (try (exfalso; omega))) | ((with_reducible refine fe ?_); refine ⟨_, (by simp only [Try.f80, cNet,go_sem, simprocAttr]; rfl), ?_⟩; first | rfl | (try simp only [cNet,go_sem, simprocAttr, seval])) | with_reducible intro (ep : Nat → Nat) | with_reducible apply_assumption -exfalso -symm only [*])
 refine AW_range tabOK n.heads.length (fun i f H => (f 0 = .nilm ∧ f 1 = .pim (cNet n) ∧ f 2 = .pim [.lst 1 (ints l)] ∧ f 9 = .lst 8 (n.heads.map cHead)) ∧ f 5 = .int .i64 (needs (opF (n.heads.take i) l))) (by omega) (by rw [hXs]; decide) (by decide) (by (first | rfl | (simp only [go_sem, simprocAttr]; done) | (simp only [go_sem, simprocAttr]; rfl))) (by (first | rfl | (simp only [go_sem, simprocAttr]; done) | (simp only [go_sem, simprocAttr]; rfl)))
  ⟨by (and_intros <;> first | rfl | (simp only [cNet, go_sem, simprocAttr]; done) | (simp only [cNet, go_sem, simprocAttr]; rfl)), by (first | rfl | (simp only [List.take_zero, opF, List.filter_nil, needs, go_sem, simprocAttr]; done) | (simp only [List.take_zero, opF, List.filter_nil, needs, go_sem, simprocAttr]; rfl))⟩ ?_ ?_
 ·rintro i f H hi h11 h10 ⟨⟨h0, h1, h2, h9⟩, h5⟩
  obtain ⟨x, hx⟩ : ∃ x, n.heads[i]? = some x := ⟨_, List.getElem?_eq_getElem hi⟩
  have hxn := (hF.head x (List.mem_of_getElem? hx)).1.2.1
  have hb := needs_bnd (@opF_500 n hF i l)
  have hlb := @opF_len n hF i l
  have hh := has_ok l hl x.id
  rw [opF_snoc hx, needs_app]
  refine AW_keep [] ?_
  cases hc0 : l.contains x.id with
  | true =>
   rw [hc0] at hh
   repeat' (first | (with_reducible refine sk ?_; intro K hK) | ((first | (with_reducible first | refine rg (md := { base := 700, own := [] }) (h := ?_) | refine rgS [7] (md := { base := 700, own := [] }) (h := ?_) | refine nx ?_) | refine pK (hh) ?_); try simp (disch := omega) only [h0, h1, h2, h5, h9, h10, h11, hx, cHead,go_sem, simprocAttr]) | (with_reducible refine bk ?_) | ((with_reducible refine' cE ?hv ?_ ?_); (case hv => first | rfl | (simp only [h0, h1, h2, h5, h9, h10, h11, hx, cHead,go_sem, simprocAttr]; rfl)); all_goals (intro hc; (try simp only [go_sem, simprocAttr] at hc); try (exfalso; omega))) | ((with_reducible first | refine grdS_split ?_ ?_ | refine lkG_split ?_ ?_) <;> intro hg <;> (try simp (disch := omega) only [hg, h0, h1, h2, h5, h9, h10, h11, hx, cHead,go_sem, simprocAttr]) <;> (try simp only [go_sem, simprocAttr] at hg) <;> (try (exfalso; omega))) | ((with_reducible refine fe ?_); refine ⟨_, (by simp only [Try.f80, h0, h1, h2, h5, h9, h10, h11, hx, cHead,go_sem, simprocAttr]; rfl), ?_⟩; first | rfl | (try simp only [h0, h1, h2, h5, h9, h10, h11, hx, cHead,go_sem, simprocAttr, seval])) | with_reducible intro (ep : Nat → Nat) | with_reducible apply_assumption -exfalso -symm only [*])
   all_goals (try simp only [if_true, needs, Int.add_zero])
  | false =>
   rw [hc0] at hh
   repeat' (first | (with_reducible refine sk ?_; intro K hK) | ((first | (with_reducible first | refine rg (md := { base := 700, own := [] }) (h := ?_) | refine rgS [7] (md := { base := 700, own := [] }) (h := ?_) | refine nx ?_) | refine pK (hh) ?_); try simp (disch := omega) only [h0, h1, h2, h5, h9, h10, h11, hx, cHead,go_sem, simprocAttr]) | (with_reducible refine bk ?_) | ((with_reducible refine' cE ?hv ?_ ?_); (case hv => first | rfl | (simp only [h0, h1, h2, h5, h9, h10, h11, hx, cHead,go_sem, simprocAttr]; rfl)); all_goals (intro hc; (try simp only [go_sem, simprocAttr] at hc); try (exfalso; omega))) | ((with_reducible first | refine grdS_split ?_ ?_ | refine lkG_split ?_ ?_) <;> intro hg <;> (try simp (disch := omega) only [hg, h0, h1, h2, h5, h9, h10, h11, hx, cHead,go_sem, simprocAttr]) <;> (try simp only [go_sem, simprocAttr] at hg) <;> (try (exfalso; omega))) | ((with_reducible refine fe ?_); refine ⟨_, (by simp only [Try.f80, h0, h1, h2, h5, h9, h10, h11, hx, cHead,go_sem, simprocAttr]; rfl), ?_⟩; first | rfl | (try simp only [h0, h1, h2, h5, h9, h10, h11, hx, cHead,go_sem, simprocAttr, seval])) | with_reducible intro (ep : Nat → Nat) | with_reducible apply_assumption -exfalso -symm only [*])
   all_goals (try simp [needs])
 ·rintro f H h11 h10 ⟨⟨h0, h1, h2, h9⟩, h5⟩
  rw [List.take_of_length_le (Nat.le_refl _)] at h5
  repeat' (first | (with_reducible refine sk ?_; intro K hK) | ((with_reducible first | refine rg (md := { base := 700, own := [] }) (h := ?_) | refine rgS [7] (md := { base := 700, own := [] }) (h := ?_) | refine nx ?_); try simp (disch := omega) only [h5,go_sem, simprocAttr]) | (with_reducible refine bk ?_) | ((with_reducible refine' cE ?hv ?_ ?_); (case hv => first | rfl | (simp only [h5,go_sem, simprocAttr]; rfl)); all_goals (intro hc; (try simp only [go_sem, simprocAttr] at hc); try (exfalso; omega))) | ((with_reducible first | refine grdS_split ?_ ?_ | refine lkG_split ?_ ?_) <;> intro hg <;> (try simp (disch := omega) only [hg, h5,go_sem, simprocAttr]) <;> (try simp only [go_sem, simprocAttr] at hg) <;> (try (exfalso; omega))) | ((with_reducible refine fe ?_); refine ⟨_, (by simp only [Try.f80, h5,go_sem, simprocAttr]; rfl), ?_⟩; first | rfl | (try simp only [h5,go_sem, simprocAttr, seval])) | with_reducible intro (ep : Nat → Nat) | with_reducible apply_assumption -exfalso -symm only [*])
theorem presses1_map (n : NetT) (hF : NetF n) (l : List Int) (hl : l.length ≤ 100000) (node : Nat) (hn : 1 ≤ node ∧ node ≤ n.pipes.length) (e ver : Nat) (H : Hp) (hm : frz1 (H 608) = some (e, .frm ver (imap .i64 (offM (keysT n.pipes node n.pipes.length))))) (hroom : H 707 = none) :
  LookC Try.prog 80 [.map 608 e, .pim (cNet n), .pim [.lst 1 (ints l)]] H (.int .i64 (flowAt n.pipes node (opF n.heads l))) := by
 have hhl := hF.heads
 have hr : frz1 (H 707) = none := by rw [hroom]; rfl
 refine LookC_of (fn := Try.f80) tabOK (by kernel_rfl) rfl (by kernel_rfl) (by simp [Try.f80]) rfl ?_
 intro X hX0 hXs
 repeat' (first | (with_reducible refine sk ?_; intro K hK) | ((with_reducible first | refine rg (md := { base := 700, own := [] }) (h := ?_) | refine rgS [7] (md := { base := 700, own := [] }) (h := ?_) | refine nx ?_); try simp (disch := omega) only [cNet, hm, hr,go_sem, simprocAttr]) | (with_reducible refine bk ?_) | ((with_reducible refine' cE ?hv ?_ ?_); (case hv => first | rfl | (simp only [cNet, hm, hr,go_sem, simprocAttr]; rfl)); all_goals (intro hc; (try simp only [go_sem, simprocAttr] at hc); try (exfalso; omega))) | ((with_reducible first | refine grdS_split ?_ ?_ | refine lkG_split ?_ ?_) <;> intro hg <;> (try simp (disch := omega) only [hg, cNet, hm, hr,go_sem, simprocAttr]) <;> (try simp only [go_sem, simprocAttr] at hg) <;> (try (exfalso; omega))) | ((with_reducible refine fe ?_); refine ⟨_, (by simp only [Try.f80, cNet, hm, hr,go_sem, simprocAttr]; rfl), ?_⟩; first | rfl | (try simp only [cNet, hm, hr,go_sem, simprocAttr, seval])) | with_reducible intro (ep : Nat → Nat) | with_reducible apply_assumption -exfalso -symm only [*])
 refine AW_range tabOK n.heads.length (fun i f H => (f 0 = .map 608 e ∧ f 1 = .pim (cNet n) ∧ f 2 = .pim [.lst 1 (ints l)] ∧ f 9 = .lst 8 (n.heads.map cHead)) ∧ H 608 = some (e, .frm ver (imap .i64 (offM (keysT n.pipes node n.pipes.length)))) ∧ f 5 = .int .i64 (flowAt n.pipes node (opF (n.heads.take i) l))) (by omega) (by rw [hXs]; decide) (by decide) (by (first | rfl | (simp only [go_sem, simprocAttr]; done) | (simp only [go_sem, simprocAttr]; rfl))) (by (first | rfl | (simp only [go_sem, simprocAttr]; done) | (simp only [go_sem, simprocAttr]; rfl)))
  ⟨by (and_intros <;> first | rfl | (simp only [cNet, go_sem, simprocAttr]; done) | (simp only [cNet, go_sem, simprocAttr]; rfl)), by (first | rfl | (simp only [hm, go_sem, simprocAttr]; done) | (simp only [hm, go_sem, simprocAttr]; rfl)), by (first | rfl | (simp only [List.take_zero, opF, List.filter_nil, flowAt, go_sem, simprocAttr]; done) | (simp only [List.take_zero, opF, List.filter_nil, flowAt, go_sem, simprocAttr]; rfl))⟩ ?_ ?_
 ·rintro i f H hi h11 h10 ⟨⟨h0, h1, h2, h9⟩, hm, h5⟩
  obtain ⟨x, hx⟩ : ∃ x, n.heads[i]? = some x := ⟨_, List.getElem?_eq_getElem hi⟩
  have hxf := hF.head x (List.mem_of_getElem? hx)
  have hxn := hxf.1.2.1
  have hb := needs_bnd (@opF_500 n hF i l)
  have hfb := flowAt_bnd (ps := n.pipes) (j := node) (@opF_500 n hF i l)
  have hlb := @opF_len n hF i l
  have hh := has_ok l hl x.id
  have hall := keysT_all hF.falls (node := node) (by omega) (x := x.node.toNat) (N := n.pipes.length) (by omega)
  rw [show ((x.node.toNat : Nat) : Int) = x.node by omega] at hall
  rw [opF_snoc hx, flowAt_app]
  refine AW_keep [608] ?_
  cases hc0 : l.contains x.id with
  | true =>
   rw [hc0] at hh
   rcases @findI_off (keysT n.pipes node n.pipes.length) x.node 0 with ⟨c1, j, c2⟩ | ⟨c1, c2⟩
   ·rw [c1] at hall
    repeat' (first | (with_reducible refine sk ?_; intro K hK) | ((first | (with_reducible first | refine rg (md := { base := 700, own := [] }) (h := ?_) | refine rgS [7] (md := { base := 700, own := [] }) (h := ?_) | refine nx ?_) | refine pK (hh) ?_); try simp (disch := omega) only [h0, h1, h2, h5, h9, h10, h11, hm, hx, c2, cNet, cHead,go_sem, simprocAttr]) | (with_reducible refine bk ?_) | ((with_reducible refine' cE ?hv ?_ ?_); (case hv => first | rfl | (simp only [h0, h1, h2, h5, h9, h10, h11, hm, hx, c2, cNet, cHead,go_sem, simprocAttr]; rfl)); all_goals (intro hc; (try simp only [go_sem, simprocAttr] at hc); try (exfalso; omega))) | ((with_reducible first | refine grdS_split ?_ ?_ | refine lkG_split ?_ ?_) <;> intro hg <;> (try simp (disch := omega) only [hg, h0, h1, h2, h5, h9, h10, h11, hm, hx, c2, cNet, cHead,go_sem, simprocAttr]) <;> (try simp only [go_sem, simprocAttr] at hg) <;> (try (exfalso; omega))) | ((with_reducible refine fe ?_); refine ⟨_, (by simp only [Try.f80, h0, h1, h2, h5, h9, h10, h11, hm, hx, c2, cNet, cHead,go_sem, simprocAttr]; rfl), ?_⟩; first | rfl | (try simp only [h0, h1, h2, h5, h9, h10, h11, hm, hx, c2, cNet, cHead,go_sem, simprocAttr, seval])) | with_reducible intro (ep : Nat → Nat) | with_reducible apply_assumption -exfalso -symm only [*])
    all_goals (try simp only [if_true, flowAt, ← hall, Int.add_zero])
   ·rw [c1] at hall
    repeat' (first | (with_reducible refine sk ?_; intro K hK) | ((first | (with_reducible first | refine rg (md := { base := 700, own := [] }) (h := ?_) | refine rgS [7] (md := { base := 700, own := [] }) (h := ?_) | refine nx ?_) | refine pK (hh) ?_); try simp (disch := omega) only [h0, h1, h2, h5, h9, h10, h11, hm, hx, c2, cNet, cHead,go_sem, simprocAttr]) | (with_reducible refine bk ?_) | ((with_reducible refine' cE ?hv ?_ ?_); (case hv => first | rfl | (simp only [h0, h1, h2, h5, h9, h10, h11, hm, hx, c2, cNet, cHead,go_sem, simprocAttr]; rfl)); all_goals (intro hc; (try simp only [go_sem, simprocAttr] at hc); try (exfalso; omega))) | ((with_reducible first | refine grdS_split ?_ ?_ | refine lkG_split ?_ ?_) <;> intro hg <;> (try simp (disch := omega) only [hg, h0, h1, h2, h5, h9, h10, h11, hm, hx, c2, cNet, cHead,go_sem, simprocAttr]) <;> (try simp only [go_sem, simprocAttr] at hg) <;> (try (exfalso; omega))) | ((with_reducible refine fe ?_); refine ⟨_, (by simp only [Try.f80, h0, h1, h2, h5, h9, h10, h11, hm, hx, c2, cNet, cHead,go_sem, simprocAttr]; rfl), ?_⟩; first | rfl | (try simp only [h0, h1, h2, h5, h9, h10, h11, hm, hx, c2, cNet, cHead,go_sem, simprocAttr, seval])) | with_reducible intro (ep : Nat → Nat) | with_reducible apply_assumption -exfalso -symm only [*])
    all_goals (try simp [flowAt, ← hall])
  | false =>
   rw [hc0] at hh
   repeat' (first | (with_reducible refine sk ?_; intro K hK) | ((first | (with_reducible first | refine rg (md := { base := 700, own := [] }) (h := ?_) | refine rgS [7] (md := { base := 700, own := [] }) (h := ?_) | refine nx ?_) | refine pK (hh) ?_); try simp (disch := omega) only [h0, h1, h2, h5, h9, h10, h11, hm, hx, cNet, cHead,go_sem, simprocAttr]) | (with_reducible refine bk ?_) | ((with_reducible refine' cE ?hv ?_ ?_); (case hv => first | rfl | (simp only [h0, h1, h2, h5, h9, h10, h11, hm, hx, cNet, cHead,go_sem, simprocAttr]; rfl)); all_goals (intro hc; (try simp only [go_sem, simprocAttr] at hc); try (exfalso; omega))) | ((with_reducible first | refine grdS_split ?_ ?_ | refine lkG_split ?_ ?_) <;> intro hg <;> (try simp (disch := omega) only [hg, h0, h1, h2, h5, h9, h10, h11, hm, hx, cNet, cHead,go_sem, simprocAttr]) <;> (try simp only [go_sem, simprocAttr] at hg) <;> (try (exfalso; omega))) | ((with_reducible refine fe ?_); refine ⟨_, (by simp only [Try.f80, h0, h1, h2, h5, h9, h10, h11, hm, hx, cNet, cHead,go_sem, simprocAttr]; rfl), ?_⟩; first | rfl | (try simp only [h0, h1, h2, h5, h9, h10, h11, hm, hx, cNet, cHead,go_sem, simprocAttr, seval])) | with_reducible intro (ep : Nat → Nat) | with_reducible apply_assumption -exfalso -symm only [*])
   all_goals (try simp [flowAt])
 ·rintro f H h11 h10 ⟨⟨h0, h1, h2, h9⟩, hm, h5⟩
  rw [List.take_of_length_le (Nat.le_refl _)] at h5
  repeat' (first | (with_reducible refine sk ?_; intro K hK) | ((with_reducible first | refine rg (md := { base := 700, own := [] }) (h := ?_) | refine rgS [7] (md := { base := 700, own := [] }) (h := ?_) | refine nx ?_); try simp (disch := omega) only [h5,go_sem, simprocAttr]) | (with_reducible refine bk ?_) | ((with_reducible refine' cE ?hv ?_ ?_); (case hv => first | rfl | (simp only [h5,go_sem, simprocAttr]; rfl)); all_goals (intro hc; (try simp only [go_sem, simprocAttr] at hc); try (exfalso; omega))) | ((with_reducible first | refine grdS_split ?_ ?_ | refine lkG_split ?_ ?_) <;> intro hg <;> (try simp (disch := omega) only [hg, h5,go_sem, simprocAttr]) <;> (try simp only [go_sem, simprocAttr] at hg) <;> (try (exfalso; omega))) | ((with_reducible refine fe ?_); refine ⟨_, (by simp only [Try.f80, h5,go_sem, simprocAttr]; rfl), ?_⟩; first | rfl | (try simp only [h5,go_sem, simprocAttr, seval])) | with_reducible intro (ep : Nat → Nat) | with_reducible apply_assumption -exfalso -symm only [*])
end Cp
namespace Cp
open Go Go.Proofs
abbrev iv (n : Int) : Val := .int .i64 n
def netV : Val := .agg [.lst 4 [[iv 0, iv 1, iv 10, iv 20], [iv 1, iv 2, iv 0, iv 50], [iv 1, iv 3, iv 100, iv 100]],
 .lst 8 [[iv 5, iv 2, iv 80, iv 500, iv 66, iv 70, iv 0, iv 1], [iv 9, iv 3, iv 100, iv 400, iv 141, iv 145, iv 2, iv 2]], .lst 3 [[iv 3000, iv 3100, iv 5], [iv 3500, iv 3500, iv 10]], iv 1, iv 6000, iv 7000, iv 30]
theorem check_net : PureC Try.prog 21 [netV] (iv 0) := run_val (n := 400) tabOK mix look_ok (by rfl) (by rfl) (by kernel_rfl)
end Cp
namespace Cp
open Go Go.Proofs
noncomputable def look1 : Look := { look with memo := fun f => if Nat.beq f 21 = true then [([netV], iv 0)] else [], pmemo := fun f => [] }
theorem look1_m : ∀ fid xs v, (xs, v) ∈ look1.memo fid → PureC Try.prog fid xs v := fun fid vs v h => by
 simp only [look1] at h
 split at h
 ·rename_i hf
  rw [Nat.beq_eq] at hf
  subst hf
  simp only [List.mem_cons, List.not_mem_nil, or_false, Prod.mk.injEq] at h
  rcases h with ⟨rfl, rfl⟩
  exact check_net
 ·skip
  cases h
theorem look1_p : ∀ fid xs v, (xs, v) ∈ look1.pmemo fid → PureC Try.prog fid xs v := fun fid vs v h => by
 simp only [look1] at h
 cases h
theorem look1_ok : LookOK Try.prog look1 := ⟨look_ok.fn, look1_m, look1_p⟩
theorem alive_run : PureC Try.prog 35 [] (.bool true) := run_val (n := 400) tabOK mix look1_ok (by rfl) (by rfl) (by kernel_rfl)
end Cp
namespace Cp
open Go Go.Proofs
set_option maxRecDepth 10000
set_option maxHeartbeats 4000000
theorem lspan_ok (a b : Int) : PureC Try.prog 44 [.int .i64 a, .int .i64 b] (encSpan ⟨a, b⟩) := by
 refine PureC_of (fn := Try.f44) tabOK (by kernel_rfl) rfl (by kernel_rfl) (by simp [Try.f44]) (by simp [noids, noid, noidss, go_sem, encSpan]) (by first | rfl | simp [noids, noid, noidss, go_sem, encSpan]) ?_
 intro X hX0 hXs
 repeat' (first | (with_reducible refine sk ?_; intro K hK) | ((with_reducible first | refine rg (h := ?_) | refine rgS [4] (h := ?_) | refine nx ?_); try simp (disch := omega) only [encSpan,go_sem, simprocAttr]) | (with_reducible refine bk ?_) | ((with_reducible refine' cE ?hv ?_ ?_); (case hv => first | rfl | (simp only [encSpan,go_sem, simprocAttr]; rfl)); all_goals (intro hc; (try simp only [go_sem, simprocAttr] at hc); try (exfalso; omega))) | ((with_reducible refine fe ?_); refine ⟨_, (by simp only [Try.f44, encSpan,go_sem, simprocAttr]; rfl), ?_⟩; first | rfl | (try simp only [encSpan,go_sem, simprocAttr, seval])) | with_reducible intro (ep : Nat → Nat) | with_reducible apply_assumption -exfalso -symm only [*])
end Cp
namespace Cp
open Go Go.Proofs
set_option maxRecDepth 10000
set_option maxHeartbeats 4000000
def truV (full foul : List Int) (tank : Int) : List Val := [.lst 1 (ints full), .lst 1 (ints foul), .int .i64 tank]
theorem nth_get {l : List Int} {i : Nat} (h : i < l.length) : l[i]? = some (nth l i) := by unfold nth; rw [List.getElem?_eq_getElem h]; rfl
theorem presses_ok (n : NetT) (hF : NetF n) (l : List Int) (hl : l.length ≤ 100000) (out : List Int) (hno : outOK n out = true) (full foul : List Int) (hT : TruF n full foul) (tank : Int) :
  PureC Try.prog 40 [encNet n, .lst 1 (ints l), .lst 1 (ints out), .agg (truV full foul tank)] (.lst 1 (ints ((opF n.heads l).map (pressG n (opF n.heads l) out full foul)))) := by
 obtain ⟨o1, o2, o3⟩ := out_facts hno
 have ho4 := hF.out
 have hpq := hF.pumps
 have hpl := hF.pipes
 have hhl := hF.heads
 have h5 : heads500 (opF n.heads l) := by have := @opF_500 n hF n.heads.length l; rwa [List.take_of_length_le (Nat.le_refl _)] at this
 have hLl : (opF n.heads l).length ≤ 8 := by have := @opF_len n hF n.heads.length l; rwa [List.take_of_length_le (Nat.le_refl _)] at this
 have hnil := presses1_nil n hF l hl
 obtain ⟨L, hL⟩ : ∃ L, opF n.heads l = L := ⟨_, rfl⟩
 rw [hL] at h5 hLl hnil ⊢
 have hnb := needs_bnd h5
 have hsb := share_bnd (n := n) (flow := needs L) (out := out) (by omega) (by omega)
 have hq := upD_q (a := needs L) (b := (n.pumps.length : Int) - out.length) (by omega) (by omega)
 have hwz : ¬ (n.pumps.length : Int) - out.length = 0 := by omega
 have hshe : upD (needs L) ((n.pumps.length : Int) - out.length) = shareS n (needs L) out := rfl
 rw [hshe] at hq
 have hqd : 0 ≤ (needs L).tdiv ((n.pumps.length : Int) - out.length) ∧ (needs L).tdiv ((n.pumps.length : Int) - out.length) ≤ needs L := by
  rw [Int.tdiv_eq_ediv_of_nonneg (by omega)]
  exact ⟨Int.ediv_nonneg (by omega) (by omega), Int.ediv_le_self _ (by omega)⟩
 obtain ⟨w, hw⟩ : ∃ w, (n.pumps.length : Int) - out.length = w := ⟨_, rfl⟩
 have hwb : 1 ≤ w ∧ w ≤ 4 := by omega
 rw [hw] at hq hwz hqd
 obtain ⟨q0, hq0⟩ : ∃ q, (needs L).tdiv w = q := ⟨_, rfl⟩
 rw [hq0] at hq hqd
 have hqw : 0 ≤ q0 * w ∧ q0 * w ≤ 40000 := ⟨Int.mul_nonneg hqd.1 (by omega), Int.le_trans (Int.mul_le_mul (by omega : q0 ≤ 10000) hwb.2 (by omega) (by omega)) (by omega)⟩
 have hhas := fun a => has_ok out (by omega) a
 have hhasl := fun a => has_ok l hl a
 have hfn := nth_bnd (by omega) hT.fb
 refine PureC_of (fn := Try.f40) tabOK (by kernel_rfl) rfl (by kernel_rfl) (by simp [Try.f40]) (by simp [noids, noid, noidss, go_sem, encNet, cNet, truV]) (by first | rfl | simp [noids, noid, noidss, go_sem, encNet, cNet, truV]) ?_
 intro X hX0 hXs
 repeat' (first | ((fail_if_success (with_reducible refine AW_at (id := 4) ?_)); with_reducible refine sk ?_; intro K hK) | ((first | (with_reducible first | refine rgL (id := 29) [] [101, 105] (md := { base := 0, own := [120], imp := [88] }) (h := ?_) | refine rgL (id := 29) [14, 17] [101, 105] (md := { base := 0, own := [120], imp := [88] }) (h := ?_) | refine rgL [] [101, 105] (md := { base := 0, own := [15, 120], imp := [88] }) (h := ?_) | refine rgL [14, 17] [101, 105] (md := { base := 0, own := [15, 120], imp := [88] }) (h := ?_) | refine nx ?_) | refine pK (hnil) ?_ | refine lK (hnil) ?_); try simp (disch := omega) only [encNet, cNet, truV, hw, hwz, hq0,go_sem, simprocAttr]) | (with_reducible refine bk ?_) | ((with_reducible refine' cE ?hv ?_ ?_); (case hv => first | rfl | (simp only [encNet, cNet, truV, hw, hwz, hq0,go_sem, simprocAttr]; rfl)); all_goals (intro hc; (try simp only [go_sem, simprocAttr] at hc); try (exfalso; omega))) | (first | refine iK (hnil) ?_) | ((with_reducible refine fe ?_); refine ⟨_, (by simp only [Try.f40, encNet, cNet, truV, hw, hwz, hq0,go_sem, simprocAttr]; rfl), ?_⟩; first | rfl | (try simp only [encNet, cNet, truV, hw, hwz, hq0,go_sem, simprocAttr, seval])) | with_reducible intro (ep : Nat → Nat) | with_reducible apply_assumption -exfalso -symm only [*])
 have hcutA : ∀ f H, (f 2 = .lst 1 (ints out) ∧ f 4 = .pim (cNet n) ∧ f 5 = .pim [.lst 1 (ints l)] ∧ f 7 = .pim (truV full foul tank) ∧ f 9 = .fn 80 [.pim (cNet n), .pim [.lst 1 (ints l)]] ∧ f 11 = .int .i64 (shareS n (needs L) out)) → K f H := by
  obtain ⟨sh, hsh⟩ : ∃ sh, shareS n (needs L) out = sh := ⟨_, rfl⟩
  rw [hsh] at hsb ⊢
  rintro f H ⟨h2, h4, h5', h7, h9, h11⟩
  refine hK f H ?_
  clear hK
  refine AW_keep [] ?_
  repeat' (first | ((fail_if_success (with_reducible refine AW_at (id := 7) ?_)); with_reducible refine sk ?_; intro K hK) | ((with_reducible first | refine rgL (id := 29) [] [101, 105] (md := { base := 0, own := [120], imp := [88] }) (h := ?_) | refine rgL (id := 29) [14, 17] [101, 105] (md := { base := 0, own := [120], imp := [88] }) (h := ?_) | refine rgL [] [101, 105] (md := { base := 0, own := [15, 120], imp := [88] }) (h := ?_) | refine rgL [14, 17] [101, 105] (md := { base := 0, own := [15, 120], imp := [88] }) (h := ?_) | refine nx ?_); try simp (disch := omega) only [h2, h4, h5', h7, h9, h11,go_sem, simprocAttr]) | (with_reducible refine bk ?_) | ((with_reducible refine' cE ?hv ?_ ?_); (case hv => first | rfl | (simp only [h2, h4, h5', h7, h9, h11,go_sem, simprocAttr]; rfl)); all_goals (intro hc; (try simp only [go_sem, simprocAttr] at hc); try (exfalso; omega))) | ((with_reducible refine fe ?_); refine ⟨_, (by simp only [Try.f40, h2, h4, h5', h7, h9, h11,go_sem, simprocAttr]; rfl), ?_⟩; first | rfl | (try simp only [h2, h4, h5', h7, h9, h11,go_sem, simprocAttr, seval])) | with_reducible intro (ep : Nat → Nat) | with_reducible apply_assumption -exfalso -symm only [*])
  have hcutB : ∀ f H, (f 4 = .pim (cNet n) ∧ f 5 = .pim [.lst 1 (ints l)] ∧ f 7 = .pim (truV full foul tank) ∧ f 9 = .fn 80 [.pim (cNet n), .pim [.lst 1 (ints l)]] ∧ f 12 = .int .i64 (pumpsG n L out full)) → K f H := by
   clear h2 h4 h5' h7 h9 h11
   have hpg : -1000000 ≤ pumpsG n L out full ∧ pumpsG n L out full ≤ 1073741824 := by
    unfold pumpsG
    exact capF_bnd ⟨by rw [hsh]; exact hsb.1, by rw [hsh]; omega⟩ hfn (fun p hp => (hF.pump p hp).2) (by omega)
   rintro f H ⟨h4, h5', h7, h9, h12⟩
   refine hK f H ?_
   clear hK
   refine AW_keep [] ?_
   obtain ⟨pm, hpm⟩ : ∃ pm, pumpsG n L out full = pm := ⟨_, rfl⟩
   rw [hpm] at hpg h12
   have hG : ∀ x : HeadT, pressG n L out full foul x = pm - sumV n.pipes x.node.toNat (lossG n.pipes L foul) n.pipes.length := fun x => by unfold pressG; rw [hpm]
   have hgb := fun k => lossG_bnd hT h5 (by omega) k
   obtain ⟨GG, hGG⟩ : ∃ GG, pressG n L out full foul = GG := ⟨_, rfl⟩
   repeat' (first | (with_reducible refine sk ?_; intro K hK) | ((with_reducible first | refine rgL (id := 29) [] [101, 105] (md := { base := 0, own := [120], imp := [88] }) (h := ?_) | refine rgL (id := 29) [14, 17] [101, 105] (md := { base := 0, own := [120], imp := [88] }) (h := ?_) | refine rgL [] [101, 105] (md := { base := 0, own := [15, 120], imp := [88] }) (h := ?_) | refine rgL [14, 17] [101, 105] (md := { base := 0, own := [15, 120], imp := [88] }) (h := ?_) | refine nx ?_); try simp (disch := omega) only [h4, h5', h7, h9, h12, cNet,go_sem, simprocAttr]) | (with_reducible refine bk ?_) | ((with_reducible refine' cE ?hv ?_ ?_); (case hv => first | rfl | (simp only [h4, h5', h7, h9, h12, cNet,go_sem, simprocAttr]; rfl)); all_goals (intro hc; (try simp only [go_sem, simprocAttr] at hc); try (exfalso; omega))) | with_reducible intro (ep : Nat → Nat) | with_reducible apply_assumption -exfalso -symm only [*])
   refine AW_range tabOK n.heads.length (fun k f H => (f 4 = .pim (cNet n) ∧ f 5 = .pim [.lst 1 (ints l)] ∧ f 7 = .pim (truV full foul tank) ∧ f 9 = .fn 80 [.pim (cNet n), .pim [.lst 1 (ints l)]] ∧ f 12 = .int .i64 pm ∧ f 67 = .lst 8 (n.heads.map cHead)) ∧ ∃ e, f 15 = .gr 15 e (opF (n.heads.take k) l).length ∧ H 15 = some (e, .arr 1 (ints ((opF (n.heads.take k) l).map GG)))) (by omega) (by rw [hXs]; decide) (by decide) (by (first | rfl | (simp only [go_sem, simprocAttr]; done) | (simp only [go_sem, simprocAttr]; rfl))) (by (first | rfl | (simp only [go_sem, simprocAttr]; done) | (simp only [go_sem, simprocAttr]; rfl)))
    ⟨by (and_intros <;> first | rfl | (simp only [h4, h5', h7, h9, h12, cNet, go_sem, simprocAttr]; done) | (simp only [h4, h5', h7, h9, h12, cNet, go_sem, simprocAttr]; rfl)), _, by (first | rfl | (simp only [List.take_zero, opF, List.filter_nil, go_sem, simprocAttr]; done) | (simp only [List.take_zero, opF, List.filter_nil, go_sem, simprocAttr]; rfl)), by (first | rfl | (simp only [List.take_zero, opF, List.filter_nil, go_sem, simprocAttr]; done) | (simp only [List.take_zero, opF, List.filter_nil, go_sem, simprocAttr]; rfl))⟩ ?_ ?_
   ·clear h4 h5' h7 h9 h12
    rintro k f H hk h69 h68 ⟨⟨h4, h5', h7, h9, h12, h67⟩, e, h15, hH15⟩
    obtain ⟨x, hx⟩ : ∃ x, n.heads[k]? = some x := ⟨_, List.getElem?_eq_getElem hk⟩
    have hxf := hF.head x (List.mem_of_getElem? hx)
    have hlk := @opF_len n hF k l
    have hsn := opF_snoc (l := l) hx
    obtain ⟨O, hO⟩ : ∃ O, opF (n.heads.take k) l = O := ⟨_, rfl⟩
    rw [hO] at h15 hH15 hlk hsn
    rw [hsn]
    have hlb : O.length ≤ 1073741823 := by omega
    have hh := hhasl x.id
    refine AW_keep [15] ?_
    cases hc0 : l.contains x.id with
    | false =>
     rw [hc0] at hh
     repeat' (first | (with_reducible refine sk ?_; intro K hK) | ((first | (with_reducible first | refine rgL (id := 29) [] [101, 105] (md := { base := 0, own := [120], imp := [88] }) (h := ?_) | refine rgL (id := 29) [14, 17] [101, 105] (md := { base := 0, own := [120], imp := [88] }) (h := ?_) | refine rgL [] [101, 105] (md := { base := 0, own := [15, 120], imp := [88] }) (h := ?_) | refine rgL [14, 17] [101, 105] (md := { base := 0, own := [15, 120], imp := [88] }) (h := ?_) | refine nx ?_) | refine pK (hh) ?_ | refine lK (hh) ?_); try simp (disch := omega) only [h4, h5', h7, h9, h12, h15, h67, h68, h69, hH15, hx, cHead,go_sem, simprocAttr]) | (with_reducible refine bk ?_) | ((with_reducible refine' cE ?hv ?_ ?_); (case hv => first | rfl | (simp only [h4, h5', h7, h9, h12, h15, h67, h68, h69, hH15, hx, cHead,go_sem, simprocAttr]; rfl)); all_goals (intro hc; (try simp only [go_sem, simprocAttr] at hc); try (exfalso; omega))) | (first | refine iK (hh) ?_) | with_reducible intro (ep : Nat → Nat) | with_reducible apply_assumption -exfalso -symm only [*])
     exact ⟨_, by simp; rfl, by simp⟩
    | true =>
     rw [hc0] at hh
     simp only [if_true]
     repeat' (first | ((fail_if_success (with_reducible refine AW_at (id := 19) ?_)); with_reducible refine sk ?_; intro K hK) | ((first | (with_reducible first | refine rgL (id := 29) [] [101, 105] (md := { base := 0, own := [120], imp := [88] }) (h := ?_) | refine rgL (id := 29) [14, 17] [101, 105] (md := { base := 0, own := [120], imp := [88] }) (h := ?_) | refine rgL [] [101, 105] (md := { base := 0, own := [15, 120], imp := [88] }) (h := ?_) | refine rgL [14, 17] [101, 105] (md := { base := 0, own := [15, 120], imp := [88] }) (h := ?_) | refine nx ?_) | refine pK (hh) ?_ | refine lK (hh) ?_); try simp (disch := omega) only [h4, h5', h7, h9, h12, h15, h67, h68, h69, hH15, hx, cHead,go_sem, simprocAttr]) | (with_reducible refine bk ?_) | ((with_reducible refine' cE ?hv ?_ ?_); (case hv => first | rfl | (simp only [h4, h5', h7, h9, h12, h15, h67, h68, h69, hH15, hx, cHead,go_sem, simprocAttr]; rfl)); all_goals (intro hc; (try simp only [go_sem, simprocAttr] at hc); try (exfalso; omega))) | (first | refine iK (hh) ?_) | with_reducible intro (ep : Nat → Nat) | with_reducible apply_assumption -exfalso -symm only [*])
     have hcutD : ∀ f H, (f 4 = .pim (cNet n) ∧ f 5 = .pim [.lst 1 (ints l)] ∧ f 7 = .pim (truV full foul tank) ∧ f 9 = .fn 80 [.pim (cNet n), .pim [.lst 1 (ints l)]] ∧ f 12 = .int .i64 pm ∧ f 67 = .lst 8 (n.heads.map cHead) ∧ f 69 = .int .i64 k ∧ f 68 = .int .i64 n.heads.length ∧ f 15 = .gr 15 e O.length ∧ f 18 = .int .i64 (GG x)) ∧ H 15 = some (e, .arr 1 (ints (O.map GG))) → K f H := by
      clear h4 h5' h7 h9 h12 h15 h67 h68 h69 hH15
      rintro f H ⟨⟨h4, h5', h7, h9, h12, h67, h69, h68, h15, h18⟩, hH15⟩
      refine hK f H ?_
      clear hK
      have hil : (ints (O.map GG)).length = O.length := by rw [ints_len, List.length_map]
      repeat' (first | (with_reducible refine sk ?_; intro K hK) | ((with_reducible first | refine rgL (id := 29) [] [101, 105] (md := { base := 0, own := [120], imp := [88] }) (h := ?_) | refine rgL (id := 29) [14, 17] [101, 105] (md := { base := 0, own := [120], imp := [88] }) (h := ?_) | refine rgL [] [101, 105] (md := { base := 0, own := [15, 120], imp := [88] }) (h := ?_) | refine rgL [14, 17] [101, 105] (md := { base := 0, own := [15, 120], imp := [88] }) (h := ?_) | refine nx ?_); try simp (disch := omega) only [h4, h5', h7, h9, h12, h15, h18, h67, h68, h69, hH15, hlb, hil, List.length_map,go_sem, simprocAttr]) | (with_reducible refine bk ?_) | ((with_reducible refine' cE ?hv ?_ ?_); (case hv => first | rfl | (simp only [h4, h5', h7, h9, h12, h15, h18, h67, h68, h69, hH15, hlb, hil, List.length_map,go_sem, simprocAttr]; rfl)); all_goals (intro hc; (try simp only [go_sem, simprocAttr] at hc); try (exfalso; omega))) | with_reducible intro (ep : Nat → Nat) | with_reducible apply_assumption -exfalso -symm only [*])
      exact ⟨_, by rw [List.length_append]; rfl, by simp [ints]⟩
     clear hK
     repeat' (first | (with_reducible refine sk ?_; intro K hK) | ((with_reducible first | refine rgL (id := 29) [] [101, 105] (md := { base := 0, own := [120], imp := [88] }) (h := ?_) | refine rgL (id := 29) [14, 17] [101, 105] (md := { base := 0, own := [120], imp := [88] }) (h := ?_) | refine rgL [] [101, 105] (md := { base := 0, own := [15, 120], imp := [88] }) (h := ?_) | refine rgL [14, 17] [101, 105] (md := { base := 0, own := [15, 120], imp := [88] }) (h := ?_) | refine nx ?_); try simp (disch := omega) only [h4, h5', h7, h9, h12, h15, h67, h68, h69, hH15, cNet,go_sem, simprocAttr]) | (with_reducible refine bk ?_) | ((with_reducible refine' cE ?hv ?_ ?_); (case hv => first | rfl | (simp only [h4, h5', h7, h9, h12, h15, h67, h68, h69, hH15, cNet,go_sem, simprocAttr]; rfl)); all_goals (intro hc; (try simp only [go_sem, simprocAttr] at hc); try (exfalso; omega))) | with_reducible intro (ep : Nat → Nat) | with_reducible apply_assumption -exfalso -symm only [*])
     refine AW_range tabOK n.pipes.length (fun i f H => (f 4 = .pim (cNet n) ∧ f 5 = .pim [.lst 1 (ints l)] ∧ f 7 = .pim (truV full foul tank) ∧ f 9 = .fn 80 [.pim (cNet n), .pim [.lst 1 (ints l)]] ∧ f 12 = .int .i64 pm ∧ f 67 = .lst 8 (n.heads.map cHead) ∧ f 69 = .int .i64 k ∧ f 68 = .int .i64 n.heads.length ∧ f 15 = .gr 15 e O.length) ∧ H 15 = some (e, .arr 1 (ints (O.map GG))) ∧ (∃ e17, f 17 = .ptr 17 e17 8 0 0 ∧ H 17 = some (e17, .arr 8 [cHead x])) ∧ f 18 = .int .i64 (pm - sumV n.pipes x.node.toNat (lossG n.pipes L foul) i)) (by omega) (by rw [hXs]; decide) (by decide) (by (first | rfl | (simp only [go_sem, simprocAttr]; done) | (simp only [go_sem, simprocAttr]; rfl))) (by (first | rfl | (simp only [go_sem, simprocAttr]; done) | (simp only [go_sem, simprocAttr]; rfl)))
      ⟨by (and_intros <;> first | rfl | (simp only [h4, h5', h7, h9, h12, h15, h67, h68, h69, cNet, go_sem, simprocAttr]; done) | (simp only [h4, h5', h7, h9, h12, h15, h67, h68, h69, cNet, go_sem, simprocAttr]; rfl)), by (first | rfl | (simp only [hH15, go_sem, simprocAttr]; done) | (simp only [hH15, go_sem, simprocAttr]; rfl)), ⟨_, by (first | rfl | (simp only [go_sem, simprocAttr]; done) | (simp only [go_sem, simprocAttr]; rfl)), by (first | rfl | (simp only [cHead, go_sem, simprocAttr]; done) | (simp only [cHead, go_sem, simprocAttr]; rfl))⟩, by (first | rfl | (simp only [h12, sumV, Int.sub_zero, go_sem, simprocAttr]; done) | (simp only [h12, sumV, Int.sub_zero, go_sem, simprocAttr]; rfl))⟩ ?_ ?_
     ·clear h4 h5' h7 h9 h12 h15 h67 h68 h69 hH15 hcutD
      rintro i f H hi h82 h81 ⟨⟨h4, h5', h7, h9, h12, h67, h69, h68, h15⟩, hH15, ⟨e17, h17, hH17⟩, h18⟩
      have hsv := sumV_bnd (ps := n.pipes) (m := x.node.toNat) (g := lossG n.pipes L foul) (b := 100000001) (by omega) (fun k _ _ => hgb k) (N := i) (by omega)
      have hgi := hgb (i + 1)
      have hlge : lossG n.pipes L foul (i + 1) = upD (nth foul i * flowAt n.pipes (i + 1) L * flowAt n.pipes (i + 1) L) 1000 := rfl
      have hfo := nth_bnd (by omega) hT.gb i
      have hfl := flowAt_bnd (ps := n.pipes) (j := i + 1) h5
      have hil : i < foul.length := by rw [hT.lenG]; exact hi
      have hfg := nth_get hil
      have hlb2 := loss_bnd hfo (x := flowAt n.pipes (i + 1) L) (by omega)
      have hmm : 0 ≤ nth foul i * flowAt n.pipes (i + 1) L ∧ nth foul i * flowAt n.pipes (i + 1) L ≤ 10000000 := ⟨Int.mul_nonneg hfo.1 hfl.1, Int.le_trans (Int.mul_le_mul hfo.2 (by omega : flowAt n.pipes (i + 1) L ≤ 10000) hfl.1 (by omega)) (by omega)⟩
      have hum := upD_m hlb2.1
      rw [← hlge] at hum
      refine AW_keep [15, 17] ?_
      repeat' (first | ((fail_if_success (with_reducible refine AW_at (id := 23) ?_)); with_reducible refine sk ?_; intro K hK) | ((first | (with_reducible first | refine rgL (id := 29) [] [101, 105] (md := { base := 0, own := [120], imp := [88] }) (h := ?_) | refine rgL (id := 29) [14, 17] [101, 105] (md := { base := 0, own := [120], imp := [88] }) (h := ?_) | refine rgL [] [101, 105] (md := { base := 0, own := [15, 120], imp := [88] }) (h := ?_) | refine rgL [14, 17] [101, 105] (md := { base := 0, own := [15, 120], imp := [88] }) (h := ?_) | refine nx ?_) | refine pK (below_ok n hF (i + 1) ⟨by omega, by omega⟩ _) ?_ | refine lK (below_ok n hF (i + 1) ⟨by omega, by omega⟩ _) ?_); try simp (disch := omega) only [h4, h5', h7, h9, h12, h15, h17, h18, h67, h68, h69, h81, h82, hH15, hH17, cNet,go_sem, simprocAttr]) | (with_reducible refine bk ?_) | ((with_reducible refine' cE ?hv ?_ ?_); (case hv => first | rfl | (simp only [h4, h5', h7, h9, h12, h15, h17, h18, h67, h68, h69, h81, h82, hH15, hH17, cNet,go_sem, simprocAttr]; rfl)); all_goals (intro hc; (try simp only [go_sem, simprocAttr] at hc); try (exfalso; omega))) | (first | refine iK (below_ok n hF (i + 1) ⟨by omega, by omega⟩ _) ?_) | with_reducible intro (ep : Nat → Nat) | with_reducible apply_assumption -exfalso -symm only [*])
      rintro v H3 ⟨hs3, em, ver, rfl, hm⟩
      have k15 : H3 15 = some (e, .arr 1 (ints (O.map GG))) := by rw [hs3 15 (by decide)]; (first | rfl | (simp only [hH15, go_sem, simprocAttr]; done) | (simp only [hH15, go_sem, simprocAttr]; rfl))
      have k17 : H3 17 = some (e17, .arr 8 [cHead x]) := by rw [hs3 17 (by decide)]; (first | rfl | (simp only [hH17, go_sem, simprocAttr]; done) | (simp only [hH17, go_sem, simprocAttr]; rfl))
      clear hs3 hH15 hH17
      simp only [go_sem, simprocAttr]
      repeat' (first | ((fail_if_success (with_reducible refine AW_at (id := 23) ?_)); with_reducible refine sk ?_; intro K hK) | ((with_reducible first | refine rgL (id := 29) [] [101, 105] (md := { base := 0, own := [120], imp := [88] }) (h := ?_) | refine rgL (id := 29) [14, 17] [101, 105] (md := { base := 0, own := [120], imp := [88] }) (h := ?_) | refine rgL [] [101, 105] (md := { base := 0, own := [15, 120], imp := [88] }) (h := ?_) | refine rgL [14, 17] [101, 105] (md := { base := 0, own := [15, 120], imp := [88] }) (h := ?_) | refine nx ?_); try simp (disch := omega) only [h4,go_sem, simprocAttr]) | (with_reducible refine bk ?_) | ((with_reducible refine' cE ?hv ?_ ?_); (case hv => first | rfl | (simp only [h4,go_sem, simprocAttr]; rfl)); all_goals (intro hc; (try simp only [go_sem, simprocAttr] at hc); try (exfalso; omega))) | with_reducible intro (ep : Nat → Nat) | with_reducible apply_assumption -exfalso -symm only [*])
      refine AW_keep [15, 17, 608] ?_
      have hlook := presses1_map n hF l hl (i + 1) ⟨by omega, by omega⟩ em ver (keep H3 [15, 17, 608]) (by show frz1 (H3 608) = _; rw [hm]; rfl) rfl
      rw [hL] at hlook
      have hall := keysT_all hF.falls (node := i + 1) (by omega) (x := x.node.toNat) (N := n.pipes.length) (by omega)
      rw [show ((x.node.toNat : Nat) : Int) = x.node by omega] at hall
      obtain ⟨fl, hfle⟩ : ∃ fl, flowAt n.pipes (i + 1) L = fl := ⟨_, rfl⟩
      rw [hfle] at hfl hlb2 hmm hum hlook
      obtain ⟨sv, hsve⟩ : ∃ sv, sumV n.pipes x.node.toNat (lossG n.pipes L foul) i = sv := ⟨_, rfl⟩
      have hstep : sumV n.pipes x.node.toNat (lossG n.pipes L foul) (i + 1) = sv + if via n.pipes x.node.toNat (i + 1) = true then lossG n.pipes L foul (i + 1) else 0 := by rw [← hsve]; rfl
      rw [hsve] at hsv h18
      rw [hstep]
      simp only [cNet] at hlook
      rcases @findI_off (keysT n.pipes (i + 1) n.pipes.length) x.node 0 with ⟨c1, j, c2⟩ | ⟨c1, c2⟩
      ·rw [c1] at hall
       rw [← hall, if_pos rfl, hum]
       have z0 : 0 ≤ nth foul i * fl * fl := hlb2.1
       by_cases hz : 0 < (nth foul i * fl * fl).tmod 1000
       ·rw [if_pos hz]
        rw [if_pos hz] at hum
        repeat' (first | (with_reducible refine sk ?_; intro K hK) | ((first | (with_reducible first | refine rgL (id := 29) [] [101, 105] (md := { base := 0, own := [120], imp := [88] }) (h := ?_) | refine rgL (id := 29) [14, 17] [101, 105] (md := { base := 0, own := [120], imp := [88] }) (h := ?_) | refine rgL [] [101, 105] (md := { base := 0, own := [15, 120], imp := [88] }) (h := ?_) | refine rgL [14, 17] [101, 105] (md := { base := 0, own := [15, 120], imp := [88] }) (h := ?_) | refine nx ?_) | refine pK (hlook) ?_ | refine lK (hlook) ?_); try simp (disch := omega) only [h4, h5', h7, h9, h12, h15, h17, h18, h67, h68, h69, h81, h82, k15, k17, hm, c2, hfg, hil, hz, cNet, cHead, truV,go_sem, simprocAttr]) | (with_reducible refine bk ?_) | ((with_reducible refine' cE ?hv ?_ ?_); (case hv => first | rfl | (simp only [h4, h5', h7, h9, h12, h15, h17, h18, h67, h68, h69, h81, h82, k15, k17, hm, c2, hfg, hil, hz, cNet, cHead, truV,go_sem, simprocAttr]; rfl)); all_goals (intro hc; (try simp only [go_sem, simprocAttr] at hc); try (exfalso; omega))) | (first | refine iK (hlook) ?_) | with_reducible intro (ep : Nat → Nat) | with_reducible apply_assumption -exfalso -symm only [*])
        refine ⟨⟨_, rfl, rfl⟩, congrArg (Val.int .i64) ?_⟩
        rw [hstep, ← hall, if_pos rfl, hum]
        omega
       ·rw [if_neg hz]
        rw [if_neg hz] at hum
        repeat' (first | (with_reducible refine sk ?_; intro K hK) | ((first | (with_reducible first | refine rgL (id := 29) [] [101, 105] (md := { base := 0, own := [120], imp := [88] }) (h := ?_) | refine rgL (id := 29) [14, 17] [101, 105] (md := { base := 0, own := [120], imp := [88] }) (h := ?_) | refine rgL [] [101, 105] (md := { base := 0, own := [15, 120], imp := [88] }) (h := ?_) | refine rgL [14, 17] [101, 105] (md := { base := 0, own := [15, 120], imp := [88] }) (h := ?_) | refine nx ?_) | refine pK (hlook) ?_ | refine lK (hlook) ?_); try simp (disch := omega) only [h4, h5', h7, h9, h12, h15, h17, h18, h67, h68, h69, h81, h82, k15, k17, hm, c2, hfg, hil, hz, cNet, cHead, truV,go_sem, simprocAttr]) | (with_reducible refine bk ?_) | ((with_reducible refine' cE ?hv ?_ ?_); (case hv => first | rfl | (simp only [h4, h5', h7, h9, h12, h15, h17, h18, h67, h68, h69, h81, h82, k15, k17, hm, c2, hfg, hil, hz, cNet, cHead, truV,go_sem, simprocAttr]; rfl)); all_goals (intro hc; (try simp only [go_sem, simprocAttr] at hc); try (exfalso; omega))) | (first | refine iK (hlook) ?_) | with_reducible intro (ep : Nat → Nat) | with_reducible apply_assumption -exfalso -symm only [*])
        refine ⟨⟨_, rfl, rfl⟩, congrArg (Val.int .i64) ?_⟩
        rw [hstep, ← hall, if_pos rfl, hum]
        omega
      ·rw [c1] at hall
       rw [← hall]
       repeat' (first | (with_reducible refine sk ?_; intro K hK) | ((with_reducible first | refine rgL (id := 29) [] [101, 105] (md := { base := 0, own := [120], imp := [88] }) (h := ?_) | refine rgL (id := 29) [14, 17] [101, 105] (md := { base := 0, own := [120], imp := [88] }) (h := ?_) | refine rgL [] [101, 105] (md := { base := 0, own := [15, 120], imp := [88] }) (h := ?_) | refine rgL [14, 17] [101, 105] (md := { base := 0, own := [15, 120], imp := [88] }) (h := ?_) | refine nx ?_); try simp (disch := omega) only [h4, h5', h7, h9, h12, h15, h17, h18, h67, h68, h69, h81, h82, k15, k17, hm, c2, cNet, cHead,go_sem, simprocAttr]) | (with_reducible refine bk ?_) | ((with_reducible refine' cE ?hv ?_ ?_); (case hv => first | rfl | (simp only [h4, h5', h7, h9, h12, h15, h17, h18, h67, h68, h69, h81, h82, k15, k17, hm, c2, cNet, cHead,go_sem, simprocAttr]; rfl)); all_goals (intro hc; (try simp only [go_sem, simprocAttr] at hc); try (exfalso; omega))) | with_reducible intro (ep : Nat → Nat) | with_reducible apply_assumption -exfalso -symm only [*])
       exact ⟨⟨_, rfl, rfl⟩, congrArg (Val.int .i64) (by omega)⟩
     ·clear h4 h5' h7 h9 h12 h15 h67 h68 h69 hH15
      rintro f H h82 h81 ⟨⟨h4, h5', h7, h9, h12, h67, h69, h68, h15⟩, hH15, ⟨e17, h17, hH17⟩, h18⟩
      rw [← hG, hGG] at h18
      repeat' (first | (with_reducible refine sk ?_; intro K hK) | ((with_reducible first | refine rgL (id := 29) [] [101, 105] (md := { base := 0, own := [120], imp := [88] }) (h := ?_) | refine rgL (id := 29) [14, 17] [101, 105] (md := { base := 0, own := [120], imp := [88] }) (h := ?_) | refine rgL [] [101, 105] (md := { base := 0, own := [15, 120], imp := [88] }) (h := ?_) | refine rgL [14, 17] [101, 105] (md := { base := 0, own := [15, 120], imp := [88] }) (h := ?_) | refine nx ?_); try simp (disch := omega) only [h4, h5', h7, h9, h12, h15, h18, h67, h68, h69, hH15,go_sem, simprocAttr]) | (with_reducible refine bk ?_) | ((with_reducible refine' cE ?hv ?_ ?_); (case hv => first | rfl | (simp only [h4, h5', h7, h9, h12, h15, h18, h67, h68, h69, hH15,go_sem, simprocAttr]; rfl)); all_goals (intro hc; (try simp only [go_sem, simprocAttr] at hc); try (exfalso; omega))) | with_reducible intro (ep : Nat → Nat) | with_reducible apply_assumption -exfalso -symm only [*])
      exact ⟨by (and_intros <;> first | rfl | (simp only [h4, h5', h7, h9, h12, h15, h18, h67, h68, h69, go_sem, simprocAttr]; done) | (simp only [h4, h5', h7, h9, h12, h15, h18, h67, h68, h69, go_sem, simprocAttr]; rfl)), by (first | rfl | (simp only [hH15, go_sem, simprocAttr]; done) | (simp only [hH15, go_sem, simprocAttr]; rfl))⟩
   ·clear h4 h5' h7 h9 h12
    rintro f H h69 h68 ⟨⟨h4, h5', h7, h9, h12, h67⟩, e, h15, hH15⟩
    rw [List.take_of_length_le (Nat.le_refl _), hL] at h15 hH15
    repeat' (first | (with_reducible refine sk ?_; intro K hK) | ((with_reducible first | refine rgL (id := 29) [] [101, 105] (md := { base := 0, own := [120], imp := [88] }) (h := ?_) | refine rgL (id := 29) [14, 17] [101, 105] (md := { base := 0, own := [120], imp := [88] }) (h := ?_) | refine rgL [] [101, 105] (md := { base := 0, own := [15, 120], imp := [88] }) (h := ?_) | refine rgL [14, 17] [101, 105] (md := { base := 0, own := [15, 120], imp := [88] }) (h := ?_) | refine nx ?_); try simp (disch := omega) only [h15, hH15,go_sem, simprocAttr]) | (with_reducible refine bk ?_) | ((with_reducible refine' cE ?hv ?_ ?_); (case hv => first | rfl | (simp only [h15, hH15,go_sem, simprocAttr]; rfl)); all_goals (intro hc; (try simp only [go_sem, simprocAttr] at hc); try (exfalso; omega))) | with_reducible intro (ep : Nat → Nat) | with_reducible apply_assumption -exfalso -symm only [*])
    refine FnP_frz 15 (Or.inl rfl) (by (first | rfl | (simp only [hH15, go_sem, simprocAttr]; done) | (simp only [hH15, go_sem, simprocAttr]; rfl))) ⟨_, (by simp only [Try.f40, go_sem, simprocAttr]; rfl), ?_⟩
    simp only [go_sem, simprocAttr, List.length_map, hGG]
  clear hK
  repeat' (first | (with_reducible refine sk ?_; intro K hK) | ((with_reducible first | refine rgL (id := 29) [] [101, 105] (md := { base := 0, own := [120], imp := [88] }) (h := ?_) | refine rgL (id := 29) [14, 17] [101, 105] (md := { base := 0, own := [120], imp := [88] }) (h := ?_) | refine rgL [] [101, 105] (md := { base := 0, own := [15, 120], imp := [88] }) (h := ?_) | refine rgL [14, 17] [101, 105] (md := { base := 0, own := [15, 120], imp := [88] }) (h := ?_) | refine nx ?_); try simp (disch := omega) only [h2, h4, h5', h7, h9, h11, cNet,go_sem, simprocAttr]) | (with_reducible refine bk ?_) | ((with_reducible refine' cE ?hv ?_ ?_); (case hv => first | rfl | (simp only [h2, h4, h5', h7, h9, h11, cNet,go_sem, simprocAttr]; rfl)); all_goals (intro hc; (try simp only [go_sem, simprocAttr] at hc); try (exfalso; omega))) | ((with_reducible refine fe ?_); refine ⟨_, (by simp only [Try.f40, h2, h4, h5', h7, h9, h11, cNet,go_sem, simprocAttr]; rfl), ?_⟩; first | rfl | (try simp only [h2, h4, h5', h7, h9, h11, cNet,go_sem, simprocAttr, seval])) | with_reducible intro (ep : Nat → Nat) | with_reducible apply_assumption -exfalso -symm only [*])
  refine AW_range tabOK n.pumps.length (fun k f H => (f 2 = .lst 1 (ints out) ∧ f 4 = .pim (cNet n) ∧ f 5 = .pim [.lst 1 (ints l)] ∧ f 7 = .pim (truV full foul tank) ∧ f 9 = .fn 80 [.pim (cNet n), .pim [.lst 1 (ints l)]] ∧ f 11 = .int .i64 sh ∧ f 42 = .lst 3 (n.pumps.map cPump)) ∧ ∃ a, f 12 = .int .i64 a ∧ -1000000 ≤ a ∧ a ≤ 1073741824 ∧ capF out sh full n.pumps 0 1073741824 = capF out sh full (n.pumps.drop k) k a) (by omega) (by rw [hXs]; decide) (by decide) (by (first | rfl | (simp only [go_sem, simprocAttr]; done) | (simp only [go_sem, simprocAttr]; rfl))) (by (first | rfl | (simp only [go_sem, simprocAttr]; done) | (simp only [go_sem, simprocAttr]; rfl)))
   ⟨by (and_intros <;> first | rfl | (simp only [h2, h4, h5', h7, h9, h11, go_sem, simprocAttr]; done) | (simp only [h2, h4, h5', h7, h9, h11, go_sem, simprocAttr]; rfl)), _, by (first | rfl | (simp only [go_sem, simprocAttr]; done) | (simp only [go_sem, simprocAttr]; rfl)), by omega, by omega, by simp⟩ ?_ ?_
  ·clear h2 h4 h5' h7 h9 h11 hcutB
   rintro k f H hk h44 h43 ⟨⟨h2, h4, h5', h7, h9, h11, h42⟩, a, h12, ha1, ha2, hr⟩
   obtain ⟨p, hp⟩ : ∃ p, n.pumps[k]? = some p := ⟨_, List.getElem?_eq_getElem hk⟩
   have hpf := hF.pump p (List.mem_of_getElem? hp)
   have q1 : p.slope * sh ≤ 100 * sh := Int.mul_le_mul_of_nonneg_right hpf.2.2 hsb.1
   have q2 : 0 ≤ p.slope * sh := Int.mul_nonneg hpf.2.1 hsb.1
   have hfk := hfn k
   have hkl : k < full.length := by rw [hT.lenF]; exact hk
   have hfg := nth_get hkl
   have hh := hhas (k : Int)
   rw [drop_cons hp] at hr
   simp only [capF] at hr
   refine AW_keep [] ?_
   cases hc0 : out.contains (k : Int) with
   | true =>
    rw [hc0] at hh hr
    repeat' (first | (with_reducible refine sk ?_; intro K hK) | ((first | (with_reducible first | refine rgL (id := 29) [] [101, 105] (md := { base := 0, own := [120], imp := [88] }) (h := ?_) | refine rgL (id := 29) [14, 17] [101, 105] (md := { base := 0, own := [120], imp := [88] }) (h := ?_) | refine rgL [] [101, 105] (md := { base := 0, own := [15, 120], imp := [88] }) (h := ?_) | refine rgL [14, 17] [101, 105] (md := { base := 0, own := [15, 120], imp := [88] }) (h := ?_) | refine nx ?_) | refine pK (hh) ?_ | refine lK (hh) ?_); try simp (disch := omega) only [h2, h4, h5', h7, h9, h11, h12, h42, h43, h44, hp, cPump,go_sem, simprocAttr]) | (with_reducible refine bk ?_) | ((with_reducible refine' cE ?hv ?_ ?_); (case hv => first | rfl | (simp only [h2, h4, h5', h7, h9, h11, h12, h42, h43, h44, hp, cPump,go_sem, simprocAttr]; rfl)); all_goals (intro hc; (try simp only [go_sem, simprocAttr] at hc); try (exfalso; omega))) | (first | refine iK (hh) ?_) | ((with_reducible refine fe ?_); refine ⟨_, (by simp only [Try.f40, h2, h4, h5', h7, h9, h11, h12, h42, h43, h44, hp, cPump,go_sem, simprocAttr]; rfl), ?_⟩; first | rfl | (try simp only [h2, h4, h5', h7, h9, h11, h12, h42, h43, h44, hp, cPump,go_sem, simprocAttr, seval])) | with_reducible intro (ep : Nat → Nat) | with_reducible apply_assumption -exfalso -symm only [*])
    exact ⟨a, rfl, ha1, ha2, hr⟩
   | false =>
    rw [hc0] at hh hr
    repeat' (first | (with_reducible refine sk ?_; intro K hK) | ((first | (with_reducible first | refine rgL (id := 29) [] [101, 105] (md := { base := 0, own := [120], imp := [88] }) (h := ?_) | refine rgL (id := 29) [14, 17] [101, 105] (md := { base := 0, own := [120], imp := [88] }) (h := ?_) | refine rgL [] [101, 105] (md := { base := 0, own := [15, 120], imp := [88] }) (h := ?_) | refine rgL [14, 17] [101, 105] (md := { base := 0, own := [15, 120], imp := [88] }) (h := ?_) | refine nx ?_) | refine pK (hh) ?_ | refine lK (hh) ?_); try simp (disch := omega) only [h2, h4, h5', h7, h9, h11, h12, h42, h43, h44, hp, hfg, hkl, cPump, truV,go_sem, simprocAttr]) | (with_reducible refine bk ?_) | ((with_reducible refine' cE ?hv ?_ ?_); (case hv => first | rfl | (simp only [h2, h4, h5', h7, h9, h11, h12, h42, h43, h44, hp, hfg, hkl, cPump, truV,go_sem, simprocAttr]; rfl)); all_goals (intro hc; (try simp only [go_sem, simprocAttr] at hc); try (exfalso; omega))) | (first | refine iK (hh) ?_) | ((with_reducible refine fe ?_); refine ⟨_, (by simp only [Try.f40, h2, h4, h5', h7, h9, h11, h12, h42, h43, h44, hp, hfg, hkl, cPump, truV,go_sem, simprocAttr]; rfl), ?_⟩; first | rfl | (try simp only [h2, h4, h5', h7, h9, h11, h12, h42, h43, h44, hp, hfg, hkl, cPump, truV,go_sem, simprocAttr, seval])) | with_reducible intro (ep : Nat → Nat) | with_reducible apply_assumption -exfalso -symm only [*])
    exact ⟨_, rfl, by omega, by omega, hr⟩
  ·clear h2 h4 h5' h7 h9 h11
   rintro f H h44 h43 ⟨⟨h2, h4, h5', h7, h9, h11, h42⟩, a, h12, ha1, ha2, hr⟩
   rw [drop_none (Nat.le_refl _)] at hr
   simp only [capF] at hr
   have hpe : pumpsG n L out full = a := by unfold pumpsG; rw [hsh]; exact hr
   repeat' (first | (with_reducible refine sk ?_; intro K hK) | ((with_reducible first | refine rgL (id := 29) [] [101, 105] (md := { base := 0, own := [120], imp := [88] }) (h := ?_) | refine rgL (id := 29) [14, 17] [101, 105] (md := { base := 0, own := [120], imp := [88] }) (h := ?_) | refine rgL [] [101, 105] (md := { base := 0, own := [15, 120], imp := [88] }) (h := ?_) | refine rgL [14, 17] [101, 105] (md := { base := 0, own := [15, 120], imp := [88] }) (h := ?_) | refine nx ?_); try simp (disch := omega) only [h4, h5', h7, h9, h12,go_sem, simprocAttr]) | (with_reducible refine bk ?_) | ((with_reducible refine' cE ?hv ?_ ?_); (case hv => first | rfl | (simp only [h4, h5', h7, h9, h12,go_sem, simprocAttr]; rfl)); all_goals (intro hc; (try simp only [go_sem, simprocAttr] at hc); try (exfalso; omega))) | ((with_reducible refine fe ?_); refine ⟨_, (by simp only [Try.f40, h4, h5', h7, h9, h12,go_sem, simprocAttr]; rfl), ?_⟩; first | rfl | (try simp only [h4, h5', h7, h9, h12,go_sem, simprocAttr, seval])) | with_reducible intro (ep : Nat → Nat) | with_reducible apply_assumption -exfalso -symm only [*])
   exact ⟨by (first | rfl | (simp only [h4, go_sem, simprocAttr]; done) | (simp only [h4, go_sem, simprocAttr]; rfl)), by (first | rfl | (simp only [h5', go_sem, simprocAttr]; done) | (simp only [h5', go_sem, simprocAttr]; rfl)), by (first | rfl | (simp only [h7, go_sem, simprocAttr]; done) | (simp only [h7, go_sem, simprocAttr]; rfl)), by (first | rfl | (simp only [h9, go_sem, simprocAttr]; done) | (simp only [h9, go_sem, simprocAttr]; rfl)), by rw [hpe]; (first | rfl | (simp only [h12, go_sem, simprocAttr]; done) | (simp only [h12, go_sem, simprocAttr]; rfl))⟩
 clear hK
 by_cases hlt : q0 * w < needs L
 ·rw [if_pos hlt] at hq
  repeat' (first | (with_reducible refine sk ?_; intro K hK) | ((first | (with_reducible first | refine rgL (id := 29) [] [101, 105] (md := { base := 0, own := [120], imp := [88] }) (h := ?_) | refine rgL (id := 29) [14, 17] [101, 105] (md := { base := 0, own := [120], imp := [88] }) (h := ?_) | refine rgL [] [101, 105] (md := { base := 0, own := [15, 120], imp := [88] }) (h := ?_) | refine rgL [14, 17] [101, 105] (md := { base := 0, own := [15, 120], imp := [88] }) (h := ?_) | refine nx ?_) | refine pK (hnil) ?_ | refine lK (hnil) ?_); try simp (disch := omega) only [hlt, cNet, truV,go_sem, simprocAttr]) | (with_reducible refine bk ?_) | ((with_reducible refine' cE ?hv ?_ ?_); (case hv => first | rfl | (simp only [hlt, cNet, truV,go_sem, simprocAttr]; rfl)); all_goals (intro hc; (try simp only [go_sem, simprocAttr] at hc); try (exfalso; omega))) | (first | refine iK (hnil) ?_) | ((with_reducible refine fe ?_); refine ⟨_, (by simp only [Try.f40, hlt, cNet, truV,go_sem, simprocAttr]; rfl), ?_⟩; first | rfl | (try simp only [hlt, cNet, truV,go_sem, simprocAttr, seval])) | with_reducible intro (ep : Nat → Nat) | with_reducible apply_assumption -exfalso -symm only [*])
  exact ⟨by (first | rfl | (simp only [go_sem, simprocAttr]; done) | (simp only [go_sem, simprocAttr]; rfl)), by (first | rfl | (simp only [cNet, go_sem, simprocAttr]; done) | (simp only [cNet, go_sem, simprocAttr]; rfl)), by (first | rfl | (simp only [go_sem, simprocAttr]; done) | (simp only [go_sem, simprocAttr]; rfl)), by (first | rfl | (simp only [truV, go_sem, simprocAttr]; done) | (simp only [truV, go_sem, simprocAttr]; rfl)), by (first | rfl | (simp only [cNet, go_sem, simprocAttr]; done) | (simp only [cNet, go_sem, simprocAttr]; rfl)), by rw [hq]; (first | rfl | (simp only [go_sem, simprocAttr]; done) | (simp only [go_sem, simprocAttr]; rfl))⟩
 ·rw [if_neg hlt] at hq
  repeat' (first | (with_reducible refine sk ?_; intro K hK) | ((first | (with_reducible first | refine rgL (id := 29) [] [101, 105] (md := { base := 0, own := [120], imp := [88] }) (h := ?_) | refine rgL (id := 29) [14, 17] [101, 105] (md := { base := 0, own := [120], imp := [88] }) (h := ?_) | refine rgL [] [101, 105] (md := { base := 0, own := [15, 120], imp := [88] }) (h := ?_) | refine rgL [14, 17] [101, 105] (md := { base := 0, own := [15, 120], imp := [88] }) (h := ?_) | refine nx ?_) | refine pK (hnil) ?_ | refine lK (hnil) ?_); try simp (disch := omega) only [hlt, cNet, truV,go_sem, simprocAttr]) | (with_reducible refine bk ?_) | ((with_reducible refine' cE ?hv ?_ ?_); (case hv => first | rfl | (simp only [hlt, cNet, truV,go_sem, simprocAttr]; rfl)); all_goals (intro hc; (try simp only [go_sem, simprocAttr] at hc); try (exfalso; omega))) | (first | refine iK (hnil) ?_) | ((with_reducible refine fe ?_); refine ⟨_, (by simp only [Try.f40, hlt, cNet, truV,go_sem, simprocAttr]; rfl), ?_⟩; first | rfl | (try simp only [hlt, cNet, truV,go_sem, simprocAttr, seval])) | with_reducible intro (ep : Nat → Nat) | with_reducible apply_assumption -exfalso -symm only [*])
  exact ⟨by (first | rfl | (simp only [go_sem, simprocAttr]; done) | (simp only [go_sem, simprocAttr]; rfl)), by (first | rfl | (simp only [cNet, go_sem, simprocAttr]; done) | (simp only [cNet, go_sem, simprocAttr]; rfl)), by (first | rfl | (simp only [go_sem, simprocAttr]; done) | (simp only [go_sem, simprocAttr]; rfl)), by (first | rfl | (simp only [truV, go_sem, simprocAttr]; done) | (simp only [truV, go_sem, simprocAttr]; rfl)), by (first | rfl | (simp only [cNet, go_sem, simprocAttr]; done) | (simp only [cNet, go_sem, simprocAttr]; rfl)), by rw [hq]; (first | rfl | (simp only [go_sem, simprocAttr]; done) | (simp only [go_sem, simprocAttr]; rfl))⟩
end Cp
namespace Cp
open Go Go.Proofs
set_option maxRecDepth 10000
set_option maxHeartbeats 1000000
theorem PlH.frz {n : NetT} {hs : List HeadT} {out : List Int} {e36 e33 e34 : Nat} {H : Hp} (h : PlH n hs out e36 e33 e34 H) : PlH n hs out e36 e33 e34 (frzH H) := by
 obtain ⟨h1, h2, ver, h3⟩ := h
 exact ⟨by simp only [frzH, frz1_idem]; exact h1, by simp only [frzH, frz1_idem]; exact h2, ver, by simp only [frzH, frz1_idem]; exact h3⟩
theorem foul_neg (best : Bool) (p : PipeT) : (if (!best) = true then p.foul.hi else p.foul.lo) = foulE best p := by cases best <;> rfl
theorem pumpsS_bnd {n : NetT} (hF : NetF n) {hs : List HeadT} (h5 : heads500 hs) (hsl : hs.length ≤ 20) {out : List Int} (ho : outOK n out = true) (best : Bool) : -1000000 ≤ pumpsS n hs out best ∧ pumpsS n hs out best ≤ 200000 := by
 obtain ⟨o1, o2, o3⟩ := out_facts ho
 have hno := hF.out
 have hnb := needs_bnd h5
 have hsb := share_bnd (n := n) (flow := needs hs) (out := out) (by omega) (by omega)
 exact pumpsF_bnd ⟨hsb.1, by omega⟩ hF.pump (by omega)
theorem pressure_look (n : NetT) (hF : NetF n) (hs : List HeadT) (h5 : heads500 hs) (hsl : hs.length ≤ 20) (out : List Int) (ho : outOK n out = true) (best : Bool) (h : HeadT) (hnd : 1 ≤ h.node ∧ h.node ≤ n.pipes.length) (e36 e33 e34 : Nat) (H : Hp) (hP : PlH n hs out e36 e33 e34 H) (hroom : H 1208 = none) :
  LookC Try.prog 61 [.ptr 436 e36 10 0 0, encHead h, endV best] H (.int .i64 (pressS n hs out best h)) := by
 have hpm := pumps_look n hF hs h5 hsl out ho best e36 e33 e34 (frzH H) hP.frz (by simp only [frzH, hroom]; rfl)
 obtain ⟨h36, h33, ver, h34⟩ := hP
 have hnb := needs_bnd h5
 have hpl := hF.pipes
 have hpb := pumpsS_bnd hF h5 hsl ho best
 obtain ⟨pm, hpme⟩ : ∃ pm, pumpsS n hs out best = pm := ⟨_, rfl⟩
 unfold pressS
 rw [hpme] at hpm hpb ⊢
 simp only [endV] at hpm
 refine LookC_of (fn := Try.f61) tabOK (by kernel_rfl) rfl (by kernel_rfl) (by simp [Try.f61]) rfl ?_
 intro X hX0 hXs
 have hcast : ((h.node.toNat : Nat) : Int) = h.node := by omega
 repeat' (first | ((fail_if_success (with_reducible refine AW_at (id := 3) ?_)); with_reducible refine sk ?_; intro K hK) | ((first | (with_reducible first | refine rgL [] [11] (md := { base := 1300, own := [] }) (h := ?_) | refine nx ?_) | refine pK (hpm) ?_ | refine lK (hpm) ?_); try simp (disch := omega) only [h36, h33, h34, encHead, cHead, endV,go_sem, simprocAttr]) | (with_reducible refine bk ?_) | ((with_reducible refine' cE ?hv ?_ ?_); (case hv => first | rfl | (simp only [h36, h33, h34, encHead, cHead, endV,go_sem, simprocAttr]; rfl)); all_goals (intro hc; (try simp only [go_sem, simprocAttr] at hc); try (exfalso; omega))) | ((with_reducible refine fe ?_); refine ⟨_, (by simp only [Try.f61, h36, h33, h34, encHead, cHead, endV,go_sem, simprocAttr]; rfl), ?_⟩; first | rfl | (try simp only [h36, h33, h34, encHead, cHead, endV,go_sem, simprocAttr, seval])) | with_reducible intro (ep : Nat → Nat) | with_reducible apply_assumption -exfalso -symm only [*])
 refine AW_block (AW_loop (fun j f H => j ≤ n.pipes.length ∧ (f 0 = .ptr 436 e36 10 0 0 ∧ f 5 = .pim [.fn (sgF best) [], .fn (sgF (!best)) []] ∧ f 8 = .int .i64 j) ∧ (H 436 = some (e36, .fro 10 [cPlant n hs e33 e34 (n.pipes.length + 1)]) ∧ H 433 = some (e33, .fro 1 (ints (flowL n.pipes (n.pipes.length + 1) hs)))) ∧
   ∃ bar, f 7 = .int .i64 bar ∧ bar - lossL n.pipes hs best (path n.pipes j) = pm - lossL n.pipes hs best (path n.pipes h.node.toNat) ∧ -1000000 - 100000001 * ((n.pipes.length : Int) - j) ≤ bar ∧ bar ≤ 200000) h.node.toNat
  ⟨by omega, by (and_intros <;> first | rfl | (simp only [h36, hcast, go_sem, simprocAttr]; done) | (simp only [h36, hcast, go_sem, simprocAttr]; rfl)), by (and_intros <;> first | rfl | (simp only [h36, h33, cPlant, go_sem, simprocAttr]; done) | (simp only [h36, h33, cPlant, go_sem, simprocAttr]; rfl)), pm, by (first | rfl | (simp only [go_sem, simprocAttr]; done) | (simp only [go_sem, simprocAttr]; rfl)), rfl, by omega, by omega⟩ ?_)
 rintro j f H ⟨hj, ⟨h0, h5', h8⟩, ⟨g36, g33⟩, bar, h7, hr, hb1, hb2⟩
 refine AW_keep [436, 433] ?_
 by_cases hz : j = 0
 ·subst hz
  rw [path_zero, lossL, Int.sub_zero] at hr
  repeat' (first | (with_reducible refine sk ?_; intro K hK) | ((with_reducible first | refine rgL [] [11] (md := { base := 1300, own := [] }) (h := ?_) | refine nx ?_); try simp (disch := omega) only [h0, h5', h7, h8, g36, g33,go_sem, simprocAttr]) | (with_reducible refine bk ?_) | ((with_reducible refine' cE ?hv ?_ ?_); (case hv => first | rfl | (simp only [h0, h5', h7, h8, g36, g33,go_sem, simprocAttr]; rfl)); all_goals (intro hc; (try simp only [go_sem, simprocAttr] at hc); try (exfalso; omega))) | ((with_reducible refine fe ?_); refine ⟨_, (by simp only [Try.f61, h0, h5', h7, h8, g36, g33,go_sem, simprocAttr]; rfl), ?_⟩; first | rfl | (try simp only [h0, h5', h7, h8, g36, g33,go_sem, simprocAttr, seval])) | with_reducible intro (ep : Nat → Nat) | with_reducible apply_assumption -exfalso -symm only [*])
  all_goals rw [hr]
 ·obtain ⟨i, rfl⟩ : ∃ i, j = i + 1 := ⟨j - 1, by omega⟩
  obtain ⟨p, hp⟩ : ∃ p, n.pipes[i]? = some p := ⟨_, List.getElem?_eq_getElem (by omega)⟩
  have hpf := hF.pipe i p hp
  have hfb := foulE_bnd hpf.2.2 best
  have hfl := flowAt_bnd (ps := n.pipes) (j := i + 1) h5
  have hfg : (flowL n.pipes (n.pipes.length + 1) hs)[i + 1]? = some (flowAt n.pipes (i + 1) hs) := flowL_get (by omega)
  have hlb := loss_bnd hfb (x := flowAt n.pipes (i + 1) hs) (by omega)
  have hup := sup_ok (foulE best p * flowAt n.pipes (i + 1) hs * flowAt n.pipes (i + 1) hs) 1000 (by omega) (by omega)
  have hub := upD_bnd (a := foulE best p * flowAt n.pipes (i + 1) hs * flowAt n.pipes (i + 1) hs) (b := 1000) hlb.1 (by omega)
  have hub2 : upD (foulE best p * flowAt n.pipes (i + 1) hs * flowAt n.pipes (i + 1) hs) 1000 ≤ 100000001 := by unfold upD; omega
  have hmm : 0 ≤ foulE best p * flowAt n.pipes (i + 1) hs ∧ foulE best p * flowAt n.pipes (i + 1) hs ≤ 10000000 := ⟨Int.mul_nonneg hfb.1 hfl.1, Int.le_trans (Int.mul_le_mul hfb.2 (by omega : flowAt n.pipes (i + 1) hs ≤ 10000) hfl.1 (by omega)) (by omega)⟩
  have hst := path_step hF.falls (k := i + 1) (by omega)
  have hfe : frmOf n.pipes (i + 1) = p.frm.toNat := frmOf_get hp
  rw [hst, lossL] at hr
  have hla : lossAt n.pipes hs best (i + 1) = upD (foulE best p * flowAt n.pipes (i + 1) hs * flowAt n.pipes (i + 1) hs) 1000 := by unfold lossAt; rw [Nat.add_sub_cancel, hp]
  rw [hla] at hr
  have hsg := sg_ok (!best) p.foul
  rw [foul_neg] at hsg
  simp only [encSpan] at hsg
  have hkp : (0 : Int) < ((i + 1 : Nat) : Int) := by omega
  have hil : i + 1 < n.pipes.length + 1 := by omega
  have hfr : p.frm = ((frmOf n.pipes (i + 1) : Nat) : Int) := by omega
  have hlt := frmOf_lt hF.falls (k := i + 1) (by omega)
  obtain ⟨fl, hfle⟩ : ∃ fl, flowAt n.pipes (i + 1) hs = fl := ⟨_, rfl⟩
  obtain ⟨up, hupe⟩ : ∃ up, upD (foulE best p * fl * fl) 1000 = up := ⟨_, rfl⟩
  rw [hfle] at hfg hup hub hub2 hmm hr hlb
  rw [hupe] at hup hub hub2 hr
  repeat' (first | (with_reducible refine sk ?_; intro K hK) | ((first | (with_reducible first | refine rgL [] [11] (md := { base := 1300, own := [] }) (h := ?_) | refine nx ?_) | refine pK (hsg) ?_ | refine pK (hup) ?_ | refine lK (hsg) ?_ | refine lK (hup) ?_); try simp (disch := omega) only [h0, h5', h7, h8, g36, g33, hp, hfg, hkp, hil, flowL_len, hfr, cPlant, cPipe, encSpan,go_sem, simprocAttr]) | (with_reducible refine bk ?_) | ((with_reducible refine' cE ?hv ?_ ?_); (case hv => first | rfl | (simp only [h0, h5', h7, h8, g36, g33, hp, hfg, hkp, hil, flowL_len, hfr, cPlant, cPipe, encSpan,go_sem, simprocAttr]; rfl)); all_goals (intro hc; (try simp only [go_sem, simprocAttr] at hc); try (exfalso; omega))) | ((with_reducible refine fe ?_); refine ⟨_, (by simp only [Try.f61, h0, h5', h7, h8, g36, g33, hp, hfg, hkp, hil, flowL_len, hfr, cPlant, cPipe, encSpan,go_sem, simprocAttr]; rfl), ?_⟩; first | rfl | (try simp only [h0, h5', h7, h8, g36, g33, hp, hfg, hkp, hil, flowL_len, hfr, cPlant, cPipe, encSpan,go_sem, simprocAttr, seval])) | with_reducible intro (ep : Nat → Nat) | with_reducible apply_assumption -exfalso -symm only [*])
  exact ⟨frmOf n.pipes (i + 1), hlt, by omega, rfl, bar - up, rfl, by omega, by omega, by omega⟩
theorem findI_end {i : Int} {v : Val} : ∀ {l : List (Int × Val)} {s : Nat}, (∀ p ∈ l, ¬ p.1 = i) → findI i l s = none
 | [], s, _ => rfl
 | p :: l, s, h => by
  simp only [findI]
  rw [if_neg (fun e => h p (by simp) e.symm)]
  exact findI_end (v := v) fun q hq => h q (by simp [hq])
theorem offM_snoc {l : List Int} {a : Int} : imap .i64 (offM l) ++ [(.int .i64 a, .bool true)] = imap .i64 (offM (l ++ [a])) := by simp [imap, offM]
theorem without_ok (n : NetT) (hs : List HeadT) (e36 e33 e34 ver : Nat) (out : List Int) (hlo : out.length ≤ 100000) (hp : out.Pairwise (· < ·)) (g : FuncId) (caps : List Val) (hnc : caps.length ≤ 3) (H0 : Hp)
  (h36 : H0 436 = some (e36, .arr 10 [cPlant n hs e33 e34 (n.pipes.length + 1)])) (h34 : H0 434 = some (e34, .map ver [])) (R : Hp → Prop)
  (hg : ∀ (ver' : Nat) (H : Hp), (∀ j, ¬ j = 434 → H j = H0 j) → H 434 = some (e34, .map ver' (imap .i64 (offM out))) → ACall Try.prog g caps H fun v H' => v = .tup [] ∧ H' 436 = H 436 ∧ (∃ ver2, H' 434 = some (e34, .map ver2 (imap .i64 (offM out)))) ∧ R H') :
  ACall Try.prog 58 [.ptr 436 e36 10 0 0, .lst 1 (ints out), .fn g caps] H0 fun v H' => v = .tup [] ∧ ∃ H2 ver2, R H2 ∧ (∀ j, ¬ j = 434 → H' j = H2 j) ∧ H' 434 = some (e34, .map ver2 []) := by
 refine ACall_of (fn := Try.f58) tabOK (by kernel_rfl) rfl (by kernel_rfl) (by simp [Try.f58]) ?_
 intro X hX0 hXs
 repeat' (first | ((fail_if_success (with_reducible refine AW_at (id := 0) ?_)); with_reducible refine sk ?_; intro K hK) | ((with_reducible first | refine rg (md := { base := 1400, own := [], imp := [23] }) (h := ?_) | refine nx ?_); try simp (disch := omega) only [go_sem, simprocAttr]) | (with_reducible refine bk ?_) | ((with_reducible refine' cE ?hv ?_ ?_); (case hv => first | rfl | (simp only [go_sem, simprocAttr]; rfl)); all_goals (intro hc; (try simp only [go_sem, simprocAttr] at hc); try (exfalso; omega))) | ((with_reducible refine fe ?_); refine ⟨_, (by simp only [Try.f58, go_sem, simprocAttr]; rfl), ?_⟩; first | rfl | (try simp only [go_sem, simprocAttr, seval])) | with_reducible intro (ep : Nat → Nat) | with_reducible apply_assumption -exfalso -symm only [*])
 have hcut : ∀ f H, (f 0 = .ptr 436 e36 10 0 0 ∧ f 1 = .lst 1 (ints out) ∧ f 2 = .fn g caps) ∧ (∀ j, ¬ j = 434 → H j = H0 j) ∧ (∃ ver', H 434 = some (e34, .map ver' (imap .i64 (offM out)))) → K f H := by
  rintro f H ⟨⟨h0, h1, h2⟩, hlow, ver', hm⟩
  refine hK f H ?_
  clear hK
  have k36 : H 436 = some (e36, .arr 10 [cPlant n hs e33 e34 (n.pipes.length + 1)]) := by rw [hlow _ (by decide), h36]
  repeat' (first | ((fail_if_success (with_reducible refine AW_at (id := 6) ?_)); with_reducible refine sk ?_; intro K hK) | ((first | (with_reducible first | refine rg (md := { base := 1400, own := [], imp := [23] }) (h := ?_) | refine nx ?_) | refine pK (hg ver' H hlow hm) ?_); try simp (disch := omega) only [h0, h1, h2,go_sem, simprocAttr]) | (with_reducible refine bk ?_) | ((with_reducible refine' cE ?hv ?_ ?_); (case hv => first | rfl | (simp only [h0, h1, h2,go_sem, simprocAttr]; rfl)); all_goals (intro hc; (try simp only [go_sem, simprocAttr] at hc); try (exfalso; omega))) | (first | refine iK (hg ver' H hlow hm) ?_) | ((with_reducible refine fe ?_); refine ⟨_, (by simp only [Try.f58, h0, h1, h2,go_sem, simprocAttr]; rfl), ?_⟩; first | rfl | (try simp only [h0, h1, h2,go_sem, simprocAttr, seval])) | with_reducible intro (ep : Nat → Nat) | with_reducible apply_assumption -exfalso -symm only [*])
  rintro v H2 ⟨rfl, k36', ⟨ver2, hm2⟩, hR⟩
  rw [k36] at k36'
  simp only [go_sem, simprocAttr]
  repeat' (first | (with_reducible refine sk ?_; intro K hK) | ((with_reducible first | refine rg (md := { base := 1400, own := [], imp := [23] }) (h := ?_) | refine nx ?_); try simp (disch := omega) only [h0, h1,go_sem, simprocAttr]) | (with_reducible refine bk ?_) | ((with_reducible refine' cE ?hv ?_ ?_); (case hv => first | rfl | (simp only [h0, h1,go_sem, simprocAttr]; rfl)); all_goals (intro hc; (try simp only [go_sem, simprocAttr] at hc); try (exfalso; omega))) | with_reducible intro (ep : Nat → Nat) | with_reducible apply_assumption -exfalso -symm only [*])
  refine AW_range tabOK out.length (fun k f H => (f 0 = .ptr 436 e36 10 0 0 ∧ f 24 = .lst 1 (ints out)) ∧ (∀ j, ¬ j = 434 → H j = H2 j) ∧ ∃ v, H 434 = some (e34, .map v (imap .i64 (offM (out.drop k))))) (by omega) (by rw [hXs]; decide) (by decide) (by (first | rfl | (simp only [go_sem, simprocAttr]; done) | (simp only [go_sem, simprocAttr]; rfl))) (by (first | rfl | (simp only [go_sem, simprocAttr]; done) | (simp only [go_sem, simprocAttr]; rfl)))
   ⟨by (and_intros <;> first | rfl | (simp only [h0, h1, go_sem, simprocAttr]; done) | (simp only [h0, h1, go_sem, simprocAttr]; rfl)), fun j _ => rfl, ver2, by rw [List.drop_zero]; exact hm2⟩ ?_ ?_
  ·clear h0 h1 h2 hm
   rintro k f H3 hk h26 h25 ⟨⟨h0, h24⟩, hlow3, v, hm⟩
   obtain ⟨x, hx⟩ : ∃ x, out[k]? = some x := ⟨_, List.getElem?_eq_getElem hk⟩
   have q36 : H3 436 = some (e36, .arr 10 [cPlant n hs e33 e34 (n.pipes.length + 1)]) := by rw [hlow3 _ (by decide), k36']
   rw [drop_cons hx] at hm
   have hf : findI x (offM (x :: out.drop (k + 1))) 0 = some (0, .bool true) := by simp [offM, findI]
   have he : (imap .i64 (offM (x :: out.drop (k + 1)))).eraseIdx 0 = imap .i64 (offM (out.drop (k + 1))) := by simp [imap, offM]
   repeat' (first | (with_reducible refine sk ?_; intro K hK) | ((with_reducible first | refine rg (md := { base := 1400, own := [], imp := [23] }) (h := ?_) | refine nx ?_); try simp (disch := omega) only [h0, h24, h25, h26, hx, q36, hm, hf, he, cPlant,go_sem, simprocAttr]) | (with_reducible refine bk ?_) | ((with_reducible refine' cE ?hv ?_ ?_); (case hv => first | rfl | (simp only [h0, h24, h25, h26, hx, q36, hm, hf, he, cPlant,go_sem, simprocAttr]; rfl)); all_goals (intro hc; (try simp only [go_sem, simprocAttr] at hc); try (exfalso; omega))) | with_reducible intro (ep : Nat → Nat) | with_reducible apply_assumption -exfalso -symm only [*])
   exact ⟨fun j hj => by rw [if_neg hj]; exact hlow3 j hj, _, rfl⟩
  ·clear h0 h1 h2 hm
   rintro f H3 h26 h25 ⟨⟨h0, h24⟩, hlow3, v, hm⟩
   rw [drop_none (Nat.le_refl _)] at hm
   refine FnQ_end (Or.inr rfl) (.refl _) (by simp only [Try.f58, go_sem, simprocAttr]; rfl) ?_
   exact ⟨rfl, H2, v, hR, hlow3, hm⟩
 clear hK
 repeat' (first | (with_reducible refine sk ?_; intro K hK) | ((with_reducible first | refine rg (md := { base := 1400, own := [], imp := [23] }) (h := ?_) | refine nx ?_); try simp (disch := omega) only [go_sem, simprocAttr]) | (with_reducible refine bk ?_) | ((with_reducible refine' cE ?hv ?_ ?_); (case hv => first | rfl | (simp only [go_sem, simprocAttr]; rfl)); all_goals (intro hc; (try simp only [go_sem, simprocAttr] at hc); try (exfalso; omega))) | with_reducible intro (ep : Nat → Nat) | with_reducible apply_assumption -exfalso -symm only [*])
 refine AW_range tabOK out.length (fun k f H => (f 0 = .ptr 436 e36 10 0 0 ∧ f 1 = .lst 1 (ints out) ∧ f 2 = .fn g caps ∧ f 10 = .lst 1 (ints out)) ∧ (∀ j, ¬ j = 434 → H j = H0 j) ∧ ∃ v, H 434 = some (e34, .map v (imap .i64 (offM (out.take k))))) (by omega) (by rw [hXs]; decide) (by decide) (by (first | rfl | (simp only [go_sem, simprocAttr]; done) | (simp only [go_sem, simprocAttr]; rfl))) (by (first | rfl | (simp only [go_sem, simprocAttr]; done) | (simp only [go_sem, simprocAttr]; rfl)))
  ⟨by (and_intros <;> first | rfl | (simp only [go_sem, simprocAttr]; done) | (simp only [go_sem, simprocAttr]; rfl)), fun j _ => rfl, ver, by rw [List.take_zero]; exact h34⟩ ?_ ?_
 ·clear hcut
  rintro k f H3 hk h12 h11 ⟨⟨h0, h1, h2, h10⟩, hlow3, v, hm⟩
  obtain ⟨x, hx⟩ : ∃ x, out[k]? = some x := ⟨_, List.getElem?_eq_getElem hk⟩
  have q36 : H3 436 = some (e36, .arr 10 [cPlant n hs e33 e34 (n.pipes.length + 1)]) := by rw [hlow3 _ (by decide), h36]
  have hf : findI x (offM (out.take k)) 0 = none := findI_end (v := .any) fun p hq => by
   obtain ⟨y, hy, rfl⟩ := List.mem_map.1 hq
   obtain ⟨i, hi⟩ := List.mem_iff_getElem?.1 hy
   have hik : i < k := by have := (List.getElem?_eq_some_iff.1 hi).1; simp at this; omega
   rw [List.getElem?_take_of_lt hik] at hi
   obtain ⟨z1, rfl⟩ := List.getElem?_eq_some_iff.1 hi
   obtain ⟨z2, rfl⟩ := List.getElem?_eq_some_iff.1 hx
   have := List.pairwise_iff_getElem.1 hp i k z1 z2 hik
   simp only; omega
  repeat' (first | (with_reducible refine sk ?_; intro K hK) | ((with_reducible first | refine rg (md := { base := 1400, own := [], imp := [23] }) (h := ?_) | refine nx ?_); try simp (disch := omega) only [h0, h1, h2, h10, h11, h12, hx, q36, hm, hf, cPlant,go_sem, simprocAttr]) | (with_reducible refine bk ?_) | ((with_reducible refine' cE ?hv ?_ ?_); (case hv => first | rfl | (simp only [h0, h1, h2, h10, h11, h12, hx, q36, hm, hf, cPlant,go_sem, simprocAttr]; rfl)); all_goals (intro hc; (try simp only [go_sem, simprocAttr] at hc); try (exfalso; omega))) | with_reducible intro (ep : Nat → Nat) | with_reducible apply_assumption -exfalso -symm only [*])
  exact ⟨fun j hj => by rw [if_neg hj]; exact hlow3 j hj, _, by rw [offM_snoc, take_snoc' hx]⟩
 ·rintro f H3 h12 h11 ⟨⟨h0, h1, h2, h10⟩, hlow3, v, hm⟩
  rw [List.take_of_length_le (Nat.le_refl _)] at hm
  repeat' (first | (with_reducible refine sk ?_; intro K hK) | ((with_reducible first | refine rg (md := { base := 1400, own := [], imp := [23] }) (h := ?_) | refine nx ?_); try simp (disch := omega) only [h0, h1, h2,go_sem, simprocAttr]) | (with_reducible refine bk ?_) | ((with_reducible refine' cE ?hv ?_ ?_); (case hv => first | rfl | (simp only [h0, h1, h2,go_sem, simprocAttr]; rfl)); all_goals (intro hc; (try simp only [go_sem, simprocAttr] at hc); try (exfalso; omega))) | with_reducible intro (ep : Nat → Nat) | with_reducible apply_assumption -exfalso -symm only [*])
  exact ⟨by (and_intros <;> first | rfl | (simp only [h0, h1, h2, go_sem, simprocAttr]; done) | (simp only [h0, h1, h2, go_sem, simprocAttr]; rfl)), hlow3, v, hm⟩
end Cp
namespace Cp
open Go Go.Proofs
set_option maxRecDepth 10000
set_option maxHeartbeats 1000000
end Cp
namespace Cp
open Go Go.Proofs
set_option maxRecDepth 10000
set_option maxHeartbeats 1000000
theorem press1_ok (j : Int) (h : PumpT) : PureC Try.prog 57 [.int .i64 j, .agg (cPump h)] (.int .i64 j) := by
 refine PureC_of (fn := Try.f57) tabOK (by kernel_rfl) rfl (by kernel_rfl) (by simp [Try.f57]) (by simp [noids, noid, noidss, go_sem, cPump]) (by first | rfl | simp [noids, noid, noidss, go_sem, cPump]) ?_
 intro X hX0 hXs
 repeat' (first | (with_reducible refine sk ?_; intro K hK) | ((with_reducible first | refine rg (h := ?_) | refine nx ?_); try simp (disch := omega) only [cPump,go_sem, simprocAttr]) | (with_reducible refine bk ?_) | ((with_reducible refine' cE ?hv ?_ ?_); (case hv => first | rfl | (simp only [cPump,go_sem, simprocAttr]; rfl)); all_goals (intro hc; (try simp only [go_sem, simprocAttr] at hc); try (exfalso; omega))) | ((with_reducible refine fe ?_); refine ⟨_, (by simp only [Try.f57, cPump,go_sem, simprocAttr]; rfl), ?_⟩; first | rfl | (try simp only [cPump,go_sem, simprocAttr, seval])) | with_reducible intro (ep : Nat → Nat) | with_reducible apply_assumption -exfalso -symm only [*])
def isPm (ps : List PumpT) (i : Int) : Bool := decide (0 ≤ i ∧ i < ps.length)
def outP (ps : List PumpT) (l : List Int) : List PumpT := l.filterMap fun i => ps[i.toNat]?
theorem outP_snoc {ps : List PumpT} {l : List Int} {k : Nat} {n : Int} {x : PumpT} (hk : l[k]? = some n) (hx : ps[n.toNat]? = some x) : outP ps (l.take (k + 1)) = outP ps (l.take k) ++ [x] := by
 unfold outP; rw [take_snoc' hk, List.filterMap_append]; simp [hx]
theorem isPm_at (ps : List PumpT) (x : Int) : (isPm ps x = false ∧ lastI (fun j => decide ((j : Int) = x)) ps.length = -1) ∨ ∃ (i : Nat) (y : PumpT), ps[i]? = some y ∧ isPm ps x = true ∧ lastI (fun j => decide ((j : Int) = x)) ps.length = i ∧ ps[x.toNat]? = some y := by
 rw [lastI_self]
 by_cases h : 0 ≤ x ∧ x < ps.length
 ·refine .inr ⟨x.toNat, ps[x.toNat]'(by omega), List.getElem?_eq_getElem _, decide_eq_true h, by rw [if_pos h]; omega, List.getElem?_eq_getElem _⟩
 ·exact .inl ⟨decide_eq_false h, by rw [if_neg h]⟩
def listedPT (ps : List PumpT) (l : List Int) : Val := if okL (isPm ps) none l = true then .tup [.lst 3 ((outP ps l).map cPump), .bool true] else .tup [.nils, .bool false]
theorem listedP_ok (ps : List PumpT) (hh : ps.length ≤ 100000) (l : List Int) (hl : l.length ≤ 100000) :
  PureC Try.prog 56 [.lst 3 (ps.map cPump), .lst 1 (ints l), .fn 57 []] (listedPT ps l) := by
 have hnoid : noid (listedPT ps l) = true := by unfold listedPT; split <;> (simp only [noid, noids, noidss, go_sem, simprocAttr, cPump_noid]; rfl)
 refine PureC_of (fn := Try.f56) tabOK (by kernel_rfl) rfl (by kernel_rfl) (by simp [Try.f56]) (by simp [noids, noid, noidss, go_sem, hnoid]) (by first | rfl | simp [noids, noid, noidss, go_sem, hnoid]) ?_
 intro X hX0 hXs
 repeat' (first | (with_reducible refine sk ?_; intro K hK) | ((with_reducible first | refine rg (id := 14) (md := { base := 0, own := [57] }) (h := ?_) | refine rgS (id := 14) [13] (md := { base := 0, own := [57] }) (h := ?_) | refine rg (md := { base := 0, own := [8, 57] }) (h := ?_) | refine rgS [13] (md := { base := 0, own := [8, 57] }) (h := ?_) | refine nx ?_); try simp (disch := omega) only [go_sem, simprocAttr]) | (with_reducible refine bk ?_) | ((with_reducible refine' cE ?hv ?_ ?_); (case hv => first | rfl | (simp only [go_sem, simprocAttr]; rfl)); all_goals (intro hc; (try simp only [go_sem, simprocAttr] at hc); try (exfalso; omega))) | ((with_reducible first | refine grdS_split ?_ ?_ | refine lkG_split ?_ ?_) <;> intro hg <;> (try simp (disch := omega) only [hg, go_sem, simprocAttr]) <;> (try simp only [go_sem, simprocAttr] at hg) <;> (try (exfalso; omega))) | ((with_reducible refine fe ?_); refine ⟨_, (by simp only [Try.f56, go_sem, simprocAttr]; rfl), ?_⟩; first | rfl | (try simp only [go_sem, simprocAttr, seval])) | with_reducible intro (ep : Nat → Nat) | with_reducible apply_assumption -exfalso -symm only [*])
 refine AW_range tabOK l.length (fun k f H => (f 0 = .lst 3 (ps.map cPump) ∧ f 1 = .lst 1 (ints l) ∧ f 2 = .fn 57 [] ∧ f 14 = .lst 1 (ints l)) ∧ (∃ e, f 8 = .gr 8 e (outP ps (l.take k)).length ∧ H 8 = some (e, .arr 3 ((outP ps (l.take k)).map cPump)) ∧ (outP ps (l.take k)).length ≤ k) ∧
   ∃ prev, okL (isPm ps) none l = okL (isPm ps) prev (l.drop k) ∧ (k = 0 ∧ prev = none ∨ ∃ (j : Nat) (y : Int), k = j + 1 ∧ l[j]? = some y ∧ prev = some y)) (by omega) (by rw [hXs]; decide) (by decide) (by (first | rfl | (simp only [go_sem, simprocAttr]; done) | (simp only [go_sem, simprocAttr]; rfl))) (by (first | rfl | (simp only [go_sem, simprocAttr]; done) | (simp only [go_sem, simprocAttr]; rfl)))
  ⟨by (and_intros <;> first | rfl | (simp only [go_sem, simprocAttr]; done) | (simp only [go_sem, simprocAttr]; rfl)), ⟨_, by (first | rfl | (simp only [List.take_zero, outP, List.filterMap_nil, go_sem, simprocAttr]; done) | (simp only [List.take_zero, outP, List.filterMap_nil, go_sem, simprocAttr]; rfl)), by (first | rfl | (simp only [List.take_zero, outP, List.filterMap_nil, go_sem, simprocAttr]; done) | (simp only [List.take_zero, outP, List.filterMap_nil, go_sem, simprocAttr]; rfl)), by simp [outP]⟩, none, by simp, .inl ⟨rfl, rfl⟩⟩ ?_ ?_
 ·rintro k f H hk h16 h15 ⟨⟨h0, h1, h2, h14⟩, ⟨e, h8, hH8, hLk⟩, prev, hr, hp⟩
  obtain ⟨x, hx⟩ : ∃ x, l[k]? = some x := ⟨_, List.getElem?_eq_getElem hk⟩
  rw [drop_cons hx, okL_step] at hr
  refine AW_keep [8] ?_
  repeat' (first | ((fail_if_success (with_reducible refine AW_at (id := 6) ?_)); with_reducible refine sk ?_; intro K hK) | ((with_reducible first | refine rg (id := 14) (md := { base := 0, own := [57] }) (h := ?_) | refine rgS (id := 14) [13] (md := { base := 0, own := [57] }) (h := ?_) | refine rg (md := { base := 0, own := [8, 57] }) (h := ?_) | refine rgS [13] (md := { base := 0, own := [8, 57] }) (h := ?_) | refine nx ?_); try simp (disch := omega) only [h0, h1, h2, h8, h14, h15, h16, hH8, hx,go_sem, simprocAttr]) | (with_reducible refine bk ?_) | ((with_reducible refine' cE ?hv ?_ ?_); (case hv => first | rfl | (simp only [h0, h1, h2, h8, h14, h15, h16, hH8, hx,go_sem, simprocAttr]; rfl)); all_goals (intro hc; (try simp only [go_sem, simprocAttr] at hc); try (exfalso; omega))) | ((with_reducible first | refine grdS_split ?_ ?_ | refine lkG_split ?_ ?_) <;> intro hg <;> (try simp (disch := omega) only [hg, h0, h1, h2, h8, h14, h15, h16, hH8, hx,go_sem, simprocAttr]) <;> (try simp only [go_sem, simprocAttr] at hg) <;> (try (exfalso; omega))) | ((with_reducible refine fe ?_); refine ⟨_, (by simp only [Try.f56, h0, h1, h2, h8, h14, h15, h16, hH8, hx,go_sem, simprocAttr]; rfl), ?_⟩; first | rfl | (try simp only [h0, h1, h2, h8, h14, h15, h16, hH8, hx,go_sem, simprocAttr, seval])) | with_reducible intro (ep : Nat → Nat) | with_reducible apply_assumption -exfalso -symm only [*])
  have hcut : ∀ f H, (f 0 = .lst 3 (ps.map cPump) ∧ f 1 = .lst 1 (ints l) ∧ f 2 = .fn 57 [] ∧ f 14 = .lst 1 (ints l) ∧ f 15 = .int .i64 l.length ∧ f 16 = .int .i64 k ∧ f 8 = .gr 8 e (outP ps (l.take k)).length ∧ f 9 = .int .i64 k ∧ f 10 = .int .i64 x ∧ f 11 = .int .i64 (lastI (fun j => decide ((j : Int) = x)) ps.length)) ∧ H 8 = some (e, .arr 3 ((outP ps (l.take k)).map cPump)) → K f H := by
   clear h0 h1 h2 h8 h14 h15 h16 hH8
   rintro f H ⟨⟨h0, h1, h2, h14, h15, h16, h8, h9, h10, h11⟩, hH8⟩
   refine hK f H ?_
   clear hK
   refine AW_keep [8] ?_
   obtain ⟨L, hLe⟩ : ∃ L, outP ps (l.take k) = L := ⟨_, rfl⟩
   have hsn : ∀ y, ps[x.toNat]? = some y → outP ps (l.take (k + 1)) = L ++ [y] := fun y hy => by rw [← hLe]; exact outP_snoc hx hy
   rw [hLe] at h8 hH8 hLk
   have hL2 : L.length ≤ 1073741823 := by omega
   rcases isPm_at ps x with ⟨a1, a2⟩ | ⟨i, y, a0, a1, a2, a4⟩
   ·rw [a1] at hr
    rw [a2] at h11
    have hres : listedPT ps l = .tup [.nils, .bool false] := by unfold listedPT; rw [hr]; rfl
    rw [hres]
    rcases hp with ⟨rfl, rfl⟩ | ⟨j, z, rfl, hz, rfl⟩
    ·repeat' (first | (with_reducible refine sk ?_; intro K hK) | ((with_reducible first | refine rg (id := 14) (md := { base := 0, own := [57] }) (h := ?_) | refine rgS (id := 14) [13] (md := { base := 0, own := [57] }) (h := ?_) | refine rg (md := { base := 0, own := [8, 57] }) (h := ?_) | refine rgS [13] (md := { base := 0, own := [8, 57] }) (h := ?_) | refine nx ?_); try simp (disch := omega) only [h0, h1, h2, h8, h9, h10, h11, h14, h15, h16, hH8,go_sem, simprocAttr]) | (with_reducible refine bk ?_) | ((with_reducible refine' cE ?hv ?_ ?_); (case hv => first | rfl | (simp only [h0, h1, h2, h8, h9, h10, h11, h14, h15, h16, hH8,go_sem, simprocAttr]; rfl)); all_goals (intro hc; (try simp only [go_sem, simprocAttr] at hc); try (exfalso; omega))) | ((with_reducible first | refine grdS_split ?_ ?_ | refine lkG_split ?_ ?_) <;> intro hg <;> (try simp (disch := omega) only [hg, h0, h1, h2, h8, h9, h10, h11, h14, h15, h16, hH8,go_sem, simprocAttr]) <;> (try simp only [go_sem, simprocAttr] at hg) <;> (try (exfalso; omega))) | ((with_reducible refine fe ?_); refine ⟨_, (by simp only [Try.f56, h0, h1, h2, h8, h9, h10, h11, h14, h15, h16, hH8,go_sem, simprocAttr]; rfl), ?_⟩; first | rfl | (try simp only [h0, h1, h2, h8, h9, h10, h11, h14, h15, h16, hH8,go_sem, simprocAttr, seval])) | with_reducible intro (ep : Nat → Nat) | with_reducible apply_assumption -exfalso -symm only [*])
    ·repeat' (first | (with_reducible refine sk ?_; intro K hK) | ((with_reducible first | refine rg (id := 14) (md := { base := 0, own := [57] }) (h := ?_) | refine rgS (id := 14) [13] (md := { base := 0, own := [57] }) (h := ?_) | refine rg (md := { base := 0, own := [8, 57] }) (h := ?_) | refine rgS [13] (md := { base := 0, own := [8, 57] }) (h := ?_) | refine nx ?_); try simp (disch := omega) only [h0, h1, h2, h8, h9, h10, h11, h14, h15, h16, hH8, hz,go_sem, simprocAttr]) | (with_reducible refine bk ?_) | ((with_reducible refine' cE ?hv ?_ ?_); (case hv => first | rfl | (simp only [h0, h1, h2, h8, h9, h10, h11, h14, h15, h16, hH8, hz,go_sem, simprocAttr]; rfl)); all_goals (intro hc; (try simp only [go_sem, simprocAttr] at hc); try (exfalso; omega))) | ((with_reducible first | refine grdS_split ?_ ?_ | refine lkG_split ?_ ?_) <;> intro hg <;> (try simp (disch := omega) only [hg, h0, h1, h2, h8, h9, h10, h11, h14, h15, h16, hH8, hz,go_sem, simprocAttr]) <;> (try simp only [go_sem, simprocAttr] at hg) <;> (try (exfalso; omega))) | ((with_reducible refine fe ?_); refine ⟨_, (by simp only [Try.f56, h0, h1, h2, h8, h9, h10, h11, h14, h15, h16, hH8, hz,go_sem, simprocAttr]; rfl), ?_⟩; first | rfl | (try simp only [h0, h1, h2, h8, h9, h10, h11, h14, h15, h16, hH8, hz,go_sem, simprocAttr, seval])) | with_reducible intro (ep : Nat → Nat) | with_reducible apply_assumption -exfalso -symm only [*])
   ·rw [a1] at hr
    rw [a2] at h11
    have hi : i < ps.length := (List.getElem?_eq_some_iff.1 a0).1
    have a3 : ¬ (i : Int) < 0 := by omega
    rcases hp with ⟨rfl, rfl⟩ | ⟨j, z, rfl, hz, rfl⟩
    ·replace hsn := hsn y a4
     repeat' (first | (with_reducible refine sk ?_; intro K hK) | ((with_reducible first | refine rg (id := 14) (md := { base := 0, own := [57] }) (h := ?_) | refine rgS (id := 14) [13] (md := { base := 0, own := [57] }) (h := ?_) | refine rg (md := { base := 0, own := [8, 57] }) (h := ?_) | refine rgS [13] (md := { base := 0, own := [8, 57] }) (h := ?_) | refine nx ?_); try simp (disch := omega) only [h0, h1, h2, h8, h9, h10, h11, h14, h15, h16, hH8, a0, a3, hi, hL2, cPump,go_sem, simprocAttr]) | (with_reducible refine bk ?_) | ((with_reducible refine' cE ?hv ?_ ?_); (case hv => first | rfl | (simp only [h0, h1, h2, h8, h9, h10, h11, h14, h15, h16, hH8, a0, a3, hi, hL2, cPump,go_sem, simprocAttr]; rfl)); all_goals (intro hc; (try simp only [go_sem, simprocAttr] at hc); try (exfalso; omega))) | ((with_reducible first | refine grdS_split ?_ ?_ | refine lkG_split ?_ ?_) <;> intro hg <;> (try simp (disch := omega) only [hg, h0, h1, h2, h8, h9, h10, h11, h14, h15, h16, hH8, a0, a3, hi, hL2, cPump,go_sem, simprocAttr]) <;> (try simp only [go_sem, simprocAttr] at hg) <;> (try (exfalso; omega))) | ((with_reducible refine fe ?_); refine ⟨_, (by simp only [Try.f56, h0, h1, h2, h8, h9, h10, h11, h14, h15, h16, hH8, a0, a3, hi, hL2, cPump,go_sem, simprocAttr]; rfl), ?_⟩; first | rfl | (try simp only [h0, h1, h2, h8, h9, h10, h11, h14, h15, h16, hH8, a0, a3, hi, hL2, cPump,go_sem, simprocAttr, seval])) | with_reducible intro (ep : Nat → Nat) | with_reducible apply_assumption -exfalso -symm only [*])
     exact ⟨⟨_, by rw [hsn, List.length_append]; rfl, by rw [hsn, List.map_append]; rfl, by rw [hsn]; simp only [List.length_append, List.length_cons, List.length_nil]; omega⟩, some x, by rw [hr]; simp, .inr ⟨0, x, rfl, hx, rfl⟩⟩
    ·have hj : j < l.length := by omega
     by_cases hle : x ≤ z
     ·have hres : listedPT ps l = .tup [.nils, .bool false] := by
       have : okL (isPm ps) none l = false := by rw [hr]; simp; omega
       unfold listedPT; rw [this]; rfl
      rw [hres]
      repeat' (first | (with_reducible refine sk ?_; intro K hK) | ((with_reducible first | refine rg (id := 14) (md := { base := 0, own := [57] }) (h := ?_) | refine rgS (id := 14) [13] (md := { base := 0, own := [57] }) (h := ?_) | refine rg (md := { base := 0, own := [8, 57] }) (h := ?_) | refine rgS [13] (md := { base := 0, own := [8, 57] }) (h := ?_) | refine nx ?_); try simp (disch := omega) only [h0, h1, h2, h8, h9, h10, h11, h14, h15, h16, hH8, a0, a3, hi, hL2, hz, hj, hle, cPump,go_sem, simprocAttr]) | (with_reducible refine bk ?_) | ((with_reducible refine' cE ?hv ?_ ?_); (case hv => first | rfl | (simp only [h0, h1, h2, h8, h9, h10, h11, h14, h15, h16, hH8, a0, a3, hi, hL2, hz, hj, hle, cPump,go_sem, simprocAttr]; rfl)); all_goals (intro hc; (try simp only [go_sem, simprocAttr] at hc); try (exfalso; omega))) | ((with_reducible first | refine grdS_split ?_ ?_ | refine lkG_split ?_ ?_) <;> intro hg <;> (try simp (disch := omega) only [hg, h0, h1, h2, h8, h9, h10, h11, h14, h15, h16, hH8, a0, a3, hi, hL2, hz, hj, hle, cPump,go_sem, simprocAttr]) <;> (try simp only [go_sem, simprocAttr] at hg) <;> (try (exfalso; omega))) | ((with_reducible refine fe ?_); refine ⟨_, (by simp only [Try.f56, h0, h1, h2, h8, h9, h10, h11, h14, h15, h16, hH8, a0, a3, hi, hL2, hz, hj, hle, cPump,go_sem, simprocAttr]; rfl), ?_⟩; first | rfl | (try simp only [h0, h1, h2, h8, h9, h10, h11, h14, h15, h16, hH8, a0, a3, hi, hL2, hz, hj, hle, cPump,go_sem, simprocAttr, seval])) | with_reducible intro (ep : Nat → Nat) | with_reducible apply_assumption -exfalso -symm only [*])
     ·replace hsn := hsn y a4
      repeat' (first | (with_reducible refine sk ?_; intro K hK) | ((with_reducible first | refine rg (id := 14) (md := { base := 0, own := [57] }) (h := ?_) | refine rgS (id := 14) [13] (md := { base := 0, own := [57] }) (h := ?_) | refine rg (md := { base := 0, own := [8, 57] }) (h := ?_) | refine rgS [13] (md := { base := 0, own := [8, 57] }) (h := ?_) | refine nx ?_); try simp (disch := omega) only [h0, h1, h2, h8, h9, h10, h11, h14, h15, h16, hH8, a0, a3, hi, hL2, hz, hj, hle, cPump,go_sem, simprocAttr]) | (with_reducible refine bk ?_) | ((with_reducible refine' cE ?hv ?_ ?_); (case hv => first | rfl | (simp only [h0, h1, h2, h8, h9, h10, h11, h14, h15, h16, hH8, a0, a3, hi, hL2, hz, hj, hle, cPump,go_sem, simprocAttr]; rfl)); all_goals (intro hc; (try simp only [go_sem, simprocAttr] at hc); try (exfalso; omega))) | ((with_reducible first | refine grdS_split ?_ ?_ | refine lkG_split ?_ ?_) <;> intro hg <;> (try simp (disch := omega) only [hg, h0, h1, h2, h8, h9, h10, h11, h14, h15, h16, hH8, a0, a3, hi, hL2, hz, hj, hle, cPump,go_sem, simprocAttr]) <;> (try simp only [go_sem, simprocAttr] at hg) <;> (try (exfalso; omega))) | ((with_reducible refine fe ?_); refine ⟨_, (by simp only [Try.f56, h0, h1, h2, h8, h9, h10, h11, h14, h15, h16, hH8, a0, a3, hi, hL2, hz, hj, hle, cPump,go_sem, simprocAttr]; rfl), ?_⟩; first | rfl | (try simp only [h0, h1, h2, h8, h9, h10, h11, h14, h15, h16, hH8, a0, a3, hi, hL2, hz, hj, hle, cPump,go_sem, simprocAttr, seval])) | with_reducible intro (ep : Nat → Nat) | with_reducible apply_assumption -exfalso -symm only [*])
      exact ⟨⟨_, by rw [hsn, List.length_append]; rfl, by rw [hsn, List.map_append]; rfl, by rw [hsn]; simp only [List.length_append, List.length_cons, List.length_nil]; omega⟩, some x, by rw [hr]; simp; intro h; omega, .inr ⟨j + 1, x, rfl, hx, rfl⟩⟩
  clear hK
  repeat' (first | (with_reducible refine sk ?_; intro K hK) | ((with_reducible first | refine rg (id := 14) (md := { base := 0, own := [57] }) (h := ?_) | refine rgS (id := 14) [13] (md := { base := 0, own := [57] }) (h := ?_) | refine rg (md := { base := 0, own := [8, 57] }) (h := ?_) | refine rgS [13] (md := { base := 0, own := [8, 57] }) (h := ?_) | refine nx ?_); try simp (disch := omega) only [h0, h1, h2, h8, h14, h15, h16, hH8,go_sem, simprocAttr]) | (with_reducible refine bk ?_) | ((with_reducible refine' cE ?hv ?_ ?_); (case hv => first | rfl | (simp only [h0, h1, h2, h8, h14, h15, h16, hH8,go_sem, simprocAttr]; rfl)); all_goals (intro hc; (try simp only [go_sem, simprocAttr] at hc); try (exfalso; omega))) | ((with_reducible first | refine grdS_split ?_ ?_ | refine lkG_split ?_ ?_) <;> intro hg <;> (try simp (disch := omega) only [hg, h0, h1, h2, h8, h14, h15, h16, hH8,go_sem, simprocAttr]) <;> (try simp only [go_sem, simprocAttr] at hg) <;> (try (exfalso; omega))) | ((with_reducible refine fe ?_); refine ⟨_, (by simp only [Try.f56, h0, h1, h2, h8, h14, h15, h16, hH8,go_sem, simprocAttr]; rfl), ?_⟩; first | rfl | (try simp only [h0, h1, h2, h8, h14, h15, h16, hH8,go_sem, simprocAttr, seval])) | with_reducible intro (ep : Nat → Nat) | with_reducible apply_assumption -exfalso -symm only [*])
  refine AW_range tabOK ps.length (fun i f H => (f 0 = .lst 3 (ps.map cPump) ∧ f 1 = .lst 1 (ints l) ∧ f 2 = .fn 57 [] ∧ f 14 = .lst 1 (ints l) ∧ f 15 = .int .i64 l.length ∧ f 16 = .int .i64 k ∧ f 8 = .gr 8 e (outP ps (l.take k)).length ∧ f 9 = .int .i64 k ∧ f 10 = .int .i64 x ∧ f 21 = .lst 3 (ps.map cPump) ∧ f 11 = .int .i64 (lastI (fun j => decide ((j : Int) = x)) i)) ∧ H 8 = some (e, .arr 3 ((outP ps (l.take k)).map cPump))) (by omega) (by rw [hXs]; decide) (by decide) (by (first | rfl | (simp only [go_sem, simprocAttr]; done) | (simp only [go_sem, simprocAttr]; rfl))) (by (first | rfl | (simp only [go_sem, simprocAttr]; done) | (simp only [go_sem, simprocAttr]; rfl)))
   ⟨by (and_intros <;> first | rfl | (simp only [h0, h1, h2, h8, h14, h15, h16, go_sem, simprocAttr]; done) | (simp only [h0, h1, h2, h8, h14, h15, h16, go_sem, simprocAttr]; rfl)), by (first | rfl | (simp only [hH8, go_sem, simprocAttr]; done) | (simp only [hH8, go_sem, simprocAttr]; rfl))⟩ ?_ ?_
  ·clear h0 h1 h2 h8 h14 h15 h16 hH8 hcut
   rintro i f H hi h23 h22 ⟨⟨h0, h1, h2, h14, h15, h16, h8, h9, h10, h21, h11⟩, hH8⟩
   obtain ⟨y, hy⟩ : ∃ y, ps[i]? = some y := ⟨_, List.getElem?_eq_getElem hi⟩
   have hst : lastI (fun j => decide ((j : Int) = x)) (i + 1) = if (i : Int) = x then (i : Int) else lastI (fun j => decide ((j : Int) = x)) i := by
    simp only [lastI, decide_eq_true_eq]
   have hcl := press1_ok i y
   simp only [cPump] at hcl
   refine AW_keep [8] ?_
   by_cases he : (i : Int) = x
   ·rw [if_pos he] at hst
    rw [hst]
    subst he
    repeat' (first | (with_reducible refine sk ?_; intro K hK) | ((first | (with_reducible first | refine rg (id := 14) (md := { base := 0, own := [57] }) (h := ?_) | refine rgS (id := 14) [13] (md := { base := 0, own := [57] }) (h := ?_) | refine rg (md := { base := 0, own := [8, 57] }) (h := ?_) | refine rgS [13] (md := { base := 0, own := [8, 57] }) (h := ?_) | refine nx ?_) | refine pK (hcl) ?_); try simp (disch := omega) only [h0, h1, h2, h8, h9, h10, h11, h14, h15, h16, h21, h22, h23, hH8, hy, cPump,go_sem, simprocAttr]) | (with_reducible refine bk ?_) | ((with_reducible refine' cE ?hv ?_ ?_); (case hv => first | rfl | (simp only [h0, h1, h2, h8, h9, h10, h11, h14, h15, h16, h21, h22, h23, hH8, hy, cPump,go_sem, simprocAttr]; rfl)); all_goals (intro hc; (try simp only [go_sem, simprocAttr] at hc); try (exfalso; omega))) | ((with_reducible first | refine grdS_split ?_ ?_ | refine lkG_split ?_ ?_) <;> intro hg <;> (try simp (disch := omega) only [hg, h0, h1, h2, h8, h9, h10, h11, h14, h15, h16, h21, h22, h23, hH8, hy, cPump,go_sem, simprocAttr]) <;> (try simp only [go_sem, simprocAttr] at hg) <;> (try (exfalso; omega))) | ((with_reducible refine fe ?_); refine ⟨_, (by simp only [Try.f56, h0, h1, h2, h8, h9, h10, h11, h14, h15, h16, h21, h22, h23, hH8, hy, cPump,go_sem, simprocAttr]; rfl), ?_⟩; first | rfl | (try simp only [h0, h1, h2, h8, h9, h10, h11, h14, h15, h16, h21, h22, h23, hH8, hy, cPump,go_sem, simprocAttr, seval])) | with_reducible intro (ep : Nat → Nat) | with_reducible apply_assumption -exfalso -symm only [*])
   ·rw [if_neg he] at hst
    rw [hst]
    repeat' (first | (with_reducible refine sk ?_; intro K hK) | ((first | (with_reducible first | refine rg (id := 14) (md := { base := 0, own := [57] }) (h := ?_) | refine rgS (id := 14) [13] (md := { base := 0, own := [57] }) (h := ?_) | refine rg (md := { base := 0, own := [8, 57] }) (h := ?_) | refine rgS [13] (md := { base := 0, own := [8, 57] }) (h := ?_) | refine nx ?_) | refine pK (hcl) ?_); try simp (disch := omega) only [h0, h1, h2, h8, h9, h10, h11, h14, h15, h16, h21, h22, h23, hH8, hy, he, cPump,go_sem, simprocAttr]) | (with_reducible refine bk ?_) | ((with_reducible refine' cE ?hv ?_ ?_); (case hv => first | rfl | (simp only [h0, h1, h2, h8, h9, h10, h11, h14, h15, h16, h21, h22, h23, hH8, hy, he, cPump,go_sem, simprocAttr]; rfl)); all_goals (intro hc; (try simp only [go_sem, simprocAttr] at hc); try (exfalso; omega))) | ((with_reducible first | refine grdS_split ?_ ?_ | refine lkG_split ?_ ?_) <;> intro hg <;> (try simp (disch := omega) only [hg, h0, h1, h2, h8, h9, h10, h11, h14, h15, h16, h21, h22, h23, hH8, hy, he, cPump,go_sem, simprocAttr]) <;> (try simp only [go_sem, simprocAttr] at hg) <;> (try (exfalso; omega))) | ((with_reducible refine fe ?_); refine ⟨_, (by simp only [Try.f56, h0, h1, h2, h8, h9, h10, h11, h14, h15, h16, h21, h22, h23, hH8, hy, he, cPump,go_sem, simprocAttr]; rfl), ?_⟩; first | rfl | (try simp only [h0, h1, h2, h8, h9, h10, h11, h14, h15, h16, h21, h22, h23, hH8, hy, he, cPump,go_sem, simprocAttr, seval])) | with_reducible intro (ep : Nat → Nat) | with_reducible apply_assumption -exfalso -symm only [*])
  ·clear h0 h1 h2 h8 h14 h15 h16 hH8
   rintro f H h23 h22 ⟨⟨h0, h1, h2, h14, h15, h16, h8, h9, h10, h21, h11⟩, hH8⟩
   repeat' (first | (with_reducible refine sk ?_; intro K hK) | ((with_reducible first | refine rg (id := 14) (md := { base := 0, own := [57] }) (h := ?_) | refine rgS (id := 14) [13] (md := { base := 0, own := [57] }) (h := ?_) | refine rg (md := { base := 0, own := [8, 57] }) (h := ?_) | refine rgS [13] (md := { base := 0, own := [8, 57] }) (h := ?_) | refine nx ?_); try simp (disch := omega) only [h0, h1, h2, h8, h9, h10, h11, h14, h15, h16, hH8,go_sem, simprocAttr]) | (with_reducible refine bk ?_) | ((with_reducible refine' cE ?hv ?_ ?_); (case hv => first | rfl | (simp only [h0, h1, h2, h8, h9, h10, h11, h14, h15, h16, hH8,go_sem, simprocAttr]; rfl)); all_goals (intro hc; (try simp only [go_sem, simprocAttr] at hc); try (exfalso; omega))) | ((with_reducible first | refine grdS_split ?_ ?_ | refine lkG_split ?_ ?_) <;> intro hg <;> (try simp (disch := omega) only [hg, h0, h1, h2, h8, h9, h10, h11, h14, h15, h16, hH8,go_sem, simprocAttr]) <;> (try simp only [go_sem, simprocAttr] at hg) <;> (try (exfalso; omega))) | ((with_reducible refine fe ?_); refine ⟨_, (by simp only [Try.f56, h0, h1, h2, h8, h9, h10, h11, h14, h15, h16, hH8,go_sem, simprocAttr]; rfl), ?_⟩; first | rfl | (try simp only [h0, h1, h2, h8, h9, h10, h11, h14, h15, h16, hH8,go_sem, simprocAttr, seval])) | with_reducible intro (ep : Nat → Nat) | with_reducible apply_assumption -exfalso -symm only [*])
   exact ⟨by (and_intros <;> first | rfl | (simp only [h0, h1, h2, h8, h9, h10, h11, h14, h15, h16, go_sem, simprocAttr]; done) | (simp only [h0, h1, h2, h8, h9, h10, h11, h14, h15, h16, go_sem, simprocAttr]; rfl)), by (first | rfl | (simp only [hH8, go_sem, simprocAttr]; done) | (simp only [hH8, go_sem, simprocAttr]; rfl))⟩
 ·rintro f H h16 h15 ⟨⟨h0, h1, h2, h14⟩, ⟨e, h8, hH8, hLk⟩, prev, hr, hp⟩
  rw [drop_none (by omega)] at hr
  rw [List.take_of_length_le (Nat.le_refl _)] at h8 hH8
  have hok : okL (isPm ps) none l = true := by rw [hr]; cases prev <;> rfl
  have hres : listedPT ps l = .tup [.lst 3 ((outP ps l).map cPump), .bool true] := by unfold listedPT; rw [if_pos hok]
  repeat' (first | (with_reducible refine sk ?_; intro K hK) | ((with_reducible first | refine rg (id := 14) (md := { base := 0, own := [57] }) (h := ?_) | refine rgS (id := 14) [13] (md := { base := 0, own := [57] }) (h := ?_) | refine rg (md := { base := 0, own := [8, 57] }) (h := ?_) | refine rgS [13] (md := { base := 0, own := [8, 57] }) (h := ?_) | refine nx ?_); try simp (disch := omega) only [h0, h8, hH8,go_sem, simprocAttr]) | (with_reducible refine bk ?_) | ((with_reducible refine' cE ?hv ?_ ?_); (case hv => first | rfl | (simp only [h0, h8, hH8,go_sem, simprocAttr]; rfl)); all_goals (intro hc; (try simp only [go_sem, simprocAttr] at hc); try (exfalso; omega))) | ((with_reducible first | refine grdS_split ?_ ?_ | refine lkG_split ?_ ?_) <;> intro hg <;> (try simp (disch := omega) only [hg, h0, h8, hH8,go_sem, simprocAttr]) <;> (try simp only [go_sem, simprocAttr] at hg) <;> (try (exfalso; omega))) | with_reducible intro (ep : Nat → Nat) | with_reducible apply_assumption -exfalso -symm only [*])
  refine FnP_frz 8 (Or.inl rfl) hH8 ⟨_, (by simp only [Try.f56, go_sem, simprocAttr]; rfl), ?_⟩
  rw [hres]; simp only [go_sem, simprocAttr]
end Cp
namespace Cp
open Go Go.Proofs
set_option maxRecDepth 10000
set_option maxHeartbeats 1000000
def spanS (n : NetT) (hs : List HeadT) (out : List Int) (h : HeadT) : Span := ⟨pressS n hs out false h, pressS n hs out true h⟩
def AllS (k a e : Nat) (l : List Span) (H : Hp) : Prop := (l = [] ∧ H k = some (e, .arr 1 [[.nils]])) ∨ l ≠ [] ∧ ∃ ea, H k = some (e, .arr 1 [[.gr a ea l.length]]) ∧ H a = some (ea, .arr 2 (l.map cSpan))
theorem AllS.same {k a e : Nat} {l : List Span} {H H' : Hp} (h : AllS k a e l H) (h1 : H' k = H k) (h2 : H' a = H a) : AllS k a e l H' := by
 unfold AllS; rw [h1, h2]; exact h
theorem map_snoc {α β : Type} {g : α → β} {l : List α} {k : Nat} {x : α} (h : l[k]? = some x) : (l.take (k + 1)).map g = (l.take k).map g ++ [g x] := by rw [take_snoc' h, List.map_append]; rfl
theorem press2_ok (n : NetT) (hF : NetF n) (hs : List HeadT) (h5 : heads500 hs) (hsl : hs.length ≤ 12) (hnd : ∀ h ∈ hs, 1 ≤ h.node ∧ h.node ≤ n.pipes.length) (out : List Int) (ho : outOK n out = true) (e8 e12 e36 e33 e34 ver : Nat) (H0 : Hp)
  (g8 : H0 8 = some (e8, .arr 1 [[.ptr 436 e36 10 0 0]])) (g12 : H0 12 = some (e12, .arr 1 [[.nils]])) (g36 : H0 436 = some (e36, .arr 10 [cPlant n hs e33 e34 (n.pipes.length + 1)]))
  (g33 : H0 433 = some (e33, .arr 1 (ints (flowL n.pipes (n.pipes.length + 1) hs)))) (g34 : H0 434 = some (e34, .map ver (imap .i64 (offM out)))) :
  ACall Try.prog 59 [.ptr 8 e8 1 0 0, .ptr 12 e12 1 0 0] H0 fun v H' => v = .tup [] ∧ H' 436 = H0 436 ∧ (∃ ver2, H' 434 = some (e34, .map ver2 (imap .i64 (offM out)))) ∧ AllS 12 1528 e12 (hs.map (spanS n hs out)) H' := by
 refine ACall_of (fn := Try.f59) tabOK (by kernel_rfl) rfl (by kernel_rfl) (by simp [Try.f59]) ?_
 intro X hX0 hXs
 refine AW_keep [8, 12, 436, 433, 434] ?_
 repeat' (first | (with_reducible refine sk ?_; intro K hK) | ((first | (with_reducible first | refine rgL [] [20, 25] (md := { base := 1500, own := [2, 4, 28] }) (h := ?_) | refine rgL [2, 4] [20, 25] (md := { base := 1500, own := [2, 4, 28] }) (h := ?_) | refine nx ?_) | refine pK (ends_ok) ?_ | refine lK (ends_ok) ?_); try simp (disch := omega) only [g8, g36, cPlant,go_sem, simprocAttr]) | (with_reducible refine bk ?_) | ((with_reducible refine' cE ?hv ?_ ?_); (case hv => first | rfl | (simp only [g8, g36, cPlant,go_sem, simprocAttr]; rfl)); all_goals (intro hc; (try simp only [go_sem, simprocAttr] at hc); try (exfalso; omega))) | with_reducible intro (ep : Nat → Nat) | with_reducible apply_assumption -exfalso -symm only [*])
 refine AW_range tabOK hs.length (fun k f H => (f 0 = .ptr 8 e8 1 0 0 ∧ f 1 = .ptr 12 e12 1 0 0 ∧ f 9 = .lst 8 (hs.map cHead)) ∧
   (H 8 = some (e8, .arr 1 [[.ptr 436 e36 10 0 0]]) ∧ H 436 = some (e36, .arr 10 [cPlant n hs e33 e34 (n.pipes.length + 1)]) ∧ H 433 = some (e33, .arr 1 (ints (flowL n.pipes (n.pipes.length + 1) hs))) ∧ H 434 = some (e34, .map ver (imap .i64 (offM out)))) ∧
   (∃ e2, f 2 = .ptr 1502 e2 4 0 0 ∧ H 1502 = some (e2, .arr 4 [[.fn (sgF false) [], .fn (sgF true) [], .fn (sgF true) [], .fn (sgF false) []]])) ∧ AllS 12 1528 e12 ((hs.take k).map (spanS n hs out)) H) (by omega) (by rw [hXs]; decide) (by decide) (by (first | rfl | (simp only [go_sem, simprocAttr]; done) | (simp only [go_sem, simprocAttr]; rfl))) (by (first | rfl | (simp only [go_sem, simprocAttr]; done) | (simp only [go_sem, simprocAttr]; rfl)))
  ⟨by (and_intros <;> first | rfl | (simp only [go_sem, simprocAttr]; done) | (simp only [go_sem, simprocAttr]; rfl)), by (and_intros <;> first | rfl | (simp only [g8, g36, g33, g34, cPlant, go_sem, simprocAttr]; done) | (simp only [g8, g36, g33, g34, cPlant, go_sem, simprocAttr]; rfl)), ⟨_, by (first | rfl | (simp only [go_sem, simprocAttr]; done) | (simp only [go_sem, simprocAttr]; rfl)), by (first | rfl | (simp only [go_sem, simprocAttr]; done) | (simp only [go_sem, simprocAttr]; rfl))⟩, .inl ⟨rfl, by (first | rfl | (simp only [g12, go_sem, simprocAttr]; done) | (simp only [g12, go_sem, simprocAttr]; rfl))⟩⟩ ?_ ?_
 ·clear g8 g12 g33 g34
  rintro k f H hk h11 h10 ⟨⟨h0, h1, h9⟩, ⟨g8, g36', g33, g34⟩, ⟨e2, h2, g2⟩, hA⟩
  obtain ⟨x, hx⟩ : ∃ x, hs[k]? = some x := ⟨_, List.getElem?_eq_getElem hk⟩
  rw [map_snoc hx]
  have hLk : ((hs.take k).map (spanS n hs out)).length = k := by simp; omega
  obtain ⟨L, hL⟩ : ∃ L, (hs.take k).map (spanS n hs out) = L := ⟨_, rfl⟩
  rw [hL] at hA hLk ⊢
  have hkb : k + 1 ≤ 1073741824 := by omega
  refine AW_keep [8, 12, 436, 433, 434, 1502, 1528] ?_
  have hA' : AllS 12 1528 e12 L (keep H [8, 12, 436, 433, 434, 1502, 1528]) := hA
  have k8 : keep H [8, 12, 436, 433, 434, 1502, 1528] 8 = some (e8, .arr 1 [[.ptr 436 e36 10 0 0]]) := g8
  have k36 : keep H [8, 12, 436, 433, 434, 1502, 1528] 436 = some (e36, .arr 10 [cPlant n hs e33 e34 (n.pipes.length + 1)]) := g36'
  have k33 : keep H [8, 12, 436, 433, 434, 1502, 1528] 433 = some (e33, .arr 1 (ints (flowL n.pipes (n.pipes.length + 1) hs))) := g33
  have k34 : keep H [8, 12, 436, 433, 434, 1502, 1528] 434 = some (e34, .map ver (imap .i64 (offM out))) := g34
  have k2 : keep H [8, 12, 436, 433, 434, 1502, 1528] 1502 = some (e2, .arr 4 [[.fn (sgF false) [], .fn (sgF true) [], .fn (sgF true) [], .fn (sgF false) []]]) := g2
  have k4 : keep H [8, 12, 436, 433, 434, 1502, 1528] 1504 = none := rfl
  have k08 : keep H [8, 12, 436, 433, 434, 1502, 1528] 1208 = none := rfl
  clear hA g8 g36' g33 g34 g2
  obtain ⟨H2, hH2⟩ : ∃ H2, keep H [8, 12, 436, 433, 434, 1502, 1528] = H2 := ⟨_, rfl⟩
  rw [hH2] at hA' k8 k36 k33 k34 k2 k4 k08 ⊢
  clear hH2
  refine sk ?_
  intro K hK
  have hcut : ∀ f H, ((f 0 = .ptr 8 e8 1 0 0 ∧ f 1 = .ptr 12 e12 1 0 0 ∧ f 9 = .lst 8 (hs.map cHead) ∧ f 2 = .ptr 1502 e2 4 0 0 ∧ f 11 = .int .i64 k ∧ f 10 = .int .i64 hs.length) ∧ (H 8 = some (e8, .arr 1 [[.ptr 436 e36 10 0 0]]) ∧ H 436 = some (e36, .arr 10 [cPlant n hs e33 e34 (n.pipes.length + 1)]) ∧ H 433 = some (e33, .arr 1 (ints (flowL n.pipes (n.pipes.length + 1) hs))) ∧ H 434 = some (e34, .map ver (imap .i64 (offM out))) ∧ H 1502 = some (e2, .arr 4 [[.fn (sgF false) [], .fn (sgF true) [], .fn (sgF true) [], .fn (sgF false) []]]) ∧ H 1208 = none) ∧ AllS 12 1528 e12 L H ∧ ∃ e4, f 4 = .ptr 1504 e4 8 0 0 ∧ H 1504 = some (e4, .arr 8 [cHead x])) → K f H := by
   clear h0 h1 h2 h9 h10 h11 k8 k36 k33 k34 k2 k4 k08 hA'
   rintro f H ⟨⟨h0, h1, h9, h2, h11, h10⟩, ⟨k8, k36, k33, k34, k2, k08⟩, hA, e4, h4, k4⟩
   refine hK f H ?_
   clear hK
   have hP : PlH n hs out e36 e33 e34 H := ⟨by rw [k36]; rfl, by rw [k33]; rfl, ver, by rw [k34]; rfl⟩
   have hxm := List.mem_of_getElem? hx
   have hp0 := pressure_look n hF hs h5 (by omega) out ho false x (hnd x hxm) e36 e33 e34 H hP k08
   have hp1 := pressure_look n hF hs h5 (by omega) out ho true x (hnd x hxm) e36 e33 e34 H hP k08
   simp only [encHead, cHead, endV, Bool.not_false, Bool.not_true] at hp0 hp1
   have hsp : cSpan (spanS n hs out x) = [.int .i64 (pressS n hs out false x), .int .i64 (pressS n hs out true x)] := rfl
   rcases hA with ⟨hLn, hA⟩ | ⟨hLn, ea, hA1, hA2⟩
   ·subst hLn
    simp only [List.length_nil] at hLk
    repeat' (first | (with_reducible refine sk ?_; intro K hK) | ((first | (with_reducible first | refine rgL [] [20, 25] (md := { base := 1500, own := [2, 4, 28] }) (h := ?_) | refine rgL [2, 4] [20, 25] (md := { base := 1500, own := [2, 4, 28] }) (h := ?_) | refine nx ?_) | refine pK (hp0) ?_ | refine pK (hp1) ?_ | refine lK (hp0) ?_ | refine lK (hp1) ?_); try simp (disch := omega) only [h0, h1, h2, h4, h9, h10, h11, k8, k2, k4, hA, cHead,go_sem, simprocAttr]) | (with_reducible refine bk ?_) | ((with_reducible refine' cE ?hv ?_ ?_); (case hv => first | rfl | (simp only [h0, h1, h2, h4, h9, h10, h11, k8, k2, k4, hA, cHead,go_sem, simprocAttr]; rfl)); all_goals (intro hc; (try simp only [go_sem, simprocAttr] at hc); try (exfalso; omega))) | with_reducible intro (ep : Nat → Nat) | with_reducible apply_assumption -exfalso -symm only [*])
    exact ⟨⟨k36, k33, k34⟩, ⟨_, rfl, rfl⟩, .inr ⟨by simp, _, by simp only [go_sem, simprocAttr]; rfl, by simp only [go_sem, simprocAttr]; rfl⟩⟩
   ·have hlb : L.length ≤ 1073741823 := by omega
    repeat' (first | (with_reducible refine sk ?_; intro K hK) | ((first | (with_reducible first | refine rgL [] [20, 25] (md := { base := 1500, own := [2, 4, 28] }) (h := ?_) | refine rgL [2, 4] [20, 25] (md := { base := 1500, own := [2, 4, 28] }) (h := ?_) | refine nx ?_) | refine pK (hp0) ?_ | refine pK (hp1) ?_ | refine lK (hp0) ?_ | refine lK (hp1) ?_); try simp (disch := omega) only [h0, h1, h2, h4, h9, h10, h11, k8, k2, k4, hA1, hA2, hlb, cHead,go_sem, simprocAttr]) | (with_reducible refine bk ?_) | ((with_reducible refine' cE ?hv ?_ ?_); (case hv => first | rfl | (simp only [h0, h1, h2, h4, h9, h10, h11, k8, k2, k4, hA1, hA2, hlb, cHead,go_sem, simprocAttr]; rfl)); all_goals (intro hc; (try simp only [go_sem, simprocAttr] at hc); try (exfalso; omega))) | with_reducible intro (ep : Nat → Nat) | with_reducible apply_assumption -exfalso -symm only [*])
    exact ⟨⟨k36, k33, k34⟩, ⟨_, rfl, rfl⟩, .inr ⟨by simp, _, by simp only [go_sem, simprocAttr, List.length_append]; rfl, by simp only [go_sem, simprocAttr, List.map_append]; rfl⟩⟩
  clear hK
  repeat' (first | (with_reducible refine sk ?_; intro K hK) | ((with_reducible first | refine rgL [] [20, 25] (md := { base := 1500, own := [2, 4, 28] }) (h := ?_) | refine rgL [2, 4] [20, 25] (md := { base := 1500, own := [2, 4, 28] }) (h := ?_) | refine nx ?_); try simp (disch := omega) only [h0, h1, h2, h9, h10, h11, hx, k4, cHead,go_sem, simprocAttr]) | (with_reducible refine bk ?_) | ((with_reducible refine' cE ?hv ?_ ?_); (case hv => first | rfl | (simp only [h0, h1, h2, h9, h10, h11, hx, k4, cHead,go_sem, simprocAttr]; rfl)); all_goals (intro hc; (try simp only [go_sem, simprocAttr] at hc); try (exfalso; omega))) | with_reducible intro (ep : Nat → Nat) | with_reducible apply_assumption -exfalso -symm only [*])
  exact ⟨by (and_intros <;> first | rfl | (simp only [h0, h1, h2, h9, h10, h11, go_sem, simprocAttr]; done) | (simp only [h0, h1, h2, h9, h10, h11, go_sem, simprocAttr]; rfl)), by (and_intros <;> first | rfl | (simp only [k8, k36, k33, k34, k2, k08, go_sem, simprocAttr]; done) | (simp only [k8, k36, k33, k34, k2, k08, go_sem, simprocAttr]; rfl)), hA'.same (by simp only [go_sem, simprocAttr]) (by simp only [go_sem, simprocAttr]), _, by (first | rfl | (simp only [go_sem, simprocAttr]; done) | (simp only [go_sem, simprocAttr]; rfl)), by (first | rfl | (simp only [cHead, go_sem, simprocAttr]; done) | (simp only [cHead, go_sem, simprocAttr]; rfl))⟩
 ·clear g8 g12 g33 g34
  rintro f H h11 h10 ⟨⟨h0, h1, h9⟩, ⟨g8, g36', g33, g34⟩, ⟨e2, h2, g2⟩, hA⟩
  rw [List.take_of_length_le (Nat.le_refl _)] at hA
  refine FnQ_end (Or.inr rfl) (.refl _) (by simp only [Try.f59, go_sem, simprocAttr]; rfl) ?_
  exact ⟨by simp only [go_sem, simprocAttr], by rw [g36', g36], ⟨ver, g34⟩, hA⟩
end Cp
namespace Cp
open Go
theorem PureC.weak {P : Program} {fid : FuncId} {args : List Val} {v v' : Val} (h : PureC P fid args v) (hn : noid v' = true) (hw : ∀ G w x, VR G w v x → VR G w v' x) : PureC P fid args v' :=
 ⟨h.1, h.2.1, hn, fun G w xs hR hv => Calls.mono (h.2.2.2 G w xs hR hv) (by rintro e w' ⟨x, I', h1, h2, h3, h4⟩; exact ⟨x, I', h1, h2, h3, hw _ _ _ h4⟩)⟩
theorem VR.tup_nils {G : Gh} {w : World} {n : Nat} {cs : List Val} {x : Value} (h : VR G w (.tup (.nils :: cs)) x) : VR G w (.tup (.lst n [] :: cs)) x := by
 cases h with
 | tup _ xs hs hv =>
  refine .tup _ xs (by simpa using hs) (fun i v hi => ?_)
  cases i with
  | zero => cases hi; exact (hv 0 .nils rfl).nils_lst _
  | succ i => exact hv (i + 1) v hi
end Cp
