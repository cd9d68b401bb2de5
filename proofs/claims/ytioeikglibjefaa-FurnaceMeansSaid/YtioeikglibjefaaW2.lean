/- Rows for maps. Conditions: none. -/
import Derived.Test.YtioeikglibjefaaW1
import Derived.Test.YtioeikglibjefaaFwF
set_option linter.unusedVariables false
set_option linter.unusedSimpArgs false
/-! Rows for maps. -/
namespace Cp
open Go

section
variable {P : Program} {T : Tab} {md : Me} {os : List Oper} {K : Fr → Hp → Prop} {f : Fr} {H : Hp} {d : Option Tmp} {ty : TypeId} {pos : String} {af : Array Edge} {g : Option (Nat × Bool)} {ss lk : List Nat}
  {t u s b : Nat} {z : Val} {p : Bool}

@[go_sem] theorem xgo_makeMap {t : TypeId} {r : Option Operand} : xgo P T md { dst := d, op := .makeMap t r, type := ty, pos := pos, after := af, guard := g } K f H =
    ∀ ep : Nat → Nat, two K d f H (freeK H (k1 md d) (xmakeMap T (k1 md d) (ep (k1 md d)) t (r.map (ev f)))) := by
  simp only [xgo, xop]; rfl
def mmT (k e : Nat) : Option TI → Option (Val × Up)
  | some { kind := .map _ _, .. } => some (.map k e, some (k, some (e, .map e [])))
  | _ => none
@[go_sem] theorem mmT_map {k e kt vt : Nat} : mmT k e (some { kind := .map kt vt, sz := s, bytes := b, zero := z, plain := p }) = some (.map k e, some (k, some (e, .map e []))) := rfl
@[go_sem] theorem xmakeMap_none {k e : Nat} {t : TypeId} : xmakeMap T k e t none = mmT k e (T t) := by
  unfold xmakeMap mmT
  cases T t with
  | none => rfl
  | some ti => obtain ⟨kind, _, _, _, _⟩ := ti; cases kind <;> rfl
@[go_sem] theorem xmakeMap_int {k e : Nat} {t : TypeId} {ik : IntKind} {n : Int} : xmakeMap T k e t (some (.int ik n)) = mmT k e (T t) := by
  unfold xmakeMap mmT
  cases T t with
  | none => rfl
  | some ti => obtain ⟨kind, _, _, _, _⟩ := ti; cases kind <;> rfl

@[go_sem] theorem xgo_mapUpdate {t : TypeId} {m key x : Operand} : xgo P T md { dst := d, op := .mapUpdate t m key x, type := ty, pos := pos, after := af, guard := g } K f H =
    ∀ ep : Nat → Nat, two K d f H ((xmapUpdate T H ep t (ev f m) (ev f key) (ev f x)).map (.any, ·)) := by
  simp only [xgo, xop]
  refine forall_congr fun ep => ?_
  cases xmapUpdate T H ep t (ev f m) (ev f key) (ev f x) <;> rfl
@[go_sem] theorem xgo_insert {t : TypeId} {m key x : Operand} : xgo P T md { dst := d, op := .insert t m key x, type := ty, pos := pos, after := af, guard := g } K f H =
    ∀ ep : Nat → Nat, two K d f H ((xmapUpdate T H ep t (ev f m) (ev f key) (ev f x)).map (.any, ·)) := by
  simp only [xgo, xop]
  refine forall_congr fun ep => ?_
  cases xmapUpdate T H ep t (ev f m) (ev f key) (ev f x) <;> rfl
def muF (ep : Nat → Nat) (k em : Nat) (key v : Val) (es : List (Val × Val)) : Option (Option (Nat × Val)) → Option Up
  | none => none
  | some none => some (some (k, some (em, .map (ep k) (es ++ [(key, v)]))))
  | some (some (i, _)) => some (some (k, some (em, .map (ep k) (es.set i (key, v)))))
@[go_sem] theorem muF_new {ep : Nat → Nat} {k em : Nat} {key v : Val} {es : List (Val × Val)} : muF ep k em key v es (some none) = some (some (k, some (em, .map (ep k) (es ++ [(key, v)])))) := rfl
@[go_sem] theorem muF_old {ep : Nat → Nat} {k em i : Nat} {key v x : Val} {es : List (Val × Val)} : muF ep k em key v es (some (some (i, x))) = some (some (k, some (em, .map (ep k) (es.set i (key, v))))) := rfl
def muH (T : Tab) (ep : Nat → Nat) (k em kt : Nat) (key v : Val) (ki : TI) : Option (Nat × AObj) → Option Up
  | some (em', .map _ es) => if em = em' ∧ xck T 8 ki key = true then muF ep k em key v es (xfind T kt key es 0) else none
  | _ => none
@[go_sem] theorem muH_map {ep : Nat → Nat} {k em em' kt ver : Nat} {key v : Val} {ki : TI} {es : List (Val × Val)} : muH T ep k em kt key v ki (some (em', .map ver es)) = if em = em' ∧ xck T 8 ki key = true then muF ep k em key v es (xfind T kt key es 0) else none := rfl
def muK (T : Tab) (H : Hp) (ep : Nat → Nat) (k em kt : Nat) (key v : Val) : Option TI → Option Up
  | some ki => muH T ep k em kt key v ki (H k)
  | none => none
@[go_sem] theorem muK_some {ep : Nat → Nat} {k em kt : Nat} {key v : Val} {ki : TI} : muK T H ep k em kt key v (some ki) = muH T ep k em kt key v ki (H k) := rfl
def muT (T : Tab) (H : Hp) (ep : Nat → Nat) (k em : Nat) (key v : Val) : Option TI → Option Up
  | some { kind := .map kt _, .. } => muK T H ep k em kt key v (T kt)
  | _ => none
@[go_sem] theorem muT_map {ep : Nat → Nat} {k em kt vt : Nat} {key v : Val} : muT T H ep k em key v (some { kind := .map kt vt, sz := s, bytes := b, zero := z, plain := p }) = muK T H ep k em kt key v (T kt) := rfl
@[go_sem] theorem xmapUpdate_eq {ep : Nat → Nat} {t : TypeId} {k em : Nat} {key v : Val} : xmapUpdate T H ep t (.map k em) key v = muT T H ep k em key v (T t) := by
  unfold xmapUpdate muT
  cases T t with
  | none => rfl
  | some ti =>
    obtain ⟨kind, _, _, _, _⟩ := ti
    cases kind <;> try rfl
    rename_i kt vt
    simp only [muK]
    cases T kt with
    | none => rfl
    | some ki =>
      simp only
      cases H k with
      | none => rfl
      | some p =>
        obtain ⟨e, o⟩ := p
        cases o <;> try rfl
@[go_sem] theorem xck_int {n : Nat} {k : IntKind} {v : Val} : xck T (n + 1) { kind := .int k, sz := s, bytes := b, zero := z, plain := p } v = true := rfl
@[go_sem] theorem xck_str {n : Nat} {v : Val} : xck T (n + 1) { kind := .str, sz := s, bytes := b, zero := z, plain := p } v = true := rfl
@[go_sem] theorem xck_bool {n : Nat} {v : Val} : xck T (n + 1) { kind := .bool, sz := s, bytes := b, zero := z, plain := p } v = true := rfl

@[go_sem] theorem xgo_delete {m key : Operand} {t u : TypeId} : xgo P T md { dst := d, op := .call { callee := .builtin .delete, args := #[m, key], argTypes := #[t, u] }, type := ty, pos := pos, after := af, guard := g } K f H =
    ∀ ep : Nat → Nat, two K d f H ((xdelete T H ep t (ev f m) (ev f key)).map (.tup [], ·)) := by
  simp only [xgo, xop, xblt, List.map_cons, List.map_nil]
  refine forall_congr fun ep => ?_
  cases xdelete T H ep t (ev f m) (ev f key) <;> rfl
@[go_sem] theorem map_up0 {u : Up} : (some u).map (fun u => ((.tup [], u) : Val × Up)) = some (.tup [], u) := rfl
def dlF (ep : Nat → Nat) (k em : Nat) (es : List (Val × Val)) : Option (Option (Nat × Val)) → Option Up
  | none => none
  | some none => some (some (k, some (em, .map (ep k) es)))
  | some (some (i, _)) => some (some (k, some (em, .map (ep k) (es.eraseIdx i))))
@[go_sem] theorem dlF_no {ep : Nat → Nat} {k em : Nat} {es : List (Val × Val)} : dlF ep k em es (some none) = some (some (k, some (em, .map (ep k) es))) := rfl
@[go_sem] theorem dlF_yes {ep : Nat → Nat} {k em i : Nat} {x : Val} {es : List (Val × Val)} : dlF ep k em es (some (some (i, x))) = some (some (k, some (em, .map (ep k) (es.eraseIdx i)))) := rfl
def dlH (T : Tab) (ep : Nat → Nat) (k em kt : Nat) (key : Val) (ki : TI) : Option (Nat × AObj) → Option Up
  | some (em', .map _ es) => if em = em' ∧ xck T 8 ki key = true then dlF ep k em es (xfind T kt key es 0) else none
  | _ => none
@[go_sem] theorem dlH_map {ep : Nat → Nat} {k em em' kt ver : Nat} {key : Val} {ki : TI} {es : List (Val × Val)} : dlH T ep k em kt key ki (some (em', .map ver es)) = if em = em' ∧ xck T 8 ki key = true then dlF ep k em es (xfind T kt key es 0) else none := rfl
def dlK (T : Tab) (H : Hp) (ep : Nat → Nat) (k em kt : Nat) (key : Val) : Option TI → Option Up
  | some ki => dlH T ep k em kt key ki (H k)
  | none => none
@[go_sem] theorem dlK_some {ep : Nat → Nat} {k em kt : Nat} {key : Val} {ki : TI} : dlK T H ep k em kt key (some ki) = dlH T ep k em kt key ki (H k) := rfl
def dlT (T : Tab) (H : Hp) (ep : Nat → Nat) (k em : Nat) (key : Val) : Option TI → Option Up
  | some { kind := .map kt _, .. } => dlK T H ep k em kt key (T kt)
  | _ => none
@[go_sem] theorem dlT_map {ep : Nat → Nat} {k em kt vt : Nat} {key : Val} : dlT T H ep k em key (some { kind := .map kt vt, sz := s, bytes := b, zero := z, plain := p }) = dlK T H ep k em kt key (T kt) := rfl
@[go_sem] theorem xdelete_eq {ep : Nat → Nat} {t : TypeId} {k em : Nat} {key : Val} : xdelete T H ep t (.map k em) key = dlT T H ep k em key (T t) := by
  unfold xdelete dlT
  cases T t with
  | none => rfl
  | some ti =>
    obtain ⟨kind, _, _, _, _⟩ := ti
    cases kind <;> try rfl
    rename_i kt vt
    simp only [dlK]
    cases T kt with
    | none => rfl
    | some ki =>
      simp only
      cases H k with
      | none => rfl
      | some p =>
        obtain ⟨e, o⟩ := p
        cases o <;> try rfl

@[go_sem] theorem side_range {t : TypeId} {m : Operand} : sideO ss md { dst := d, op := .range t m, type := ty, pos := pos, after := af, guard := g } f = True := rfl
@[go_sem] theorem side_mapUpdate {t : TypeId} {m k x : Operand} : sideO ss md { dst := d, op := .mapUpdate t m k x, type := ty, pos := pos, after := af, guard := g } f = True := rfl
@[go_sem] theorem side_insert {t : TypeId} {m k x : Operand} : sideO ss md { dst := d, op := .insert t m k x, type := ty, pos := pos, after := af, guard := g } f = True := rfl
-- lengths
def lnM (e : Nat) : Option (Nat × AObj) → Option Val
  | some (e', .map _ es) => if e = e' then some (.int .i64 es.length) else none
  | some (e', .frm _ es) => if e = e' then some (.int .i64 es.length) else none
  | _ => none
@[go_sem] theorem lnM_map {e e' ver : Nat} {es : List (Val × Val)} : lnM e (some (e', .map ver es)) = if e = e' then some (.int .i64 es.length) else none := rfl
@[go_sem] theorem lnM_frm {e e' ver : Nat} {es : List (Val × Val)} : lnM e (some (e', .frm ver es)) = if e = e' then some (.int .i64 es.length) else none := rfl
@[go_sem] theorem lnT_map {k e kt vt : Nat} : lnT H (.map k e) (some { kind := .map kt vt, sz := s, bytes := b, zero := z, plain := p }) = lnM e (H k) := by
  simp only [lnT, lnM]
  cases H k with
  | none => rfl
  | some q => obtain ⟨e', o⟩ := q; cases o <;> rfl
@[go_sem] theorem lnT_nilm {kt vt : Nat} : lnT H .nilm (some { kind := .map kt vt, sz := s, bytes := b, zero := z, plain := p }) = some (.int .i64 0) := rfl

-- walks
@[go_sem] theorem xgo_range {t : TypeId} {m : Operand} : xgo P T md { dst := d, op := .range t m, type := ty, pos := pos, after := af, guard := g } K f H =
    ∀ ep : Nat → Nat, two K d f H (freeK H (k1 md d) (xrange T H (k1 md d) (ep (k1 md d)) t (ev f m))) := by
  simp only [xgo, xop]; rfl
def rgH (k e km em : Nat) : Option (Nat × AObj) → Option (Val × Up)
  | some (em', .map ver es) => if em = em' ∧ km ≠ k then some (.itr k e, some (k, some (e, .itr km em ver (List.range es.length) none))) else none
  | _ => none
@[go_sem] theorem rgH_map {k e km em em' ver : Nat} {es : List (Val × Val)} : rgH k e km em (some (em', .map ver es)) = if em = em' ∧ km ≠ k then some (.itr k e, some (k, some (e, .itr km em ver (List.range es.length) none))) else none := rfl
def rgT (H : Hp) (k e km em : Nat) : Option TI → Option (Val × Up)
  | some { kind := .map _ _, .. } => rgH k e km em (H km)
  | _ => none
@[go_sem] theorem rgT_map {k e km em kt vt : Nat} : rgT H k e km em (some { kind := .map kt vt, sz := s, bytes := b, zero := z, plain := p }) = rgH k e km em (H km) := rfl
@[go_sem] theorem xrange_eq {k e km em : Nat} {t : TypeId} : xrange T H k e t (.map km em) = rgT H k e km em (T t) := by
  unfold xrange rgT
  cases T t with
  | none => rfl
  | some ti =>
    obtain ⟨kind, _, _, _, _⟩ := ti
    cases kind <;> try rfl
def rgN (k e : Nat) : Option TI → Option (Val × Up)
  | some { kind := .map _ _, .. } => some (.itr k e, some (k, some (e, .nit)))
  | _ => none
@[go_sem] theorem rgN_map {k e kt vt : Nat} : rgN k e (some { kind := .map kt vt, sz := s, bytes := b, zero := z, plain := p }) = some (.itr k e, some (k, some (e, .nit))) := rfl
@[go_sem] theorem xrange_nil {k e : Nat} {t : TypeId} : xrange T H k e t .nilm = rgN k e (T t) := by
  unfold xrange rgN
  cases T t with
  | none => rfl
  | some ti => obtain ⟨kind, _, _, _, _⟩ := ti; cases kind <;> rfl

@[go_sem] theorem stpN_next {x : Operand} : stpN P T md os ss lk { dst := d, op := .next x false, type := ty, pos := pos, after := af, guard := none } K f H = nextV K d f H (ev f x) := rfl
@[go_sem] theorem stpN_entry {x : Operand} : stpN P T md os ss lk { dst := d, op := .entry x, type := ty, pos := pos, after := af, guard := none } K f H = entryV K d f H (ev f x) := rfl
@[go_sem] theorem stpN_extract {x : Operand} {n : Nat} : stpN P T md os ss lk { dst := d, op := .extract x n, type := ty, pos := pos, after := af, guard := g } K f H = stpL P T md os ss lk { dst := d, op := .extract x n, type := ty, pos := pos, after := af, guard := g } K f H := by
  cases g <;> rfl
@[go_sem] theorem stpN_assign {x : Operand} : stpN P T md os ss lk { dst := d, op := .assign x, type := ty, pos := pos, after := af, guard := g } K f H = stpL P T md os ss lk { dst := d, op := .assign x, type := ty, pos := pos, after := af, guard := g } K f H := by
  cases g <;> rfl
@[go_sem] theorem stpN_move {x : Operand} : stpN P T md os ss lk { dst := d, op := .move x, type := ty, pos := pos, after := af, guard := g } K f H = stpL P T md os ss lk { dst := d, op := .move x, type := ty, pos := pos, after := af, guard := g } K f H := by
  cases g <;> rfl
@[go_sem] theorem stpN_alloc {t : TypeId} : stpN P T md os ss lk { dst := d, op := .alloc t, type := ty, pos := pos, after := af, guard := g } K f H = stpL P T md os ss lk { dst := d, op := .alloc t, type := ty, pos := pos, after := af, guard := g } K f H := by
  cases g <;> rfl
@[go_sem] theorem stpN_store {t : TypeId} {x y : Operand} : stpN P T md os ss lk { dst := d, op := .store t x y, type := ty, pos := pos, after := af, guard := g } K f H = stpL P T md os ss lk { dst := d, op := .store t x y, type := ty, pos := pos, after := af, guard := g } K f H := by
  cases g <;> rfl
@[go_sem] theorem nextV_itr {k e : Nat} : nextV K d f H (.itr k e) = nextK K d f H k e (H k) := rfl
@[go_sem] theorem nextK_nit {k e e' : Nat} : nextK K d f H k e (some (e', .nit)) = (e = e' ∧ K (put f d (.tup [.bool false])) H) := rfl
@[go_sem] theorem nextK_itr {k e e' km em ver : Nat} {left : List Nat} {cur : Option Nat} : nextK K d f H k e (some (e', .itr km em ver left cur)) = nextM K d f H k e e' km em ver left (H km) := rfl
@[go_sem] theorem nextM_map {k e e' km em em' ver ver' : Nat} {left : List Nat} {es : List (Val × Val)} : nextM K d f H k e e' km em ver left (some (em', .map ver' es)) = ((e = e' ∧ em = em' ∧ ver = ver') ∧ (left = [] → K (put f d (.tup [.bool false])) H) ∧
      ∀ i ∈ left, ∀ a v, es[i]? = some (a, v) → K (put f d (.tup [.bool true, a, v])) (upd H k (some (e, .itr km em ver (left.erase i) (some i))))) := rfl
@[go_sem] theorem entryV_itr {k e : Nat} : entryV K d f H (.itr k e) = entryK K d f H e (H k) := rfl
@[go_sem] theorem entryK_itr {e e' km em ver i : Nat} {left : List Nat} : entryK K d f H e (some (e', .itr km em ver left (some i))) = entryM K d f H e e' em ver i (H km) := rfl
@[go_sem] theorem entryM_map {e e' em em' ver ver' i : Nat} {es : List (Val × Val)} : entryM K d f H e e' em ver i (some (em', .map ver' es)) = ((e = e' ∧ em = em' ∧ ver = ver') ∧ ∃ a v, es[i]? = some (a, v) ∧ K (put f d (.tup [a, v])) H) := rfl
end

/-- Entries whose keys are numbers. -/
def imap (k : IntKind) (l : List (Int × Val)) : List (Val × Val) := l.map fun p => (.int k p.1, p.2)
def findI (n : Int) : List (Int × Val) → Nat → Option (Nat × Val)
  | [], _ => none
  | (a, v) :: l, i => if n = a then some (i, v) else findI n l (i + 1)
@[go_sem] theorem imap_len {k : IntKind} {l : List (Int × Val)} : (imap k l).length = l.length := by simp [imap]
@[go_sem] theorem imap_get {k : IntKind} {l : List (Int × Val)} {i : Nat} : (imap k l)[i]? = (l[i]?).map fun p => (.int k p.1, p.2) := by simp [imap]
theorem imap_snoc {k : IntKind} {l : List (Int × Val)} {n : Int} {v : Val} : imap k l ++ [(.int k n, v)] = imap k (l ++ [(n, v)]) := by simp [imap]
theorem imap_erase {k : IntKind} : ∀ {l : List (Int × Val)} {i : Nat}, (imap k l).eraseIdx i = imap k (l.eraseIdx i)
  | [], i => by cases i <;> rfl
  | p :: l, 0 => rfl
  | p :: l, i + 1 => by
    have ih := @imap_erase k l i
    unfold imap at ih ⊢
    simp only [List.map_cons, List.eraseIdx_cons_succ, ih]
theorem xfind_imap {T : Tab} {kt : TypeId} {k : IntKind} {s b : Nat} {z : Val} {p : Bool} (h : T kt = some { kind := .int k, sz := s, bytes := b, zero := z, plain := p }) {n : Int} : ∀ (l : List (Int × Val)) (i : Nat), xfind T kt (.int k n) (imap k l) i = some (findI n l i)
  | [], i => rfl
  | (a, v) :: l, i => by
    have ih := xfind_imap h (n := n) l (i + 1)
    have e : xeq T kt (.int k n) (.int k a) = some (decide (n = a)) := by
      unfold xeq; rw [h]; simp [xeqK, xeqS]
    show xfind T kt (.int k n) ((.int k a, v) :: imap k l) i = _
    simp only [xfind, e, findI]
    by_cases hn : n = a
    · subst hn
      simp [keq]
    · simp only [decide_eq_false hn, if_neg hn]
      exact ih
theorem findI_none {n : Int} : ∀ {l : List (Int × Val)} {i : Nat}, (∀ p ∈ l, p.1 ≠ n) → findI n l i = none
  | [], i, h => rfl
  | (a, v) :: l, i, h => by
    simp only [findI]
    rw [if_neg (fun e => h (a, v) (by simp) e.symm)]
    exact findI_none fun p hp => h p (by simp [hp])
end Cp
namespace Cp
open Go
section
variable {P : Program} {T : Tab} {H : Hp} {X : Cx} {ro : Option Nat} {Q : Exit → Fr → Hp → Prop} {f : Fr}
/-- One thing that is owned, let go of. -/
theorem AW_lose {c : Code} (k : Nat) (h : ∀ H' : Hp, H' k = none → (∀ j, ¬ j = k → H' j = H j) → AW P ro X c Q f H') : AW P ro X c Q f H :=
  AW_drop (fun j => if j = k then none else H j) (fun j => by
    by_cases hj : j = k
    · exact .inl (by simp [hj])
    · exact .inr (by simp [hj])) (h _ (by simp) fun j hj => by simp [hj])
@[go_sem] theorem fzd_map {n k e : Nat} : fzd H n (.map k e) = .map k e := by cases n <;> rfl
end
theorem findI_mid {n : Int} {v : Val} : ∀ {A B : List (Int × Val)} {s : Nat}, (∀ p ∈ A, p.1 ≠ n) → findI n (A ++ (n, v) :: B) s = some (s + A.length, v)
  | [], B, s, h => by simp [findI]
  | (a, w) :: A, B, s, h => by
    simp only [List.cons_append, findI]
    rw [if_neg (fun e => h (a, w) (by simp) e.symm), findI_mid fun p hp => h p (by simp [hp])]
    simp only [List.length_cons]
    congr 2; omega
theorem erase_mid {α : Type} : ∀ {A B : List α} {x : α}, (A ++ x :: B).eraseIdx A.length = A ++ B
  | [], B, x => rfl
  | a :: A, B, x => by simp only [List.cons_append, List.length_cons, List.eraseIdx_cons_succ, erase_mid]
end Cp
